/-
 PROVED: Apply and Back,the package's and the document's,what is lent (contracts over heaps). Condition: each contract's own.
-/
import Derived.Test.YtppjfhdhgofeiaaPf
set_option linter.unusedSectionVars false
set_option linter.unusedVariables false
set_option linter.unusedSimpArgs false
set_option maxRecDepth 100000
open List renaming mem_cons_of_mem -> zA0, mem_cons_self -> zB0, length_append -> zC0, mem_of_getElem? -> zD0, getElem?_eq_getElem -> zE0, mem_append_left -> zH0, mem_append_right -> zI0, length_map -> zJ0, length_cons -> zK0, mem_cons -> zL0, not_mem_nil -> zM0, pairwise_append -> zQ0, pairwise_cons -> zR0, append_nil -> zS0, flatMap_append -> zT0, flatMap_cons -> zU0, getElem?_map -> zV0, map_append -> zW0, append_assoc -> zX0, length_take -> zY0, getElem?_append_right -> zD1
open Nat renaming lt_of_lt_of_le -> zF0, ble_eq_true_of_le -> zG0, le_refl -> zN0, lt_succ_self -> zO0, le_trans -> zP0, zero_le -> zA1, mul_one -> zC1
noncomputable section
namespace DfN
open Go Go.X Go.X.Df Go.Proofs
theorem qA4 {P:Program} {h0 h:Q0} {i n e:Nat} {k:Ky} {A:Prop} (hi:h0.next<=i) (lt:i<h.next) (hg:h.get i=some (.cells [] 1 false false)) (hn:n=k.length) (hb:∀x,x∈k->x<256) (hr:jy P e k.length=true) (hh:h0.next<=h.next)
  (ha:Q5 Qa h (Qx h ⟨false,i,0,0,0,false⟩ 1 n (ofBytes k))->Cln h0 (Qx h ⟨false,i,0,0,0,false⟩ 1 n (ofBytes k)) (SL.app ⟨false,i,0,0,0,false⟩ h.next n) k->(SL.app ⟨false,i,0,0,0,false⟩ h.next n).nil=false ->
   ((SL.app ⟨false,i,0,0,0,false⟩ h.next n).i=i∨h.next<=(SL.app ⟨false,i,0,0,0,false⟩ h.next n).i)->A) :
  jz P h ⟨false,i,0,0,0,false⟩ e 1 n (ofBytes k) A:=by
 subst hn;refine⟨⟨λ_=>zN0 _,λ_ e=>(by cases e),λh1 _ h2=>?_,λ_ _=>?_,λ_ _ _ h=>(by cases h),λ_ _ _ _=>⟨[],qEg hg,by simp⟩⟩,qPc k,?_⟩
 .exact absurd h2 (by show ¬ 0+k.length<=0;omega)
 .show jy P e (0+k.length)=true;rw[Nat.zero_add];exact hr
 cases k with
 | nil=>exact ha (Q5.refl _ _) ⟨⟨Seg.own (cs:=[]) (more:=[]) (e:=1) (g:=false) (m:=false) (by rfl) lt hg,hb⟩,λ_=>⟨hi,rfl,rfl,hg⟩,λe=>(by cases e)⟩ rfl (.inl rfl)
 | cons x k =>
  have e1:Qx h ⟨false,i,0,0,0,false⟩ 1 (x::k).length (ofBytes (x::k))=h.newO (.cells (ofBytes (x::k)) 1 true false):=by unfold Qx;rw[show Nat.beq (x::k).length 0=false from rfl];simp only;rw[show Nat.ble (0+(x::k).length) 0=false by rw[Nat.zero_add];rfl,hg];rfl
  have e2:SL.app ⟨false,i,0,0,0,false⟩ h.next (x::k).length=⟨false,h.next,0,(x::k).length,(x::k).length,true⟩:=by unfold SL.app;rw[show Nat.beq (x::k).length 0=false from rfl];simp only;rw[show Nat.ble (0+(x::k).length) 0=false by rw[Nat.zero_add];rfl,Nat.zero_add]
  rw[e1,e2] at ha;exact ha (Q5.newO _ _ _) ⟨⟨Seg.own (cs:=ofBytes (x::k)) (more:=[]) (e:=1) (g:=true) (m:=false) (by rw[Qt,zC1]) (zO0 _) (by rw[zS0];exact Ql _ _),hb⟩,λ_=>⟨hh,rfl,rfl,Ql _ _⟩,λe=>(by cases e)⟩ rfl (.inr (zN0 _))
theorem _root_.Go.X.Cln.fr {h0 h h':Q0} {s:SL} {k:List Nat} {S:Nat->Prop} (x:Cln h0 h s k) (f:Q5 S h h') (hs:s.nil=false->¬S s.i):Cln h0 h' s k :=
 ⟨x.byts.fr f hs,λe=>by
  obtain⟨h1,h2,h3,h4⟩:=x.own e;exact⟨h1,h2,h3,(f.same _ (x.byts.seg.lt e) (hs e)).trans h4⟩,x.nils⟩
theorem _root_.Go.X.Cln.of {h0 h1 h:Q0} {s:SL} {k:List Nat} (x:Cln h1 h s k) (hn:h0.next<=h1.next):Cln h0 h s k :=
 ⟨x.byts,λe=>by
  obtain⟨h1,h2,h3,h4⟩:=x.own e;exact⟨zP0 hn h1,h2,h3,h4⟩,x.nils⟩
theorem ofn {n m:Nat} (h:n=m):(Int.ofNat n:Int)=(m:Int):=by rw[h];rfl
end DfN
namespace DfN
open Go Go.X Go.X.Df Go.Proofs
def Pos (l:List (Ky × Ky)) (k:Ky) (i:Nat):Prop:=i<=l.length/\(∀j e,j<i->l[j]?=some e->Qm e.1 k=true)/\∀j e,i<=j->l[j]?=some e->Qm e.1 k=false
theorem Pos.parts {l:List (Ky × Ky)} {k:Ky} {i:Nat} (p:Pos l k i) (up:Up l):(∀e,e∈l.take i->Qm e.1 k=true) /\
  (∀e r,l.drop i=e::r->(e.1=k∨Qm k e.1=true)/\∀x,x∈r->Qm e.1 x.1=true):=by
 refine⟨λe he=>?_,λe r hr=>?_⟩
 .obtain⟨j,hj⟩:=List.mem_iff_getElem?.1 he
  have:=(List.getElem?_eq_some_iff.1 hj).1
  rw[zY0] at this;rw[List.getElem?_take,if_pos (by omega)] at hj;exact p.2.1 j e (by omega) hj
 .have h1:l[i]?=some e:=by
   have:(l.drop i)[0]?=some e:=by rw[hr];rfl
   rwa [List.getElem?_drop,Nat.add_zero] at this
  have h2:=p.2.2 i e (zN0 _) h1;refine⟨?_,λx hx=>?_⟩
  .rcases lt_tri e.1 k with h | h | h
   .rw[h2] at h;cases h
   .exact .inl h
   .exact .inr h
  .have:Up (l.drop i):=List.Pairwise.sublist (List.drop_sublist i l) up
   rw[hr] at this;exact (List.pairwise_cons.1 this).1 x hx
theorem Pos.lk {l:List (Ky × Ky)} {k:Ky} {i:Nat} (p:Pos l k i) (up:Up l):(∀e,l[i]?=some e->e.1=k->look l k=some e.2)/\((∀e,l[i]?=some e->e.1≠k)->look l k=none):=by
 obtain⟨h1,h2⟩:=p.parts up;have key:look l k=Df.look (l.drop i) k:=by
  have:=qC2 (r:=l.drop i) h1
  rwa [List.take_append_drop] at this
 have hd:l[i]?=(l.drop i)[0]?:=by rw[List.getElem?_drop,Nat.add_zero]
 refine⟨λe he hk=>?_,λhn=>?_⟩
 .rw[key];cases hr:l.drop i with
  | nil=>rw[hd,hr] at he;cases he
  | cons x r =>rw[hd,hr] at he;cases he;show (if e.1=k then some e.2 else _)=_;rw[if_pos hk]
 .rw[key];cases hr:l.drop i with
  | nil=>rfl
  | cons x r =>
   obtain⟨q1,q2⟩:=h2 x r hr
   have:=hn x (by rw[hd,hr];rfl)
   refine qBs λe he=>?_;rcases List.mem_cons.1 he with rfl | he
   .exact q1.resolve_left this
   .exact lt_trans (q1.resolve_left this) (q2 e he)
theorem Pos.pt {l:List (Ky × Ky)} {k v:Ky} {i:Nat} (p:Pos l k i) (up:Up l):(∀e,l[i]?=some e->e.1=k->Df.put l k v=l.take i++(k,v)::l.drop (i+1))/\((∀e,l[i]?=some e->e.1≠k)->Df.put l k v=l.take i++(k,v)::l.drop i):=by
 obtain⟨h1,h2⟩:=p.parts up;have key:Df.put l k v=l.take i++Df.put (l.drop i) k v:=by
  have:=put_mid (r:=l.drop i) (v:=v) h1
  rwa [List.take_append_drop] at this
 have hd:l[i]?=(l.drop i)[0]?:=by rw[List.getElem?_drop,Nat.add_zero]
 have hd1:l.drop (i+1)=(l.drop i).drop 1:=by rw[List.drop_drop]
 refine⟨λe he hk=>?_,λhn=>?_⟩
 .rw[key,hd1];cases hr:l.drop i with
  | nil=>rw[hd,hr] at he;cases he
  | cons x r =>rw[hd,hr] at he;cases he;show _++(if e.1=k then (k,v)::r else _)=_;rw[if_pos hk];rfl
 .rw[key];cases hr:l.drop i with
  | nil=>rfl
  | cons x r =>
   obtain⟨q1,q2⟩:=h2 x r hr
   have:=hn x (by rw[hd,hr];rfl)
   rw[put_above λe he=>?_];rcases List.mem_cons.1 he with rfl | he
   .exact q1.resolve_left this
   .exact lt_trans (q1.resolve_left this) (q2 e he)
theorem Pos.dl {l:List (Ky × Ky)} {k:Ky} {i:Nat} (p:Pos l k i) (up:Up l) {e:Ky × Ky} (he:l[i]?=some e) (hk:e.1=k):Df.del l k=l.take i++l.drop (i+1):=by
 obtain⟨h1,h2⟩:=p.parts up;have key:Df.del l k=l.take i++Df.del (l.drop i) k:=by
  have:=del_mid (r:=l.drop i) h1
  rwa [List.take_append_drop] at this
 rw[key,show l.drop (i+1)=(l.drop i).drop 1 by rw[List.drop_drop]];rw[show l[i]?=(l.drop i)[0]? by rw[List.getElem?_drop,Nat.add_zero]] at he;cases hr:l.drop i with
 | nil=>rw[hr] at he;cases he
 | cons x r =>rw[hr] at he;cases he;show _++(if e.1=k then r else _)=_;rw[if_pos hk];rfl
def Lst (g0 h:Q0) (s:SL) (R:List ER):Prop:=Grown g0 h s 2 R.length (R.flatMap ER.row)∨(R=[]/\∃i,s=⟨false,i,0,0,0,false⟩/\g0.next<=i/\i<h.next/\h.get i=some (.cells [] 2 false false))
theorem Lst.lt {g0 h:Q0} {s:SL} {R:List ER} (l:Lst g0 h s R) (e:s.nil=false):g0.next<=s.i/\s.i<h.next:=by
 rcases l with g | ⟨_,i,rfl,h1,h2,_⟩
 .rcases g.2 with ⟨_,rfl⟩ | ⟨_,_,_,_,_,h6,h7,_⟩
  .cases e
  .exact⟨h6,h7⟩
 .exact⟨h1,h2⟩
theorem Lst.seg {g0 h:Q0} {s:SL} {R:List ER} (l:Lst g0 h s R):Seg h s 2 (R.flatMap ER.row):=by
 rcases l with g | ⟨rfl,i,rfl,h1,h2,h3⟩
 .exact g.seg
 .exact Seg.own (cs:=[]) (more:=[]) rfl h2 h3
theorem Lst.fr {g0 h h':Q0} {s:SL} {R:List ER} {T:Nat->Prop} (l:Lst g0 h s R) (f:Q5 T h h') (hs:s.nil=false->¬T s.i):Lst g0 h' s R:=by
 rcases l with g | ⟨rfl,i,rfl,h1,h2,h3⟩
 .exact .inl (g.fr f hs)
 .exact .inr ⟨rfl,i,rfl,h1,zF0 h2 f.next,(f.same _ h2 (hs rfl)).trans h3⟩
def ER.Aw (x:ER) (i:Nat):Prop:=(x.ks.nil=false->x.ks.i≠i)/\(x.vs.nil=false->x.vs.i≠i)
theorem ER.Ok.frA {h h':Q0} {x:ER} {i:Nat} {T:Nat->Prop} (a:x.Ok h) (w:x.Aw i) (f:Q5 T h h') (hT:∀j,T j->j=i):x.Ok h':=⟨a.1.fr f λe t=>w.1 e (hT _ t),a.2.fr f λe t=>w.2 e (hT _ t)⟩
theorem ER.Ok.aw {h:Q0} {x:ER} (a:x.Ok h) {i:Nat} (hi:h.next<=i):x.Aw i:=⟨λe=>Nat.ne_of_lt (zF0 (a.1.seg.lt e) hi),λe=>Nat.ne_of_lt (zF0 (a.2.seg.lt e) hi)⟩
structure Mp (g0 h:Q0) (M:Nat) (s:SL) (R:List ER):Prop where
 var:Var h M [s.av]
 low:g0.next<=M
 lst:Lst g0 h s R
 ne:s.nil=false->s.i≠M
 ok:∀r,r∈R->r.Ok h/\r.Aw M/\(s.nil=false->r.Aw s.i)
theorem Mp.ents {g0 h:Q0} {M:Nat} {s:SL} {R:List ER} (m:Mp g0 h M s R):j1 h s R:=⟨m.lst.seg,λ_ _=>rfl,λx hx=>(m.ok x hx).1⟩
theorem Mp.fr0 {g0 h h':Q0} {M:Nat} {s:SL} {R:List ER} (m:Mp g0 h M s R) (f:Q5 Qa h h'):Mp g0 h' M s R:=⟨m.var.fr f id,m.low,m.lst.fr f λ_=>id,m.ne,λr hr=>⟨(m.ok r hr).1.fr f,(m.ok r hr).2⟩⟩
section
variable {S:QW} [GoodS S] {lf n:Nat} {h g0:Q0} {K:ZK} {X R:List ER}
theorem up_at {R:List ER} (up:Up (ents R)) {i j:Nat} {x y:ER} (hx:R[i]?=some x) (hy:R[j]?=some y) (hij:i<j):Qm x.e.1 y.e.1=true:=by
 have hx':(ents R)[i]?=some x.e:=by unfold ents;rw[zV0,hx];rfl
 have hy':(ents R)[j]?=some y.e:=by unfold ents;rw[zV0,hy];rfl
 obtain⟨h1,e1⟩:=List.getElem?_eq_some_iff.1 hx';obtain⟨h2,e2⟩:=List.getElem?_eq_some_iff.1 hy'
 have:=List.pairwise_iff_getElem.1 up i j h1 h2 hij
 rwa [e1,e2] at this
theorem qAl {l:List ER} {j:Nat} {x:ER} (h:l[j]?=some x):(ents l)[j]?=some x.e:=by unfold ents;rw[zV0,h];rfl
theorem qC3 {l:List ER} {j:Nat} {e:Ky × Ky} (h:(ents l)[j]?=some e):∃x,l[j]?=some x/\x.e=e:=by unfold ents at h;rw[zV0] at h;obtain⟨x,h1,h2⟩:=Option.map_eq_some_iff.1 h;exact⟨x,h1,h2⟩
theorem J6 (l:List ER):(ents l).length=l.length:=by unfold ents;simp
theorem qBe {M:Nat} {s ks:SL} {k:Ky} (m:Mp g0 h M s R) (up:Up (ents R)) (hb:qz h ks k) (lR:R.length<4294967296) (hlf:R.length<lf) (hk:∀i:Nat,Pos (ents R) k i->K (.int .i64 (i:Int)) h) :
  Qq Try.prog S lf (n+1) 47 [.pv false M 0,.sl ks] K h:=by
 refine QJ (hSD (by decide) (by decide)) (by kernel_rfl) ?_;rw[mplace_nf];have E:=m.ents;have ln:=E.len (by decide);refine⟨rfl,rfl,rfl,m.var.ldL s rfl ?_⟩;rw[ofn ln]
 refine Qy.inv (λq z h'=>∃lo hi:Nat,ZAt 36 [(0,.pv false M 0),(1,.sl ks),(5,.int .i64 (lo:Int)),(6,.int .i64 (hi:Int))] z/\h'=h/\hi=lo+q/\hi<=R.length/\(∀j e,j<lo->(ents R)[j]?=some e->Qm e.1 k=true)/\(∀j e,hi<=j->(ents R)[j]?=some e->Qm e.1 k=false)) (n:=R.length) hlf
  ⟨0,R.length,⟨rfl,rfl,rfl,rfl,rfl,trivial⟩,rfl,by omega,zN0 _,λj e hj=>absurd hj (Nat.not_lt_zero _),λj e hj he=>by
   have:=(List.getElem?_eq_some_iff.1 he).1
   rw[J6] at this;omega⟩ ?_
 rintro q z h' kk hq ⟨lo,hi,hz,rfl,hhi,hiR,a1,a2⟩ ih;refine Qr _ hz λd=>(qBn _ _ _ _ _ _ _ _ _ _ _ _).mpr ?_;rw[q9];refine⟨λe=>?_,λe=>?_⟩
 .refine qAy.2 ?_;rw[QD (by omega) (by omega)];have em:Int.tdiv ((lo:Int)+(hi:Int)) 2=(((lo+hi) / 2:Nat):Int):=by
   rw[show (lo:Int)+(hi:Int)=((lo+hi:Nat):Int) by omega];rfl
  refine⟨by decide,qAy.2 ?_⟩;rw[em,QD (by omega) (by omega)];generalize hc:(lo+hi) / 2=c;have c1:lo<=c/\c<hi:=by omega
  obtain⟨x,hx⟩:∃x,R[c]?=some x:=⟨_,zE0 (by omega)⟩;have ns:=E.nil_of (by decide) (j:=c) (by omega);have sl:=E.len' (by decide) ns;refine⟨rfl,rfl,rfl,m.var.ldL s rfl ⟨ns,qAe.2 ⟨by omega,rfl,rfl,Qh (E.at' ns hx (q:=0) (by decide) rfl) ((m.ok x (zD0 hx)).1.1.zbytes (hb.zbytes ?_))⟩⟩⟩;have upl:∀j e,j<c->(ents R)[j]?=some e->Qm e.1 x.e.1=true:=λj e hj he=>by obtain⟨y,hy,rfl⟩:=qC3 he;exact up_at up hy hx hj
  have upr:∀j e,c<j->(ents R)[j]?=some e->Qm x.e.1 e.1=true:=λj e hj he=>by obtain⟨y,hy,rfl⟩:=qC3 he;exact up_at up hx hy hj
  cases hlt:Qm x.e.1 k with
  | true =>
   rw[qBi];refine qAy.2 ?_;rw[QD (e:=(c:Int)+1) (by omega) (by omega)];refine ih (hi-(c+1)) _ _ (by omega) ⟨c+1,hi,⟨rfl,rfl,rfl,rfl,rfl,trivial⟩,rfl,by omega,hiR,λj e hj he=>?_,a2⟩;by_cases ej:j=c
   .subst ej;rw[qAl hx] at he;cases he;exact hlt
   .exact lt_trans (upl j e (by omega) he) hlt
  | false =>
   rw[qAz];refine ih (c-lo) _ _ (by omega) ⟨lo,c,⟨rfl,rfl,rfl,rfl,rfl,trivial⟩,rfl,by omega,by omega,a1,λj e hj he=>?_⟩;by_cases ej:j=c
   .subst ej;rw[qAl hx] at he;cases he;exact hlt
   .have q1:=upr j e (by omega) he;cases hq:Qm e.1 k with
    | false=>rfl
    | true=>rw[lt_trans q1 hq] at hlt;cases hlt
 .have:hi=lo:=by omega
  subst this;refine Qr (n:=36) [(5,.int .i64 (hi:Int))] ⟨rfl,rfl,trivial⟩ λd'=>(qCe _ _ _ _ _ _).mpr (hk hi ⟨by rw[J6];exact hiR,a1,a2⟩)
theorem mget_ok {M:Nat} {s ks:SL} {k:Ky} (m:Mp g0 h M s R) (up:Up (ents R)) (hb:qz h ks k) (lR:R.length<4294967296) (hlf:R.length<lf)
  (no:look (ents R) k=none->K (.tup [.sl QE,.bool false]) h) (yes:∀v w,look (ents R) k=some v->qz h w v->K (.tup [.sl w,.bool true]) h) :
  Qq Try.prog S lf (n+2) 39 [.pv false M 0,.sl ks] K h:=by
 refine QJ (hSD (by decide) (by decide)) (by kernel_rfl) ?_;rw[mget_nf];have E:=m.ents;have ln:=E.len (by decide);refine qBe m up hb lR hlf λi p=>?_;rw[qA0];obtain⟨p1,p2⟩:=p.lk up;have il:=p.1;rw[J6] at il;refine qFa.2 ⟨rfl,rfl,rfl,m.var.ldL s rfl ?_⟩;rw[ofn ln,q9];refine⟨λe=>?_,λe=>no (p2 λe' he=>?_)⟩
 .obtain⟨x,hx⟩:∃x,R[i]?=some x:=⟨_,zE0 (by omega)⟩;have ns:=E.nil_of (by decide) (j:=i) (by omega);have sl:=E.len' (by decide) ns;have xo:=(m.ok x (zD0 hx)).1;refine⟨rfl,rfl,rfl,m.var.ldL s rfl ⟨ns,qAe.2 ⟨by omega,rfl,rfl,Qh (E.at' ns hx (q:=0) (by decide) rfl) (xo.1.zbytes (hb.zbytes ?_))⟩⟩⟩;by_cases ek:x.e.1=k
  .rw[decide_eq_true ek,qBf,qBi];exact⟨rfl,rfl,rfl,m.var.ldL s rfl ⟨ns,qAe.2 ⟨by omega,rfl,rfl,Qh (E.at' ns hx (q:=1) (by decide) rfl) (yes _ _ (p1 _ (qAl hx) ek) xo.2)⟩⟩⟩
  .rw[decide_eq_false ek,qBf,qAz];refine no (p2 λe' he=>?_);rw[qAl hx] at he;cases he;exact ek
 .have:=(List.getElem?_eq_some_iff.1 he).1
  rw[J6] at this;omega
end
end DfN
namespace DfN
open Go Go.X Go.X.Df Go.Proofs
theorem Lst.append1 {g0 h:Q0} {s:SL} {R:List ER} {x:ER} {A:Prop} (l:Lst g0 h s R) (hn:g0.next<=h.next) (hr:R.length<4294967296)
  (ha:Grown g0 (Qx h s 2 1 x.row) (s.app h.next 1) 2 (R.length+1) ((R++[x]).flatMap ER.row)->Q5 (λi=>s.nil=false/\i=s.i) h (Qx h s 2 1 x.row)->h.next<=(s.app h.next 1).i->A):jz Try.prog h s 51 2 1 x.row A:=by
 have ef:(R++[x]).flatMap ER.row=R.flatMap ER.row++x.row:=by rw[zT0];simp
 rcases l with g | ⟨rfl,i,rfl,h1,h2,h3⟩
 .refine g.append1 hn (by decide) rfl x.plain (qAr (by omega)) λg2 f2 hi=>ha ?_ f2 hi;rw[ef];exact g2
 .have e1:Qx h ⟨false,i,0,0,0,false⟩ 2 1 x.row=h.newO (.cells x.row 2 true false):=by
   unfold Qx;rw[show Nat.beq 1 0=false from rfl];simp only;rw[h3];rfl
  have e2:SL.app ⟨false,i,0,0,0,false⟩ h.next 1=⟨false,h.next,0,1,1,true⟩:=rfl
  rw[e1,e2] at ha;refine⟨⟨λ_=>zN0 _,λ_ e=>(by cases e),λ_ _ e=>absurd e (by show ¬(0+1<=0);omega),λ_ _=>qAr (by show 0+1<=_;omega),λ_ _ _ e=>(by cases e),λ_ _ _ _=>⟨[],qEg h3,by show 0*2<=_;omega⟩⟩,x.plain,ha ⟨by rw[ef];rfl,.inr ⟨rfl,rfl,rfl,rfl,rfl,hn,zO0 _,?_⟩⟩ ((Q5.newO Qa h _).mono λ_ _ e=>e.elim) (zN0 _)⟩;rw[ef];exact Ql _ _
theorem seg_row {h:Q0} {s:SL} {R:List ER} (sg:Seg h s 2 (R.flatMap ER.row)) (e:s.nil=false) {j:Nat} {x:ER} (hx:R[j]?=some x):j<s.len/\cellAt h s.i (s.o+j*2)=some x.ks.av/\cellAt h s.i (s.o+j*2+1)=some x.vs.av:=by
 have r:Rws 2 ER.row (λ_ _=>True) h s R:=⟨sg,λ_ _=>rfl,λ_ _=>trivial⟩
 have:=r.len' (by decide) e
 have hj:=(List.getElem?_eq_some_iff.1 hx).1;exact⟨by omega,r.at' e hx (q:=0) (by decide) rfl,r.at' e hx (q:=1) (by decide) rfl⟩
theorem rowput {g0 h:Q0} {s:SL} {A B:List ER} {b x:ER} {n:Nat} (g:Grown g0 h s 2 n ((A++b::B).flatMap ER.row)):s.nil=false/\A.length<s.len/\qVm h s.i (s.o+A.length*2+2) /\
  Grown g0 (hput h s.i (s.o+A.length*2) [x.ks.av,x.vs.av]) s 2 n ((A++x::B).flatMap ER.row)/\Q5 (λi=>i=s.i) h (hput h s.i (s.o+A.length*2) [x.ks.av,x.vs.av]):=by
 have hl:=g.1;have fl:(A.flatMap ER.row).length=A.length*2:=qEr λ_ _=>rfl;have fe:∀y:ER,(A++y::B).flatMap ER.row=A.flatMap ER.row++([y.ks.av,y.vs.av]++B.flatMap ER.row):=λy=>by rw[zT0,zU0];rfl
 rcases g.2 with ⟨q,_⟩ | ⟨a1,a2,a3,a4,a5,a6,a7,a8⟩
 .rw[q,fe,zC0] at hl;simp at hl
 have f:=Q5.hput (S:=λi=>i=s.i) h (s.o+A.length*2) [x.ks.av,x.vs.av] (i:=s.i) λ_=>rfl;have eo:s.o+A.length*2=(A.flatMap ER.row).length:=by rw[a2,fl];omega
 rw[fe,zC0,fl] at hl;simp only[zC0,zK0,List.length_nil] at hl;refine⟨a1,by omega,⟨a7,_,_,_,_,a8,?_⟩,⟨?_,.inr ⟨a1,a2,a3,a4,a5,a6,by rw[qg];exact a7,?_⟩⟩,f⟩
 .rw[fe,zC0,fl,a2];simp only[zC0,zK0,List.length_nil];omega
 .rw[fe,zC0,fl];simp only[zC0,zK0,List.length_nil];omega
 .rw[qEy a8,eo,fe,fe,List.take_left' rfl,<- List.drop_drop,List.drop_left' rfl];rfl
section
variable {S:QW} [GoodS S] {lf n:Nat} {h g0:Q0} {K:ZK} {X R:List ER}
theorem mcopy_ok {ks vs:SL} {k v:Ky} (hb:qz h ks k) (hv:qz h vs v) (lk:k.length<=4294967296) (lv:v.length<=4294967296) (hk:∀h' s1 s2,Q5 Qa h h'->Cln h h' s1 k->Cln h h' s2 v->s1.nil=false->s2.nil=false->K (.agg [.sl s1,.sl s2]) h') :
  Qq Try.prog S lf (n+1) 48 [.agg [.sl ks,.sl vs]] K h:=by
 refine QJ (hSD (by decide) (by decide)) (by kernel_rfl) ?_;rw[mcopy_nf];have l1:=hb.len;have l2:=hv.len;have r1:jy Try.prog 5 k.length=true:=qWi lk;have r2:jy Try.prog 5 v.length=true:=qWi lv;have ve:=Var.new h [ks.av,vs.av];have f1:Q5 Qa h (h.newO (.cells [ks.av,vs.av] 0 false false)):=Q5.newO _ _ _;have n1:(h.newO (.cells [ks.av,vs.av] 0 false false)).next=h.next+1:=rfl
 generalize h.newO (.cells [ks.av,vs.av] 0 false false)=H1 at ve f1 n1 ⊢;have vr:=Var.new H1 [AV.nils,.nils];have f2:Q5 Qa H1 (H1.newO (.cells [AV.nils,.nils] 0 false false)):=Q5.newO _ _ _;have n2:(H1.newO (.cells [AV.nils,.nils] 0 false false)).next=H1.next+1:=rfl
 have ve:=ve.fr f2 id;have F4:=f1.trans f2;generalize H1.newO (.cells [AV.nils,.nils] 0 false false)=H4 at ve vr f2 n2 F4 ⊢;have K2:∀{h':Q0},Q5 Qa H4 h'->∀{Q:SL->Prop},Q ks->Qb h' h.next 0 Q:=λ{h'} g {Q} q=>(ve.fr g id).ldL ks rfl q
 have V2:∀{h':Q0},Q5 Qa H4 h'->∀{Q:SL->Prop},Q vs->Qb h' h.next 1 Q:=λ{h'} g {Q} q=>(ve.fr g id).ldL vs rfl q
 have fin:∀{h':Q0} {s1 s2:SL},Q5 Qa H4 h'->Cln H4 h' s1 k->Cln H4 h' s2 v->s1.nil=false->s2.nil=false ->
   Q6 (false=false) (jb h' H1.next 0 2 (Q6 (false=false) (Qb (hput h' H1.next 0 [s1.av,s2.av]) H1.next 0 λs_3=>Qb (hput h' H1.next 0 [s1.av,s2.av]) H1.next 1 λs_4=>K (.agg [.sl s_3,.sl s_4]) (hput h' H1.next 0 [s1.av,s2.av])))):=by
  intro h' s1 s2 g c1 c2 e1 e2;have vr':=vr.fr g id;have v2:=Var.put_all vr' (vs:=[s1.av,s2.av]) rfl;have f3:=vr'.put_fr 0 [s1.av,s2.av];have lo1:=(c1.own e1).1;have lo2:=(c2.own e2).1;refine⟨rfl,vr'.zput (by simp) ⟨rfl,v2.ldL s1 rfl (v2.ldL s2 rfl (hk _ _ _ ((F4.trans g).back f3 λi hi e=>by omega) ?_ ?_ e1 e2))⟩⟩
  .exact ((c1.fr f3 λ_ e=>by omega).of (by omega))
  .exact ((c2.fr f3 λ_ e=>by omega).of (by omega))
 have fN:Q5 Qa H4 (H4.newO (.cells [] 1 false false)):=Q5.newO _ _ _;have gN:(H4.newO (.cells [] 1 false false)).get H4.next=some (.cells [] 1 false false):=Ql _ _
 have nN:(H4.newO (.cells [] 1 false false)).next=H4.next+1:=rfl
 have r0:Q5 Qa H4 H4:=Q5.refl _ _;generalize H4.newO (.cells [] 1 false false)=H6 at fN gN nN ⊢;have fM:Q5 Qa H6 (H6.newO (.cells [] 1 false false)):=Q5.newO _ _ _;have gM:(H6.newO (.cells [] 1 false false)).get H6.next=some (.cells [] 1 false false):=Ql _ _
 have gM1:(H6.newO (.cells [] 1 false false)).get H4.next=some (.cells [] 1 false false):=(fM.same _ (by omega) id).trans gN
 have nM:(H6.newO (.cells [] 1 false false)).next=H6.next+1:=rfl
 refine⟨⟨rfl,rfl,K2 r0 ⟨rfl,rfl,V2 r0 ⟨⟨rfl,V2 fN rfl⟩,⟨rfl,K2 fN rfl⟩,?_⟩⟩⟩,?_,?_⟩
 .refine ((hb.fr F4 λ_=>id).fr fN λ_=>id).seg.zsrc (qA4 (h0:=H4) (zN0 _) (by omega) gN l1 hb.byte r1 (by omega) λfA cA nA iA=>?_);generalize Qx H6 ⟨false,H4.next,0,0,0,false⟩ 1 ks.n (ofBytes k)=HA at fA cA ⊢;generalize SL.app ⟨false,H4.next,0,0,0,false⟩ H6.next ks.n=sA at cA nA iA ⊢
  have FA:=fN.trans fA;have fB:Q5 Qa HA (HA.newO (.cells [] 1 false false)):=Q5.newO _ _ _;have gB:(HA.newO (.cells [] 1 false false)).get HA.next=some (.cells [] 1 false false):=Ql _ _
  have nB:(HA.newO (.cells [] 1 false false)).next=HA.next+1:=rfl
  refine⟨⟨rfl,V2 FA rfl⟩,⟨rfl,V2 (FA.trans fB) rfl⟩,⟨rfl,K2 (FA.trans fB) rfl⟩,?_⟩;generalize HA.newO (.cells [] 1 false false)=HB at fB gB nB ⊢;have FB:=FA.trans fB;have nFA:=FA.next
  refine (hv.fr (F4.trans FB) λ_=>id).seg.zsrc (qA4 (h0:=H4) (by omega) (by omega) gB l2 hv.byte r2 (by omega) λfC cC nC iC=>?_);generalize Qx HB ⟨false,HA.next,0,0,0,false⟩ 1 vs.n (ofBytes v)=HC at fC cC ⊢;generalize SL.app ⟨false,HA.next,0,0,0,false⟩ HB.next vs.n=sC at cC nC iC ⊢
  exact fin (FB.trans fC) ((cA.fr fB λ_=>id).fr fC λ_=>id) cC nA nC
 .refine⟨rfl,rfl,K2 r0 ⟨rfl,rfl,V2 r0 ⟨⟨rfl,V2 fN rfl⟩,⟨rfl,K2 fN rfl⟩,⟨rfl,V2 (fN.trans fM) rfl⟩,⟨rfl,K2 (fN.trans fM) rfl⟩,?_⟩⟩⟩;generalize H6.newO (.cells [] 1 false false)=H5 at fM gM gM1 nM ⊢;have FM:=fN.trans fM;refine (hb.fr (F4.trans FM) λ_=>id).seg.zsrc (qA4 (h0:=H4) (zN0 _) (by omega) gM1 l1 hb.byte r1 (by omega) λfA cA nA iA=>?_);generalize Qx H5 ⟨false,H4.next,0,0,0,false⟩ 1 ks.n (ofBytes k)=HA at fA cA ⊢;generalize SL.app ⟨false,H4.next,0,0,0,false⟩ H5.next ks.n=sA at cA nA iA ⊢
  have FA:=FM.trans fA;have nFA:=fA.next
  refine⟨⟨rfl,V2 FA rfl⟩,?_⟩;refine (hv.fr (F4.trans FA) λ_=>id).seg.zsrc (qA4 (h0:=H4) (i:=H6.next) (by omega) (by omega) ((fA.same _ (by omega) id).trans gM) l2 hv.byte r2 (by omega) λfC cC nC iC=>?_);generalize Qx HA ⟨false,H6.next,0,0,0,false⟩ 1 vs.n (ofBytes v)=HC at fC cC ⊢;generalize SL.app ⟨false,H6.next,0,0,0,false⟩ HA.next vs.n=sC at cC nC iC ⊢
  exact fin (FA.trans fC) (cA.fr fC λ_=>id) cC nA nC
 .refine⟨rfl,rfl,K2 r0 ⟨rfl,rfl,V2 r0 ⟨⟨rfl,V2 fN rfl⟩,⟨rfl,K2 fN rfl⟩,⟨rfl,V2 (fN.trans fM) rfl⟩,⟨rfl,K2 (fN.trans fM) rfl⟩,?_⟩⟩⟩;generalize H6.newO (.cells [] 1 false false)=H5 at fM gM gM1 nM ⊢;have FM:=fN.trans fM;refine (hb.fr (F4.trans FM) λ_=>id).seg.zsrc (qA4 (h0:=H4) (i:=H6.next) (by omega) (by omega) gM l1 hb.byte r1 (by omega) λfA cA nA iA=>?_);generalize Qx H5 ⟨false,H6.next,0,0,0,false⟩ 1 ks.n (ofBytes k)=HA at fA cA ⊢;generalize SL.app ⟨false,H6.next,0,0,0,false⟩ H5.next ks.n=sA at cA nA iA ⊢
  have FA:=FM.trans fA;have nFA:=fA.next
  refine⟨⟨rfl,V2 FA rfl⟩,?_⟩;refine (hv.fr (F4.trans FA) λ_=>id).seg.zsrc (qA4 (h0:=H4) (i:=H4.next) (zN0 _) (by omega) ((fA.same _ (by omega) id).trans gM1) l2 hv.byte r2 (by omega) λfC cC nC iC=>?_);generalize Qx HA ⟨false,H4.next,0,0,0,false⟩ 1 vs.n (ofBytes v)=HC at fC cC ⊢;generalize SL.app ⟨false,H4.next,0,0,0,false⟩ HA.next vs.n=sC at cC nC iC ⊢
  exact fin (FA.trans fC) (cA.fr fC λ_=>id) cC nA nC
theorem mshift_ok {M e i:Nat} {s:SL} {x b:ER} {zt':ZT} (hz:ZAt 86 [(0,.pv false M 0),(6,.pv false e 0),(7,.int .i64 (i:Int)),(8,.int .i64 (R.length:Int))] zt')
  (g:Grown g0 h s 2 (R.length+1) ((R++[b]).flatMap ER.row)) (vM:Var h M [s.av]) (ve:Var h e [x.ks.av,x.vs.av]) (hi:i<=R.length) (lR:R.length<4294967296) (hlf:R.length<lf) (ne:s.i≠M) (ne2:s.i≠e)
  (hk:∀h',Q5 (λj=>j=s.i) h h'->Grown g0 h' s 2 (R.length+1) ((R.take i++x::R.drop i).flatMap ER.row)->K (.tup []) h') :
  Qy lf (zAt Try.prog (Qq Try.prog S lf n) lf 40 [1,1,1,1,0,1,0,0]) zt' (KZ.mk ((0,λz' h'=>zAt Try.prog (Qq Try.prog S lf n) lf 40 [1,1,1,1,1] z' (Q3 Try.prog 40 K) (KZ.mk [] (Q3 Try.prog 40 K)) h')::KZ.env (KZ.mk [] (Q3 Try.prog 40 K))) (KZ.ret (KZ.mk [] (Q3 Try.prog 40 K)))) h:=by
 refine Qy.inv (λq z h'=>∃(j:Nat) (c:ER),ZAt 86 [(0,.pv false M 0),(6,.pv false e 0),(7,.int .i64 (i:Int)),(8,.int .i64 (j:Int))] z/\j=i+q/\j<=R.length/\Q5 (λt=>t=s.i) h h'/\Grown g0 h' s 2 (R.length+1) ((R.take j++c::R.drop j).flatMap ER.row)) (n:=R.length-i) (by omega)
  ⟨R.length,b,hz,by omega,zN0 _,Q5.refl _ _,by rw[List.take_length,List.drop_length];exact g⟩ ?_
 rintro q z h1 kk hq ⟨j,c,hzz,hj,hjR,f,g1⟩ ih;refine Qr _ hzz λd=>(qBm _ _ _ _ _ _ _ _ _ _ _ _).mpr ?_;have vM1:=vM.fr f (Ne.symm ne);have ve1:=ve.fr f (Ne.symm ne2);rw[q9];refine⟨λe1=>?_,λe1=>?_⟩
 .obtain⟨y,hy⟩:∃y,R[j-1]?=some y:=⟨_,zE0 (by omega)⟩;have tl:(R.take j).length=j:=by rw[zY0];omega
  have ht:R.take j=R.take (j-1)++[y]:=by
   have:=List.take_add_one (l:=R) (i:=j-1)
   rw[hy] at this;rw[show j-1+1=j by omega] at this;exact this
  have tl1:(R.take (j-1)).length=j-1:=by rw[zY0];omega
  have hd:R.drop (j-1)=y::R.drop j:=by obtain⟨h1',h2'⟩:=List.getElem?_eq_some_iff.1 hy;rw[List.drop_eq_getElem_cons h1',h2',show j-1+1=j by omega]
  obtain⟨ns,_,p2,p3,p4⟩:=rowput (x:=y) g1;rw[tl] at p2 p3 p4;have at1:=seg_row g1.seg ns (j:=j-1) (x:=y) (by rw[List.getElem?_append_left (by omega),List.getElem?_take,if_pos (by omega)];exact hy);have at2:=seg_row g1.seg ns (j:=j) (x:=c) (by rw[zD1 (by omega),tl,Nat.sub_self];rfl);refine⟨rfl,rfl,rfl,vM1.ldL s rfl ⟨rfl,rfl,rfl,vM1.ldL s rfl (qAy.2 ?_)⟩⟩;rw[QD (e:=(j:Int)-1) (by omega) (by omega),show (j:Int)-1=((j-1:Nat):Int) by omega];refine⟨ns,qAe.2 ⟨at1.1,rfl,Qh at1.2.1 (Qh at1.2.2 ⟨ns,qAe.2 ⟨at2.1,rfl,qAv p2 (qAy.2 ?_)⟩⟩)⟩⟩;rw[QD (e:=((j-1:Nat):Int)) (by omega) (by omega)];refine ih (q-1) _ _ (by omega) ⟨j-1,y,⟨rfl,rfl,rfl,rfl,rfl,trivial⟩,by omega,by omega,f.trans p4,?_⟩;rw[hd];rw[ht,zX0] at p3;exact p3
 .have:j=i:=by omega
  subst this;have tl:(R.take j).length=j:=by rw[zY0];omega
  obtain⟨ns,p1,p2,p3,p4⟩:=rowput (x:=x) g1;rw[tl] at p1 p2 p3 p4;refine Qr (n:=86) [(0,.pv false M 0),(6,.pv false e 0),(7,.int .i64 (j:Int))] ⟨rfl,rfl,rfl,rfl,trivial⟩ λd'=>(qCr _ _ _ _ _ _ _ _).mpr ?_;exact⟨rfl,rfl,rfl,vM1.ldL s rfl ⟨rfl,ve1.ldL x.ks rfl (ve1.ldL x.vs rfl ⟨ns,qAe.2 ⟨p1,rfl,qAv p2 (hk _ (f.trans p4) p3)⟩⟩)⟩⟩
end
end DfN
namespace DfN
open Go Go.X Go.X.Df Go.Proofs
theorem zRA_2 {a b:SL} {Q:SL->SL->Prop} (k:Q a b):ZRA (ZV.agg [.sl a,.sl b]).av 2 λf=>ZRL (f 0) λx=>ZRL (f 1) λy=>Q x y :=
 ⟨λi=>match i with | 0=>a.av | _=>b.av,by simp[qVq],qe (qe k)⟩
def blank:ER:=⟨QE,QE,([],[])⟩
section
variable {S:QW} [GoodS S] {lf n:Nat} {h g0:Q0} {K:ZK} {X R:List ER}
theorem Lst.grown {g0 h:Q0} {s:SL} {R:List ER} (l:Lst g0 h s R) {i:Nat} {x:ER} (hx:R[i]?=some x):Grown g0 h s 2 R.length (R.flatMap ER.row):=by
 rcases l with g | ⟨rfl,_⟩
 .exact g
 .simp at hx
theorem Mp.new {h h1 h':Q0} {M:Nat} {s s':SL} {x:ER} {k v:Ky} {A B:List ER} {T:Nat->Prop} (m:Mp g0 h M s R) (hn:g0.next<=h.next) (c1:Cln h h1 x.ks k) (c2:Cln h h1 x.vs v) (e1:x.ks.nil=false) (e2:x.vs.nil=false) (hx:x.e=(k,v)) (sub:∀r,r∈A++B->r∈R)
  (var:Var h' M [s'.av]) (lst:Lst g0 h' s' (A++x::B)) (f:Q5 T h h') (hT:∀i,i<h.next->T i->i=M∨(s.nil=false/\i=s.i)) (f1:Q5 T h1 h') (hT1:∀i,h.next<=i->i<h1.next->¬T i) (hs:s'.nil=false->(s.nil=false/\s'.i=s.i)∨h1.next<=s'.i) (hM:s'.nil=false->s'.i≠M):Mp g0 h' M s' (A++x::B):=by
 have k1:=(c1.own e1).1;have k2:=c1.byts.seg.lt e1;have v1:=(c2.own e2).1;have v2:=c2.byts.seg.lt e2;have Ml:=m.var.lt;have ok1:x.Ok h':=by
  refine⟨?_,?_⟩
  .rw[hx];exact c1.byts.fr f1 λ_=>hT1 _ k1 k2
  .rw[hx];exact c2.byts.fr f1 λ_=>hT1 _ v1 v2
 refine⟨var,m.low,lst,hM,λr hr=>?_⟩;have old:r∈R->r.Ok h'/\r.Aw M/\(s'.nil=false->r.Aw s'.i):=λhr'=>by
  obtain⟨o1,o2,o3⟩:=m.ok r hr';refine⟨⟨o1.1.fr f λe t=>?_,o1.2.fr f λe t=>?_⟩,o2,λe=>?_⟩
  .rcases hT _ (o1.1.seg.lt e) t with q | ⟨q1,q2⟩
   .exact o2.1 e q
   .exact (o3 q1).1 e q2
  .rcases hT _ (o1.2.seg.lt e) t with q | ⟨q1,q2⟩
   .exact o2.2 e q
   .exact (o3 q1).2 e q2
  .rcases hs e with ⟨q1,q2⟩ | q
   .rw[q2];exact o3 q1
   .refine o1.aw ?_
    have:h.next<=h1.next:=by
     have:=c1.byts.seg.lt e1
     omega
    omega
 rcases List.mem_append.1 hr with h8 | h8
 .exact old (sub r (zH0 _ h8))
 .rcases List.mem_cons.1 h8 with rfl | h8
  .refine⟨ok1,⟨λ_=>by omega,λ_=>by omega⟩,λe=>?_⟩;rcases hs e with ⟨q1,q2⟩ | q
   .have:=(m.lst.lt q1).2
    exact⟨λ_=>by omega,λ_=>by omega⟩
   .exact⟨λ_=>by omega,λ_=>by omega⟩
  .exact old (sub r (zI0 _ h8))
theorem mput_ok {M:Nat} {s ks vs:SL} {k v:Ky} (m:Mp g0 h M s R) (up:Up (ents R)) (hn:g0.next<=h.next) (hb:qz h ks k) (hv:qz h vs v) (lk:k.length<=4294967296) (lv:v.length<=4294967296) (lR:R.length<4294967295) (hlf:R.length<lf)
  (hk:∀h' s' R',Q5 (λi=>g0.next<=i) h h'->Mp g0 h' M s' R'->ents R'=Df.put (ents R) k v->R'.length<=R.length+1->K (.tup []) h') :
  Qq Try.prog S lf (n+2) 40 [.pv false M 0,.sl ks,.sl vs] K h:=by
 refine QJ (hSD (by decide) (by decide)) (by kernel_rfl) ?_;rw[mput_nf];refine mcopy_ok hb hv lk lv λh1 s1 s2 f1 c1 c2 e1 e2=>?_;have vn:=Var.new h1 [AV.nils,.nils];refine zRA_2 ⟨rfl,vn.zput (by simp) ?_⟩;have ve:=Var.put_all vn (vs:=[s1.av,s2.av]) rfl;have f2:Q5 Qa h1 (hput (h1.newO (.cells [AV.nils,.nils] 0 false false)) h1.next 0 [s1.av,s2.av]):=(Q5.newO Qa _ _).back (vn.put_fr 0 _) λi hi e=>by omega
 have n2:(hput (h1.newO (.cells [AV.nils,.nils] 0 false false)) h1.next 0 [s1.av,s2.av]).next=h1.next+1:=by rw[qg];rfl
 generalize hput (h1.newO (.cells [AV.nils,.nils] 0 false false)) h1.next 0 [s1.av,s2.av]=h2 at ve f2 n2 ⊢
 clear vn;have F2:=f1.trans f2;have m2:=m.fr0 F2;have E:=m2.ents;have ln:=E.len (by decide);have f1n:=f1.next
 have Ml:=m.var.lt
 let x:ER:=⟨s1,s2,(k,v)⟩
 refine qBe m2 up (hb.fr F2 λ_=>id) (by omega) hlf λi p=>?_;rw[qA0];obtain⟨p1,p2⟩:=p.pt (v:=v) up;have il:=p.1;rw[J6] at il;refine qFa.2 ⟨rfl,rfl,rfl,m2.var.ldL s rfl ?_⟩;rw[ofn ln,q9]
 have tail:∀{H:Q0} {s':SL},Grown g0 H s' 2 (R.length+1) ((R++[blank]).flatMap ER.row)->Q5 (λj=>(s.nil=false/\j=s.i)) h2 H->h2.next<=s'.i->s'.nil=false ->
   (∀e,(ents R)[i]?=some e->e.1≠k)->∀zt',ZAt 86 [(0,.pv false M 0),(6,.pv false h1.next 0),(7,.int .i64 (i:Int)),(8,.int .i64 (R.length:Int))] zt' ->
   Qy lf (zAt Try.prog (Qq Try.prog S lf (n+1)) lf 40 [1,1,1,1,0,1,0,0]) zt' (KZ.mk ((0,λz' h'=>zAt Try.prog (Qq Try.prog S lf (n+1)) lf 40 [1,1,1,1,1] z' (Q3 Try.prog 40 K) (KZ.mk [] (Q3 Try.prog 40 K)) h')::KZ.env (KZ.mk [] (Q3 Try.prog 40 K))) (KZ.ret (KZ.mk [] (Q3 Try.prog 40 K)))) (hput H M 0 [s'.av]):=by
  intro H s' g fH hi' nn' hne zt' hz;have sne:s.nil=false->s.i<h.next:=λe=>(m.lst.lt e).2
  have vM:Var H M [s.av]:=m2.var.fr fH λ⟨q1,q2⟩=>m.ne q1 q2.symm;have vM2:=Var.put_all vM (vs:=[s'.av]) rfl;have f3:=vM.put_fr 0 [s'.av];have ve3:=(ve.fr fH λ⟨q1,q2⟩=>by have:=sne q1;omega).fr f3 (by omega);have fHn:=fH.next
  refine mshift_ok (b:=blank) (x:=x) hz (g.fr f3 λ_=>by omega) vM2 ve3 il (by omega) hlf (by omega) (by omega) λh7 f7 g7=>?_;have lst7:Lst g0 h7 s' (R.take i++x::R.drop i):=by
   refine .inl ?_
   have:(R.take i++x::R.drop i).length=R.length+1:=by rw[zC0,zY0,zK0,List.length_drop];omega
   rw[this];exact g7
  have fT:Q5 (λj=>(s.nil=false/\j=s.i)∨j=M∨j=s'.i) h2 h7:=((fH.mono λ_ _ q=>.inl q).trans (f3.mono λ_ _ q=>.inr (.inl q))).trans (f7.mono λ_ _ q=>.inr (.inr q));have T0:∀j,j<h2.next->((s.nil=false/\j=s.i)∨j=M∨j=s'.i)->(s.nil=false/\j=s.i)∨j=M:=λj hj q=>by
   rcases q with q | q | q
   .exact .inl q
   .exact .inr q
   .omega
  have fW:Q5 (λj=>g0.next<=j) h h7:=(F2.mono λ_ _ e=>e.elim).back fT λj hj q=>by
   rcases T0 j (by omega) q with ⟨q1,q2⟩ | q
   .rw[q2];exact (m.lst.lt q1).1
   .rw[q];exact m.low
  refine hk h7 s' _ fW (Mp.new (T:=λj=>(s.nil=false/\j=s.i)∨j=M∨j=s'.i) m hn c1 c2 e1 e2 rfl (λr hr=>?_) (vM2.fr f7 (by omega)) lst7 ((F2.mono λ_ _ e=>e.elim).trans fT) (λj hj q=>?_) ((f2.mono λ_ _ e=>e.elim).trans fT) (λj q1 q2 q=>?_) (λ_=>.inr (by omega)) (λ_=>by omega)) ?_ ?_
  .rcases List.mem_append.1 hr with q | q
   .exact List.mem_of_mem_take q
   .exact List.mem_of_mem_drop q
  .rcases q with q | q | q
   .exact .inr q
   .exact .inl q
   .omega
  .rcases q with ⟨q3,q4⟩ | q | q
   .have:=sne q3;omega
   .omega
   .omega
  .rw[p2 hne];unfold ents;rw[zW0,List.map_cons,List.map_take,List.map_drop]
  .rw[zC0,zY0,zK0,List.length_drop];omega
 have nb:(h2.newO (.cells [AV.nils,.nils] 2 false false)).next=h2.next+1:=rfl
 have fb:Q5 Qa h2 (h2.newO (.cells [AV.nils,.nils] 2 false false)):=Q5.newO _ _ _;have sgb:Seg (h2.newO (.cells [AV.nils,.nils] 2 false false)) ⟨false,h2.next,0,1,1,false⟩ 2 blank.row:=Seg.own (more:=[]) rfl (zO0 _) (by rw[zS0];exact Ql _ _);have i1:IntKind.i64.wrap (((R.length+1:Nat):Int)-1)=(R.length:Int):=by rw[QD (by omega) (by omega)];omega
 refine⟨λe=>?_,λe=>?_⟩
 .obtain⟨y,hy⟩:∃y,R[i]?=some y:=⟨_,zE0 (by omega)⟩;have ns:=E.nil_of (by decide) (j:=i) (by omega);have sl:=E.len' (by decide) ns;have yo:=(m2.ok y (zD0 hy)).1;refine⟨rfl,rfl,rfl,m2.var.ldL s rfl ⟨ns,qAe.2 ⟨by omega,rfl,rfl,Qh (E.at' ns hy (q:=0) (by decide) rfl) (yo.1.zbytes ((hb.fr F2 λ_=>id).zbytes ?_))⟩⟩⟩;by_cases ek:y.e.1=k
  .rw[decide_eq_true ek,qBf,qBi];have sp:R=R.take i++y::R.drop (i+1):=by
    obtain⟨q1,q2⟩:=List.getElem?_eq_some_iff.1 hy
    have:R.drop i=y::R.drop (i+1):=by rw[List.drop_eq_getElem_cons q1,q2]
    rw[<- this,List.take_append_drop]
   have tl:(R.take i).length=i:=by rw[zY0];omega
   have g:=m2.lst.grown hy;have hlen:(R.take i++x::R.drop (i+1)).length=R.length:=by
    have:=congrArg List.length sp
    simp only[zC0,zK0] at this ⊢;omega
   rw[show R.flatMap ER.row=(R.take i++y::R.drop (i+1)).flatMap ER.row by rw[<- sp]] at g;obtain⟨_,q1,q2,q3,q4⟩:=rowput (x:=x) g;rw[tl] at q1 q2 q3 q4;have sil:=(m.lst.lt ns).2;refine⟨rfl,rfl,rfl,m2.var.ldL s rfl ⟨rfl,ve.ldL s1 rfl (ve.ldL s2 rfl ⟨ns,qAe.2 ⟨q1,rfl,qAv q2 (hk _ s _ ?_ (Mp.new (T:=λj=>j=s.i) m hn c1 c2 e1 e2 rfl (λr hr=>?_) (m2.var.fr q4 (Ne.symm (m.ne ns))) (.inl (by rw[hlen];exact q3)) ((F2.mono λ_ _ e=>e.elim).trans q4) (λj hj q=>.inr ⟨ns,q⟩) ((f2.mono λ_ _ e=>e.elim).trans q4) (λj w1 w2 w3=>by omega) (λ_=>.inl ⟨ns,rfl⟩) m.ne) ?_ (by omega))⟩⟩)⟩⟩
   .exact (F2.mono λ_ _ e=>e.elim).trans (q4.mono λj _ q=>by rw[q];exact (m.lst.lt ns).1)
   .rcases List.mem_append.1 hr with q | q
    .exact List.mem_of_mem_take q
    .exact List.mem_of_mem_drop q
   .rw[p1 _ (qAl hy) ek];unfold ents;rw[zW0,List.map_cons,List.map_take,List.map_drop]
  .rw[decide_eq_false ek,qBf,qAz];refine⟨rfl,rfl,rfl,m2.var.ldL s rfl (sgb.zsrc ((m2.lst.fr fb λ_=>id).append1 (by omega) (by omega) λg6 f6 hi6=>?_))⟩;have nn':(s.app (h2.newO (.cells [AV.nils,.nils] 2 false false)).next 1).nil=false:=by
    rcases g6.2 with ⟨q,_⟩ | ⟨q,_⟩
    .omega
    .exact q
   have n6:=Grown.n_eq g6;have F6:=(fb.mono (T:=λj=>s.nil=false/\j=s.i) λ_ _ e=>e.elim).trans f6;have vM6:=m2.var.fr F6 λ⟨q1,q2⟩=>m.ne q1 q2.symm;refine⟨rfl,rfl,rfl,vM6.zput (by simp) ⟨rfl,rfl,rfl,(Var.put_all vM6 (vs:=[(s.app (h2.newO (.cells [AV.nils,.nils] 2 false false)).next 1).av]) rfl).ldL (s.app (h2.newO (.cells [AV.nils,.nils] 2 false false)).next 1) rfl (qAy.2 ?_)⟩⟩;rw[ofn n6,i1];exact tail g6 F6 (by omega) nn' (λe' he=>by rw[qAl hy] at he;cases he;exact ek) _ ⟨rfl,rfl,rfl,rfl,rfl,trivial⟩
 .refine⟨rfl,rfl,rfl,m2.var.ldL s rfl (sgb.zsrc ((m2.lst.fr fb λ_=>id).append1 (by omega) (by omega) λg6 f6 hi6=>?_))⟩;have nn':(s.app (h2.newO (.cells [AV.nils,.nils] 2 false false)).next 1).nil=false:=by
   rcases g6.2 with ⟨q,_⟩ | ⟨q,_⟩
   .omega
   .exact q
  have n6:=Grown.n_eq g6;have F6:=(fb.mono (T:=λj=>s.nil=false/\j=s.i) λ_ _ e=>e.elim).trans f6;have vM6:=m2.var.fr F6 λ⟨q1,q2⟩=>m.ne q1 q2.symm;refine⟨rfl,rfl,rfl,vM6.zput (by simp) ⟨rfl,rfl,rfl,(Var.put_all vM6 (vs:=[(s.app (h2.newO (.cells [AV.nils,.nils] 2 false false)).next 1).av]) rfl).ldL (s.app (h2.newO (.cells [AV.nils,.nils] 2 false false)).next 1) rfl (qAy.2 ?_)⟩⟩;rw[ofn n6,i1];refine tail g6 F6 (by omega) nn' (λe' he=>?_) _ ⟨rfl,rfl,rfl,rfl,rfl,trivial⟩
  have:=(List.getElem?_eq_some_iff.1 he).1
  rw[J6] at this;omega
end
end DfN
namespace DfN
open Go Go.X Go.X.Df Go.Proofs
theorem qB3 {β:Type} {m:List (Ky × β)} {k:Ky} (h:Df.look m k=none):Df.del m k=m:=by
 induction m with
 | nil=>rfl
 | cons e m ih =>
  have h1:(if e.1=k then some e.2 else Df.look m k)=none:=h;show (if e.1=k then m else e::Df.del m k)=e::m;split
  .rename_i hk;rw[if_pos hk] at h1;cases h1
  .rename_i hk;rw[if_neg hk] at h1;rw[ih h1]
section
variable {S:QW} [GoodS S] {lf n:Nat} {h g0:Q0} {K:ZK} {X R:List ER}
def but (R:List ER) (i j:Nat):List ER:=(R.take j).eraseIdx i
theorem qC9 {R:List ER} {i j:Nat} {x:ER} (hx:R[j]?=some x):but R i (j+1)=if j=i then but R i j else but R i j++[x]:=by
 have hj:=(List.getElem?_eq_some_iff.1 hx).1;have tl:(R.take j).length=j:=by rw[zY0];omega
 unfold but;rw[List.take_add_one,hx];show (R.take j++[x]).eraseIdx i=_;by_cases e:j=i
 .subst e;rw[if_pos rfl,List.eraseIdx_append_of_length_le (by omega),tl,Nat.sub_self,List.eraseIdx_of_length_le (l:=R.take j) (by omega)];show R.take j++[]=_;rw[zS0]
 .rw[if_neg e];by_cases h1:i<j
  .rw[List.eraseIdx_append_of_lt_length (by omega)]
  .rw[List.eraseIdx_append_of_length_le (by omega),tl,List.eraseIdx_of_length_le (l:=R.take j) (by omega),List.eraseIdx_of_length_le (l:=[x]) (by simp;omega)]
theorem mdel_ok {M:Nat} {s ks:SL} {k:Ky} (m:Mp g0 h M s R) (up:Up (ents R)) (hn:g0.next<=h.next) (hb:qz h ks k) (lR:R.length<4294967295) (hlf:R.length<lf)
  (hk:∀b h' s' R',Q5 (λi=>g0.next<=i) h h'->Mp g0 h' M s' R'->ents R'=Df.del (ents R) k->R'.length<=R.length->K (.bool b) h') :
  Qq Try.prog S lf (n+2) 41 [.pv false M 0,.sl ks] K h:=by
 refine QJ (hSD (by decide) (by decide)) (by kernel_rfl) ?_;rw[mdel_nf];have E:=m.ents;have ln:=E.len (by decide);refine qBe m up hb (by omega) hlf λi p=>?_;rw[qA0];obtain⟨p1,p2⟩:=p.lk up;have il:=p.1;rw[J6] at il;have none:(∀e,(ents R)[i]?=some e->e.1≠k)->K (.bool false) h:=λq=>hk _ _ _ _ (Q5.refl _ _) m (qB3 (p2 q)).symm (zN0 _);refine qFa.2 ⟨rfl,rfl,rfl,m.var.ldL s rfl ?_⟩;rw[ofn ln,q9];refine⟨λe=>none λe' he=>?_,λe=>?_⟩
 .have:=(List.getElem?_eq_some_iff.1 he).1
  rw[J6] at this;omega
 obtain⟨x,hx⟩:∃x,R[i]?=some x:=⟨_,zE0 (by omega)⟩;have ns:=E.nil_of (by decide) (j:=i) (by omega);have sl:=E.len' (by decide) ns;have xo:=(m.ok x (zD0 hx)).1;refine⟨rfl,rfl,rfl,m.var.ldL s rfl ⟨ns,qAe.2 ⟨by omega,rfl,rfl,Qh (E.at' ns hx (q:=0) (by decide) rfl) (xo.1.zbytes (hb.zbytes ?_))⟩⟩⟩;by_cases ek':¬x.e.1=k
 .rw[decide_eq_false ek',Bool.not_false,qHv,qBi];refine none λe' he=>?_;rw[qAl hx] at he;cases he;exact ek'
 have ek:x.e.1=k:=Decidable.of_not_not ek';clear ek';rw[decide_eq_true ek,Bool.not_true,qHv,qAz];have pd:=p.dl up (qAl hx) ek
 refine Qy.inv (λq z h'=>∃(j:Nat) (o:SL),ZAt 58 [(0,.pv false M 0),(5,.int .i64 (i:Int)),(6,.sl o),(7,.int .i64 (j:Int))] z/\j+q=R.length/\Q5 Qa h h'/\Grown h h' o 2 (but R i j).length ((but R i j).flatMap ER.row)) (n:=R.length) (by omega)
  ⟨0,QE,⟨rfl,rfl,rfl,rfl,rfl,trivial⟩,by omega,Q5.refl _ _,by
   have:but R i 0=[]:=by unfold but;rw[List.take_zero];cases i <;> rfl
   rw[this];exact Grown.start _ _ _⟩ ?_
 rintro q z h1 kk hq ⟨j,o,hz,hj,f,g⟩ ih;refine Qr _ hz λd=>(qBo _ _ _ _ _ _ _ _ _ _ _ _).mpr ?_;have m1:=m.fr0 f;have E1:=m1.ents;refine⟨rfl,rfl,rfl,m1.var.ldL s rfl ?_⟩;rw[ofn ln,q9];have i1:IntKind.i64.wrap ((j:Int)+1)=((j+1:Nat):Int):=by
  by_cases hh:j<R.length
  .rw[QD (by omega) (by omega)];omega
  .rw[QD (by omega) (by omega)];omega
 refine⟨λe1=>?_,λe1=>?_⟩
 .obtain⟨y,hy⟩:∃y,R[j]?=some y:=⟨_,zE0 (by omega)⟩;by_cases ej:j=i
  .rw[decide_eq_true (show (j:Int)=(i:Int) by omega),Bool.not_true,qAz];refine qAy.2 ?_;rw[i1];exact ih (q-1) _ _ (by omega) ⟨j+1,o,⟨rfl,rfl,rfl,rfl,rfl,trivial⟩,by omega,f,by rw[qC9 hy,if_pos ej];exact g⟩
  .rw[decide_eq_false (show ¬(j:Int)=(i:Int) by omega),Bool.not_false,qBi];refine⟨rfl,rfl,rfl,m1.var.ldL s rfl ⟨ns,qAe.2 ⟨by omega,rfl,Qh (E1.at' ns hy (q:=0) (by decide) rfl) (Qh (E1.at' ns hy (q:=1) (by decide) rfl) ?_)⟩⟩⟩;have fb:Q5 Qa h1 (h1.newO (.cells [y.ks.av,y.vs.av] 2 false false)):=Q5.newO _ _ _;have sgb:Seg (h1.newO (.cells [y.ks.av,y.vs.av] 2 false false)) ⟨false,h1.next,0,1,1,false⟩ 2 y.row:=Seg.own (more:=[]) rfl (zO0 _) (by rw[zS0];exact Ql _ _);have nb:(h1.newO (.cells [y.ks.av,y.vs.av] 2 false false)).next=h1.next+1:=rfl
   have fn:=f.next
   have bl:(but R i j).length<=R.length:=by unfold but;exact zP0 (List.length_eraseIdx_le _ _) (by rw[zY0];omega)
   refine sgb.zsrc (Grown.append1 (k:=1) (g.fr fb λ_=>id) (by omega) (by decide) rfl y.plain (qAr (by omega)) λg2 f2 hi=>qAy.2 ?_);rw[i1];refine ih (q-1) _ _ (by omega) ⟨j+1,_,⟨rfl,rfl,rfl,rfl,rfl,trivial⟩,by omega,(f.trans fb).back f2 λt ht ⟨q1,q2⟩=>?_,?_⟩
   .rcases g.2 with ⟨_,rfl⟩ | ⟨_,_,_,_,_,h6,_⟩
    .cases q1
    .omega
   .rw[qC9 hy,if_neg ej,zC0,zT0]
    have:List.flatMap ER.row [y]=y.row:=by simp
    rw[this];exact g2
 .have hjR:j=R.length:=by omega
  subst hjR;refine Qr (n:=58) [(0,.pv false M 0),(6,.sl o)] ⟨rfl,rfl,rfl,trivial⟩ λd'=>(qCs _ _ _ _ _ _ _).mpr ?_;have f3:=m1.var.put_fr 0 [o.av];have eb:but R i R.length=R.take i++R.drop (i+1):=by unfold but;rw[List.take_length,List.eraseIdx_eq_take_drop_succ]
  rw[eb] at g;have olt:o.nil=false->h.next<=o.i/\o.i<h1.next:=λe=>by
   rcases g.2 with ⟨_,rfl⟩ | ⟨_,_,_,_,_,h6,h7,_⟩
   .cases e
   .exact⟨h6,h7⟩
  have Ml:=m.var.lt;have F3:Q5 (λt=>t=M) h (hput h1 M 0 [o.av]):=(f.mono λ_ _ e=>e.elim).trans f3;have sub:∀r,r∈R.take i++R.drop (i+1)->r∈R:=λr hr=>by
   rcases List.mem_append.1 hr with q | q
   .exact List.mem_of_mem_take q
   .exact List.mem_of_mem_drop q
  have g3:=g.fr f3 λe=>by have:=(olt e).1;omega
  refine⟨rfl,rfl,rfl,m1.var.zput (by simp) (hk _ _ o (R.take i++R.drop (i+1)) (F3.mono λt _ e=>by rw[e];exact m.low) ⟨Var.put_all m1.var rfl,m.low,.inl ?_,λe=>by have:=(olt e).1;omega,λr hr=>?_⟩ ?_ ?_)⟩
  .rcases g3 with ⟨q1,q2 | ⟨a1,a2,a3,a4,a5,a6,a7,a8⟩⟩
   .exact⟨q1,.inl q2⟩
   .exact⟨q1,.inr ⟨a1,a2,a3,a4,a5,zP0 hn a6,a7,a8⟩⟩
  .obtain⟨o1,o2,o3⟩:=m.ok r (sub r hr);exact⟨o1.frA o2 F3 λ_ e=>e,o2,λe=>o1.aw (olt e).1⟩
  .rw[pd];unfold ents;rw[zW0,List.map_take,List.map_drop]
  .rw[zC0,zY0,List.length_drop];omega
theorem qBq:∀R:List ER,QL (R.flatMap ER.row)=true
 | []=>rfl
 | x::R=>by
  rw[zU0];refine qH.2 λv hv=>?_;rcases List.mem_append.1 hv with q | q
  .exact qH.1 x.plain v q
  .exact qH.1 (qBq R) v q
theorem app_rows {a:SL} {A:Prop} (ha:j1 h a X) (lX:X.length<4294967296)
  (k:Lst h (Qx (h.newO (.cells [] 2 false false)) ⟨false,h.next,0,0,0,false⟩ 2 a.n (X.flatMap ER.row)) (SL.app ⟨false,h.next,0,0,0,false⟩ (h.newO (.cells [] 2 false false)).next a.n) X ->
   Q5 Qa h (Qx (h.newO (.cells [] 2 false false)) ⟨false,h.next,0,0,0,false⟩ 2 a.n (X.flatMap ER.row))->A) :
  jz Try.prog (h.newO (.cells [] 2 false false)) ⟨false,h.next,0,0,0,false⟩ 51 2 a.n (X.flatMap ER.row) A:=by
 have la:=ha.len (by decide);rw[la] at k ⊢;refine⟨⟨λ_=>zN0 _,λ_ e=>(by cases e),λh1 _ h2=>?_,λ_ _=>?_,λ_ _ _ h=>(by cases h),λ_ _ _ _=>⟨[],qEg (Ql _ _),by simp⟩⟩,qBq X,?_⟩
 .exact absurd h2 (by show ¬ 0+X.length<=0;omega)
 .show jy Try.prog 51 (0+X.length)=true;rw[Nat.zero_add];exact qAr (by omega)
 cases X with
 | nil=>exact k (.inr ⟨rfl,_,rfl,zN0 _,zO0 _,Ql _ _⟩) (Q5.newO _ _ _)
 | cons x X =>
  have e1:Qx (h.newO (.cells [] 2 false false)) ⟨false,h.next,0,0,0,false⟩ 2 (x::X).length ((x::X).flatMap ER.row)=(h.newO (.cells [] 2 false false)).newO (.cells ((x::X).flatMap ER.row) 2 true false):=by unfold Qx;rw[show Nat.beq (x::X).length 0=false from rfl];simp only;rw[show Nat.ble (0+(x::X).length) 0=false by rw[Nat.zero_add];rfl,Ql];simp only;rw[Nat.zero_mul,List.take_zero,List.nil_append]
  have e2:SL.app ⟨false,h.next,0,0,0,false⟩ (h.newO (.cells [] 2 false false)).next (x::X).length=⟨false,h.next+1,0,(x::X).length,(x::X).length,true⟩:=by unfold SL.app;rw[show Nat.beq (x::X).length 0=false from rfl];simp only;rw[show Nat.ble (0+(x::X).length) 0=false by rw[Nat.zero_add];rfl,Nat.zero_add];rfl
  rw[e1,e2] at k;exact k (.inl ⟨qEr λ_ _=>rfl,.inr ⟨rfl,rfl,rfl,rfl,rfl,Nat.le_succ _,zO0 _,Ql _ _⟩⟩) ((Q5.newO _ _ _).trans (Q5.newO _ _ _))
end
end DfN
namespace DfN
open Go Go.X Go.X.Df Go.Proofs
section
variable {S:QW} [GoodS S] {lf n:Nat} {h g0:Q0} {K:ZK} {X R:List ER} {Y:List CR}
def Mc (c:Ch):Prop:=c.k.length<=1048576/\c.old.length<=1048576/\c.new.length<=1048576
theorem Chgs.at5 {c:SL} (hc:Chgs h c Y) (e:c.nil=false) {j:Nat} {y:CR} (hy:Y[j]?=some y) :
  cellAt h c.i (Nat.add (c.o+j*5) 0)=some y.ks.av/\cellAt h c.i (Nat.add (c.o+j*5) 1)=some (.bool y.c.had)/\cellAt h c.i (Nat.add (c.o+j*5) 2)=some (.bool y.c.has) /\
   cellAt h c.i (Nat.add (c.o+j*5) 3)=some y.os.av/\cellAt h c.i (Nat.add (c.o+j*5) 4)=some y.ns.av :=
 ⟨hc.at' e hy (q:=0) (by decide) rfl,hc.at' e hy (q:=1) (by decide) rfl,hc.at' e hy (q:=2) (by decide) rfl,hc.at' e hy (q:=3) (by decide) rfl,hc.at' e hy (q:=4) (by decide) rfl⟩
theorem rapply_ok {a c:SL} (ha:j1 h a X) (up:Up (ents X)) (hc:Chgs h c Y) (mY:∀y,y∈Y->Mc y.c) (lX:X.length<=1048576) (lY:Y.length<=1048576) (hlf:4000000<lf)
  (bad:steps (ents X) (Y.map CR.c)=none->∀h',Q5 Qa h h'->K (.tup [.sl QE,.int .i64 1]) h')
  (good:∀h' s R,Q5 Qa h h'->j1 h' s R->steps (ents X) (Y.map CR.c)=some (ents R)->R.length<=X.length+Y.length->K (.tup [.sl s,.int .i64 0]) h') :
  Qq Try.prog S lf (n+3) 21 [.sl a,.sl c] K h:=by
 refine QJ (hSD (by decide) (by decide)) (by kernel_rfl) ?_;rw[rapply_nf];have lc:=hc.len (by decide);refine (ha.seg.fr (Q5.newO Qa h _) λ_=>id).zsrc (app_rows ha (by omega) λl f1=>?_);generalize Qx (h.newO (.cells [] 2 false false)) ⟨false,h.next,0,0,0,false⟩ 2 a.n (X.flatMap ER.row)=h1 at l f1 ⊢;generalize SL.app ⟨false,h.next,0,0,0,false⟩ (h.newO (.cells [] 2 false false)).next a.n=s0 at l ⊢
 have f1n:=f1.next
 have f2:Q5 Qa h1 (h1.newO (.cells [s0.av] 0 false false)):=Q5.newO _ _ _;have v2:=Var.new h1 [s0.av];have M0:Mp h (h1.newO (.cells [s0.av] 0 false false)) h1.next s0 X:=⟨v2,f1n,l.fr f2 λ_=>id,λe=>by have:=(l.lt e).2;omega,λr hr=>by
  have o:=ha.ok r hr;exact⟨(o.fr f1).fr f2,o.aw f1n,λe=>o.aw (l.lt e).1⟩⟩
 have F2:=f1.trans f2;generalize h1.newO (.cells [s0.av] 0 false false)=h2 at v2 M0 F2 ⊢;generalize h1.next=M at v2 M0 ⊢
 clear f2 v2 l
 refine Qy.inv (λq z h'=>∃(j:Nat) (s:SL) (R:List ER),ZAt 80 [(1,.sl c),(6,.pv false M 0),(7,.int .i64 (j:Int))] z/\j+q=Y.length/\Q5 Qa h h'/\Mp h h' M s R/\Up (ents R)/\R.length<=X.length+j/\steps (ents X) (Y.map CR.c)=steps (ents R) ((Y.map CR.c).drop j)) (n:=Y.length) (by omega)
  ⟨0,s0,X,⟨rfl,rfl,rfl,rfl,trivial⟩,by omega,F2,M0,up,by omega,rfl⟩ ?_
 rintro q z h3 kk hq ⟨j,s,R,hz,hj,f,m,upR,lR,hst⟩ ih;refine Qr _ hz λd=>(qBk _ _ _ _ _ _ _ _ _ _ _).mpr ?_;rw[ofn lc,q9];refine⟨λe=>?_,λe=>?_⟩
 .obtain⟨y,hy⟩:∃y,Y[j]?=some y:=⟨_,zE0 (by omega)⟩;have hym:=zD0 hy;have hc3:=hc.fr f;have nc:=hc3.nil_of (by decide) (j:=j) (by omega);have c1:=hc3.len' (by decide) nc;obtain⟨a0,a1,a2,a3,a4⟩:=hc3.at5 nc hy;obtain⟨yk,yo,yn⟩:=hc3.ok y hym;obtain⟨my1,my2,my3⟩:=mY y hym;have hd:(Y.map CR.c).drop j=y.c::(Y.map CR.c).drop (j+1):=by
   have:(Y.map CR.c)[j]?=some y.c:=by rw[zV0,hy];rfl
   obtain⟨q1,q2⟩:=List.getElem?_eq_some_iff.1 this;rw[List.drop_eq_getElem_cons q1,q2]
  rw[hd] at hst;have hst:steps (ents X) (Y.map CR.c)=(step (ents R) y.c).bind λm'=>steps m' ((Y.map CR.c).drop (j+1)):=hst;have i1:IntKind.i64.wrap ((j:Int)+1)=((j+1:Nat):Int):=by rw[QD (by omega) (by omega)];omega
  have jl:j<c.len:=by omega
  have no:step (ents R) y.c=none->K (.tup [.sl QE,.int .i64 1]) h3:=λq=>by rw[q] at hst;exact bad hst _ f
  refine⟨nc,qAe.2 ⟨jl,rfl,rfl,Qh a0 ?_⟩⟩;have putK:∀zt',ZAt 80 [(1,.sl c),(6,.pv false M 0),(7,.int .i64 ((j+1:Nat):Int))] zt'->∀h' s' R',Q5 (λi=>h.next<=i) h3 h'->Mp h h' M s' R'->step (ents R) y.c=some (ents R')->Up (ents R')->R'.length<=R.length+1->kk zt' h':=λzt' hz' h' s' R' f' m' e1 u l=>by rw[e1] at hst;exact ih (q-1) _ _ (by omega) ⟨j+1,s',R',hz',by omega,f.behind f',m',u,by omega,hst⟩
  have upPut:∀v,Up (Df.put (ents R) y.c.k v):=λv=>qC1 upR;have upDel:Up (Df.del (ents R) y.c.k):=qC5 upR;have hn:=f.next
  refine mget_ok m upR yk (by omega) (by omega) (λhl=>?_) λv w hl bw=>?_
  .rw[qQo];refine qCk (qe (s:=QE) ?_);rw[show (two (ZV.sl QE).av (ZV.bool false).av 1)=.bool false from rfl];refine qDf.2 ⟨nc,qAe.2 ⟨jl,rfl,rfl,⟨_,a1,?_⟩⟩⟩;cases hh:y.c.had with
   | true =>
    rw[decide_eq_false (by decide),Bool.not_false,qBi];exact no (by unfold Df.step;rw[hl,hh];rfl)
   | false =>
    rw[decide_eq_true rfl,Bool.not_true,qAz,qAz];refine⟨nc,qAe.2 ⟨jl,rfl,rfl,⟨_,a2,?_⟩⟩⟩;have st:step (ents R) y.c=some (if y.c.has=true then Df.put (ents R) y.c.k y.c.new else ents R):=by unfold Df.step;rw[hl,hh];rfl
    cases hs:y.c.has with
    | true =>
     rw[qBi];refine⟨nc,qAe.2 ⟨jl,rfl,rfl,Qh a0 ⟨nc,qAe.2 ⟨jl,rfl,rfl,Qh a4 ?_⟩⟩⟩⟩;refine mput_ok m upR hn yk yn (by omega) (by omega) (by omega) (by omega) λh' s' R' f' m' e1 l=>qI0 λ_=>qAy.2 ?_;rw[i1];exact putK _ ⟨rfl,rfl,rfl,rfl,trivial⟩ h' s' R' f' m' (by rw[st,hs,if_pos rfl,e1]) (by rw[e1];exact upPut _) l
    | false =>rw[qAz];refine⟨nc,qAe.2 ⟨jl,rfl,rfl,Qh a0 ?_⟩⟩;refine mdel_ok m upR hn yk (by omega) (by omega) λb h' s' R' f' m' e1 l=>?_;rw[qA1];refine qDf.2 (qAy.2 ?_);rw[i1];rw[qB3 hl] at e1;exact putK _ ⟨rfl,rfl,rfl,rfl,trivial⟩ h' s' R' f' m' (by rw[st,hs,if_neg (by decide),e1]) (by rw[e1];exact upR) (by omega)
  .rw[qQo];refine qCk (qe (s:=w) ?_);rw[show (two (ZV.sl w).av (ZV.bool true).av 1)=.bool true by show (ZV.bool true).av=_;exact qA1 true];refine qDf.2 ⟨nc,qAe.2 ⟨jl,rfl,rfl,⟨_,a1,?_⟩⟩⟩;cases hh:y.c.had with
   | false =>
    rw[decide_eq_false (by decide),Bool.not_false,qBi];exact no (by unfold Df.step;rw[hl,hh];rfl)
   | true =>
    rw[decide_eq_true rfl,Bool.not_true,qAz,qBi];refine bw.zbytes ⟨nc,qAe.2 ⟨jl,rfl,rfl,Qh a3 (yo.zbytes ?_)⟩⟩;by_cases hv:v=y.c.old
    .rw[decide_eq_true hv,Bool.not_true,qBf,qHv,qAz];have st:step (ents R) y.c=some (if y.c.has=true then Df.put (ents R) y.c.k y.c.new else Df.del (ents R) y.c.k):=by unfold Df.step;rw[hl];show (if y.c.had=true/\v=y.c.old then _ else _)=_;rw[if_pos ⟨hh,hv⟩]
     refine⟨nc,qAe.2 ⟨jl,rfl,rfl,⟨_,a2,?_⟩⟩⟩;cases hs:y.c.has with
     | true =>
      rw[qBi];refine⟨nc,qAe.2 ⟨jl,rfl,rfl,Qh a0 ⟨nc,qAe.2 ⟨jl,rfl,rfl,Qh a4 ?_⟩⟩⟩⟩;refine mput_ok m upR hn yk yn (by omega) (by omega) (by omega) (by omega) λh' s' R' f' m' e1 l=>qI0 λ_=>qAy.2 ?_;rw[i1];exact putK _ ⟨rfl,rfl,rfl,rfl,trivial⟩ h' s' R' f' m' (by rw[st,hs,if_pos rfl,e1]) (by rw[e1];exact upPut _) l
     | false =>rw[qAz];refine⟨nc,qAe.2 ⟨jl,rfl,rfl,Qh a0 ?_⟩⟩;refine mdel_ok m upR hn yk (by omega) (by omega) λb h' s' R' f' m' e1 l=>?_;rw[qA1];refine qDf.2 (qAy.2 ?_);rw[i1];exact putK _ ⟨rfl,rfl,rfl,rfl,trivial⟩ h' s' R' f' m' (by rw[st,hs,if_neg (by decide),e1]) (by rw[e1];exact upDel) (by omega)
    .rw[decide_eq_false hv,Bool.not_false,qBf,qHv,qBi];exact no (by unfold Df.step;rw[hl];show (if y.c.had=true/\v=y.c.old then _ else _)=_;rw[if_neg λq=>hv q.2])
 .refine Qr (n:=80) [(6,.pv false M 0)] ⟨rfl,rfl,trivial⟩ λd'=>(qCp _ _ _ _ _ _).mpr ?_;rw[List.drop_eq_nil_of_le (by rw[zJ0];omega)] at hst;have hst:steps (ents X) (Y.map CR.c)=some (ents R):=hst;exact⟨rfl,rfl,rfl,m.var.ldL s rfl (good h3 s R f m.ents hst (by omega))⟩
end
end DfN
namespace DfN
open Go Go.X Go.X.Df Go.Proofs
section
variable {S:QW} [GoodS S] {lf n:Nat} {h g0:Q0} {K:ZK} {Y:List CR}
theorem rback_ok {a:SL} (ha:Chgs h a Y) (mY:∀y,y∈Y->Mc y.c) (lY:Y.length<=1048576) (hlf:4000000<lf)
  (hk:∀h' s (R:List CR),Q5 Qa h h'->Chgs h' s R->R.map CR.c=Y.map (λy=>back y.c)->K (.sl s) h') :
  Qq Try.prog S lf (n+2) 22 [.sl a] K h:=by
 refine QJ (hSD (by decide) (by decide)) (by kernel_rfl) ?_;rw[rback_nf];have la:=ha.len (by decide)
 refine Qy.inv (λq z h'=>∃(j:Nat) (s:SL) (R:List CR),ZAt 44 [(0,.sl a),(3,.sl s),(4,.int .i64 (j:Int))] z/\Q5 Qa h h'/\Grown h h' s 5 R.length (R.flatMap CR.row)/\(∀y,y∈R->y.Rd h'/\∀t,t∈y.sls->t.nil=false->s.nil=false->t.i≠s.i)/\j+q=Y.length/\R.map CR.c=(Y.take j).map (λy=>back y.c)) (n:=Y.length) (by omega)
  ⟨0,QE,[],⟨rfl,rfl,rfl,rfl,trivial⟩,Q5.refl _ _,Grown.start _ _ _,λy hy=>(by cases hy),by omega,rfl⟩ ?_
 rintro q z h1 kk hq ⟨j,s,R,hz,f,g,hR,hj,heq⟩ ih;refine Qr _ hz λd=>(qBy _ _ _ _ _ _ _ _ _ _ _).mpr ?_;have hfn:=f.next
 rw[ofn la,q9];refine⟨λe=>?_,λe=>?_⟩
 .obtain⟨x,hx⟩:∃x,Y[j]?=some x:=⟨_,zE0 (by omega)⟩;have hxm:=zD0 hx;obtain⟨m1,m2,m3⟩:=mY x hxm;have ha1:=ha.fr f;have na:=ha1.nil_of (by decide) (j:=j) (by omega);have a1:=ha1.len' (by decide) na;have jl:j<a.len:=by omega
  obtain⟨rk,ro,rn⟩:=ha1.ok x hxm;obtain⟨c0,c1,c2,c3,c4⟩:=(ha1.fr ((Q5.refl _ _))).at5 na hx;have hRl:R.length=j:=by
   have:=congrArg List.length heq
   simp only[zJ0,zY0] at this;omega
  refine⟨na,qAe.2 ⟨jl,rfl,rfl,Qh c0 ⟨na,qAe.2 ⟨jl,rfl,rfl,⟨_,c2,⟨na,qAe.2 ⟨jl,rfl,rfl,⟨_,c1,⟨na,qAe.2 ⟨jl,rfl,rfl,Qh c4 ⟨na,qAe.2 ⟨jl,rfl,rfl,Qh c3 ?_⟩⟩⟩⟩⟩⟩⟩⟩⟩⟩⟩⟩;refine j6 rk (by omega) λh2 s2 f2 w2 n2=>?_;rw[qDk];obtain⟨_,d1,d2,d3,d4⟩:=(ha1.fr (f2)).at5 na hx;refine qe ⟨⟨rfl,Qh d3 rfl⟩,⟨rfl,Qh d4 rfl⟩,⟨rfl,⟨_,d1,rfl⟩⟩,⟨rfl,⟨_,d2,rfl⟩⟩,?_⟩;refine j6 (rn.fr f2 λ_=>id) (by omega) λh3 s3 f3 w3 n3=>?_;rw[qDk];have F3:=f2.trans f3;obtain⟨_,d1,d2,d3,d4⟩:=(ha1.fr (F3)).at5 na hx;refine qe ⟨⟨rfl,Qh d3 rfl⟩,⟨rfl,⟨_,d1,rfl⟩⟩,⟨rfl,⟨_,d2,rfl⟩⟩,?_⟩;refine j6 (ro.fr F3 λ_=>id) (by omega) λh4 s4 f4 w4 n4=>?_;rw[qDk];have F4:=F3.trans f4;obtain⟨_,d1,d2,d3,d4⟩:=(ha1.fr (F4)).at5 na hx;refine qe ⟨⟨rfl,⟨_,d1,rfl⟩⟩,⟨rfl,⟨_,d2,rfl⟩⟩,?_⟩
  let y:CR:=⟨s2,s3,s4,back x.c⟩
  have f5:Q5 Qa h4 (h4.newO (.cells y.row 5 false false)):=Q5.newO _ _ _;have sg:Seg (h4.newO (.cells y.row 5 false false)) ⟨false,h4.next,0,1,1,false⟩ 5 y.row:=Seg.own (more:=[]) rfl (zO0 _) (by rw[zS0];exact Ql _ _);have n5:(h4.newO (.cells y.row 5 false false)).next=h4.next+1:=rfl
  have F5:=F4.trans f5;have yr:y.Rd (h4.newO (.cells y.row 5 false false)):=⟨((w2.byts.fr f3 λ_=>id).fr f4 λ_=>id).fr f5 λ_=>id,(w3.byts.fr f4 λ_=>id).fr f5 λ_=>id,w4.byts.fr f5 λ_=>id⟩;have hn2:=f2.next
  have hn3:=f3.next
  have hn4:=f4.next
  have slt:s.nil=false->h.next<=s.i/\s.i<h1.next:=λe1=>by
   rcases g.2 with ⟨_,rfl⟩ | ⟨_,_,_,_,_,h6,h7,_⟩
   .cases e1
   .exact⟨h6,h7⟩
  have ynew:∀t,t∈y.sls->t.nil=false->h1.next<=t.i/\t.i<h4.next:=λt ht e1=>by
   simp only[CR.sls,zL0,zM0,or_false] at ht;rcases ht with rfl | rfl | rfl
   .have:=(w2.own e1).1;have:=w2.byts.seg.lt e1;omega
   .have:=(w3.own e1).1;have:=w3.byts.seg.lt e1;omega
   .have:=(w4.own e1).1;have:=w4.byts.seg.lt e1;omega
  show jY (h4.newO (.cells y.row 5 false false)) _ 5 λds_1=>jz Try.prog (h4.newO (.cells y.row 5 false false)) s 54 5 1 ds_1 _;refine sg.zsrc (Grown.append1 (k:=1) (g.fr F5 λ_=>id) (by omega) (by decide) rfl y.plain (qYe (by omega)) λg6 f6 hi=>qAy.2 ?_);rw[QD (e:=(j:Int)+1) (by omega) (by omega)];have rdfr:∀w:CR,w.Rd (h4.newO (.cells y.row 5 false false))->(∀t,t∈w.sls->t.nil=false->s.nil=false->t.i≠s.i)->w.Rd _:=λw r hs=>⟨r.1.fr f6 λe1 ⟨q1,q2⟩=>hs _ (by simp[CR.sls]) e1 q1 q2,r.2.1.fr f6 λe1 ⟨q1,q2⟩=>hs _ (by simp[CR.sls]) e1 q1 q2,r.2.2.fr f6 λe1 ⟨q1,q2⟩=>hs _ (by simp[CR.sls]) e1 q1 q2⟩;refine ih (q-1) _ _ (by omega) ⟨j+1,s.app (h4.newO (.cells y.row 5 false false)).next 1,R++[y],⟨rfl,rfl,rfl,rfl,trivial⟩,(f.trans F5).back f6 λi hi' ⟨e1,e2⟩=>?_,?_,λw hw=>?_,by omega,?_⟩
  .have:=(slt e1).1;omega
  .rw[zC0,zT0]
   have:List.flatMap CR.row [y]=y.row:=by simp
   rw[this];exact g6
  .rcases List.mem_append.1 hw with h8 | h8
   .obtain⟨r1,r2⟩:=hR w h8;refine⟨rdfr w (r1.fr F5) r2,λt ht e1 _=>?_⟩
    have:t.i<h1.next:=by
     simp only[CR.sls,zL0,zM0,or_false] at ht;rcases ht with rfl | rfl | rfl
     .exact r1.1.seg.lt e1
     .exact r1.2.1.seg.lt e1
     .exact r1.2.2.seg.lt e1
    omega
   .rw[List.mem_singleton.1 h8];refine⟨rdfr y yr λt ht e1 e2=>?_,λt ht e1 _=>?_⟩
    .have:=(ynew t ht e1).1;have:=(slt e2).2;omega
    .have:=(ynew t ht e1).2;omega
  .rw[zW0,heq,List.take_add_one,hx];simp[y]
 .refine Qr (n:=44) [(3,.sl s)] ⟨rfl,rfl,trivial⟩ λd'=>(qDq _ _ _ _ _ _).mpr ?_;rw[List.take_of_length_le (by omega)] at heq;exact hk _ s R f ⟨g.seg,λ_ _=>rfl,λy hy=>(hR y hy).1⟩ heq
end
end DfN
namespace DfN
open Go Go.X Go.X.Df Go.Proofs
section
variable {S:QW} [GoodS S] {lf n:Nat} {h:Q0} {K:ZK} {X:List ER} {Y:List CR}
theorem back_ok {a:SL} (h20:S 20=none) (ha:Chgs h a Y) (hs:∀y,y∈Y->qDh y.c) (hlen:Y.length<8589934592) (hlf:Y.length<lf)
  (hk:∀h' s (R:List CR),Q5 Qa h h'->Grown h h' s 5 R.length (R.flatMap CR.row)->(∀y,y∈R->y.Ok h h')->(R.flatMap CR.sls).Pairwise SlLt->R.map CR.c=Y.map (λy=>back y.c)->K (.sl s) h') :
  Qq Try.prog S lf (n+2) 20 [.sl a] K h:=by
 refine QJ h20 (by kernel_rfl) ?_;rw[back_nf];have la:=ha.len (by decide);have ea:(Int.ofNat a.n:Int)=a.n:=rfl
 refine Qy.inv (λq z h'=>∃(j:Nat) (s:SL) (R:List CR),ZAt 31 [(3,.sl s),(6,.sl a),(7,.int .i64 (Int.ofNat a.n)),(8,.int .i64 (j:Int))] z/\Q5 Qa h h'/\Grown h h' s 5 R.length (R.flatMap CR.row)/\(∀y,y∈R->y.Ok h h')/\(R.flatMap CR.sls).Pairwise SlLt/\(s.nil=false->R≠[])/\j+q=Y.length/\R.map CR.c=(Y.take j).map (λy=>back y.c)) (n:=Y.length) hlf
  ⟨0,QE,[],⟨rfl,rfl,rfl,rfl,rfl,trivial⟩,Q5.refl _ _,Grown.start _ _ _,λy hy=>(by cases hy),.nil,λe=>(by cases e),by omega,rfl⟩ ?_
 rintro q z h1 kk hq ⟨j,s,R,hz,f,g,hR,hP,hne,hj,heq⟩ ih;refine Qr _ hz λd=>(qCg _ _ _ _ _ _ _ _ _ _ _ _).mpr ?_;have hfn:=f.next
 rw[q9];refine⟨λe=>?_,λe=>?_⟩
 .have hjx:j<Y.length:=by omega
  have na:=ha.nil_of (by decide) hjx;have a1:=ha.len' (by decide) na;obtain⟨x,hx⟩:∃x,Y[j]?=some x:=⟨_,zE0 hjx⟩;have hxm:=zD0 hx;obtain⟨sk,so,sn⟩:=hs x hxm;have ha1:=ha.fr f;obtain⟨rk,ro,rn⟩:=ha1.ok x hxm;have c0:=ha1.at' na hx (q:=0) (by decide) (v:=x.ks.av) rfl;have c1:=ha1.at' na hx (q:=1) (by decide) (v:=.bool x.c.had) rfl;have c2:=ha1.at' na hx (q:=2) (by decide) (v:=.bool x.c.has) rfl;have c3:=ha1.at' na hx (q:=3) (by decide) (v:=x.os.av) rfl;have c4:=ha1.at' na hx (q:=4) (by decide) (v:=x.ns.av) rfl;have hRl:R.length=j:=by
   have:=congrArg List.length heq
   simp only[zJ0,zY0] at this;omega
  refine⟨na,qAe.2 ⟨by omega,rfl,Qh c0 ⟨_,c1,⟨_,c2,Qh c3 (Qh c4 ⟨rfl,?_⟩)⟩⟩⟩⟩;have v1:=Var.new h1 [AV.nils,AV.bool false,AV.bool false,AV.nils,AV.nils];have f1:Q5 Qa h1 (h1.newO (.cells [AV.nils,AV.bool false,AV.bool false,AV.nils,AV.nils] 0 false false)):=Q5.newO _ _ _;refine v1.zput (by simp) ?_;rw[show [x.ks.av,AV.bool x.c.had,AV.bool x.c.has,x.os.av,x.ns.av]=x.row from rfl];have v2:Var (hput (h1.newO (.cells [AV.nils,AV.bool false,AV.bool false,AV.nils,AV.nils] 0 false false)) h1.next 0 x.row) h1.next x.row:=Var.put_all v1 rfl
  have f2:=Q5.back f1 (v1.put_fr 0 x.row) λi hi e=>by omega
  have hn2:(hput (h1.newO (.cells [AV.nils,AV.bool false,AV.bool false,AV.nils,AV.nils] 0 false false)) h1.next 0 x.row).next=h1.next+1:=by rw[qg];rfl
  generalize hput (h1.newO (.cells [AV.nils,AV.bool false,AV.bool false,AV.nils,AV.nils] 0 false false)) h1.next 0 x.row=h2 at v2 f2 hn2 ⊢
  clear v1 f1;refine⟨rfl,rfl,v2.ldL x.ks rfl ⟨rfl,rfl,v2.ldB x.c.has rfl ⟨rfl,rfl,v2.ldB x.c.had rfl ⟨rfl,rfl,v2.ldL x.ns rfl ⟨rfl,rfl,v2.ldL x.os rfl ?_⟩⟩⟩⟩⟩;refine qMm (rk.fr f2 λ_=>id) sk λh3 s3 f3 w3=>?_;rw[qDk];have v3:=v2.fr f3 id;refine qe ⟨⟨rfl,v3.ldL x.os rfl rfl⟩,⟨rfl,v3.ldL x.ns rfl rfl⟩,⟨rfl,v3.ldB x.c.had rfl rfl⟩,⟨rfl,v3.ldB x.c.has rfl rfl⟩,?_⟩;refine qMm ((rn.fr f2 λ_=>id).fr f3 λ_=>id) sn λh4 s4 f4 w4=>?_;rw[qDk];have v4:=v3.fr f4 id;refine qe ⟨⟨rfl,v4.ldL x.os rfl rfl⟩,⟨rfl,v4.ldB x.c.had rfl rfl⟩,⟨rfl,v4.ldB x.c.has rfl rfl⟩,?_⟩;refine qMm (((ro.fr f2 λ_=>id).fr f3 λ_=>id).fr f4 λ_=>id) so λh5 s5 f5 w5=>?_;rw[qDk];have v5:=v4.fr f5 id;refine qe ⟨⟨rfl,v5.ldB x.c.had rfl rfl⟩,⟨rfl,v5.ldB x.c.has rfl rfl⟩,?_⟩
  let y:CR:=⟨s3,s4,s5,back x.c⟩
  have hn3:=f3.next
  have hn4:=f4.next
  have hn5:=f5.next
  have pw:((R++[y]).flatMap CR.sls).Pairwise SlLt:=by
   rw[zT0,zQ0];refine⟨hP,?_,λs hs t ht e1 e2=>?_⟩
   .simp only[zU0,List.flatMap_nil,zS0,CR.sls,zR0,zL0,zM0,or_false,forall_eq_or_imp,forall_eq,List.Pairwise.nil,and_true,false_implies,implies_true];exact⟨⟨λe e'=>by have:=w3.byts.seg.lt e;have:=(w4.own e').1;show s3.i<s4.i;omega,λe e'=>by have:=w3.byts.seg.lt e;have:=(w5.own e').1;show s3.i<s5.i;omega⟩,λe e'=>by have:=w4.byts.seg.lt e;have:=(w5.own e').1;show s4.i<s5.i;omega⟩
   .have h1:=sls_lt hR s hs e1;simp only[zU0,List.flatMap_nil,zS0,CR.sls,zL0,zM0,or_false] at ht;rcases ht with rfl | rfl | rfl
    .have:=(w3.own e2).1;omega
    .have:=(w4.own e2).1;omega
    .have:=(w5.own e2).1;omega
  have yo:y.Ok h h5:=⟨((w3.fr f4 λ_=>id).fr f5 λ_=>id).of (by omega),(w4.fr f5 λ_=>id).of (by omega),w5.of (by omega)⟩;rw[show [s3.av,AV.bool x.c.has,AV.bool x.c.had,s4.av,s5.av]=y.row from rfl];have F5:Q5 Qa h1 h5:=((f2.trans f3).trans f4).trans f5;have f6:Q5 Qa h5 (h5.newO (.cells y.row 5 false false)):=Q5.newO _ _ _;have sg:Seg (h5.newO (.cells y.row 5 false false)) ⟨false,h5.next,0,1,1,false⟩ 5 y.row:=Seg.own (more:=[]) rfl (zO0 _) (by rw[zS0];exact Ql _ _);have hn6:(h5.newO (.cells y.row 5 false false)).next=h5.next+1:=rfl
  have g6:=(g.fr F5 λ_=>id).fr f6 λ_=>id;refine sg.zsrc (g6.append1 (by omega) (by decide) rfl y.plain (qYe (by omega)) λg7 f7 _=>qAy.2 ?_);rw[QD (e:=(j:Int)+1) (by omega) (by omega)];have rowne:∀i,(s.nil=false/\i=s.i)->∀q k,qy h (h5.newO (.cells y.row 5 false false)) q k->q.nil=false->i≠q.i:=λi ⟨e1,e2⟩ q k w e=>by rw[e2];exact (row_ne g6 (hne e1) w e1 e).symm
  refine ih (q-1) _ _ (by omega) ⟨j+1,s.app (h5.newO (.cells y.row 5 false false)).next 1,R++[y],⟨rfl,rfl,rfl,rfl,rfl,trivial⟩,((f.trans F5).trans f6).back f7 λi hi ⟨e1,e2⟩=>?_,?_,λw hw=>?_,pw,λ_=>by simp,by omega,?_⟩
  .rcases g.2 with ⟨_,rfl⟩ | ⟨_,_,_,_,_,h6',_⟩
   .cases e1
   .omega
  .rw[zC0,zT0]
   have:List.flatMap CR.row [y]=y.row:=by simp
   rw[this];exact g7
  .rcases List.mem_append.1 hw with h8 | h8
   .exact (((hR w h8).fr F5 λ_ e=>e.elim).fr f6 λ_ e=>e.elim).fr' f7 rowne
   .rw[List.mem_singleton.1 h8];exact (yo.fr f6 λ_ e=>e.elim).fr' f7 rowne
  .rw[zW0,heq,List.take_add_one,hx];simp[y]
 .refine Qr (n:=31) [(3,.sl s)] ⟨rfl,rfl,trivial⟩ λd'=>(back_a111 _ _ _ _ _ _).mpr ?_;rw[List.take_of_length_le (by omega)] at heq;exact hk _ s R f g hR hP heq
end
end DfN
namespace DfN
open Go Go.X Go.X.Df Go.Proofs
section
variable {S:QW} [GoodS S] {lf n:Nat} {h:Q0} {K:ZK}
structure YS (L o:Nat) (r0:qV) (gB h:Q0) (ss:List Ky):Prop where
 loop:h.get L=some (.loop r0)
 lt:L<h.next
 ne:L≠o
 below:L<gB.next/\o<gB.next
 at':∃s,Var h o [s.av]/\Grown gB h s 1 ss.length (ss.map AV.str)/\(s.nil=true->s.ext=false)
theorem room9 {k:Nat} (h:k<=8589934592):jy Try.prog 9 k=true:=by
 have e0:qJ4 Try.prog 9=some 16:=by kernel_rfl
 unfold jy;rw[e0];show cnd (Nat.ble (Nat.mul k 16) jX) (Nat.ble k jX) false=true;have e1:Nat.ble (Nat.mul k 16) jX=true:=zG0 (by show k*16<=1099511627776;omega);have e2:Nat.ble k jX=true:=zG0 (by show k<=1099511627776;omega);rw[e1,e2];rfl
variable {L o:Nat} {gB:Q0} {r0:qV} {ss:List Ky}
theorem YS.fr (y:YS L o r0 gB h ss) {S:Nat->Prop} {h':Q0} (f:Q5 S h h') (hs:∀i,S i->i<gB.next/\i≠L/\i≠o):YS L o r0 gB h' ss:=by
 obtain⟨s,v,g,he⟩:=y.at';refine⟨(f.same _ y.lt λe=>(hs _ e).2.1 rfl).trans y.loop,zF0 y.lt f.next,y.ne,y.below,⟨s,v.fr f λe=>(hs _ e).2.2 rfl,?_,he⟩⟩;refine g.fr f λe1 e2=>?_;rcases g.2 with ⟨_,rfl⟩ | ⟨_,_,_,_,_,h6,_⟩
 .cases e1
 .have:=(hs _ e2).1;omega
def seqR (t:TT) (d:Nat):qV:=⟨.ready,.normal,53,t,[13,7],j9 Try.prog 53 [1,0,1,0,0],j9 Try.prog 53 [1,0,1,0,1],d⟩
theorem yieldS_ok {t:TT} {z:ZT} {dd:Nat} (y:YS L o (seqR t dd) gB h ss) (ag:Agr t z) (hz:ZAt 13 [(2,.pv false o 0)] z) {x:Ky} (hl:ss.length<8589934592) (hgn:gB.next<=h.next)
  (hk:∀h',Q5 (λi=>i=L∨i=o∨gB.next<=i) h h'->(∀i,gB.next<=i->i<h.next->(∃a b,h.get i=some (.map a b))∨(∃a b c d,h.get i=some (.mapIter a b c d))->h'.get i=h.get i)->YS L o (seqR t dd) gB h' (ss++[x])->K (.bool true) h') :
  Qq Try.prog S lf (n+1) (93+L) [.str x] K h:=by
 have e93:(93+L:Nat)=rndId Try.prog L:=by unfold rndId;rw[show Try.prog.funcs.size=93 by kernel_rfl]
 rw[e93];obtain⟨d,rfl⟩:=hz.tab;refine zRound_at ⟨seqR t dd,13,[7],_,y.loop,rfl,by decide,ag,?_⟩;have e16:QC Try.prog 53=13:=by kernel_rfl
 have hr:=appseq_r (Qq Try.prog S lf n) lf L K h o x d;rw[e16] at hr;refine hr.mpr ?_;clear hr;obtain⟨s,vo,g,he⟩:=y.at';obtain⟨b1,b2⟩:=y.below;have hyl:=y.lt;refine⟨seqR t dd,y.loop,y.lt,rfl,rfl,?_⟩;generalize hh3:h.put L _=h3;have f3:Q5 (λi=>i=L) h h3:=by rw[<- hh3];exact Q5.put h _ λ_=>rfl
 have hn3:h3.next=h.next:=by rw[<- hh3];rfl
 have l3:h3.get L=some (.loop ⟨.busy,.normal,53,t,[13,7],j9 Try.prog 53 [1,0,1,0,0],j9 Try.prog 53 [1,0,1,0,1],dd⟩):=by rw[<- hh3];exact qD1 _ _ _
 clear hh3;have hnl:s.nil=false->s.i<gB.next->False:=λe1 e2=>by
  rcases g.2 with ⟨_,rfl⟩ | ⟨_,_,_,_,_,h6,_⟩
  .cases e1
  .omega
 have vo3:=vo.fr f3 (Ne.symm y.ne);have g3:=g.fr f3 λe1 e2=>hnl e1 (by omega);refine vo3.ldL s rfl ?_;have f4:Q5 Qa h3 (h3.newO (.cells [AV.str x] 1 false false)):=Q5.newO _ _ _;have sg:Seg (h3.newO (.cells [AV.str x] 1 false false)) ⟨false,h3.next,0,1,1,false⟩ 1 [AV.str x]:=Seg.own (more:=[]) rfl (zO0 _) (by rw[zS0];exact Ql _ _);refine sg.zsrc ?_;have g4:=g3.fr f4 λ_=>id;have vo4:=vo3.fr f4 id;have l4:=(f4.same L (by omega) id).trans l3;have hn4:(h3.newO (.cells [AV.str x] 1 false false)).next=h3.next+1:=rfl
 generalize hh4:h3.newO (.cells [AV.str x] 1 false false)=h4 at f4 g4 vo4 l4 hn4 ⊢;refine g4.append1 (by omega) (by decide) rfl rfl (room9 (by omega)) λg5 f5 hi5=>?_;have hcell:s.nil=false->∃c e g m,h4.get s.i=some (.cells c e g m):=λe1=>by
  rcases g4.2 with ⟨_,rfl⟩ | ⟨_,_,_,_,_,_,_,h8⟩
  .cases e1
  .exact⟨_,_,_,_,h8⟩
 generalize Qx h4 s 1 1 [AV.str x]=h5 at g5 f5 ⊢;have vo5:=vo4.fr f5 λ⟨e1,e2⟩=>hnl e1 (by omega);refine⟨rfl,vo5.zput (by simp) ?_⟩;generalize hs':s.app _ 1=s' at g5 hi5 ⊢;have vo6:Var (hput h5 o 0 [s'.av]) o [s'.av]:=Var.put_all vo5 rfl;have f6:=vo5.put_fr 0 [s'.av];have hn6:(hput h5 o 0 [s'.av]).next=h5.next:=qg _ _ _ _
 generalize hput h5 o 0 [s'.av]=h6 at vo6 f6 hn6 ⊢;have hn5:=f5.next
 have l5:=(f5.same L (by omega) λ⟨e1,e2⟩=>hnl e1 (by omega)).trans l4;have l6:=(f6.same L (by omega) y.ne).trans l5;refine⟨_,l6,by omega,?_⟩;show K (.bool true) (h6.put L (some (.loop (seqR t dd))));have f7:Q5 (λi=>i=L) h6 (h6.put L (some (.loop (seqR t dd)))):=Q5.put h6 _ λ_=>rfl;have hsi':s'.nil=false->gB.next<=s'.i:=λe=>by
  rcases g5.2 with ⟨_,rfl⟩ | ⟨_,_,_,_,_,h6',_⟩
  .cases e
  .exact h6'
 have hs0:s'.nil=true->s'.ext=false:=λe=>by
  rcases g5.2 with ⟨h0,_⟩ | ⟨h1,_⟩
  .omega
  .rw[h1] at e;cases e
 have same:∀i,i<h.next->i≠L->i≠o->(s.nil=false->i≠s.i)->(h6.put L (some (.loop (seqR t dd)))).get i=h.get i:=λi hi h1 h2 h3'=>by rw[f7.same i (by omega) h1,f6.same i (by omega) h2,f5.same i (by omega) λ⟨e1,e2⟩=>h3' e1 e2,f4.same i (by omega) id,f3.same i (by omega) h1]
 refine hk _ ?_ (λi hi hin hm=>?_) ⟨qD1 _ _ _,by show L<h6.next;omega,y.ne,y.below,⟨s',vo6.fr f7 (Ne.symm y.ne),?_,hs0⟩⟩
 .refine⟨?_,λi hi ht=>?_⟩
  .show h.next<=h6.next
   omega
  .have ht3:i<gB.next:=Nat.lt_of_not_le λe=>ht (.inr (.inr e))
   exact same i hi (λe=>ht (.inl e)) (λe=>ht (.inr (.inl e))) λe1 e2=>hnl e1 (by omega)
 .refine same i hin (by omega) (by omega) λe1 e2=>?_;obtain⟨c,e,g',m,hc⟩:=hcell e1;have hsl:s.i<h.next:=by omega
  have:h4.get s.i=h.get s.i:=by rw[f4.same _ (by omega) id,f3.same _ hsl (by omega)]
  rw[this,<- e2] at hc;rcases hm with ⟨a,b,hm⟩ | ⟨a,b,c',d',hm⟩ <;> rw[hm] at hc <;> cases hc
 .rw[zC0,zW0];exact (g5.fr f6 λe1 e2=>by have:=hsi' e1;omega).fr f7 λe1 e2=>by have:=hsi' e1;omega
theorem fin46 (K:ZK) (z:ZT) (h:Q0):Q3 Try.prog 46 K z h=K (.tup []) h:=by kernel_rfl
theorem mrows_at {β:Type} {av:β->AV} {m:List (Ky × β)} {j:Nat} {x:AV × AV} (h:(Q7 av m)[j]?=some x):∃e,m[j]?=some e/\x=(.str e.1,av e.2):=by unfold Q7 at h;rw[zV0] at h;obtain⟨e,h1,h2⟩:=Option.map_eq_some_iff.1 h;exact⟨e,h1,h2.symm⟩
theorem qCq {β:Type} {av:β->AV} (m:List (Ky × β)) (j:Nat):(Q7 av m).eraseIdx j=Q7 av (m.eraseIdx j):=by
 unfold Q7
 induction m generalizing j with
 | nil=>rfl
 | cons e m ih=>cases j with
  | zero=>rfl
  | succ j=>rw[List.map_cons,List.eraseIdx_cons_succ,List.eraseIdx_cons_succ,List.map_cons,ih]
theorem qBt {α:Type}:∀{l:List α} {j:Nat} {e:α},l[j]?=some e->(e::l.eraseIdx j).Perm l
 | [],_,_,h=>by cases h
 | a::l,0,e,h=>by cases h;exact List.Perm.refl _
 | a::l,j+1,e,h=>by rw[List.eraseIdx_cons_succ];exact (List.Perm.swap a e _).trans ((qBt (by simpa using h)).cons a)
theorem keysr_ok {β:Type} {av:β->AV} {m:List (Ky × β)} {t:TT} {zL:ZT} {dd p M ver:Nat} (ag:Agr t zL) (hzL:ZAt 13 [(2,.pv false o 0)] zL) (y:YS L o (seqR t dd) gB h []) (hg:gB.next<=h.next)
  (vp:Var h p [AV.map M]) (hM:h.get M=some (.map (Q7 av m) ver)) (hMl:M<gB.next) (nM:M≠L/\M≠o) (hlen:m.length<8589934592) (hlf:m.length<lf)
  (hk:∀h' ss,Q5 (λi=>i=L∨i=o∨gB.next<=i) h h'->YS L o (seqR t dd) gB h' ss->ss.Perm (m.map Prod.fst)->K (.tup []) h') :
  Qq Try.prog S lf (n+2) 46 [.fn (.yield L) [] [],.pv false p 0] K h:=by
 refine QJ (hSD (by decide) (by decide)) (by kernel_rfl) ?_;rw[keysr_nf];refine⟨rfl,vp.ldM false M (by simp) ⟨rfl,⟨Q7 av m,ver,hM,?_⟩⟩⟩;have f1:Q5 Qa h (h.newO (.mapIter M ver (Q7 av m) .junk)):=Q5.newO _ _ _
 refine Qy.inv (λq z h'=>∃(left:List (Ky × β)) (cur:AV) (ss:List Ky),ZAt 14 [(0,.fn (.yield L) [] []),(5,.pv false h.next 0)] z/\Q5 (λi=>i=L∨i=o∨gB.next<=i) h h'/\YS L o (seqR t dd) gB h' ss/\h'.get h.next=some (.mapIter M ver (Q7 av left) cur)/\h.next<h'.next /\
   left.length=q/\(ss++left.map Prod.fst).Perm (m.map Prod.fst)) (n:=m.length) hlf
  ⟨m,.junk,[],⟨rfl,rfl,rfl,trivial⟩,f1.mono λ_ _ e=>e.elim,y.fr f1 λ_ e=>e.elim,Ql _ _,zO0 _,rfl,by simp⟩ ?_
 rintro q z h2 kk hq ⟨left,cur,ss,hz,f,ys,hit,hin,hl,hp⟩ ih;refine Qr _ hz λd=>(keysr_l _ _ _ _ _ _ _ _ _ _).mpr ?_;have hM2:h2.get M=some (.map (Q7 av m) ver):=(f.same M (by omega) (by rintro (e | e | e);exact nM.1 e;exact nM.2 e;omega)).trans hM;have hpl:=hp.length_eq;simp only[zC0,zJ0] at hpl;obtain⟨b1,b2⟩:=ys.below;refine⟨rfl,rfl,⟨M,ver,Q7 av left,cur,Q7 av m,hit,hin,hM2,λe0=>?_,λj x hx=>?_⟩⟩
 .rw[fin46]
  have:left=[]:=by
   cases left with
   | nil=>rfl
   | cons a l=>cases e0
  subst this;have f3:Q5 (λi=>i=h.next) h2 (h2.put h.next (some .tomb)):=Q5.put h2 _ λ_=>rfl;refine hk _ ss (f.back f3 λi hi e=>by omega) ?_ (by simpa using hp);obtain⟨s,v,g,he⟩:=ys.at';have hsi:s.nil=false->s.i≠h.next:=λe1 e2=>by
   rcases g.2 with ⟨_,rfl⟩ | ⟨_,_,_,_,_,_,_,h8⟩
   .cases e1
   .rw[e2,hit] at h8;cases h8
  exact⟨(f3.same L ys.lt (by omega)).trans ys.loop,ys.lt,ys.ne,ys.below,s,v.fr f3 (by omega),g.fr f3 λe1 e2=>hsi e1 e2,he⟩
 .obtain⟨e,he,rfl⟩:=mrows_at hx;rw[qCq];have hjl:j<left.length:=(List.getElem?_eq_some_iff.1 he).1;have f3:Q5 (λi=>i=h.next) h2 (h2.put h.next (some (.mapIter M ver (Q7 av (left.eraseIdx j)) (.tuple [.str e.1,av e.2])))):=Q5.put h2 _ λ_=>rfl;have i3:(h2.put h.next (some (.mapIter M ver (Q7 av (left.eraseIdx j)) (.tuple [.str e.1,av e.2])))).get h.next=some (.mapIter M ver (Q7 av (left.eraseIdx j)) (.tuple [.str e.1,av e.2])):=qD1 _ _ _
  have hn3:(h2.put h.next (some (.mapIter M ver (Q7 av (left.eraseIdx j)) (.tuple [.str e.1,av e.2])))).next=h2.next:=rfl
  obtain⟨s,v,g,hse⟩:=ys.at';have hsi:s.nil=false->s.i≠h.next:=λe1 e2=>by
   rcases g.2 with ⟨_,rfl⟩ | ⟨_,_,_,_,_,_,_,h8⟩
   .cases e1
   .rw[e2,hit] at h8;cases h8
  generalize h2.put h.next (some (.mapIter M ver (Q7 av (left.eraseIdx j)) (.tuple [.str e.1,av e.2])))=h3 at f3 i3 hn3 ⊢
  have ys3:YS L o (seqR t dd) gB h3 ss:=⟨(f3.same L ys.lt (by omega)).trans ys.loop,by have:=ys.lt;omega,ys.ne,ys.below,s,v.fr f3 (by omega),g.fr f3 λe1 e2=>hsi e1 e2,hse⟩;have hM3:h3.get M=some (.map (Q7 av m) ver):=(f3.same M (by omega) (by omega)).trans hM2;refine⟨rfl,rfl,⟨M,ver,Q7 av (left.eraseIdx j),.str e.1,av e.2,Q7 av m,i3,hM3,zRS_av.2 ?_⟩⟩;have fn:=f.next
  refine yieldS_ok ys3 ag hzL (by omega) (by omega) λh4 f4 keep y4=>?_;rw[qA1];refine qDf.2 ?_;rw[Bool.not_true,qAz];have f4n:=f4.next
  refine ih (q-1) _ _ (by omega) ⟨left.eraseIdx j,.tuple [.str e.1,av e.2],ss++[e.1],⟨rfl,rfl,rfl,trivial⟩,(f.back f3 λi hi e=>by omega).back f4 λi hi e=>e,y4,?_,by omega,?_,?_⟩
  .rw[keep h.next hg (by omega) (.inr ⟨_,_,_,_,i3⟩)];exact i3
  .rw[List.length_eraseIdx,if_pos hjl];omega
  .have h5:(e::left.eraseIdx j).Perm left:=qBt he;have h6:=(h5.map Prod.fst).symm;refine List.Perm.trans ?_ hp;rw[zX0];exact List.Perm.append_left ss h6.symm
end
end DfN
namespace DfN
open Go Go.X Go.X.Df Go.Proofs
class GoodT (S:QW):Prop extends GoodS S where
 sort:S 45=some sortZ
section
variable {S:QW} [GoodT S] {lf n:Nat} {h:Q0} {K:ZK}
theorem appseq_ok {β:Type} {av:β->AV} {m:List (Ky × β)} {p M ver:Nat} (vp:Var h p [AV.map M]) (hM:h.get M=some (.map (Q7 av m) ver)) (hMl:M<h.next) (hlen:m.length<8589934592) (hlf:m.length<lf)
  (hk:∀h' s (ss:List Ky) gB,Q5 Qa h h'->h.next<=gB.next->Grown gB h' s 1 ss.length (ss.map AV.str)->(s.nil=true->s.ext=false)->ss.Perm (m.map Prod.fst)->K (.sl s) h') :
  Qq Try.prog S lf (n+3) 53 [.sl QE,.any (.func (.plain (.func 46)) [] [.ptr p 0])] K h:=by
 refine zCallR_at (hSD (by decide) (by decide)) (by kernel_rfl) ?_;rw[appseq_nf];refine⟨46,[],[.ptr p 0],rfl,by kernel_rfl,λt ag=>?_⟩;show Qq Try.prog S lf (n+2) 46 [.fn (.yield (h.next+1+1)) [] [],.pv false p 0] _ _;have f1:Q5 Qa h (h.newO (.cells [QE.av] 0 false false)):=Q5.newO _ _ _;have v1:=Var.new h [QE.av];have hn1:(h.newO (.cells [QE.av] 0 false false)).next=h.next+1:=rfl
 generalize h.newO (.cells [QE.av] 0 false false)=h1 at f1 v1 hn1 ⊢;have f2:Q5 Qa h1 (h1.newO (.deferred (some []))):=Q5.newO _ _ _;have d2:(h1.newO (.deferred (some []))).get (h.next+1)=some (.deferred (some [])):=by rw[<- hn1];exact Ql _ _
 have hn2:(h1.newO (.deferred (some []))).next=h.next+2:=by show h1.next+1=_;omega
 generalize h1.newO (.deferred (some []))=h2 at f2 d2 hn2 ⊢;show Qq Try.prog S lf (n+2) 46 _ _ (h2.newO (.loop (seqR t h1.next)));have f3:Q5 Qa h2 (h2.newO (.loop (seqR t h1.next))):=Q5.newO _ _ _;have l3:(h2.newO (.loop (seqR t h1.next))).get (h.next+1+1)=some (.loop (seqR t h1.next)):=by rw[show h.next+1+1=h2.next by omega];exact Ql _ _
 have hn3:(h2.newO (.loop (seqR t h1.next))).next=h2.next+1:=rfl
 generalize h2.newO (.loop (seqR t h1.next))=h3 at f3 l3 hn3 ⊢;have F3:=(f1.trans f2).trans f3;have v3:=(v1.fr f2 id).fr f3 id;have y0:YS (h.next+1+1) h.next (seqR t h1.next) h3 h3 []:=⟨l3,by omega,by omega,⟨by omega,by omega⟩,QE,v3,Grown.start _ _ _,λ_=>rfl⟩
 have hpl:=vp.lt;refine keysr_ok ag ⟨rfl,rfl,trivial⟩ y0 (zN0 _) (vp.fr F3 id) ((F3.same M hMl id).trans hM) (by omega) ⟨by omega,by omega⟩ hlen hlf λh4 ss f4 y4 hp=>?_;have f4n:=f4.next
 have F4:Q5 Qa h h4:=F3.back f4 λi hi e=>by rcases e with e | e | e <;> omega
 refine⟨seqR t h1.next,(by have:=y4.loop;rwa [<- hn1] at this),(by have:=y4.lt;rwa [<- hn1] at this),.inl rfl,?_⟩;show zAtR Try.prog (Qq Try.prog S lf (n+2)) lf 53 [1,1] [⟨.yield (h.next+1),[]⟩] _ (qGk Try.prog 53 K) (λD=>⟨[],qGk Try.prog 53 K D⟩) (h4.put (h1.next+1) (some .tomb));rw[hn1];refine zAtR_of (n:=13) [(2,.pv false h.next 0)] ⟨rfl,rfl,trivial⟩ λd=>(qD2 _ _ _ _ _ _ _).mpr ?_;have f5:Q5 (λi=>i=h.next+1+1) h4 (h4.put (h.next+1+1) (some .tomb)):=Q5.put h4 _ λ_=>rfl;have hn5:(h4.put (h.next+1+1) (some .tomb)).next=h4.next:=rfl
 obtain⟨s,vs,g,he⟩:=y4.at';generalize h4.put (h.next+1+1) (some .tomb)=h5 at f5 hn5 ⊢;have vs5:=vs.fr f5 (by omega);refine⟨rfl,vs5.ldL s rfl ⟨?_,by show h.next+1+1<=h5.next;omega,?_⟩⟩
 .rw[f5.same _ (by omega) (by omega),f4.same _ (by omega) (by rintro (e | e | e) <;> omega),f3.same _ (by omega) id];exact d2
 .have f6:Q5 (λi=>i=h.next+1) h5 (h5.put (h.next+1) (some .tomb)):=Q5.put h5 _ λ_=>rfl;generalize h5.put (h.next+1) (some .tomb)=h6 at f6 ⊢;have hsi:s.nil=false->h3.next<=s.i:=λe=>by
   rcases g.2 with ⟨_,rfl⟩ | ⟨_,_,_,_,_,h6',_⟩
   .cases e
   .exact h6'
  exact hk h6 s ss h3 ((F4.back f5 λi hi e=>by omega).back f6 λi hi e=>by omega) (by omega) ((g.fr f5 λe1 e2=>by have:=hsi e1;omega).fr f6 λe1 e2=>by have:=hsi e1;omega) he hp
theorem qDx {β:Type} {av:β->AV} {m:List (Ky × β)} {p M ver:Nat} (vp:Var h p [AV.map M]) (hM:h.get M=some (.map (Q7 av m) ver)) (hMl:M<h.next) (hlen:m.length<8589934592) (hlf:m.length<lf)
  (hk:∀h' s (ss:List Ky) gB,Q5 Qa h h'->h.next<=gB.next->Grown gB h' s 1 ss.length (ss.map AV.str)->(s.nil=true->s.ext=false)->ss.Perm (m.map Prod.fst)->K (.sl s) h') :
  Qq Try.prog S lf (n+4) 44 [.any (.func (.plain (.func 46)) [] [.ptr p 0])] K h:=by
 refine QJ (hSD (by decide) (by decide)) (by kernel_rfl) ?_;rw[qD0];refine appseq_ok vp hM hMl hlen hlf λh' s ss gB h1 h2 h3 h4 h5=>?_;rw[qDk];exact qe (hk h' s ss gB h1 h2 h3 h4 h5)
theorem sorted_ok {β:Type} {av:β->AV} {m:List (Ky × β)} {p M ver:Nat} (vp:Var h p [AV.map M]) (hM:h.get M=some (.map (Q7 av m) ver)) (hMl:M<h.next) (hlen:m.length<8589934592) (hlf:m.length<lf)
  (hr:Rise Prod.fst m) (hb:∀e,e∈m->∀x,x∈e.1->x<256)
  (hk:∀h' s,Q5 Qa h h'->Seg h' s 1 ((m.map Prod.fst).map AV.str)->K (.sl s) h') :
  Qq Try.prog S lf (n+5) 36 [.any (.func (.plain (.func 46)) [] [.ptr p 0])] K h:=by
 refine QJ (hSD (by decide) (by decide)) (by kernel_rfl) ?_;rw[sorted_nf];refine qDx vp hM hMl hlen hlf λh1 s ss gB f1 hg g he hp=>?_;rw[qDk];refine qe ?_;have hs:qAj ss=m.map Prod.fst:=qDj hp (by rw[List.pairwise_map];exact hr) λs hs x hx=>by obtain⟨e,he,rfl⟩:=List.mem_map.1 hs;exact hb e he x hx
 have hl:=hp.length_eq;simp only[zJ0] at hl;refine qI2 (by kernel_rfl) GoodT.sort ?_;rcases g.2 with ⟨h0,rfl⟩ | ⟨a1,a2,a3,a4,a5,a6,a7,a8⟩
 .refine .inl ⟨rfl,rfl,qI0 λ_=>hk h1 _ f1 ?_⟩
  have:m=[]:=List.eq_nil_of_length_eq_zero (by omega)
  subst this;exact Seg.nil _ _ _
 .have hst:strs ((ss.map AV.str).drop s.o |>.take s.len)=ss:=by
   rw[a2,a3,List.drop_zero,List.take_of_length_le (by simp),strs_map]
  refine .inr ⟨a1,ss.map AV.str,1,true,false,a8,a7,⟨?_,?_,by omega,by rw[a2,a3];simp⟩,qI0 λ_=>?_⟩
  .rw[hst,a2,a3,List.drop_zero,List.take_of_length_le (by simp)]
  .rw[hst];exact a3.symm
  .rw[hst,hs];have e1:(ss.map AV.str).take s.o++((m.map Prod.fst).map AV.str++(ss.map AV.str).drop (s.o+s.len))=(m.map Prod.fst).map AV.str:=by
    rw[a2,a3,List.take_zero,List.nil_append,Nat.zero_add,List.drop_of_length_le (by simp),zS0]
   rw[e1];have f2:Q5 (λi=>i=s.i) h1 (h1.put s.i (some (.cells ((m.map Prod.fst).map AV.str) 1 true false))):=Q5.put h1 _ λ_=>rfl;refine hk _ s (f1.back f2 λi hi e=>by omega) ?_;obtain⟨sn,si,so,sl,sc,se⟩:=s;simp only at a1 a2 a3;subst a1;subst a2;subst a3;exact Seg.own (more:=[]) (by simp;omega) a7 (by rw[zS0];exact qD1 _ _ _)
end
end DfN
namespace DfN
open Go Go.X Go.X.Df Go.Proofs
abbrev SV:=SL × Ky
def sav (b:SV):AV:=b.1.av
def cont (m:List (Ky × SV)):List (Ky × Ky):=m.map λe=>(e.1,e.2.2)
theorem cont_look (m:List (Ky × SV)) (k:Ky):Df.look (cont m) k=(Df.look m k).map (·.2):=by
 induction m with
 | nil=>rfl
 | cons e m ih =>
  show (if e.1=k then some e.2.2 else Df.look (cont m) k)=(if e.1=k then some e.2 else Df.look m k).map (·.2);split
  .rfl
  .exact ih
theorem qC6 (m:List (Ky × SV)) (k:Ky) (b:SV):cont (Df.put m k b)=Df.put (cont m) k b.2:=by
 induction m with
 | nil=>rfl
 | cons e m ih =>
  show cont (if e.1=k then (k,b)::m else if Qm k e.1 then (k,b)::e::m else e::Df.put m k b)=(if e.1=k then (k,b.2)::cont m else if Qm k e.1 then (k,b.2)::(e.1,e.2.2)::cont m else (e.1,e.2.2)::Df.put (cont m) k b.2);split
  .rfl
  .split
   .rfl
   .show (e.1,e.2.2)::cont (Df.put m k b)=_;rw[ih]
theorem cont_del (m:List (Ky × SV)) (k:Ky):cont (Df.del m k)=Df.del (cont m) k:=by
 induction m with
 | nil=>rfl
 | cons e m ih =>
  show cont (if e.1=k then m else e::Df.del m k)=(if e.1=k then cont m else (e.1,e.2.2)::Df.del (cont m) k);split
  .rfl
  .show (e.1,e.2.2)::cont (Df.del m k)=_;rw[ih]
theorem look_mem {β:Type} {m:List (Ky × β)} {k:Ky} {b:β} (h:Df.look m k=some b):(k,b)∈m:=by
 induction m with
 | nil=>cases h
 | cons e m ih =>
  have h1:(if e.1=k then some e.2 else Df.look m k)=some b:=h;split at h1
  .rename_i hk;cases h1;rw[<- hk];exact zB0
  .exact zA0 _ (ih h1)
def MOk (h:Q0) (m:List (Ky × SV)):Prop:=∀e,e∈m->(∀x,x∈e.1->x<256)/\qz h e.2.1 e.2.2
theorem MOk.fr {h h':Q0} {m:List (Ky × SV)} (a:MOk h m) (f:Q5 Qa h h'):MOk h' m:=λe he=>⟨(a e he).1,(a e he).2.fr f λ_=>id⟩
theorem MOk.put {h:Q0} {m:List (Ky × SV)} {k:Ky} {b:SV} (a:MOk h m) (hk:∀x,x∈k->x<256) (hb:qz h b.1 b.2):MOk h (Df.put m k b):=λe he=>by
 rcases qBz he with rfl | he
 .exact⟨hk,hb⟩
 .exact a e he
theorem MOk.del {h:Q0} {m:List (Ky × SV)} {k:Ky} (a:MOk h m):MOk h (Df.del m k):=λe he=>a e ((qA3 m k).subset he)
structure MapAt (h:Q0) (M:Nat) (m:List (Ky × SV)):Prop where
 lt:M<h.next
 get:∃ver,h.get M=some (.map (Q7 sav m) ver)
theorem MapAt.fr {h h':Q0} {M:Nat} {m:List (Ky × SV)} {S:Nat->Prop} (a:MapAt h M m) (f:Q5 S h h') (hs:¬S M):MapAt h' M m :=
 ⟨zF0 a.lt f.next,by obtain⟨v,hv⟩:=a.get;exact⟨v,(f.same M a.lt hs).trans hv⟩⟩
theorem MapAt.zmap {h:Q0} {M:Nat} {m:List (Ky × SV)} {k:Ky} {A:Prop} (a:MapAt h M m) (hA:A):ZMap h false M (.str k) A:=by obtain⟨v,hv⟩:=a.get;exact⟨rfl,a.lt,⟨_,_,hv,qCc m k⟩,hA⟩
theorem MapAt.upd {h:Q0} {M:Nat} {m m':List (Ky × SV)} {f:List (AV × AV)->List (AV × AV)} (a:MapAt h M m) (hf:f (Q7 sav m)=Q7 sav m'):MapAt (hmap h M f) M m'/\Q5 (λi=>i=M) h (hmap h M f):=by
 obtain⟨v,hv⟩:=a.get;have e:hmap h M f=h.put M (some (.map (Q7 sav m') (v+1))):=by unfold hmap;rw[hv];show h.put M _=_;rw[hf]
 rw[e];exact⟨⟨a.lt,_,qD1 _ _ _⟩,Q5.put h _ λ_=>rfl⟩
theorem MapAt.zlook {h:Q0} {M:Nat} {m:List (Ky × SV)} {k:Ky} {A:AV->Prop} {B:Prop} (a:MapAt h M m) (hA:∀b,Df.look m k=some b->A b.1.av) (hB:Df.look m k=none->B):ZLook h false M (.str k) A B:=by
 obtain⟨v,hv⟩:=a.get;refine⟨λe=>(by cases e),λ_=>⟨_,_,hv,qCc m k,λw hw=>?_,λhw=>?_⟩⟩
 .rw[qA2] at hw;obtain⟨b,h1,h2⟩:=Option.map_eq_some_iff.1 hw;rw[<- h2];exact hA b h1
 .rw[qA2] at hw;exact hB (Option.map_eq_none_iff.1 hw)
section
variable {S:QW} [GoodT S] {lf n:Nat} {h:Q0} {K:ZK} {X:List ER} {Y:List CR} {a c:SL}
structure Ap (h0 h:Q0) (M:Nat) (m:List (Ky × SV)):Prop where
 at':MapAt h M m
 ok:MOk h m
 rise:Rise Prod.fst m
 fr:Q5 Qa h0 h
 le:h0.next<=M
theorem Ap.go {h0 h h':Q0} {M:Nat} {m:List (Ky × SV)} (s:Ap h0 h M m) (f:Q5 Qa h h'):Ap h0 h' M m:=⟨s.at'.fr f id,s.ok.fr f,s.rise,s.fr.trans f,s.le⟩
theorem byts_ne {h:Q0} {s:SL} {k:Ky} {M:Nat} {es:List (AV × AV)} {v:Nat} (b:qz h s k) (hM:h.get M=some (.map es v)) (e:s.nil=false):s.i≠M:=λe2=>by obtain⟨c,hc,_⟩:=b.seg.src e;unfold qn at hc;rw[e2,hM] at hc;cases hc
theorem qC7 {h:Q0} {M:Nat} {s:SL} {k:Ky} (b:qz h s k) {h':Q0} (f:Q5 (λi=>i=M) h h') {m:List (Ky × SV)} (a:MapAt h M m):qz h' s k:=by obtain⟨v,hv⟩:=a.get;exact b.fr f λe=>byts_ne b hv e
theorem Ap.put {h0 h:Q0} {M:Nat} {m:List (Ky × SV)} {k:Ky} {b:SV} (s:Ap h0 h M m) (hk:∀x,x∈k->x<256) (hb:qz h b.1 b.2):Ap h0 (hmap h M (mset (.str k) b.1.av)) M (Df.put m k b):=by obtain⟨a1,f1⟩:=s.at'.upd (m':=Df.put m k b) (f:=mset (.str k) b.1.av) (mset_rows (av:=sav) s.rise);exact⟨a1,λe he=>⟨((s.ok.put hk hb) e he).1,qC7 ((s.ok.put hk hb) e he).2 f1 s.at'⟩,qC1 s.rise,s.fr.back f1 λi hi e=>by have:=s.le;omega,s.le⟩
theorem Ap.del {h0 h:Q0} {M:Nat} {m:List (Ky × SV)} {k:Ky} (s:Ap h0 h M m):Ap h0 (hmap h M (qIk (.str k))) M (Df.del m k):=by obtain⟨a1,f1⟩:=s.at'.upd (m':=Df.del m k) (f:=qIk (.str k)) qA7;exact⟨a1,λe he=>⟨(s.ok.del e he).1,qC7 (s.ok.del e he).2 f1 s.at'⟩,qC5 s.rise,s.fr.back f1 λi hi e=>by have:=s.le;omega,s.le⟩
structure KO (h0 h:Q0) (s:SL) (k:Ky):Prop where
 is:s=⟨false,s.i,0,k.length,k.length,true⟩
 le:h0.next<=s.i
 lt:s.i<h.next
 get:h.get s.i=some (.cells (ofBytes k) 1 true true)
 byte:∀x,x∈k->x<256
theorem KO.fr {h0 h h':Q0} {s:SL} {k:Ky} {T:Nat->Prop} (x:KO h0 h s k) (f:Q5 T h h') (hs:¬T s.i):KO h0 h' s k :=
 ⟨x.is,x.le,zF0 x.lt f.next,(f.same _ x.lt hs).trans x.get,x.byte⟩
theorem KO.nn {h0 h:Q0} {s:SL} {k:Ky} (x:KO h0 h s k):s.nil=false:=by rw[x.is]
theorem KO.byts {h0 h:Q0} {s:SL} {k:Ky} (x:KO h0 h s k):qz h s k:=by rw[x.is];exact⟨Seg.own (more:=[]) (by rw[Qt,zC1]) x.lt (by rw[zS0];exact x.get),x.byte⟩
theorem qBx {gB h:Q0} {s:SL} {q i:Nat} {R:List ER} {c:List AV} {m g':Bool} (g:Grown gB h s 2 q (R.flatMap ER.row)) (hs:s.nil=false) (hg:h.get i=some (.cells c 1 g' m)):i≠s.i:=by
 intro e;rcases g.2 with ⟨_,rfl⟩ | ⟨_,_,_,_,_,_,_,h8⟩
 .cases hs
 .rw[e,h8] at hg;cases hg
theorem qAg {h0 h:Q0} {s:SL} {k:Ky} (w:qy h0 h s k) (e:s.nil=false):∃c m,h.get s.i=some (.cells c 1 false m):=by obtain⟨_,_,_,c,m,hg,_⟩:=w.own e;exact⟨c,m,hg⟩
def ER.Om (h0 h:Q0) (x:ER):Prop:=KO h0 h x.ks x.e.1/\qy h0 h x.vs x.e.2
theorem ER.Om.ok {h0 h:Q0} {x:ER} (a:x.Om h0 h):x.Ok h:=⟨a.1.byts,a.2.byts⟩
def ER.sls (x:ER):List SL:=[x.ks,x.vs]
theorem esls_lt {h0 h:Q0} {R:List ER} (ok:∀y,y∈R->y.Om h0 h):∀s,s∈R.flatMap ER.sls->s.nil=false->s.i<h.next:=λs hs e=>by
 obtain⟨y,hy,hs⟩:=List.mem_flatMap.1 hs;have w:=ok y hy;simp only[ER.sls,zL0,zM0,or_false] at hs;rcases hs with rfl | rfl
 .exact w.1.lt
 .exact w.2.byts.seg.lt e
theorem tail_ok {h0:Q0} {M:Nat} {m:List (Ky × SV)} {z:ZT} (hz:ZAt 91 [(6,.mp false M)] z) (s:Ap h0 h M m) (hlen:m.length<8589934592) (hlf:m.length<lf) (hsm:∀e,e∈m->e.1.length<=4294967296/\e.2.2.length<=4294967296)
  (hk:∀h' s R gB,Q5 Qa h0 h'->h0.next<=gB.next->Grown gB h' s 2 R.length (R.flatMap ER.row)->(∀x,x∈R->x.Om gB h')->(R.flatMap ER.sls).Pairwise SlLt->ents R=cont m->K (.tup [.sl s,.int .i64 0]) h') :
  zAt Try.prog (Qq Try.prog S lf (n+5)) lf 19 [1,1,1,1] z (Q3 Try.prog 19 K) ⟨[],Q3 Try.prog 19 K⟩ h:=by
 refine Qr _ hz λd=>(qCw _ _ _ _ _ _ _).mpr ?_;refine QJ (f:=37) (n:=n+4) (hSD (by decide) (by decide)) (by kernel_rfl) ?_;rw[keys_nf];have f1:Q5 Qa h (h.newO (.cells [AV.map M] 0 false false)):=Q5.newO _ _ _;have v1:=Var.new h [AV.map M];have s1:=s.go f1;show Qq Try.prog S lf (n+5) 36 [.any (ZV.fn (.plain (.func 46)) [] [.pv false h.next 0]).av] _ (h.newO (.cells [AV.map M] 0 false false));have eav:(ZV.fn (.plain (.func 46)) [] [.pv false h.next 0]).av=.func (.plain (.func 46)) [] [.ptr h.next 0]:=by simp
 rw[eav];generalize h.newO (.cells [AV.map M] 0 false false)=h1 at f1 v1 s1 ⊢;obtain⟨ver,hM⟩:=s1.at'.get;refine sorted_ok v1 hM s1.at'.lt hlen hlf s1.rise (λe he=>(s1.ok e he).1) λh2 ks f2 sg=>?_;rw[qDk];refine qe ?_;have s2:=s1.go f2;have kl:=sg.len;simp only[zJ0,zC1] at kl;have ek:(Int.ofNat ks.n:Int)=ks.n:=rfl
 refine Qy.inv (λq z h'=>∃(j:Nat) (o:SL) (R:List ER),ZAt 91 [(6,.mp false M),(13,.sl o),(73,.sl ks),(74,.int .i64 (Int.ofNat ks.n)),(75,.int .i64 (j:Int))] z/\Q5 Qa h2 h'/\Grown h2 h' o 2 R.length (R.flatMap ER.row)/\(∀x,x∈R->x.Om h2 h')/\(R.flatMap ER.sls).Pairwise SlLt/\(o.nil=false->R≠[])/\j+q=m.length/\ents R=(cont m).take j) (n:=m.length) hlf
  ⟨0,QE,[],⟨rfl,rfl,rfl,rfl,rfl,rfl,trivial⟩,Q5.refl _ _,Grown.start _ _ _,λx hx=>(by cases hx),.nil,λe=>(by cases e),by omega,rfl⟩ ?_
 rintro q z h3 kk hq ⟨j,o,R,hz,f3,g,hR,hP,hne,hj,heq⟩ ih;refine Qr _ hz λd=>(qA9 _ _ _ _ _ _ _ _ _ _ _ _ _ _).mpr ?_;have f3n:=f3.next
 rw[q9];refine⟨λe=>?_,λe=>?_⟩
 .have hjm:j<m.length:=by omega
  obtain⟨e1,he1⟩:∃e,m[j]?=some e:=⟨_,zE0 hjm⟩;have hem:=zD0 he1;have hRl:R.length=j:=by
   have:=congrArg List.length heq
   simp only[ents,cont,zJ0,zY0] at this;omega
  have kn:ks.nil=false:=by
   cases hn:ks.nil with
   | false=>rfl
   | true=>rw[SL.n_nil hn] at kl;omega
  have kl2:=SL.n_of kn;have sg3:=sg.fr f3 λ_=>id;have hcell:cellAt h3 ks.i (ks.o+j*1)=some (.str e1.1):=by rw[zC1];exact sg3.at' kn (by rw[zV0,zV0,he1];rfl)
  refine⟨kn,qAe.2 ⟨by omega,rfl,⟨e1.1,hcell,?_⟩⟩⟩;have f4:Q5 Qa h3 (h3.newO (.cells (ofBytes e1.1) 1 true true)):=Q5.newO _ _ _;have s4:=(s2.go f3).go f4;have hb1:=(s4.ok e1 hem).1;have kb:qz (h3.newO (.cells (ofBytes e1.1) 1 true true)) ⟨false,h3.next,0,e1.1.length,e1.1.length,true⟩ e1.1 :=
   ⟨Seg.own (more:=[]) (by rw[Qt,zC1]) (zO0 _) (by rw[zS0];exact Ql _ _),hb1⟩
  have hlk:Df.look m e1.1=some e1.2:=by
   obtain⟨p,r,hpr,hpl⟩:∃p r,m=p++e1::r/\p.length=j:=by
    refine⟨m.take j,m.drop (j+1),?_,by simp;omega⟩
    have:m.drop j=e1::m.drop (j+1):=by rw[List.drop_eq_getElem_cons hjm];congr 1;exact (List.getElem?_eq_some_iff.1 he1).2
    rw[<- this,List.take_append_drop]
   have hr:=s.rise;rw[hpr] at hr ⊢;rw[qC2 λx hx=>(List.pairwise_append.1 hr).2.2 x hx e1 zB0];show (if e1.1=e1.1 then some e1.2 else _)=_;rw[if_pos rfl]
  have hn4:(h3.newO (.cells (ofBytes e1.1) 1 true true)).next=h3.next+1:=rfl
  have kbg:(h3.newO (.cells (ofBytes e1.1) 1 true true)).get h3.next=some (.cells (ofBytes e1.1) 1 true true):=Ql _ _
  generalize h3.newO (.cells (ofBytes e1.1) 1 true true)=h4 at f4 s4 kb hn4 kbg ⊢;refine s4.at'.zlook (λb hb=>?_) λh0=>by rw[h0] at hlk;cases hlk
  rw[hlk] at hb;cases hb;refine qe (qMm (s4.ok e1 hem).2 (hsm e1 hem).2 λh5 s5 f5 w5=>?_);rw[qDk];refine qe ?_
  let y:ER:=⟨⟨false,h3.next,0,e1.1.length,e1.1.length,true⟩,s5,(e1.1,e1.2.2)⟩
  have hn5:=f5.next
  have yo:y.Om h2 h5:=⟨(show KO h2 h4 y.ks y.e.1 from⟨rfl,by show h2.next<=h3.next;omega,by show h3.next<h4.next;omega,kbg,hb1⟩).fr f5 id,w5.of (by omega)⟩;have pw:((R++[y]).flatMap ER.sls).Pairwise SlLt:=by
   rw[zT0,zQ0];refine⟨hP,?_,λs hs t ht e1 e2=>?_⟩
   .simp only[zU0,List.flatMap_nil,zS0,ER.sls,zR0,zL0,zM0,or_false,forall_eq,List.Pairwise.nil,and_true,false_implies,implies_true];exact λe e'=>by have:=(w5.own e').1;show h3.next<s5.i;omega
   .have h1:=esls_lt hR s hs e1;simp only[zU0,List.flatMap_nil,zS0,ER.sls,zL0,zM0,or_false] at ht;rcases ht with e3 | e3
    .rw[e3];show s.i<h3.next;omega
    .have e4:t=s5:=e3;subst e4
     have:=(w5.own e2).1;omega
  show jY (h5.newO (.cells y.row 2 false false)) _ 2 λds_1=>jz Try.prog (h5.newO (.cells y.row 2 false false)) o 51 2 1 ds_1 _;have f6:Q5 Qa h5 (h5.newO (.cells y.row 2 false false)):=Q5.newO _ _ _;have sg6:Seg (h5.newO (.cells y.row 2 false false)) ⟨false,h5.next,0,1,1,false⟩ 2 y.row:=Seg.own (more:=[]) rfl (zO0 _) (by rw[zS0];exact Ql _ _);have hn6:(h5.newO (.cells y.row 2 false false)).next=h5.next+1:=rfl
  have F6:=(f4.trans f5).trans f6;have g6:=g.fr F6 λ_=>id;refine sg6.zsrc (g6.append1 (by omega) (by decide) rfl y.plain (qAr (by omega)) λg7 f7 _=>qAy.2 ?_);rw[QD (e:=(j:Int)+1) (by omega) (by omega)];have hoi:o.nil=false->h2.next<=o.i/\o.i<h3.next:=λe=>by
   rcases g.2 with ⟨_,rfl⟩ | ⟨_,_,_,_,_,h6',h7',_⟩
   .cases e
   .exact⟨h6',h7'⟩
  have keep:∀{x:ER},x.Om h2 (h5.newO (.cells y.row 2 false false))->x.Om h2 (Qx (h5.newO (.cells y.row 2 false false)) o 2 1 y.row):=λ{x} b=>⟨b.1.fr f7 λ⟨e2,e3⟩=>qBx g6 e2 b.1.get e3,b.2.fr f7 λe1' ⟨e2,e3⟩=>by
   obtain⟨c,m,hg⟩:=qAg b.2 e1';exact qBx g6 e2 hg e3⟩
  refine ih (q-1) _ _ (by omega) ⟨j+1,o.app (h5.newO (.cells y.row 2 false false)).next 1,R++[y],⟨rfl,rfl,rfl,rfl,rfl,rfl,trivial⟩,(f3.trans F6).back f7 λi hi ⟨e1,e2⟩=>?_,?_,λw hw=>?_,pw,λ_=>by simp,by omega,?_⟩
  .have:=hoi e1;omega
  .rw[zC0,zT0]
   have:List.flatMap ER.row [y]=y.row:=by simp
   rw[this];exact g7
  .rcases List.mem_append.1 hw with h8 | h8
   .exact keep ⟨(hR w h8).1.fr F6 id,(hR w h8).2.fr F6 λ_=>id⟩
   .rw[List.mem_singleton.1 h8];exact keep ⟨yo.1.fr f6 id,yo.2.fr f6 λ_=>id⟩
  .have:(cont m)[j]?=some (e1.1,e1.2.2):=by unfold cont;rw[zV0,he1];rfl
   rw[List.take_add_one,this];show (R++[y]).map ER.e=_;rw[zW0];show ents R++_=_;rw[heq];rfl
 .refine Qr (n:=91) [(13,.sl o)] ⟨rfl,rfl,trivial⟩ λd'=>(qB5 _ _ _ _ _ _).mpr ?_;rw[List.take_of_length_le (by unfold cont;simp;omega)] at heq;exact hk h3 o R h2 (s2.fr.trans f3) s2.fr.next g hR hP heq
end
end DfN
namespace DfN
open Go Go.X Go.X.Df Go.Proofs
section
variable {S:QW} [GoodT S] {lf n:Nat} {h:Q0} {K:ZK} {X:List ER} {Y:List CR} {a c:SL}
theorem qCx {h0:Q0} {M:Nat} {m:List (Ky × SV)} {z:ZT} (hz:ZAt 91 [(1,.sl c),(6,.mp false M)] z) (s:Ap h0 h M m) (hc:Chgs h0 c Y) (hs:∀y,y∈Y->qDh y.c) (hlen:m.length+Y.length<8589934592) (hlf:m.length+Y.length<lf) (hsm:∀e,e∈m->e.1.length<=4294967296/\e.2.2.length<=4294967296)
  (hno:steps (cont m) (Y.map CR.c)=none->∀h',Q5 Qa h0 h'->K (.tup [.sl QE,.int .i64 1]) h')
  (hk:∀r,steps (cont m) (Y.map CR.c)=some r->∀h' s R gB,Q5 Qa h0 h'->h0.next<=gB.next->Grown gB h' s 2 R.length (R.flatMap ER.row)->(∀x,x∈R->x.Om gB h')->(R.flatMap ER.sls).Pairwise SlLt->ents R=r->K (.tup [.sl s,.int .i64 0]) h') :
  zAt Try.prog (Qq Try.prog S lf (n+5)) lf 19 [1,1,1] z (Q3 Try.prog 19 K) ⟨[],Q3 Try.prog 19 K⟩ h:=by
 refine Qr _ hz λd=>(qD3 _ _ _ _ _ _ _ _).mpr ?_;have lc:=hc.len (by decide);have ec:(Int.ofNat c.n:Int)=c.n:=rfl;have LM:=s.le
 refine Qy.inv (λq z h'=>∃(j:Nat) (m':List (Ky × SV)),ZAt 91 [(6,.mp false M),(30,.sl c),(31,.int .i64 (Int.ofNat c.n)),(32,.int .i64 (j:Int))] z/\Ap h0 h' M m'/\j+q=Y.length/\m'.length<=m.length+j/\(∀e,e∈m'->e.1.length<=4294967296/\e.2.2.length<=4294967296) /\
   steps (cont m') ((Y.map CR.c).drop j)=steps (cont m) (Y.map CR.c)) (n:=Y.length) (by omega)
  ⟨0,m,⟨rfl,rfl,rfl,rfl,rfl,trivial⟩,s,by omega,by omega,hsm,rfl⟩ ?_
 clear s hz hsm;rintro q z h1 kk hq ⟨j,m',hz,s,hj,hml,hsm,heq⟩ ih;refine Qr _ hz λd=>(qBp _ _ _ _ _ _ _ _ _ _ _ _ _).mpr ?_;rw[q9];refine⟨λe=>?_,λe=>?_⟩
 .have hjy:j<Y.length:=by omega
  have hc1:=hc.fr s.fr;have na:=hc.nil_of (by decide) hjy;have a1:=hc.len' (by decide) na;obtain⟨x,hx⟩:∃x,Y[j]?=some x:=⟨_,zE0 hjy⟩;have hxm:=zD0 hx;obtain⟨sk,so,sn⟩:=hs x hxm;obtain⟨rk,ro,rn⟩:=hc1.ok x hxm;have c0:=hc1.at' na hx (q:=0) (by decide) (v:=x.ks.av) rfl;have c1:=hc1.at' na hx (q:=1) (by decide) (v:=.bool x.c.had) rfl;have c2:=hc1.at' na hx (q:=2) (by decide) (v:=.bool x.c.has) rfl;have c3:=hc1.at' na hx (q:=3) (by decide) (v:=x.os.av) rfl;have c4:=hc1.at' na hx (q:=4) (by decide) (v:=x.ns.av) rfl;have hdrop:(Y.map CR.c).drop j=x.c::(Y.map CR.c).drop (j+1):=by rw[List.drop_eq_getElem_cons (by simpa using hjy)];congr 1;rw[List.getElem_map];congr 1;exact (List.getElem?_eq_some_iff.1 hx).2
  rw[hdrop] at heq;have hst:steps (cont m') (x.c::(Y.map CR.c).drop (j+1))=(step (cont m') x.c).bind λm2=>steps m2 ((Y.map CR.c).drop (j+1)):=rfl;rw[hst] at heq;refine⟨na,qAe.2 ⟨by omega,rfl,Qh c0 ⟨_,c1,⟨_,c2,Qh c3 (Qh c4 ⟨rfl,?_⟩)⟩⟩⟩⟩;have v1:=Var.new h1 [AV.nils,AV.bool false,AV.bool false,AV.nils,AV.nils];have f1:Q5 Qa h1 (h1.newO (.cells [AV.nils,AV.bool false,AV.bool false,AV.nils,AV.nils] 0 false false)):=Q5.newO _ _ _;refine v1.zput (by simp) ?_;rw[show [x.ks.av,AV.bool x.c.had,AV.bool x.c.has,x.os.av,x.ns.av]=x.row from rfl];have v2:Var (hput (h1.newO (.cells [AV.nils,AV.bool false,AV.bool false,AV.nils,AV.nils] 0 false false)) h1.next 0 x.row) h1.next x.row:=Var.put_all v1 rfl
  have f2:=Q5.back f1 (v1.put_fr 0 x.row) λi hi e=>by omega
  generalize hput (h1.newO (.cells [AV.nils,AV.bool false,AV.bool false,AV.nils,AV.nils] 0 false false)) h1.next 0 x.row=h2 at v2 f2 ⊢
  clear v1 f1;have s2:=s.go f2;have rk2:=rk.fr f2 λ_=>id;have ro2:=ro.fr f2 λ_=>id;have rn2:=rn.fr f2 λ_=>id;have hl:=cont_look m' x.c.k;have hw:IntKind.i64.wrap ((j:Int)+1)=(j:Int)+1:=QD (by omega) (by omega);have putlen:∀b:SV,(Df.put m' x.c.k b).length<=m'.length+1:=λb=>by
   have:∀m:List (Ky × SV),(Df.put m x.c.k b).length<=m.length+1:=λm=>by
    induction m with
    | nil=>exact zN0 _
    | cons e m ih =>
     show (if e.1=x.c.k then (x.c.k,b)::m else if Qm x.c.k e.1 then (x.c.k,b)::e::m else e::Df.put m x.c.k b).length<=_;split
     .simp
     .split
      .simp
      .simp;exact ih
   exact this m'
  have goput:∀h3,Ap h0 h3 M m'->qz h3 x.ns x.c.new->step (cont m') x.c=some (Df.put (cont m') x.c.k x.c.new)->∀z,ZAt 91 [(6,.mp false M),(30,.sl c),(31,.int .i64 (Int.ofNat c.n)),(32,.int .i64 ((j:Int)+1))] z->kk z (hmap h3 M (mset (.str x.c.k) x.ns.av)):=by
   intro h3 s3 b3 hstep z hz;rw[hstep,Option.bind_some] at heq;refine ih (q-1) _ _ (by omega) ⟨j+1,Df.put m' x.c.k (x.ns,x.c.new),hz,s3.put (b:=(x.ns,x.c.new)) rk.byte b3,by omega,by have:=putlen (x.ns,x.c.new);omega,λe he=>?_,?_⟩
   .rcases qBz he with rfl | he
    .exact⟨sk,sn⟩
    .exact hsm e he
   .rw[qC6];exact heq
  have godel:∀h3,Ap h0 h3 M m'->step (cont m') x.c=some (Df.del (cont m') x.c.k)->∀z,ZAt 91 [(6,.mp false M),(30,.sl c),(31,.int .i64 (Int.ofNat c.n)),(32,.int .i64 ((j:Int)+1))] z->kk z (hmap h3 M (qIk (.str x.c.k))):=by
   intro h3 s3 hstep z hz;rw[hstep,Option.bind_some] at heq;refine ih (q-1) _ _ (by omega) ⟨j+1,Df.del m' x.c.k,hz,s3.del,by omega,?_,λe he=>hsm e ((qA3 m' x.c.k).subset he),?_⟩
   .have:=(qA3 m' x.c.k).length_le;omega
   .rw[cont_del];exact heq
  have fail:step (cont m') x.c=none->∀h3,Q5 Qa h0 h3->K (.tup [.sl QE,.int .i64 1]) h3:=λhstep h3 f3=>by rw[hstep,Option.bind_none] at heq;exact hno heq.symm h3 f3
  refine⟨rfl,rfl,v2.ldL x.ks rfl (rk2.zbytes (s2.at'.zlook (λb hb=>?_) λhb=>?_))⟩
  .rw[hb,Option.map_some] at hl;refine qe ⟨rfl,rfl,v2.ldB x.c.had rfl ?_⟩;have hstep:step (cont m') x.c=if x.c.had=true/\b.2=x.c.old then some (if x.c.has=true then Df.put (cont m') x.c.k x.c.new else Df.del (cont m') x.c.k) else none:=by
    unfold Df.step;rw[hl]
   cases hh:x.c.had with
   | false =>
    rw[decide_eq_false (by simp),Bool.not_false,qBi];exact fail (by rw[hstep,if_neg (by rw[hh];simp)]) _ s2.fr
   | true =>
    rw[decide_eq_true rfl,Bool.not_true,qAz];have hbm:=look_mem hb;refine⟨rfl,rfl,v2.ldL x.os rfl (equal_ok (s2.ok _ hbm).2 ro2 ?_)⟩;rw[qA1];refine qDf.2 ?_;rw[qHv,qBf];by_cases hv:b.2=x.c.old
    .rw[decide_eq_true hv,Bool.not_true,qAz];rw[if_pos ⟨hh,hv⟩] at hstep;refine⟨rfl,rfl,v2.ldB x.c.has rfl ?_⟩;cases ha:x.c.has with
     | true =>
      rw[ha,if_pos rfl] at hstep;rw[qBi];refine⟨rfl,rfl,v2.ldL x.ks rfl (rk2.zbytes ⟨rfl,rfl,v2.ldL x.ns rfl (s2.at'.zmap (qAy.2 ?_))⟩)⟩;rw[hw];exact goput h2 s2 rn2 hstep _ ⟨rfl,rfl,rfl,rfl,rfl,trivial⟩
     | false =>rw[ha,if_neg (by simp)] at hstep;rw[qAz];refine⟨rfl,rfl,v2.ldL x.ks rfl (rk2.zbytes (s2.at'.zmap (qAy.2 ?_)))⟩;rw[hw];exact godel h2 s2 hstep _ ⟨rfl,rfl,rfl,rfl,rfl,trivial⟩
    .rw[decide_eq_false hv,Bool.not_false,qBi];exact fail (by rw[hstep,if_neg λe=>hv e.2]) _ s2.fr
  .rw[hb,Option.map_none] at hl;refine⟨rfl,rfl,v2.ldB x.c.had rfl ?_⟩;have hstep:step (cont m') x.c=if x.c.had=true then none else some (if x.c.has=true then Df.put (cont m') x.c.k x.c.new else cont m'):=by
    unfold Df.step;rw[hl]
   cases hh:x.c.had with
   | true =>
    rw[decide_eq_false (by simp),Bool.not_false,qBi];exact fail (by rw[hstep,if_pos hh]) _ s2.fr
   | false =>
    rw[decide_eq_true rfl,Bool.not_true,qAz];rw[if_neg (by rw[hh];simp)] at hstep;refine⟨rfl,rfl,v2.ldB x.c.has rfl ?_⟩;cases ha:x.c.has with
    | true =>
     rw[ha,if_pos rfl] at hstep;rw[qBi];refine⟨rfl,rfl,v2.ldL x.ks rfl (rk2.zbytes ⟨rfl,rfl,v2.ldL x.ns rfl (s2.at'.zmap (qAy.2 ?_))⟩)⟩;rw[hw];exact goput h2 s2 rn2 hstep _ ⟨rfl,rfl,rfl,rfl,rfl,trivial⟩
    | false =>rw[ha,if_neg (by simp)] at hstep;rw[qAz];refine⟨rfl,rfl,v2.ldL x.ks rfl (rk2.zbytes (s2.at'.zmap (qAy.2 ?_)))⟩;rw[hw];exact godel h2 s2 (by rw[hstep,qB3 hl]) _ ⟨rfl,rfl,rfl,rfl,rfl,trivial⟩
 .rw[List.drop_of_length_le (by simp;omega)] at heq;exact tail_ok ⟨rfl,rfl,trivial⟩ s (by omega) (by omega) hsm λh' s' R gB f1 f2 f3 f4 f5 f6=>hk _ heq.symm h' s' R gB f1 f2 f3 f4 f5 f6
theorem apply_ok (h19:S 19=none) (ha:j1 h a X) (up:Up (ents X)) (sX:∀x,x∈X->Small x.e) (hc:Chgs h c Y) (hs:∀y,y∈Y->qDh y.c) (hlen:X.length+Y.length<8589934592) (hlf:X.length+Y.length<lf)
  (hno:steps (ents X) (Y.map CR.c)=none->∀h',Q5 Qa h h'->K (.tup [.sl QE,.int .i64 1]) h')
  (hk:∀r,steps (ents X) (Y.map CR.c)=some r->∀h' s R gB,Q5 Qa h h'->h.next<=gB.next->Grown gB h' s 2 R.length (R.flatMap ER.row)->(∀x,x∈R->x.Om gB h')->(R.flatMap ER.sls).Pairwise SlLt->ents R=r->K (.tup [.sl s,.int .i64 0]) h') :
  Qq Try.prog S lf (n+6) 19 [.sl a,.sl c] K h:=by
 refine QJ h19 (by kernel_rfl) ?_;rw[apply_nf];have la:=ha.len (by decide);have ea:(Int.ofNat a.n:Int)=a.n:=rfl;have f0:Q5 Qa h (h.newO (.map [] 0)):=Q5.newO _ _ _
 refine Qy.inv (λq z h'=>∃(j:Nat) (m:List (Ky × SV)),ZAt 91 [(1,.sl c),(6,.mp false h.next),(17,.sl a),(18,.int .i64 (Int.ofNat a.n)),(19,.int .i64 (j:Int))] z/\Ap h h' h.next m/\j+q=X.length/\cont m=(ents X).take j) (n:=X.length) (by omega)
  ⟨0,[],⟨rfl,rfl,rfl,rfl,rfl,rfl,trivial⟩,⟨⟨zO0 _,0,Ql _ _⟩,λe he=>(by cases he),List.Pairwise.nil,f0,zN0 _⟩,by omega,rfl⟩ ?_
 rintro q z h1 kk hq ⟨j,m,hz,s,hj,heq⟩ ih;refine Qr _ hz λd=>(qB4 _ _ _ _ _ _ _ _ _ _ _ _ _ _).mpr ?_;have hml:m.length=j:=by
  have:=congrArg List.length heq
  simp only[cont,ents,zJ0,zY0] at this;omega
 rw[q9];refine⟨λe=>?_,λe=>?_⟩
 .have hjx:j<X.length:=by omega
  have na:=ha.nil_of (by decide) hjx;have a1:=ha.len' (by decide) na;obtain⟨x,hx⟩:∃x,X[j]?=some x:=⟨_,zE0 hjx⟩;have ha1:=ha.fr s.fr;obtain⟨xk,xv⟩:=ha1.ok x (zD0 hx);refine⟨na,qAe.2 ⟨by omega,rfl,Qh (ha1.key na hx) (Qh (ha1.val na hx) ⟨rfl,?_⟩)⟩⟩;have v1:=Var.new h1 [AV.nils,AV.nils];have f1:Q5 Qa h1 (h1.newO (.cells [AV.nils,AV.nils] 0 false false)):=Q5.newO _ _ _;refine v1.zput (by simp) ?_;have v2:Var (hput (h1.newO (.cells [AV.nils,AV.nils] 0 false false)) h1.next 0 [x.ks.av,x.vs.av]) h1.next [x.ks.av,x.vs.av]:=Var.put_all v1 rfl
  have f2:=Q5.back f1 (v1.put_fr 0 [x.ks.av,x.vs.av]) λi hi e=>by omega
  generalize hput (h1.newO (.cells [AV.nils,AV.nils] 0 false false)) h1.next 0 [x.ks.av,x.vs.av]=h2 at v2 f2 ⊢
  clear v1 f1;have s2:=s.go f2;refine⟨rfl,rfl,v2.ldL x.ks rfl ((xk.fr f2 λ_=>id).zbytes ⟨rfl,rfl,v2.ldL x.vs rfl (s2.at'.zmap (qAy.2 ?_))⟩)⟩;rw[QD (e:=(j:Int)+1) (by omega) (by omega),qDk];refine ih (q-1) _ _ (by omega) ⟨j+1,Df.put m x.e.1 (x.vs,x.e.2),⟨rfl,rfl,rfl,rfl,rfl,rfl,trivial⟩,s2.put (b:=(x.vs,x.e.2)) xk.byte (xv.fr f2 λ_=>id),by omega,?_⟩;rw[qC6,heq];have hxe:(ents X)[j]?=some x.e:=by unfold ents;rw[zV0,hx];rfl
  have hsp:ents X=(ents X).take j++x.e::(ents X).drop (j+1):=by
   have h1:(ents X).drop j=x.e::(ents X).drop (j+1):=by rw[List.drop_eq_getElem_cons (by unfold ents;simpa using hjx)];congr 1;exact (List.getElem?_eq_some_iff.1 hxe).2
   rw[<- h1,List.take_append_drop]
  have hb:∀e,e∈(ents X).take j->Qm e.1 x.e.1=true:=by rw[hsp] at up;exact Up.below up
  have:=put_mid (r:=([]:List (Ky × Ky))) (v:=x.e.2) hb
  rw[zS0] at this;show Df.put ((ents X).take j) x.e.1 x.e.2=_;rw[this,List.take_add_one,hxe];rfl
 .have ht:cont m=ents X:=by rw[heq];exact List.take_of_length_le (by unfold ents;simp;omega)
  have hsm:∀e,e∈m->e.1.length<=4294967296/\e.2.2.length<=4294967296:=λe he=>by
   have h2:(e.1,e.2.2)∈cont m:=List.mem_map_of_mem (f:=λe:Ky × SV=>(e.1,e.2.2)) he;rw[ht] at h2;obtain⟨x,hx,e3⟩:=List.mem_map.1 h2
   have:=sX x hx
   rw[e3] at this;exact this
  refine qCx ⟨rfl,rfl,rfl,trivial⟩ s hc hs (by omega) (by omega) hsm (λh5=>?_) λr h5=>?_
  .rw[ht] at h5;exact hno h5
  .rw[ht] at h5;exact hk r h5
end
end DfN
namespace DfN
open Go Go.X Go.X.Df Go.Proofs
structure LB where
 i:Nat
 k:Ky
 t:Ky
def LB.s (x:LB):SL:=⟨false,x.i,0,x.k.length,x.k.length+2,true⟩
def LB.f (x:LB):SL:=⟨false,x.i,0,x.k.length+2,x.k.length+2,true⟩
structure LB.Ok (h0 h:Q0) (x:LB):Prop where
 l:h0.next<=x.i
 n:x.i<h.next
 g:h.get x.i=some (.cells (ofBytes (x.k++x.t)) 1 true false)
 b:∀c,c∈x.k++x.t->c<256
 t:x.t.length=2
theorem LB.Ok.fr {h0 h h':Q0} {x:LB} {T:Nat->Prop} (a:x.Ok h0 h) (f:Q5 T h h') (h1:¬T x.i):x.Ok h0 h' :=
 ⟨a.l,zF0 a.n f.next,(f.same _ a.n h1).trans a.g,a.b,a.t⟩
theorem LB.Ok.s {h0 h:Q0} {x:LB} (a:x.Ok h0 h):qz h x.s x.k :=
 ⟨Seg.own (more:=ofBytes x.t) (by rw[Qt,zC1]) a.n (by rw[<- qDy];exact a.g),λb hb=>a.b b (zH0 _ hb)⟩
theorem LB.Ok.f {h0 h:Q0} {x:LB} (a:x.Ok h0 h):qz h x.f (x.k++x.t) :=
 ⟨Seg.own (more:=[]) (by rw[Qt,zC1,zC0,a.t]) a.n (by rw[zS0];exact a.g),a.b⟩
structure Loan (h0 h:Q0) (l c all:SL) (m q:Nat) (L:List LB) (R C:List AV):Prop where
 ls:∃i k,l=⟨false,i,0,m+1,m+1,false⟩/\h0.next<=i/\i<h.next/\h.get i=some (.cells (R++[.slice k 0 4 4 false,.nils]) 2 false false)/\qSz h0 h k
 cs:∃i k,c=⟨false,i,0,q+1,q+1,false⟩/\h0.next<=i/\i<h.next/\h.get i=some (.cells (C++[.slice k 0 4 4 false,.bool false,.bool false,.nils,.nils]) 5 false false)/\qSz h0 h k
 arr:Arr h0 h all (L.map LB.f)
 ok:∀b,b∈L->b.Ok h0 h
 asc:(L.map LB.i).Pairwise (·<·)
theorem Loan.fr {h0 h h':Q0} {l c all:SL} {m q:Nat} {L:List LB} {R C:List AV} {T:Nat->Prop} (a:Loan h0 h l c all m q L R C) (f:Q5 T h h') (hT:∀i,h0.next<=i->¬T i):Loan h0 h' l c all m q L R C:=by
 obtain⟨⟨i,k,e1,e2,e3,e4,e5⟩,⟨i',k',d1,d2,d3,d4,d5⟩,ar,ok,asc⟩:=a;exact⟨⟨i,k,e1,e2,zF0 e3 f.next,(f.same _ e3 (hT _ e2)).trans e4,e5.fr f (hT _ e5.1)⟩,
  ⟨i',k',d1,d2,zF0 d3 f.next,(f.same _ d3 (hT _ d2)).trans d4,d5.fr f (hT _ d5.1)⟩,
  ar.fr f λe=>hT _ (Arr.low ar e),λr hr=>(ok r hr).fr f (hT _ (ok r hr).l),asc⟩
structure LJ (h0 h:Q0) (v4 v5 il ic m q:Nat) (all:SL) (L:List LB) (R C:List AV):Prop where
 v4v:Var h v4 [.nils,.nils,.nils]
 v5v:Var h v5 [(⟨false,il,0,m,m,false⟩:SL).av,(⟨false,ic,0,q,q,false⟩:SL).av,all.av]
 ln:il<h.next
 lb:h.get il=some (.cells R 2 false false)
 cn:ic<h.next
 cb:h.get ic=some (.cells C 5 false false)
 g4:h0.next<=v4
 g5:h0.next<=v5
 gl:h0.next<=il
 gc:h0.next<=ic
 arr:Arr h0 h all (L.map LB.f)
 ok:∀b,b∈L->b.Ok h0 h
 asc:(L.map LB.i).Pairwise (·<·)
 ne:v4≠v5
 an:all.nil=false->L≠[]
section
variable {S:QW} [GoodS S] {lf n:Nat} {h h' g0 h0:Q0} {K:ZK} {X:List ER} {Y:List CR} {v4 v5 il ic m q:Nat} {all:SL} {L bs:List LB} {R C vs:List AV}
theorem LJ.fr (a:LJ h0 h v4 v5 il ic m q all L R C) (f:Q5 Qa h h'):LJ h0 h' v4 v5 il ic m q all L R C :=
 ⟨a.v4v.fr f id,a.v5v.fr f id,zF0 a.ln f.next,(f.same _ a.ln id).trans a.lb,zF0 a.cn f.next,(f.same _ a.cn id).trans a.cb,a.g4,a.g5,a.gl,a.gc,a.arr.fr f λ_=>id,λb hb=>(a.ok b hb).fr f id,a.asc,a.ne,a.an⟩
theorem LJ.setl (a:LJ h0 h v4 v5 il ic m q all L R C) {o:Nat} (ho:o+vs.length<=R.length) :
  LJ h0 (hput h il o vs) v4 v5 il ic m q all L (R.take o++(vs++R.drop (o+vs.length))) C/\qVm h il (o+vs.length)/\Q5 (λi=>h0.next<=i) h (hput h il o vs):=by
 have f:Q5 (λj=>j=il) h (hput h il o vs):=Q5.hput _ _ _ λ_=>rfl;have g:=qEy (o:=o) (vs:=vs) a.lb;have hn:(hput h il o vs).next=h.next:=qg _ _ _ _
 have ne:∀{i cs sz g mk},h.get i=some (.cells cs sz g mk)->sz≠2->i≠il:=λhg hz e=>by rw[e,a.lb] at hg;cases hg;exact hz rfl
 have lt:=a.ln;exact⟨⟨a.v4v.fr f (ne a.v4v.get (by decide)),a.v5v.fr f (ne a.v5v.get (by decide)),by omega,g,by rw[hn];exact a.cn,(f.same _ a.cn (ne a.cb (by decide))).trans a.cb,a.g4,a.g5,a.gl,a.gc,a.arr.fr f λe e'=>a.arr.ne2 e a.lb e'.symm,λb hb=>(a.ok b hb).fr f (ne (a.ok b hb).g (by decide)),a.asc,a.ne,a.an⟩,
  ⟨lt,_,_,_,_,a.lb,ho⟩,f.mono λi _ e=>by rw[e];exact a.gl⟩
theorem LJ.setc (a:LJ h0 h v4 v5 il ic m q all L R C) {o:Nat} (ho:o+vs.length<=C.length) :
  LJ h0 (hput h ic o vs) v4 v5 il ic m q all L R (C.take o++(vs++C.drop (o+vs.length)))/\qVm h ic (o+vs.length)/\Q5 (λi=>h0.next<=i) h (hput h ic o vs):=by
 have f:Q5 (λj=>j=ic) h (hput h ic o vs):=Q5.hput _ _ _ λ_=>rfl;have g:=qEy (o:=o) (vs:=vs) a.cb;have hn:(hput h ic o vs).next=h.next:=qg _ _ _ _
 have ne:∀{i cs sz g mk},h.get i=some (.cells cs sz g mk)->sz≠5->i≠ic:=λhg hz e=>by rw[e,a.cb] at hg;cases hg;exact hz rfl
 have lt:=a.cn;exact⟨⟨a.v4v.fr f (ne a.v4v.get (by decide)),a.v5v.fr f (ne a.v5v.get (by decide)),by rw[hn];exact a.ln,(f.same _ a.ln (ne a.lb (by decide))).trans a.lb,by omega,g,a.g4,a.g5,a.gl,a.gc,a.arr.fr f λe e'=>a.arr.ne2 e a.cb e'.symm,λb hb=>(a.ok b hb).fr f (ne (a.ok b hb).g (by decide)),a.asc,a.ne,a.an⟩,
  ⟨lt,_,_,_,_,a.cb,ho⟩,f.mono λi _ e=>by rw[e];exact a.gc⟩
theorem LJ.more (a:LJ h0 h v4 v5 il ic m q all L R C) {cs:List AV} {k:Nat} (hn:h0.next<=h.next) (hcs:cs=bs.map λb=>b.f.av) (hk:bs.length=k) (hL:L.length+k<=8589934592) (hk0:k≠0) (okb:∀b,b∈bs->b.Ok h0 h) (asc:((L++bs).map LB.i).Pairwise (·<·)) {B:List AV->Prop}
  (hA:LJ h0 (hput (Qx (h.newO (.cells cs 1 false false)) all 1 k cs) v5 2 [SL.av (SL.app all (h.newO (.cells cs 1 false false)).next k)]) v4 v5 il ic m q (SL.app all (h.newO (.cells cs 1 false false)).next k) (L++bs) R C ->
   Q5 (λi=>h0.next<=i) h (hput (Qx (h.newO (.cells cs 1 false false)) all 1 k cs) v5 2 [SL.av (SL.app all (h.newO (.cells cs 1 false false)).next k)])->B cs) :
  jY (h.newO (.cells cs 1 false false)) ⟨false,h.next,0,k,k,false⟩ 1 λds=>jz Try.prog (h.newO (.cells cs 1 false false)) all 49 1 k ds
   (Q6 (false=false) (Q6 (false=false) (jb (Qx (h.newO (.cells cs 1 false false)) all 1 k ds) v5 2 1 (B ds)))):=by
 subst hk;have f4:Q5 Qa h (h.newO (.cells cs 1 false false)):=Q5.newO _ _ _;have hl:cs.length=bs.length*1:=by rw[hcs,zJ0,zC1]
 have sg:Seg (h.newO (.cells cs 1 false false)) ⟨false,h.next,0,bs.length,bs.length,false⟩ 1 cs:=Seg.own (more:=[]) hl (zO0 _) (by rw[zS0];exact Ql _ _);refine sg.zsrc ?_;have hn4:(h.newO (.cells cs 1 false false)).next=h.next+1:=rfl
 generalize h.newO (.cells cs 1 false false)=H at f4 sg hn4 hA ⊢;have a4:=a.fr f4;have ok4:∀b,b∈bs->b.Ok h0 H:=λb hb=>(okb b hb).fr f4 id;have e1:(L.map LB.f).length=L.length:=zJ0 _;refine Grown.append1 a4.arr (by omega) (k:=bs.length) hk0 hl (qH.2 λv hv=>?_) (qYf (by rw[e1];omega)) λg5 f5 hi5=>?_
 .rw[hcs] at hv;obtain⟨b,_,rfl⟩:=List.mem_map.1 hv;exact jB _
 have A5:Arr h0 (Qx H all 1 bs.length cs) (all.app H.next bs.length) ((L++bs).map LB.f):=by show Grown _ _ _ 1 _ _;rw[e1] at g5;rw[zW0,zC0,zW0,zJ0,zJ0,List.map_map (l:=bs)];rw[hcs] at g5 ⊢;exact g5
 clear g5;generalize all.app H.next bs.length=all' at A5 hi5 hA ⊢
 generalize Qx H all 1 bs.length _=H5 at A5 f5 hA ⊢;have hnx5:=f5.next
 have NA:∀{i cs sz mk},H.get i=some (.cells cs sz false mk)->¬(all.nil=false/\i=all.i):=λhg ⟨e,e'⟩=>a4.arr.ne2 e hg e';have NB:∀{i:Nat} {k:Ky} {sz g mk},H.get i=some (.cells (ofBytes k) sz g mk)->¬(all.nil=false/\i=all.i):=λhg ⟨e,e'⟩=>a4.arr.ne_b e (by simpa using a4.an e) hg e';have V5:=a4.v5v.fr f5 (NA a4.v5v.get);have V4:=a4.v4v.fr f5 (NA a4.v4v.get);have l5:H5.get il=_:=(f5.same _ a4.ln (NA a4.lb)).trans a4.lb;have c5:H5.get ic=_:=(f5.same _ a4.cn (NA a4.cb)).trans a4.cb;have r5:∀b,b∈L++bs->b.Ok h0 H5:=λb hb=>by
  have q:b.Ok h0 H:=by
   rcases List.mem_append.1 hb with hb | hb
   .exact a4.ok b hb
   .exact ok4 b hb
  exact q.fr f5 (NB q.g)
 refine⟨rfl,rfl,V5.zput (by simp) ?_⟩;have V6:=V5.put 2 [all'.av];have f6:=V5.put_fr 2 [all'.av];have hn6:(hput H5 v5 2 [all'.av]).next=H5.next:=qg _ _ _ _
 generalize hput H5 v5 2 [all'.av]=H6 at V6 f6 hn6 hA ⊢;have n5:∀{i cs sz g mk},H5.get i=some (.cells cs sz g mk)->sz≠0->i≠v5:=λhg hz e=>by rw[e,V5.get] at hg;cases hg;exact hz rfl
 have ln:=a4.ln;have cn:=a4.cn;refine hA ⟨V4.fr f6 a4.ne,V6,by omega,(f6.same _ (by omega) (n5 l5 (by decide))).trans l5,by omega,(f6.same _ (by omega) (n5 c5 (by decide))).trans c5,a.g4,a.g5,a.gl,a.gc,A5.fr f6 λe e'=>A5.ne2 e V5.get e'.symm,λb hb=>(r5 b hb).fr f6 (n5 (r5 b hb).g (by decide)),asc,a.ne,λ_ e=>?_⟩ ?_
 .rw[List.append_eq_nil_iff] at e;rw[e.2] at hk0;exact hk0 rfl
 refine ((f4.mono λ_ _ e=>e.elim).trans (f5.mono λi _ e=>?_)).trans (f6.mono λi _ e=>?_)
 .rw[e.2];exact Arr.low a4.arr e.1
 .rw[e];exact a.g5
theorem qDd (ok:∀b,b∈L->b.Ok h0 h) (asc:(L.map LB.i).Pairwise (·<·)) (hb:∀b,b∈bs->h.next<=b.i) (hp:(bs.map LB.i).Pairwise (·<·)):((L++bs).map LB.i).Pairwise (·<·):=by
 rw[zW0];refine List.pairwise_append.2 ⟨asc,hp,λi hi j hj=>?_⟩;obtain⟨b,h1,rfl⟩:=List.mem_map.1 hi;obtain⟨c,h2,rfl⟩:=List.mem_map.1 hj
 have:=(ok b h1).n
 have:=hb c h2
 omega
theorem Marked.lb {s:SL} {k:Ky} {h1:Q0} (x:Marked h1 h s k) (hn:h0.next<=h1.next):∃b:LB,s=b.f/\b.k=k/\b.t=[167,168]/\h1.next<=b.i/\b.i<h.next/\b.Ok h0 h:=by
 obtain⟨i,rfl,l,n,g⟩:=x.is;refine⟨⟨i,k,[167,168]⟩,rfl,rfl,rfl,l,n,zP0 hn l,n,g,λc hc=>?_,rfl⟩;rcases List.mem_append.1 hc with hc | hc
 .exact x.byte c hc
 .simp only[zL0,zM0,or_false] at hc;rcases hc with rfl | rfl <;> decide
end
end DfN
namespace DfN
open Go Go.X Go.X.Df Go.Proofs
def Mb (e:Ky × Ky):Prop:=e.1.length<=1048576/\e.2.length<=1048576
structure LE where
 k:LB
 v:LB
structure LC where
 k:LB
 o:LB
 n:LB
 had:Bool
 has:Bool
def LE.er (x:LE):ER:=⟨x.k.s,x.v.s,(x.k.k,x.v.k)⟩
def LC.cr (x:LC):CR:=⟨x.k.s,x.o.s,x.n.s,⟨x.k.k,x.had,x.has,x.o.k,x.n.k⟩⟩
def LE.bs (x:LE):List LB:=[x.k,x.v]
def LC.bs (x:LC):List LB:=[x.k,x.o,x.n]
def LE.row (x:LE):List AV:=x.er.row
def LC.row (x:LC):List AV:=x.cr.row
theorem qAn:∀l:List LE,(l.flatMap LE.row).length=l.length*2
 | []=>rfl
 | x::l=>by rw[zU0,zC0,qAn l,zK0];show 2+_=_;omega
theorem qAo:∀l:List LC,(l.flatMap LC.row).length=l.length*5
 | []=>rfl
 | x::l=>by rw[zU0,zC0,qAo l,zK0];show 5+_=_;omega
theorem le_bs:∀l:List LE,(l.flatMap LE.bs).length=l.length*2
 | []=>rfl
 | x::l=>by rw[zU0,zC0,le_bs l,zK0];show 2+_=_;omega
theorem lc_bs:∀l:List LC,(l.flatMap LC.bs).length=l.length*3
 | []=>rfl
 | x::l=>by rw[zU0,zC0,lc_bs l,zK0];show 3+_=_;omega
def b2:List AV:=[.nils,.nils]
def b5:List AV:=[.nils,.bool false,.bool false,.nils,.nils]
theorem fill2 {R B v:List AV} {o q:Nat} (hR:R.length=o) (hv:v.length=B.length) :
  (R++(List.replicate (q+1) B).flatten).take o++(v++(R++(List.replicate (q+1) B).flatten).drop (o+v.length))=R++v++(List.replicate q B).flatten:=by
 rw[List.take_left' hR,<- List.drop_drop,List.drop_left' hR,List.replicate_succ,List.flatten_cons,hv,List.drop_left' rfl,zX0]
theorem LB.fn (b:LB) (h:b.k.length<=2147483648):IntKind.i64.wrap (Int.ofNat (SL.n b.f)-2)=((b.k.length:Nat):Int):=by
 have:(Int.ofNat (SL.n b.f):Int)=((b.k.length+2:Nat):Int):=rfl
 rw[this,QD (by omega) (by omega)];omega
theorem bl_len (q:Nat) (B:List AV):(List.replicate (q+1) B).flatten.length=B.length+(List.replicate q B).flatten.length:=by rw[List.replicate_succ,List.flatten_cons,zC0]
section
variable {S:QW} [GoodS S] {lf n:Nat} {h h' g0 h0:Q0} {K:ZK} {X:List ER} {Y:List CR} {v4 v5 il ic m q:Nat} {all:SL} {L bs:List LB} {R C vs:List AV} {rs:List LE} {cs:List LC} {a c:SL}
theorem qCt {z:ZT} {k X0:ZT->Q0->Prop} {E:List (Nat × (ZT->Q0->Prop))} (J:LJ h0 h v4 v5 il ic (m+1) q all (rs.flatMap LE.bs) (rs.flatMap LE.row++(List.replicate (m-rs.length+1) b2).flatten) C) (ha:j1 h a X) (hm:X.length=m) (hj:rs.length<m) (hm2:m<=1048576)
  (hsz:∀x,x∈X->Mb x.e) (hn:h0.next<=h.next)
  (hz:ZAt 141 [(0,.sl a),(1,.sl c),(4,.pv false v4 0),(5,.pv false v5 0),(6,.int .i64 (rs.length:Int))] z)
  (hk:∀h' z' all' r,LJ h0 h' v4 v5 il ic (m+1) q all' ((rs++[r]).flatMap LE.bs) ((rs++[r]).flatMap LE.row++(List.replicate (m-(rs.length+1)+1) b2).flatten) C->X[rs.length]?.map (λx=>x.e)=some (r.k.k,r.v.k)->(∀b,b∈r.bs->b.t=[167,168])->Q5 (λi=>h0.next<=i) h h'->ZAt 141 [(0,.sl a),(1,.sl c),(4,.pv false v4 0),(5,.pv false v5 0),(6,.int .i64 ((rs.length+1:Nat):Int))] z'->k z' h') :
  zAt Try.prog (Qq Try.prog S lf (n+1)) lf 11 [1,1,0,1,0,0] z k ⟨(0,X0)::E,Q3 Try.prog 11 K⟩ h:=by
 refine Qr _ hz λd=>(qLp _ _ _ _ _ _ _ _ _ _ _ _ _).mpr ?_;have la:=ha.len (by decide);have na:=ha.nil_of (by decide) (j:=rs.length) (by omega);have a1:=ha.len' (by decide) na;have ea:(Int.ofNat a.n:Int)=a.n:=rfl;obtain⟨x,hx⟩:∃x,X[rs.length]?=some x:=⟨_,zE0 (by omega)⟩;have hmem:=zD0 hx;obtain⟨xk,xv⟩:=ha.ok x hmem;obtain⟨s1,s2⟩:=hsz x hmem;rw[decide_eq_true (by rw[ea,la,hm];omega),qBi];refine⟨na,qAe.2 ⟨by omega,rfl,rfl,Qh (ha.at' na hx (q:=0) (by decide) rfl) ?_⟩⟩;refine qUq xk (by omega) λh2 sk f2 mk2=>?_;refine qe ⟨na,qAe.2 ⟨by omega,rfl,rfl,Qh ((ha.fr f2).at' na hx (q:=1) (by decide) rfl) ?_⟩⟩;refine qUq (xv.fr f2 λ_=>id) (by omega) λh3 sv f3 mk3=>?_;have n2:=f2.next
 obtain⟨bk,rfl,k1,t1,l1,n1,o1⟩:=mk2.lb (h0:=h0) hn;obtain⟨bv,rfl,k2,t2,l2,n2',o2⟩:=mk3.lb (h0:=h0) (by omega);have n3:=f3.next
 have F3:=f2.trans f3;have J3:=J.fr F3;have bl:=le_bs rs;refine qe ⟨rfl,rfl,J3.v5v.ldL all rfl ?_⟩;refine J3.more (bs:=[bk,bv]) (cs:=[bk.f.av,bv.f.av]) (k:=2) (by omega) rfl rfl (by omega) (by decide) (λb hb=>?_) (qDd J.ok J.asc (λb hb=>?_) (by simp;omega)) λJ4 F4=>?_
 .simp only[zL0,zM0,or_false] at hb;rcases hb with rfl | rfl
  .exact o1.fr f3 id
  .exact o2
 .simp only[zL0,zM0,or_false] at hb;rcases hb with rfl | rfl <;> omega
 have F4':Q5 (λi=>h0.next<=i) h _:=(F3.mono λ_ _ e=>e.elim).trans F4;clear F4;generalize hput _ v5 2 _=H4 at J4 F4' ⊢;generalize SL.app all _ 2=all' at J4 ⊢;refine⟨rfl,rfl,J4.v5v.ldL _ rfl (qAy.2 ?_)⟩;rw[LB.fn _ (by rw[k1];omega)];refine qCd.2 ⟨⟨λe=>(by cases e),λ_=>⟨zA1 _,Nat.le_add_right _ _⟩⟩,qAy.2 ?_⟩;rw[LB.fn _ (by rw[k2];omega)];obtain⟨J5,p5,F5⟩:=J4.setl (vs:=LE.row ⟨bk,bv⟩) (o:=0+rs.length*2) (by rw[zC0,qAn,bl_len];show 0+_+2<=_+(2+_);omega);refine qCd.2 ⟨⟨λe=>(by cases e),λ_=>⟨zA1 _,Nat.le_add_right _ _⟩⟩,rfl,qAe.2 ⟨by show _<m+1;omega,rfl,p5,qAy.2 ?_⟩⟩;rw[QD (e:=(rs.length:Int)+1) (by omega) (by omega)];refine hk _ _ all' ⟨bk,bv⟩ ?_ (by rw[hx,k1,k2];rfl) (λb hb=>?_) (F4'.trans F5) ⟨rfl,rfl,rfl,rfl,rfl,rfl,trivial⟩
 .rw[show m-rs.length=(m-(rs.length+1))+1 by omega] at J5;rw[fill2 (R:=rs.flatMap LE.row) (B:=b2) (v:=LE.row ⟨bk,bv⟩) (by rw[qAn];omega) rfl] at J5;rw[show (rs++[(⟨bk,bv⟩:LE)]).flatMap LE.bs=rs.flatMap LE.bs++[bk,bv] by simp[LE.bs],show (rs++[(⟨bk,bv⟩:LE)]).flatMap LE.row=rs.flatMap LE.row++LE.row ⟨bk,bv⟩ by simp];exact J5
 .have hb:b∈[bk,bv]:=hb;simp only[zL0,zM0,or_false] at hb;rcases hb with rfl | rfl
  .exact t1
  .exact t2
theorem qCu {z:ZT} {k X0:ZT->Q0->Prop} {E:List (Nat × (ZT->Q0->Prop))} (J:LJ h0 h v4 v5 il ic m (q+1) all (L++cs.flatMap LC.bs) R (cs.flatMap LC.row++(List.replicate (q-cs.length+1) b5).flatten)) (hc:Chgs h c Y) (hm:Y.length=q) (hj:cs.length<q) (hm2:q<=1048576)
  (hL:L.length<=2097152) (hsz:∀y,y∈Y->Mc y.c) (hn:h0.next<=h.next) (hcl:c.nil=false->c.i<h0.next)
  (hz:ZAt 141 [(0,.sl a),(1,.sl c),(4,.pv false v4 0),(5,.pv false v5 0),(9,.int .i64 (cs.length:Int))] z)
  (hk:∀h' z' all' r,LJ h0 h' v4 v5 il ic m (q+1) all' (L++(cs++[r]).flatMap LC.bs) R ((cs++[r]).flatMap LC.row++(List.replicate (q-(cs.length+1)+1) b5).flatten)->Y[cs.length]?.map (λy=>y.c)=some r.cr.c->(∀b,b∈r.bs->b.t=[167,168])->Q5 (λi=>h0.next<=i) h h'->ZAt 141 [(0,.sl a),(1,.sl c),(4,.pv false v4 0),(5,.pv false v5 0),(9,.int .i64 ((cs.length+1:Nat):Int))] z'->k z' h') :
  zAt Try.prog (Qq Try.prog S lf (n+1)) lf 11 [1,1,1,0,1,0,0] z k ⟨(2,X0)::E,Q3 Try.prog 11 K⟩ h:=by
 refine Qr _ hz λd=>(qSa _ _ _ _ _ _ _ _ _ _ _ _ _).mpr ?_;have la:=hc.len (by decide);have na:=hc.nil_of (by decide) (j:=cs.length) (by omega);have a1:=hc.len' (by decide) na;have ea:(Int.ofNat c.n:Int)=c.n:=rfl;obtain⟨x,hx⟩:∃x,Y[cs.length]?=some x:=⟨_,zE0 (by omega)⟩;have hmem:=zD0 hx;obtain⟨xk,xo,xn⟩:=hc.ok x hmem;obtain⟨s1,s2,s3⟩:=hsz x hmem;rw[decide_eq_true (by rw[ea,la,hm];omega),qBi];refine⟨na,qAe.2 ⟨by omega,rfl,rfl,Qh (hc.at5 na hx).1 ?_⟩⟩;refine qUq xk (by omega) λh2 sk f2 mk2=>?_;have hc2:=hc.fr f2;refine qe ⟨na,qAe.2 ⟨by omega,rfl,rfl,Qh (hc2.at5 na hx).2.2.2.1 ?_⟩⟩;refine qUq (xo.fr f2 λ_=>id) (by omega) λh3 so f3 mk3=>?_;have hc3:=hc2.fr f3;refine qe ⟨na,qAe.2 ⟨by omega,rfl,rfl,Qh (hc3.at5 na hx).2.2.2.2 ?_⟩⟩;refine qUq ((xn.fr f2 λ_=>id).fr f3 λ_=>id) (by omega) λh4 sn f4 mk4=>?_;have n2:=f2.next
 have n3:=f3.next
 obtain⟨bk,rfl,k1,t1,l1,n1,o1⟩:=mk2.lb (h0:=h0) hn;obtain⟨bo,rfl,k2,t2,l2,n2',o2⟩:=mk3.lb (h0:=h0) (by omega);obtain⟨bn,rfl,k3,t3,l3,n3',o3⟩:=mk4.lb (h0:=h0) (by omega);have n4:=f4.next
 have F3:=(f2.trans f3).trans f4;have J3:=J.fr F3;have hc4:=hc3.fr f4;have bl:=lc_bs cs;refine qe ⟨rfl,rfl,J3.v5v.ldL all rfl ?_⟩;refine J3.more (bs:=[bk,bo,bn]) (cs:=[bk.f.av,bo.f.av,bn.f.av]) (k:=3) (by omega) rfl rfl (by rw[zC0];omega) (by decide) (λb hb=>?_) (qDd J.ok J.asc (λb hb=>?_) (by simp;omega)) λJ4 F4=>?_
 .simp only[zL0,zM0,or_false] at hb;rcases hb with rfl | rfl | rfl
  .exact (o1.fr f3 id).fr f4 id
  .exact o2.fr f4 id
  .exact o3
 .simp only[zL0,zM0,or_false] at hb;rcases hb with rfl | rfl | rfl <;> omega
 have F4':Q5 (λi=>h0.next<=i) h _:=(F3.mono λ_ _ e=>e.elim).trans F4;have same:∀o,cellAt (hput _ v5 2 _) c.i o=cellAt h4 c.i o:=λo=>by unfold cellAt qn;rw[F4.same c.i (by have:=hcl na;omega) (by have:=hcl na;omega)]
 clear F4;generalize hput _ v5 2 _=H4 at J4 F4' same ⊢;generalize SL.app all _ 3=all' at J4 ⊢;refine⟨rfl,rfl,J4.v5v.ldL _ rfl (qAy.2 ?_)⟩;rw[LB.fn _ (by rw[k1];omega)];refine qCd.2 ⟨⟨λe=>(by cases e),λ_=>⟨zA1 _,Nat.le_add_right _ _⟩⟩,na,qAe.2 ⟨by omega,rfl,rfl,⟨_,(same _).trans (hc4.at5 na hx).2.1,na,qAe.2 ⟨by omega,rfl,rfl,⟨_,(same _).trans (hc4.at5 na hx).2.2.1,qAy.2 ?_⟩⟩⟩⟩⟩;rw[LB.fn _ (by rw[k2];omega)];refine qCd.2 ⟨⟨λe=>(by cases e),λ_=>⟨zA1 _,Nat.le_add_right _ _⟩⟩,qAy.2 ?_⟩;rw[LB.fn _ (by rw[k3];omega)];obtain⟨J5,p5,F5⟩:=J4.setc (vs:=LC.row ⟨bk,bo,bn,x.c.had,x.c.has⟩) (o:=0+cs.length*5) (by rw[zC0,qAo,bl_len];show 0+_+5<=_+(5+_);omega);refine qCd.2 ⟨⟨λe=>(by cases e),λ_=>⟨zA1 _,Nat.le_add_right _ _⟩⟩,rfl,qAe.2 ⟨by show _<q+1;omega,rfl,p5,qAy.2 ?_⟩⟩;rw[QD (e:=(cs.length:Int)+1) (by omega) (by omega)];refine hk _ _ all' ⟨bk,bo,bn,x.c.had,x.c.has⟩ ?_ (by rw[hx];show some x.c=some ⟨bk.k,_,_,bo.k,bn.k⟩;rw[k1,k2,k3]) (λb hb=>?_) (F4'.trans F5) ⟨rfl,rfl,rfl,rfl,rfl,rfl,trivial⟩
 .rw[show q-cs.length=(q-(cs.length+1))+1 by omega] at J5;rw[fill2 (R:=cs.flatMap LC.row) (B:=b5) (v:=LC.row ⟨bk,bo,bn,x.c.had,x.c.has⟩) (by rw[qAo];omega) rfl] at J5;rw[show L++(cs++[(⟨bk,bo,bn,x.c.had,x.c.has⟩:LC)]).flatMap LC.bs=L++cs.flatMap LC.bs++[bk,bo,bn] by simp[LC.bs],show (cs++[(⟨bk,bo,bn,x.c.had,x.c.has⟩:LC)]).flatMap LC.row=cs.flatMap LC.row++LC.row ⟨bk,bo,bn,x.c.had,x.c.has⟩ by simp];exact J5
 .have hb:b∈[bk,bo,bn]:=hb;simp only[zL0,zM0,or_false] at hb;rcases hb with rfl | rfl | rfl
  .exact t1
  .exact t2
  .exact t3
end
end DfN
namespace DfN
open Go Go.X Go.X.Df Go.Proofs
section
variable {S:QW} [GoodS S] {lf n:Nat} {h h' g0 h0:Q0} {K:ZK} {X:List ER} {Y:List CR} {v4 v5 il ic m q:Nat} {all:SL} {L bs:List LB} {R C vs:List AV} {rs:List LE} {cs:List LC} {a c:SL}
theorem fill1 {R B v:List AV} {o:Nat} (hR:R.length=o) (hv:v.length=B.length):(R++B).take o++(v++(R++B).drop (o+v.length))=R++v:=by rw[List.take_left' hR,<- List.drop_drop,List.drop_left' hR,hv,List.drop_length,zS0]
theorem lend_fin2 {C':QX} {z:ZT} (J:LJ h0 h v4 v5 il ic (m+1) (q+1) all L (R++b2) (C++b5)) (hR:R.length=0+m*2) (hC:C.length=0+q*5) (la:a.n=m) (lc:c.n=q) (hn:h0.next<=h.next)
  (hz:ZAt 141 [(0,.sl a),(1,.sl c),(4,.pv false v4 0),(5,.pv false v5 0)] z)
  (hk:∀h',Q5 (λi=>h0.next<=i) h h'->Loan h0 h' ⟨false,il,0,m+1,m+1,false⟩ ⟨false,ic,0,q+1,q+1,false⟩ all m q L R C->K (.agg [.sl ⟨false,il,0,m+1,m+1,false⟩,.sl ⟨false,ic,0,q+1,q+1,false⟩,.sl all]) h') :
  zAt Try.prog C' lf 11 [1,1,1,1] z (Q3 Try.prog 11 K) ⟨[],Q3 Try.prog 11 K⟩ h:=by
 refine Qr _ hz λd=>(jAh _ _ _ _ _ _ _ _ _).mpr ?_;obtain⟨f1,m1,n1⟩:=qUr h [.int .u8 109,.int .u8 97,.int .u8 114,.int .u8 107] 1 false false true;have J1:=J.fr f1;refine⟨rfl,rfl,J.v5v.ldL _ rfl ⟨_,_,_,_,rfl,Ql _ _,zO0 _,?_⟩⟩;have ea:(Int.ofNat a.n:Int)=((m:Nat):Int):=by rw[la];rfl
 have ec:(Int.ofNat c.n:Int)=((q:Nat):Int):=by rw[lc];rfl
 rw[ea,ec];obtain⟨J2,p2,F2⟩:=J1.setl (vs:=[.slice h.next 0 4 4 false,.nils]) (o:=0+m*2) (by rw[zC0,hR];exact zN0 _);rw[fill1 (B:=b2) (v:=[.slice h.next 0 4 4 false,.nils]) hR rfl] at J2;refine⟨rfl,qAe.2 ⟨by show _<m+1;omega,rfl,p2,?_⟩⟩;have M1:qSz h0 ((h.newO (.cells [.int .u8 109,.int .u8 97,.int .u8 114,.int .u8 107] 1 false false)).put h.next (some (.cells [.int .u8 109,.int .u8 97,.int .u8 114,.int .u8 107] 1 false true))) h.next:=⟨hn,by rw[n1];omega,m1⟩
 clear p2;dsimp only at J1 J2 ⊢;generalize (h.newO (.cells [.int .u8 109,.int .u8 97,.int .u8 114,.int .u8 107] 1 false false)).put h.next (some (.cells [.int .u8 109,.int .u8 97,.int .u8 114,.int .u8 107] 1 false true))=H1 at f1 n1 J1 J2 M1 F2 ⊢
 have ne1:∀{i cs sz g mk},H1.get i=some (.cells cs sz g mk)->sz≠2->i≠il:=λhg hz e=>by rw[e,J1.lb] at hg;cases hg;exact hz rfl
 have M2:=M1.fr (Q5.hput H1 (0+m*2) [.slice h.next 0 4 4 false,.nils] (S:=λj=>j=il) λ_=>rfl) (ne1 M1.2.2 (by decide));have n2:(hput H1 il (0+m*2) [.slice h.next 0 4 4 false,.nils]).next=H1.next:=qg _ _ _ _
 generalize hkm:h.next=km at J2 M2 n1 n2 F2 ⊢
 generalize hput H1 il (0+m*2) [.slice km 0 4 4 false,.nils]=H2 at J2 M2 F2 n2 ⊢;have FA:Q5 (λi=>h0.next<=i) h H2:=(f1.mono λ_ _ e=>e.elim).trans F2;clear f1 F2 J1 M1 ne1 J m1;obtain⟨f3,m3,n3⟩:=qUr H2 [.int .u8 109,.int .u8 97,.int .u8 114,.int .u8 107] 1 false false true;have J3:=J2.fr f3;refine⟨rfl,rfl,J2.v5v.ldL _ rfl ⟨_,_,_,_,rfl,Ql _ _,zO0 _,?_⟩⟩;obtain⟨J4,p4,F4⟩:=J3.setc (vs:=[.slice H2.next 0 4 4 false,.bool false,.bool false,.nils,.nils]) (o:=0+q*5) (by rw[zC0,hC];exact zN0 _);rw[fill1 (B:=b5) (v:=[.slice H2.next 0 4 4 false,.bool false,.bool false,.nils,.nils]) hC rfl] at J4;refine⟨rfl,qAe.2 ⟨by show _<q+1;omega,rfl,p4,?_⟩⟩;have M3:=M2.fr f3 id;have N3:qSz h0 ((H2.newO (.cells [.int .u8 109,.int .u8 97,.int .u8 114,.int .u8 107] 1 false false)).put H2.next (some (.cells [.int .u8 109,.int .u8 97,.int .u8 114,.int .u8 107] 1 false true))) H2.next:=⟨by omega,by rw[n3];omega,m3⟩
 clear p4;dsimp only at J3 J4 ⊢;generalize (H2.newO (.cells [.int .u8 109,.int .u8 97,.int .u8 114,.int .u8 107] 1 false false)).put H2.next (some (.cells [.int .u8 109,.int .u8 97,.int .u8 114,.int .u8 107] 1 false true))=H3 at f3 n3 J3 J4 M3 N3 F4 ⊢
 have ne3:∀{i cs sz g mk},H3.get i=some (.cells cs sz g mk)->sz≠5->i≠ic:=λhg hz e=>by rw[e,J3.cb] at hg;cases hg;exact hz rfl
 have f4:Q5 (λj=>j=ic) H3 (hput H3 ic (0+q*5) [.slice H2.next 0 4 4 false,.bool false,.bool false,.nils,.nils]):=Q5.hput _ _ _ λ_=>rfl;have M4:=M3.fr f4 (ne3 M3.2.2 (by decide));have N4:=N3.fr f4 (ne3 N3.2.2 (by decide));have n4:(hput H3 ic (0+q*5) [.slice H2.next 0 4 4 false,.bool false,.bool false,.nils,.nils]).next=H3.next:=qg _ _ _ _
 generalize H2.next=km2 at J4 M4 N4 n3 n4 f4 F4 ⊢
 generalize hput H3 ic (0+q*5) [.slice km2 0 4 4 false,.bool false,.bool false,.nils,.nils]=H4 at J4 M4 N4 F4 n4 f4 ⊢;have FB:Q5 (λi=>h0.next<=i) h H4:=FA.trans ((f3.mono λ_ _ e=>e.elim).trans F4);clear FA f3 F4 f4 J2 J3 M3 N3 ne3 M2 m3;refine⟨rfl,J4.v5v.ldL _ rfl (J4.v5v.ldL _ rfl (J4.v5v.ldL _ rfl ⟨rfl,J4.v4v.zput (by simp) ⟨rfl,?_⟩⟩))⟩;have V5:=Var.put_all J4.v4v (vs:=[(⟨false,il,0,m+1,m+1,false⟩:SL).av,(⟨false,ic,0,q+1,q+1,false⟩:SL).av,all.av]) rfl;have f5:=J4.v4v.put_fr 0 [(⟨false,il,0,m+1,m+1,false⟩:SL).av,(⟨false,ic,0,q+1,q+1,false⟩:SL).av,all.av];have n5:(hput H4 v4 0 [(⟨false,il,0,m+1,m+1,false⟩:SL).av,(⟨false,ic,0,q+1,q+1,false⟩:SL).av,all.av]).next=H4.next:=qg _ _ _ _
 generalize hput H4 v4 0 [(⟨false,il,0,m+1,m+1,false⟩:SL).av,(⟨false,ic,0,q+1,q+1,false⟩:SL).av,all.av]=H5 at V5 f5 n5 ⊢;have ne5:∀{i cs sz g mk},H4.get i=some (.cells cs sz g mk)->sz≠0->i≠v4:=λhg hz e=>by rw[e,J4.v4v.get] at hg;cases hg;exact hz rfl
 have ln:=J4.ln;have cn:=J4.cn;refine V5.ldL _ rfl (V5.ldL _ rfl (V5.ldL _ rfl (hk H5 (FB.trans (f5.mono λi _ e=>by rw[e];exact J4.g4)) ⟨⟨il,km,rfl,J4.gl,by omega,(f5.same _ ln (ne5 J4.lb (by decide))).trans J4.lb,M4.fr f5 (ne5 M4.2.2 (by decide))⟩,
  ⟨ic,km2,rfl,J4.gc,by omega,(f5.same _ cn (ne5 J4.cb (by decide))).trans J4.cb,N4.fr f5 (ne5 N4.2.2 (by decide))⟩,
  J4.arr.fr f5 λe e'=>J4.arr.ne2 e J4.v4v.get e'.symm,λb hb=>(J4.ok b hb).fr f5 (ne5 (J4.ok b hb).g (by decide)),J4.asc⟩)))
end
end DfN
namespace DfN
open Go Go.X Go.X.Df Go.Proofs
abbrev Lnd (h0 h:Q0) (l c all:SL) (rs:List LE) (cs:List LC):Prop:=Loan h0 h l c all rs.length cs.length (rs.flatMap LE.bs++cs.flatMap LC.bs) (rs.flatMap LE.row) (cs.flatMap LC.row)
def Tl (rs:List LE) (cs:List LC):Prop:=(∀r,r∈rs->∀b,b∈r.bs->b.t=[167,168])/\∀r,r∈cs->∀b,b∈r.bs->b.t=[167,168]
section
variable {S:QW} [GoodS S] {lf n:Nat} {h h' g0 h0:Q0} {K:ZK} {X:List ER} {Y:List CR} {v4 v5 il ic m q:Nat} {all:SL} {L bs:List LB} {R C vs:List AV} {a c:SL}
theorem bl_one (B:List AV) (k m:Nat) (h:k=m):(List.replicate (m-k+1) B).flatten=B:=by subst h;rw[Nat.sub_self,List.replicate_succ,List.flatten_cons,List.replicate_zero,List.flatten_nil,zS0]
theorem lend_go2 {z:ZT} {h1:Q0} (J:LJ h h1 v4 v5 il ic (X.length+1) (Y.length+1) QE [] (List.replicate (X.length+1) b2).flatten (List.replicate (Y.length+1) b5).flatten) (f:Q5 Qa h h1) (ha:j1 h a X) (hc:Chgs h c Y) (lX:X.length<=1048576) (lY:Y.length<=1048576)
  (mX:∀x,x∈X->Mb x.e) (mY:∀y,y∈Y->Mc y.c) (hlf:1048576<lf)
  (hz:ZAt 141 [(0,.sl a),(1,.sl c),(4,.pv false v4 0),(5,.pv false v5 0),(6,.int .i64 0)] z)
  (hk:∀h' l c' all rs cs,Q5 Qa h h'->Lnd h h' l c' all rs cs->ents (rs.map LE.er)=ents X->(cs.map LC.cr).map CR.c=Y.map CR.c->Tl rs cs->K (.agg [.sl l,.sl c',.sl all]) h') :
  Qy lf (zAt Try.prog (Qq Try.prog S lf (n+1)) lf 11 [1,1,0,1,0,0]) z (KZ.mk ((0,λz' h'=>zAt Try.prog (Qq Try.prog S lf (n+1)) lf 11 [1,1,1] z' (Q3 Try.prog 11 K) (KZ.mk [] (Q3 Try.prog 11 K)) h')::KZ.env (KZ.mk [] (Q3 Try.prog 11 K))) (KZ.ret (KZ.mk [] (Q3 Try.prog 11 K)))) h1:=by
 have la:=ha.len (by decide);have lc:=hc.len (by decide);have ea:(Int.ofNat a.n:Int)=a.n:=rfl;have ec:(Int.ofNat c.n:Int)=c.n:=rfl;have hf:=f.next
 refine Qy.inv (λq z h'=>∃(all:SL) (rs:List LE),ZAt 141 [(0,.sl a),(1,.sl c),(4,.pv false v4 0),(5,.pv false v5 0),(6,.int .i64 (rs.length:Int))] z/\Q5 (λi=>h.next<=i) h1 h'/\LJ h h' v4 v5 il ic (X.length+1) (Y.length+1) all (rs.flatMap LE.bs) (rs.flatMap LE.row++(List.replicate (X.length-rs.length+1) b2).flatten) (List.replicate (Y.length+1) b5).flatten/\rs.length+q=X.length/\ents (rs.map LE.er)=(ents X).take rs.length/\∀r,r∈rs->∀b,b∈r.bs->b.t=[167,168]) (n:=X.length) (by omega)
  ⟨QE,[],hz,Q5.refl _ _,J,Nat.zero_add _,rfl,λr hr=>(by cases hr)⟩ ?_
 clear J hz;rintro q z h' kk hq ⟨all,rs,hz,f2,J,hj,hr,hv⟩ ih;have fn2:=f2.next
 have F:Q5 Qa h h':=f.behind f2;by_cases hlt:rs.length<X.length
 .refine qCt J (ha.fr F) rfl hlt lX mX (by omega) hz λh3 z3 all3 r J3 e3 v3 f3 hz3=>?_;refine ih (q-1) z3 h3 (by omega) ⟨all3,rs++[r],by rw[zC0];exact hz3,f2.trans f3,by rw[zC0];exact J3,by rw[zC0];show _+1+_=_;omega,?_,λr' hr'=>?_⟩
  .rw[zC0];show _=(ents X).take (rs.length+1);have ex:(ents X)[rs.length]?=some (r.k.k,r.v.k):=by rw[ents,zV0];exact e3
   rw[List.take_add_one,<- hr,ex,ents,ents,zW0,zW0];rfl
  .rcases List.mem_append.1 hr' with h' | h'
   .exact hv r' h'
   .rw[List.mem_singleton.1 h'];exact v3
 .refine Qr _ hz λd=>(qLp _ _ _ _ _ _ _ _ _ _ _ _ _).mpr ?_;have hje:rs.length=X.length:=by omega
  rw[decide_eq_false (by rw[ea,la];omega),qAz];rw[List.take_of_length_le (by rw[ents,zJ0];omega)] at hr;rw[bl_one _ _ _ hje] at J;clear ih hlt hz;refine Qr (n:=141) [(0,.sl a),(1,.sl c),(4,.pv false v4 0),(5,.pv false v5 0)] ⟨rfl,rfl,rfl,rfl,rfl,trivial⟩ λd'=>(lend_a111 _ _ _ _ _ _ _ _ _).mpr ?_
  refine Qy.inv (λq z h2=>∃(all:SL) (cs:List LC),ZAt 141 [(0,.sl a),(1,.sl c),(4,.pv false v4 0),(5,.pv false v5 0),(9,.int .i64 (cs.length:Int))] z/\Q5 (λi=>h.next<=i) h' h2/\LJ h h2 v4 v5 il ic (X.length+1) (Y.length+1) all (rs.flatMap LE.bs++cs.flatMap LC.bs) (rs.flatMap LE.row++b2) (cs.flatMap LC.row++(List.replicate (Y.length-cs.length+1) b5).flatten)/\cs.length+q=Y.length/\(cs.map LC.cr).map CR.c=(Y.map CR.c).take cs.length/\∀r,r∈cs->∀b,b∈r.bs->b.t=[167,168]) (n:=Y.length) (by omega)
   ⟨all,[],⟨rfl,rfl,rfl,rfl,rfl,rfl,trivial⟩,Q5.refl _ _,by simpa using J,Nat.zero_add _,rfl,λr hr=>(by cases hr)⟩ ?_
  clear J all;rintro q3 z3 h3 k3 hq3 ⟨all,cs,hz,f3,J,hj3,hr3,hv3⟩ ih;have fn3:=f3.next
  have F3:Q5 Qa h h3:=F.behind f3;have lb:=le_bs rs;by_cases hlt:cs.length<Y.length
  .refine qCu J (hc.fr F3) rfl hlt lY (by omega) mY (by omega) (λe=>hc.seg.lt e) hz λh4 z4 all4 r J4 e4 v4' f4 hz4=>?_;refine ih (q3-1) z4 h4 (by omega) ⟨all4,cs++[r],by rw[zC0];exact hz4,f3.trans f4,by rw[zC0];exact J4,by rw[zC0];show _+1+_=_;omega,?_,λr' hr'=>?_⟩
   .rw[zC0];show _=(Y.map CR.c).take (cs.length+1);rw[List.take_add_one,<- hr3,zV0,e4,zW0,zW0];rfl
   .rcases List.mem_append.1 hr' with h' | h'
    .exact hv3 r' h'
    .rw[List.mem_singleton.1 h'];exact v4'
  .refine Qr _ hz λd=>(qSa _ _ _ _ _ _ _ _ _ _ _ _ _).mpr ?_;have hje3:cs.length=Y.length:=by omega
   rw[decide_eq_false (by rw[ec,lc];omega),qAz];rw[List.take_of_length_le (by rw[zJ0];omega)] at hr3;rw[bl_one _ _ _ hje3,<- hje,<- hje3] at J;refine lend_fin2 J (by rw[qAn];omega) (by rw[qAo];omega) (by rw[la,hje]) (by rw[lc,hje3]) (by omega) ⟨rfl,rfl,rfl,rfl,rfl,trivial⟩ λh4 f4 l4=>?_;exact hk h4 _ _ _ rs cs (F3.behind f4) l4 hr hr3 ⟨hv,hv3⟩
theorem qAw {H:Q0} {z:ZT} (f:Q5 Qa h H) (e4:H.get h.next=some (.cells [.nils,.nils,.nils] 0 false false)) (e5:H.get v5=some (.cells [.nils,.nils,.nils] 0 false false))
  (el:H.get il=some (.cells (List.replicate (X.length+1) b2).flatten 2 false false)) (ec:H.get ic=some (.cells (List.replicate (Y.length+1) b5).flatten 5 false false))
  (hn:H.next=h.next+4) (i5:h.next<v5/\v5<h.next+4) (il':h.next<il/\il<h.next+4) (ic':h.next<ic/\ic<h.next+4)
  (ha:j1 h a X) (hc:Chgs h c Y) (lX:X.length<=1048576) (lY:Y.length<=1048576)
  (mX:∀x,x∈X->Mb x.e) (mY:∀y,y∈Y->Mc y.c) (hlf:1048576<lf)
  (hz:ZAt 141 [(0,.sl a),(1,.sl c),(4,.pv false h.next 0),(5,.pv false v5 0),(6,.int .i64 0)] z)
  (hk:∀h' l c' all rs cs,Q5 Qa h h'->Lnd h h' l c' all rs cs->ents (rs.map LE.er)=ents X->(cs.map LC.cr).map CR.c=Y.map CR.c->Tl rs cs->K (.agg [.sl l,.sl c',.sl all]) h') :
  jb H v5 0 3 (Qy lf (zAt Try.prog (Qq Try.prog S lf (n+1)) lf 11 [1,1,0,1,0,0]) z (KZ.mk ((0,λz' h'=>zAt Try.prog (Qq Try.prog S lf (n+1)) lf 11 [1,1,1] z' (Q3 Try.prog 11 K) (KZ.mk [] (Q3 Try.prog 11 K)) h')::KZ.env (KZ.mk [] (Q3 Try.prog 11 K))) (KZ.ret (KZ.mk [] (Q3 Try.prog 11 K))))
   (hput H v5 0 [.slice il 0 (X.length+1) (X.length+1) false,.slice ic 0 (Y.length+1) (Y.length+1) false,.nils])):=by
 have V5:Var H v5 [.nils,.nils,.nils]:=⟨by omega,e5⟩;have V4:Var H h.next [.nils,.nils,.nils]:=⟨by omega,e4⟩
 refine V5.zput (by simp) ?_;have V5':=Var.put_all V5 (vs:=[.slice il 0 (X.length+1) (X.length+1) false,.slice ic 0 (Y.length+1) (Y.length+1) false,.nils]) rfl;have f5:=V5.put_fr 0 [.slice il 0 (X.length+1) (X.length+1) false,.slice ic 0 (Y.length+1) (Y.length+1) false,.nils];have n5:(hput H v5 0 [.slice il 0 (X.length+1) (X.length+1) false,.slice ic 0 (Y.length+1) (Y.length+1) false,.nils]).next=H.next:=qg _ _ _ _
 generalize hput H v5 0 [.slice il 0 (X.length+1) (X.length+1) false,.slice ic 0 (Y.length+1) (Y.length+1) false,.nils]=H5 at V5' f5 n5 ⊢;have nl:il≠v5:=λe=>by rw[e,e5] at el;simp only[Option.some.injEq,QB.cells.injEq] at el;exact absurd el.2.1 (by decide)
 have nc:ic≠v5:=λe=>by rw[e,e5] at ec;simp only[Option.some.injEq,QB.cells.injEq] at ec;exact absurd ec.2.1 (by decide)
 exact lend_go2 ⟨V4.fr f5 (by omega),V5',by omega,(f5.same _ (by omega) nl).trans el,by omega,(f5.same _ (by omega) nc).trans ec,zN0 _,by omega,by omega,by omega,Grown.start _ _ _,λr hr=>(by cases hr),List.Pairwise.nil,by omega,λe=>(by cases e)⟩
  (f.back f5 λi hi e=>by omega) ha hc lX lY mX mY hlf hz hk
theorem lend2_ok (ha:j1 h a X) (hc:Chgs h c Y) (lX:X.length<=1048576) (lY:Y.length<=1048576)
  (mX:∀x,x∈X->Mb x.e) (mY:∀y,y∈Y->Mc y.c) (hlf:1048576<lf)
  (hk:∀h' l c' all rs cs,Q5 Qa h h'->Lnd h h' l c' all rs cs->ents (rs.map LE.er)=ents X->(cs.map LC.cr).map CR.c=Y.map CR.c->Tl rs cs->K (.agg [.sl l,.sl c',.sl all]) h') :
  Qq Try.prog S lf (n+2) 11 [.sl a,.sl c] K h:=by
 refine QJ (hSD (by decide) (by decide)) (by kernel_rfl) ?_;rw[lend_nf];have la:=ha.len (by decide);have lc:=hc.len (by decide);have e0:IntKind.i64.wrap (Int.ofNat (SL.n a)+1)=((X.length+1:Nat):Int):=by
  have:(Int.ofNat (SL.n a):Int)=((X.length:Nat):Int):=by rw[la];rfl
  rw[this,QD (by omega) (by omega)];rfl
 have e1:IntKind.i64.wrap (Int.ofNat (SL.n c)+1)=((Y.length+1:Nat):Int):=by
  have:(Int.ofNat (SL.n c):Int)=((Y.length:Nat):Int):=by rw[lc];rfl
  rw[this,QD (by omega) (by omega)];rfl
 simp only[qAy,e0,e1,qCd,zAnd_iff,zRoom_iff,true_and,and_true,zN0,qAr (k:=X.length+1) (by omega),qYe (k:=Y.length+1) (by omega)];have N:∀o0 o1 o2 o3,(((((h.newO o0).newO o1).newO o2).newO o3).next=h.next+4):=λ_ _ _ _=>rfl;refine⟨⟨zN0 _,zN0 _,?_⟩,⟨zN0 _,zN0 _,?_⟩,⟨zN0 _,zN0 _,?_⟩,⟨zN0 _,zN0 _,?_⟩,⟨zN0 _,zN0 _,?_⟩,⟨zN0 _,zN0 _,?_⟩⟩
 .obtain⟨g0,g1,g2,g3,f⟩:=new4 h (.cells [AV.nils,.nils,.nils] 0 false false) (.cells (List.replicate (X.length+1) b2).flatten 2 false false) (.cells (List.replicate (Y.length+1) b5).flatten 5 false false) (.cells [AV.nils,.nils,.nils] 0 false false);exact qAw (v5:=h.next+3) (il:=h.next+1) (ic:=h.next+2) f g0 g3 g1 g2 rfl (by omega) (by omega) (by omega) ha hc lX lY mX mY hlf ⟨rfl,rfl,rfl,rfl,rfl,rfl,trivial⟩ hk
 .obtain⟨g0,g1,g2,g3,f⟩:=new4 h (.cells [AV.nils,.nils,.nils] 0 false false) (.cells (List.replicate (X.length+1) b2).flatten 2 false false) (.cells [AV.nils,.nils,.nils] 0 false false) (.cells (List.replicate (Y.length+1) b5).flatten 5 false false);exact qAw (v5:=h.next+2) (il:=h.next+1) (ic:=h.next+3) f g0 g2 g1 g3 rfl (by omega) (by omega) (by omega) ha hc lX lY mX mY hlf ⟨rfl,rfl,rfl,rfl,rfl,rfl,trivial⟩ hk
 .obtain⟨g0,g1,g2,g3,f⟩:=new4 h (.cells [AV.nils,.nils,.nils] 0 false false) (.cells (List.replicate (Y.length+1) b5).flatten 5 false false) (.cells (List.replicate (X.length+1) b2).flatten 2 false false) (.cells [AV.nils,.nils,.nils] 0 false false);exact qAw (v5:=h.next+3) (il:=h.next+2) (ic:=h.next+1) f g0 g3 g2 g1 rfl (by omega) (by omega) (by omega) ha hc lX lY mX mY hlf ⟨rfl,rfl,rfl,rfl,rfl,rfl,trivial⟩ hk
 .obtain⟨g0,g1,g2,g3,f⟩:=new4 h (.cells [AV.nils,.nils,.nils] 0 false false) (.cells (List.replicate (Y.length+1) b5).flatten 5 false false) (.cells [AV.nils,.nils,.nils] 0 false false) (.cells (List.replicate (X.length+1) b2).flatten 2 false false);exact qAw (v5:=h.next+2) (il:=h.next+3) (ic:=h.next+1) f g0 g2 g3 g1 rfl (by omega) (by omega) (by omega) ha hc lX lY mX mY hlf ⟨rfl,rfl,rfl,rfl,rfl,rfl,trivial⟩ hk
 .obtain⟨g0,g1,g2,g3,f⟩:=new4 h (.cells [AV.nils,.nils,.nils] 0 false false) (.cells [AV.nils,.nils,.nils] 0 false false) (.cells (List.replicate (X.length+1) b2).flatten 2 false false) (.cells (List.replicate (Y.length+1) b5).flatten 5 false false);exact qAw (v5:=h.next+1) (il:=h.next+2) (ic:=h.next+3) f g0 g1 g2 g3 rfl (by omega) (by omega) (by omega) ha hc lX lY mX mY hlf ⟨rfl,rfl,rfl,rfl,rfl,rfl,trivial⟩ hk
 .obtain⟨g0,g1,g2,g3,f⟩:=new4 h (.cells [AV.nils,.nils,.nils] 0 false false) (.cells [AV.nils,.nils,.nils] 0 false false) (.cells (List.replicate (Y.length+1) b5).flatten 5 false false) (.cells (List.replicate (X.length+1) b2).flatten 2 false false);exact qAw (v5:=h.next+1) (il:=h.next+3) (ic:=h.next+2) f g0 g1 g3 g2 rfl (by omega) (by omega) (by omega) ha hc lX lY mX mY hlf ⟨rfl,rfl,rfl,rfl,rfl,rfl,trivial⟩ hk
end
end DfN
namespace DfN
open Go Go.X Go.X.Df Go.Proofs
theorem Lnd.ents {h0 h:Q0} {l c all:SL} {rs:List LE} {cs:List LC} (a:Lnd h0 h l c all rs cs):l.nil=false/\l.cap=rs.length+1/\j1 h (l.cut 2 0 rs.length l.cap l.ext) (rs.map LE.er)/\SlOk (l.cut 2 0 rs.length l.cap l.ext):=by
 obtain⟨i,m,rfl,e2,e3,e4,e5⟩:=a.ls;refine⟨rfl,rfl,⟨?_,λ_ hx=>rfl,λx hx=>?_⟩,λ_=>?_⟩
 .rw[show (rs.map LE.er).flatMap ER.row=rs.flatMap LE.row by rw[List.flatMap_map];rfl];exact Seg.own (i:=i) (n:=rs.length) (cap:=rs.length+1) (ext:=false) (qAn rs) e3 e4
 .obtain⟨r,hr,rfl⟩:=List.mem_map.1 hx;have ok:∀b,b∈r.bs->b.Ok h0 h:=λb hb=>a.ok b (zH0 _ (List.mem_flatMap.2 ⟨r,hr,hb⟩));exact⟨(ok r.k (by simp[LE.bs])).s,(ok r.v (by simp[LE.bs])).s⟩
 .show rs.length<=rs.length+1;omega
theorem Lnd.chgs {h0 h:Q0} {l c all:SL} {rs:List LE} {cs:List LC} (a:Lnd h0 h l c all rs cs):c.nil=false/\c.cap=cs.length+1/\Chgs h (c.cut 5 0 cs.length c.cap c.ext) (cs.map LC.cr):=by
 obtain⟨i,m,rfl,e2,e3,e4,e5⟩:=a.cs;refine⟨rfl,rfl,?_,λ_ hx=>rfl,λx hx=>?_⟩
 .rw[show (cs.map LC.cr).flatMap CR.row=cs.flatMap LC.row by rw[List.flatMap_map];rfl];exact Seg.own (i:=i) (n:=cs.length) (cap:=cs.length+1) (ext:=false) (qAo cs) e3 e4
 .obtain⟨r,hr,rfl⟩:=List.mem_map.1 hx;have ok:∀b,b∈r.bs->b.Ok h0 h:=λb hb=>a.ok b (zI0 _ (List.mem_flatMap.2 ⟨r,hr,hb⟩));exact⟨(ok r.k (by simp[LC.bs])).s,(ok r.o (by simp[LC.bs])).s,(ok r.n (by simp[LC.bs])).s⟩
theorem le_at:∀(rs:List LE) (M:List LB) (j:Nat) (r:LE),rs[j]?=some r->(rs.flatMap LE.bs++M)[2*j]?=some r.k/\(rs.flatMap LE.bs++M)[2*j+1]?=some r.v
 | [],_,j,r,h=>by simp at h
 | x::l,_,0,r,h=>by
  simp only[List.getElem?_cons_zero,Option.some.injEq] at h;subst h;exact⟨rfl,rfl⟩
 | x::l,M,j+1,r,h=>by
  rw[List.getElem?_cons_succ] at h
  have:=le_at l M j r h
  rw[zU0];exact this
theorem lc_at0:∀(cs:List LC) (j:Nat) (r:LC),cs[j]?=some r->(cs.flatMap LC.bs)[3*j]?=some r.k/\(cs.flatMap LC.bs)[3*j+1]?=some r.o/\(cs.flatMap LC.bs)[3*j+2]?=some r.n
 | [],j,r,h=>by simp at h
 | x::l,0,r,h=>by
  simp only[List.getElem?_cons_zero,Option.some.injEq] at h;subst h;exact⟨rfl,rfl,rfl⟩
 | x::l,j+1,r,h=>by
  rw[List.getElem?_cons_succ] at h
  have:=lc_at0 l j r h
  rw[zU0];exact this
theorem lc_at {rs:List LE} {cs:List LC} {j:Nat} {r:LC} (h:cs[j]?=some r):(rs.flatMap LE.bs++cs.flatMap LC.bs)[2*rs.length+3*j]?=some r.k/\(rs.flatMap LE.bs++cs.flatMap LC.bs)[2*rs.length+3*j+1]?=some r.o/\(rs.flatMap LE.bs++cs.flatMap LC.bs)[2*rs.length+3*j+2]?=some r.n:=by
 have e:=le_bs rs;have a:∀q,(rs.flatMap LE.bs++cs.flatMap LC.bs)[2*rs.length+3*j+q]?=(cs.flatMap LC.bs)[3*j+q]?:=λq=>by rw[zD1 (by omega)];congr 1;omega
 obtain⟨h1,h2,h3⟩:=lc_at0 cs j r h;exact⟨(a 0).trans h1,(a 1).trans h2,(a 2).trans h3⟩
section
variable {S:QW} [GoodS S] {lf n:Nat} {h h' g0 h0:Q0} {K:ZK} {X:List ER} {Y:List CR} {m q:Nat} {l c all b d:SL} {rs:List LE} {cs:List LC}
theorem Loan.at' {L:List LB} {R C:List AV} (a:Loan h0 h l c all m q L R C) {j:Nat} {x:LB} (hj:L[j]?=some x):all.nil=false/\j<all.len/\cellAt h all.i (all.o+j*1)=some x.f.av/\x.Ok h0 h:=by obtain⟨h1,h2,h3⟩:=Arr.at' a.arr (j:=j) (x:=x.f) (by rw[zV0,hj];rfl);exact⟨h1,h2,h3,a.ok x (zD0 hj)⟩
theorem qDi {a:SL} (ha:j1 h a X) (hc:Chgs h c Y) (lX:X.length<=1048576) (lY:Y.length<=1048576) (mX:∀x,x∈X->Mb x.e) (mY:∀y,y∈Y->Mc y.c) (hlf:1048576<lf) (hk:∀w:Int,K (.int .i64 w) h) :
  Qq Try.prog S lf (n+1) 9 [.sl a,.sl c] K h:=by
 refine QJ (hSD (by decide) (by decide)) (by kernel_rfl) ?_;rw[weight_nf];have la:=ha.len (by decide);have ea:(Int.ofNat a.n:Int)=a.n:=rfl;have lc:=hc.len (by decide);have ec:(Int.ofNat c.n:Int)=c.n:=rfl
 have behind:∀(w:Int) (z:ZT),ZAt 68 [(1,.sl c),(5,.int .i64 w)] z->0<=w->w<=4398046511104 ->
   zAt Try.prog (Qq Try.prog S lf n) lf 9 [1,1,1] z (Q3 Try.prog 9 K) ⟨[],Q3 Try.prog 9 K⟩ h:=by
  intro w z hz h1 h2;refine Qr _ hz λd=>(qWa _ _ _ _ _ _ _).mpr ?_;have last:∀(w:Int) (z:ZT),ZAt 68 [(5,.int .i64 w)] z->zAt Try.prog (Qq Try.prog S lf n) lf 9 [1,1,1,1] z (Q3 Try.prog 9 K) ⟨[],Q3 Try.prog 9 K⟩ h:=λw z hz=>Qr _ hz λd'=>(qTo _ _ _ _ _ _).mpr (hk w);refine Qy.inv (λq z h'=>∃(j:Nat) (u:Int),ZAt 68 [(1,.sl c),(5,.int .i64 u),(7,.int .i64 (j:Int))] z/\h'=h/\j+q=Y.length/\0<=u/\u<=w+j*4194304) (n:=Y.length) (by omega) ⟨0,w,⟨rfl,rfl,rfl,rfl,trivial⟩,rfl,by omega,h1,by omega⟩ ?_;rintro q z h' kk hq ⟨j,u,hz,rfl,hj,u0,u1⟩ ih;refine Qr _ hz λd=>(qM5 _ _ _ _ _ _ _ _ _ _ _).mpr ?_;rw[q9];refine⟨λe=>?_,λe=>last u _ ⟨rfl,rfl,trivial⟩⟩;rw[qBf,q9];refine⟨λe2=>?_,λe2=>last u _ ⟨rfl,rfl,trivial⟩⟩;have na:=hc.nil_of (by decide) (j:=j) (by omega);have a1:=hc.len' (by decide) na;obtain⟨y,hy⟩:∃y,Y[j]?=some y:=⟨_,zE0 (by omega)⟩;obtain⟨yk,yo,yn⟩:=hc.ok y (zD0 hy);obtain⟨b1,b2,b3⟩:=mY y (zD0 hy);obtain⟨c0,_,_,c3,c4⟩:=hc.at5 na hy;have l1:=yk.len;have l2:=yo.len;have l3:=yn.len;have e1:(Int.ofNat y.ks.n:Int)=y.ks.n:=rfl;have e3:(Int.ofNat y.os.n:Int)=y.os.n:=rfl;have e4:(Int.ofNat y.ns.n:Int)=y.ns.n:=rfl;refine qAy.2 ?_;rw[QD (e:=u+1) (by omega) (by omega)];refine⟨na,qAe.2 ⟨by omega,rfl,rfl,Qh c0 (qAy.2 ?_)⟩⟩;rw[QD (e:=u+1+Int.ofNat y.ks.n) (by omega) (by omega)];refine⟨na,qAe.2 ⟨by omega,rfl,rfl,Qh c3 (qAy.2 ?_)⟩⟩;rw[QD (e:=u+1+Int.ofNat y.ks.n+Int.ofNat y.os.n) (by omega) (by omega)];refine⟨na,qAe.2 ⟨by omega,rfl,rfl,Qh c4 (qAy.2 ?_)⟩⟩;rw[QD (e:=u+1+Int.ofNat y.ks.n+Int.ofNat y.os.n+Int.ofNat y.ns.n) (by omega) (by omega)];refine qAy.2 ?_;rw[QD (e:=(j:Int)+1) (by omega) (by omega)];exact ih (q-1) _ _ (by omega) ⟨j+1,_,⟨rfl,rfl,rfl,rfl,trivial⟩,rfl,by omega,by omega,by omega⟩
 refine Qy.inv (λq z h'=>∃(j:Nat) (w:Int),ZAt 68 [(0,.sl a),(1,.sl c),(5,.int .i64 w),(6,.int .i64 (j:Int))] z/\h'=h/\j+q=X.length/\0<=w/\w<=j*4194304) (n:=X.length) (by omega)
  ⟨0,0,⟨rfl,rfl,rfl,rfl,rfl,trivial⟩,rfl,by omega,by omega,by omega⟩ ?_
 rintro q z h' kk hq ⟨j,w,hz,rfl,hj,w0,w1⟩ ih;refine Qr _ hz λd=>(qOx _ _ _ _ _ _ _ _ _ _ _ _).mpr ?_;rw[q9];refine⟨λe=>?_,λe=>behind w _ ⟨rfl,rfl,rfl,trivial⟩ w0 (by omega)⟩;rw[qBf,q9];refine⟨λe2=>?_,λe2=>behind w _ ⟨rfl,rfl,rfl,trivial⟩ w0 (by omega)⟩;have hjx:j<X.length:=by omega
 have na:=ha.nil_of (by decide) hjx;have a1:=ha.len' (by decide) na;obtain⟨x,hx⟩:∃x,X[j]?=some x:=⟨_,zE0 hjx⟩;obtain⟨xk,xv⟩:=ha.ok x (zD0 hx);obtain⟨b1,b2⟩:=mX x (zD0 hx);have l1:=xk.len;have l2:=xv.len;have e1:(Int.ofNat x.ks.n:Int)=x.ks.n:=rfl;have e3:(Int.ofNat x.vs.n:Int)=x.vs.n:=rfl;refine qAy.2 ?_;rw[QD (e:=w+1) (by omega) (by omega)];refine⟨na,qAe.2 ⟨by omega,rfl,rfl,Qh (ha.key na hx) (qAy.2 ?_)⟩⟩;rw[QD (e:=w+1+Int.ofNat x.ks.n) (by omega) (by omega)];refine⟨na,qAe.2 ⟨by omega,rfl,rfl,Qh (ha.val na hx) (qAy.2 ?_)⟩⟩;rw[QD (e:=w+1+Int.ofNat x.ks.n+Int.ofNat x.vs.n) (by omega) (by omega)];refine qAy.2 ?_;rw[QD (e:=(j:Int)+1) (by omega) (by omega)];exact ih (q-1) _ _ (by omega) ⟨j+1,_,⟨rfl,rfl,rfl,rfl,rfl,trivial⟩,rfl,by omega,by omega,by omega⟩
end
end DfN
namespace DfN
open Go Go.X Go.X.Df Go.Proofs
section
variable {S:QW} [GoodS S] {lf n:Nat} {h h' g0 h0:Q0} {K:ZK} {X:List ER} {Y:List CR} {m q:Nat} {l c all b d:SL} {rs:List LE} {cs:List LC}
theorem wi {a b:Int} (c:Int) (h:a+b=c) (h0:0<=c) (h1:c<=1099511627776):IntKind.i64.wrap (a+b)=c:=by rw[QD (by omega) (by omega)];exact h
theorem stays2_ok (L:Lnd h0 h l c all rs cs) (hb:j1 h b X) (hd:Chgs h d Y) (e1:DfN.ents (rs.map LE.er)=DfN.ents X) (e2:(cs.map LC.cr).map CR.c=Y.map CR.c) (tl:Tl rs cs) (lX:X.length<=1048576) (lY:Y.length<=1048576) (mX:∀x,x∈X->Mb x.e) (mY:∀y,y∈Y->Mc y.c) (hlf:1048576<lf)
  (hk:∀h',Q5 Qa h h'->K (.bool true) h') :
  Qq Try.prog S lf (n+2) 15 [.agg [.sl l,.sl c,.sl all],.sl b,.sl d] K h:=by
 refine QJ (hSD (by decide) (by decide)) (by kernel_rfl) ?_;rw[stays_nf];have lr:rs.length=X.length:=by have:=congrArg List.length e1;simpa [DfN.ents] using this
 have lcs:cs.length=Y.length:=by have:=congrArg List.length e2;simpa using this
 have lb:=hb.len (by decide);have ld:=hd.len (by decide);obtain⟨c1,c2,c3,c4⟩:=L.ents;obtain⟨k1,k2,k3⟩:=L.chgs;have V:=Var.new h [l.av,c.av,all.av];have f1:Q5 Qa h (h.newO (.cells [l.av,c.av,all.av] 0 false false)):=Q5.newO _ _ _;generalize h.newO (.cells [l.av,c.av,all.av] 0 false false)=H at V f1 ⊢;generalize h.next=v3 at V ⊢
 have L1:=L.fr (f1.mono (T:=λi=>i<h0.next) λ_ _ e=>e.elim) λi hi e=>by omega
 have hb1:=hb.fr f1;have hd1:=hd.fr f1;have q1:(Int.ofNat (SL.n b):Int)=((rs.length:Nat):Int):=by rw[lb,lr];rfl
 have q2:(Int.ofNat (SL.n d):Int)=((cs.length:Nat):Int):=by rw[ld,lcs];rfl
 obtain⟨ic,mc,rfl,g2,g3,g4,g5⟩:=L1.cs;obtain⟨il,ml,rfl,t2,t3,t4,t5⟩:=L1.ls;rw[q1,q2];refine⟨rfl,rfl,V.ldL _ rfl (qCd.2 ⟨⟨λe=>(by cases e),λ_=>⟨zA1 _,by show _<=rs.length+1;omega⟩⟩,qBv (n:=n) (c3.fr f1) hb1 (by rw[zJ0];omega) (by rw[zJ0];omega) ?_⟩)⟩;rw[decide_eq_true e1];refine qDf.2 ⟨rfl,rfl,V.ldL _ rfl (qCd.2 ⟨⟨λe=>(by cases e),λ_=>⟨zA1 _,by show _<=cs.length+1;omega⟩⟩,qJ5 (n:=n) (k3.fr f1) hd1 e2 (by rw[zJ0];omega) (by rw[zJ0];omega) ?_⟩)⟩;refine qDf.2 ?_;rw[Bool.not_true,qAz,qHv,qAz];have hm:cellAt H il (0+rs.length*2+0)=some (⟨false,ml,0,4,4,false⟩:SL).av:=by rw[qHc t4,zD1 (by rw[qAn];omega),qAn,show 0+rs.length*2+0-rs.length*2=0 by omega];rfl
 refine⟨rfl,rfl,V.ldL _ rfl ⟨rfl,qAe.2 ⟨by show _<rs.length+1;omega,rfl,rfl,Qh hm (t5.byts.zbytes ?_)⟩⟩⟩;rw[decide_eq_true rfl,Bool.not_true,qHv,qAz];have hm2:cellAt H ic (0+cs.length*5+0)=some (⟨false,mc,0,4,4,false⟩:SL).av:=by rw[qHc g4,zD1 (by rw[qAo];omega),qAo,show 0+cs.length*5+0-cs.length*5=0 by omega];rfl
 refine⟨rfl,rfl,V.ldL _ rfl ⟨rfl,qAe.2 ⟨by show _<cs.length+1;omega,rfl,rfl,Qh hm2 (g5.byts.zbytes ?_)⟩⟩⟩;rw[decide_eq_true rfl,Bool.not_true,qHv,qAz];refine Qy.inv (λq z h'=>∃j:Nat,ZAt 149 [(1,.sl b),(2,.sl d),(3,.pv false v3 0),(9,.int .i64 ((2*j:Nat):Int)),(10,.int .i64 (j:Int))] z/\h'=H/\j+q=X.length) (n:=X.length) (by omega) ⟨0,⟨rfl,rfl,rfl,rfl,rfl,rfl,trivial⟩,rfl,by omega⟩ ?_;rintro q z h' kk hq ⟨j,hz,rfl,hj⟩ ih;refine Qr _ hz λd3=>(qL2 _ _ _ _ _ _ _ _ _ _ _ _ _).mpr ?_;rw[q9];refine⟨λe=>?_,λe=>?_⟩
 .have hjx:j<X.length:=by omega
  have na:=hb1.nil_of (by decide) hjx;have a2:=hb1.len' (by decide) na;obtain⟨x,hx⟩:∃x,X[j]?=some x:=⟨_,zE0 hjx⟩;obtain⟨r,hr⟩:∃r,rs[j]?=some r:=⟨_,zE0 (by omega)⟩;have erx:r.er.e=x.e:=by
   have:=congrArg (λl=>l[j]?) e1
   simp only[zV0,hr,hx,DfN.ents,Option.map_some,Option.some.injEq] at this;exact this
  obtain⟨xk,xv⟩:=hb1.ok x (zD0 hx);obtain⟨s1,s2⟩:=mX x (zD0 hx);have tr:=tl.1 r (zD0 hr);obtain⟨y1,y2⟩:=le_at rs (cs.flatMap LC.bs) j r hr;obtain⟨p1,p2,p3,o1⟩:=L1.at' y1;obtain⟨_,w2,w3,o2⟩:=L1.at' y2;refine⟨rfl,rfl,V.ldL all rfl ⟨p1,qAe.2 ⟨p2,rfl,Qh p3 (o1.f.zbytes ⟨na,qAe.2 ⟨by omega,rfl,rfl,Qh (hb1.at' na hx (q:=0) (by decide) rfl) (xk.zbytes ⟨by show x.e.1.length+2<=1099511627776;omega,?_⟩)⟩⟩)⟩⟩⟩;rw[show r.k.k++r.k.t=x.e.1++[167,168] from by rw[<- erx,tr r.k (by simp[LE.bs])];rfl,decide_eq_true rfl,Bool.not_true,qAz];refine⟨rfl,rfl,V.ldL all rfl (qAy.2 ?_)⟩;rw[wi ((2*j+1:Nat):Int) (by omega) (by omega) (by omega)];refine⟨p1,qAe.2 ⟨w2,rfl,Qh w3 (o2.f.zbytes ⟨na,qAe.2 ⟨by omega,rfl,rfl,Qh (hb1.at' na hx (q:=1) (by decide) rfl) (xv.zbytes ⟨by show x.e.2.length+2<=1099511627776;omega,?_⟩)⟩⟩)⟩⟩;rw[show r.v.k++r.v.t=x.e.2++[167,168] from by rw[<- erx,tr r.v (by simp[LE.bs])];rfl,decide_eq_true rfl,Bool.not_true,qHv,qAz];refine qAy.2 (qAy.2 ?_);rw[wi ((2*(j+1):Nat):Int) (by omega) (by omega) (by omega),wi ((j+1:Nat):Int) (by omega) (by omega) (by omega)];exact ih (q-1) _ _ (by omega) ⟨j+1,⟨rfl,rfl,rfl,rfl,rfl,rfl,trivial⟩,rfl,by omega⟩
 .have hje:2*j=2*rs.length+3*0:=by omega
  clear ih;refine Qr (n:=149) [(2,.sl d),(3,.pv false v3 0),(9,.int .i64 ((2*j:Nat):Int))] ⟨rfl,rfl,rfl,rfl,trivial⟩ λd'=>(qRd _ _ _ _ _ _ _ _).mpr ?_;refine Qy.inv (λq z h2=>∃i:Nat,ZAt 149 [(2,.sl d),(3,.pv false v3 0),(9,.int .i64 ((2*rs.length+3*i:Nat):Int)),(11,.int .i64 (i:Int))] z/\h2=h'/\i+q=Y.length) (n:=Y.length) (by omega) ⟨0,⟨rfl,rfl,rfl,by rw[<- hje];rfl,rfl,trivial⟩,rfl,by omega⟩ ?_;rintro q3 z3 h3 k3 hq3 ⟨i,hz3,rfl,hi⟩ ih;refine Qr _ hz3 λd3=>(qKd _ _ _ _ _ _ _ _ _ _ _ _).mpr ?_;rw[q9];refine⟨λe=>?_,λe=>Qr (n:=149) [] ⟨rfl,trivial⟩ λd4=>(qOy _ _ _ _ _).mpr (hk _ f1)⟩;have na:=hd1.nil_of (by decide) (j:=i) (by omega);have a2:=hd1.len' (by decide) na;obtain⟨y,hy⟩:∃y,Y[i]?=some y:=⟨_,zE0 (by omega)⟩;obtain⟨r,hr⟩:∃r,cs[i]?=some r:=⟨_,zE0 (by omega)⟩;have ery:r.cr.c=y.c:=by
   have:=congrArg (λl=>l[i]?) e2
   simp only[zV0,hr,hy,Option.map_some,Option.some.injEq] at this;exact this
  obtain⟨yk,yo,yn⟩:=hd1.ok y (zD0 hy);obtain⟨s1,s2,s3⟩:=mY y (zD0 hy);obtain⟨w0,_,_,w3,w4⟩:=hd1.at5 na hy;have tr:=tl.2 r (zD0 hr);obtain⟨y1,y2,y3⟩:=lc_at (rs:=rs) hr;obtain⟨p1,p2,p3,o1⟩:=L1.at' y1;obtain⟨_,u2,u3,o2⟩:=L1.at' y2;obtain⟨_,x2,x3,o3⟩:=L1.at' y3;refine⟨rfl,rfl,V.ldL all rfl ⟨p1,qAe.2 ⟨p2,rfl,Qh p3 (o1.f.zbytes ⟨na,qAe.2 ⟨by omega,rfl,rfl,Qh w0 (yk.zbytes ⟨by show y.c.k.length+2<=1099511627776;omega,?_⟩)⟩⟩)⟩⟩⟩;rw[show r.k.k++r.k.t=y.c.k++[167,168] from by rw[<- ery,tr r.k (by simp[LC.bs])];rfl,decide_eq_true rfl,Bool.not_true,qAz];refine⟨rfl,rfl,V.ldL all rfl (qAy.2 ?_)⟩;rw[wi ((2*rs.length+3*i+1:Nat):Int) (by omega) (by omega) (by omega)];refine⟨p1,qAe.2 ⟨u2,rfl,Qh u3 (o2.f.zbytes ⟨na,qAe.2 ⟨by omega,rfl,rfl,Qh w3 (yo.zbytes ⟨by show y.c.old.length+2<=1099511627776;omega,?_⟩)⟩⟩)⟩⟩;rw[show r.o.k++r.o.t=y.c.old++[167,168] from by rw[<- ery,tr r.o (by simp[LC.bs])];rfl,decide_eq_true rfl,Bool.not_true,qHv,qAz];refine⟨rfl,rfl,V.ldL all rfl (qAy.2 ?_)⟩;rw[wi ((2*rs.length+3*i+2:Nat):Int) (by omega) (by omega) (by omega)];refine⟨p1,qAe.2 ⟨x2,rfl,Qh x3 (o3.f.zbytes ⟨na,qAe.2 ⟨by omega,rfl,rfl,Qh w4 (yn.zbytes ⟨by show y.c.new.length+2<=1099511627776;omega,?_⟩)⟩⟩)⟩⟩;rw[show r.n.k++r.n.t=y.c.new++[167,168] from by rw[<- ery,tr r.n (by simp[LC.bs])];rfl,decide_eq_true rfl,Bool.not_true,qHv,qAz];refine qAy.2 (qAy.2 ?_);rw[wi ((2*rs.length+3*(i+1):Nat):Int) (by omega) (by omega) (by omega),wi ((i+1:Nat):Int) (by omega) (by omega) (by omega)];exact ih (q3-1) _ _ (by omega) ⟨i+1,⟨rfl,rfl,rfl,rfl,rfl,trivial⟩,rfl,by omega⟩
end
end DfN
namespace DfN
open Go Go.X Go.X.Df Go.Proofs
def LB.tw (b:LB):LB:=⟨b.i,b.k.map DfN.tw,b.t.map DfN.tw⟩
def LE.tw (r:LE):LE:=⟨r.k,r.v.tw⟩
def LC.tw (r:LC):LC:=⟨r.k,r.o.tw,r.n,r.had,r.has⟩
theorem tw_f (b:LB):b.tw.f=b.f:=by simp[LB.f,LB.tw]
theorem tw_s (b:LB):b.tw.s=b.s:=by simp[LB.s,LB.tw]
theorem qCz {α β:Type} {f:α->β} {L:List α} {p:Nat} {b x:α} (hp:L[p]?=some b) (h:f x=f b):(L.set p x).map f=L.map f:=by
 rw[List.map_set,h];apply List.ext_getElem?;intro i;rw[List.getElem?_set];split
 .rename_i e;subst e;rw[zV0,hp];split
  .rfl
  .rename_i h2;rw[zJ0] at h2;exact absurd (List.getElem?_eq_some_iff.1 hp).1 h2
 .rfl
theorem Loan.tw {h0 h h':Q0} {l c all:SL} {m q p:Nat} {L:List LB} {R C:List AV} {b:LB} (a:Loan h0 h l c all m q L R C) (hp:L[p]?=some b) (f:Q5 (λi=>i=b.i) h h') (hg:h'.get b.i=some (.cells (ofBytes ((b.k++b.t).map DfN.tw)) 1 true false)) :
  Loan h0 h' l c all m q (L.set p b.tw) R C:=by
 have hb:=zD0 hp;have bo:=a.ok b hb;have nT:∀{i cs sz mk},h.get i=some (.cells cs sz false mk)->i≠b.i:=λhg e=>by rw[e,bo.g] at hg;cases hg
 obtain⟨⟨i,k,e1,e2,e3,e4,e5⟩,⟨i',k',d1,d2,d3,d4,d5⟩,ar,ok,asc⟩:=a;refine⟨⟨i,k,e1,e2,zF0 e3 f.next,(f.same _ e3 (nT e4)).trans e4,e5.fr f (nT e5.2.2)⟩,
  ⟨i',k',d1,d2,zF0 d3 f.next,(f.same _ d3 (nT d4)).trans d4,d5.fr f (nT d5.2.2)⟩,?_,λx hx=>?_,?_⟩
 .rw[qCz hp (tw_f b)];exact ar.fr f λe e'=>ar.ne_b e (λh=>by
   rw[List.map_eq_nil_iff] at h;rw[h] at hb;cases hb) bo.g e'.symm
 .obtain⟨j,hj⟩:=List.mem_iff_getElem?.1 hx;rw[List.getElem?_set] at hj;split at hj
  .split at hj
   .cases hj;refine⟨bo.l,zF0 bo.n f.next,?_,λx hx=>?_,by show (b.t.map DfN.tw).length=2;rw[zJ0];exact bo.t⟩
    .show h'.get b.i=some (.cells (ofBytes (b.k.map DfN.tw++b.t.map DfN.tw)) 1 true false);rw[<- zW0];exact hg
    .have hx:x∈b.k.map DfN.tw++b.t.map DfN.tw:=hx;rw[<- zW0] at hx;obtain⟨y,hy,rfl⟩:=List.mem_map.1 hx;exact tw_lt (bo.b y hy)
   .cases hj
  .rename_i hne;have q:=List.pairwise_iff_getElem.1 asc;refine (ok x (zD0 hj)).fr f λe=>?_;obtain⟨h1,rfl⟩:=List.getElem?_eq_some_iff.1 hj;obtain⟨h2,rfl⟩:=List.getElem?_eq_some_iff.1 hp;have e:L[j].i=L[p].i:=e;rcases Nat.lt_or_gt_of_ne hne with h3 | h3
   .have:=q p j (by rw[zJ0];exact h2) (by rw[zJ0];exact h1) h3
    simp at this;omega
   .have:=q j p (by rw[zJ0];exact h1) (by rw[zJ0];exact h2) h3
    simp at this;omega
 .rw[qCz (f:=LB.i) (x:=b.tw) hp rfl];exact asc
theorem le_set:∀(A:List LE) (r:LE) (B:List LE) (M:List LB) (x:LB),((A++r::B).flatMap LE.bs++M).set (2*A.length+1) x=(A++⟨r.k,x⟩::B).flatMap LE.bs++M
 | [],r,B,M,x=>rfl
 | a::A,r,B,M,x=>by show a.k::a.v::((A++r::B).flatMap LE.bs++M).set (2*A.length+1) x=_;rw[le_set A r B M x];rfl
theorem lc_set0:∀(A:List LC) (r:LC) (B:List LC) (x:LB),((A++r::B).flatMap LC.bs).set (3*A.length+1) x=(A++⟨r.k,x,r.n,r.had,r.has⟩::B).flatMap LC.bs
 | [],r,B,x=>rfl
 | a::A,r,B,x=>by show a.k::a.o::a.n::((A++r::B).flatMap LC.bs).set (3*A.length+1) x=_;rw[lc_set0 A r B x];rfl
theorem lc_set {N:List LB} {m:Nat} (hN:N.length=m*2) (A:List LC) (r:LC) (B:List LC) (x:LB):(N++(A++r::B).flatMap LC.bs).set (2*m+3*A.length+1) x=N++(A++⟨r.k,x,r.n,r.had,r.has⟩::B).flatMap LC.bs:=by rw[List.set_append_right _ _ (by omega),show 2*m+3*A.length+1-N.length=3*A.length+1 by omega,lc_set0]
theorem qCy {α:Type} {l:List α} {j:Nat} {r:α} (h:l[j]?=some r) (f:α->α):(l.take j).map f++l.drop j=(l.take j).map f++r::l.drop (j+1)/\(l.take (j+1)).map f++l.drop (j+1)=(l.take j).map f++f r::l.drop (j+1)/\((l.take j).map f).length=j:=by obtain⟨hl,hr⟩:=List.getElem?_eq_some_iff.1 h;refine⟨by rw[List.drop_eq_getElem_cons hl,hr],by rw[List.take_add_one,h,zW0,zX0];rfl,by rw[zJ0,zY0];omega⟩
section
variable {S:QW} [GoodS S] {lf n:Nat} {h g0 h0:Q0} {K:ZK} {X:List ER}
theorem turn_inl {z:ZT} {X0 X1 X2:ZT->Q0->Prop} {E:List (Nat × (ZT->Q0->Prop))} {v3 j:Nat} {m u:Int} {s:SL} {w:Ky} (hs:s.nil=false) (ho:s.o=0) (hl:s.len=w.length) (hi:s.i<h.next) (hg:h.get s.i=some (.cells (ofBytes w) 1 true false)) (hw:∀b,b∈w->b<256) (hlf:w.length<lf) (hm:w.length<8589934592)
  (hz:ZAt 67 [(1,.int .i64 m),(2,.int .i64 u),(3,.pv false v3 0),(6,.int .i64 (j:Int)),(7,.sl s),(8,.int .i64 0)] z)
  (hk:∀z' h',ZAt 67 [(1,.int .i64 m),(2,.int .i64 u),(3,.pv false v3 0),(6,.int .i64 (j:Int))] z'->Q5 (λi=>i=s.i) h h'->h'.get s.i=some (.cells (ofBytes (w.map tw)) 1 true false)->X2 z' h') :
  Qy lf (zAt Try.prog (Qq Try.prog S lf (n+1)) lf 16 [1,0,1,0,0,1,0,0,1,1,0,0]) z (KZ.mk ((2,X2)::(1,X1)::(0,X0)::E) (Q3 Try.prog 16 K)) h:=by
 refine Qy.inv (λq z h'=>∃c:Nat,ZAt 67 [(1,.int .i64 m),(2,.int .i64 u),(3,.pv false v3 0),(6,.int .i64 (j:Int)),(7,.sl s),(8,.int .i64 (c:Int))] z/\Q5 (λi=>i=s.i) h h'/\h'.get s.i=some (.cells (ofBytes (twk w c)) 1 true false)/\c+q=w.length) (n:=w.length) hlf
  ⟨0,hz,Q5.refl _ _,hg,by omega⟩ ?_
 rintro q z h' kk hq ⟨c,hz,f,g,hc⟩ ih;refine Qr _ hz λd=>(qI6 _ _ _ _ _ _ _ _ _ _ _ _ _ _ _ _).mpr ?_;have ls:(Int.ofNat (SL.n s):Int)=((w.length:Nat):Int):=by rw[SL.n_of hs,hl];rfl
 rw[q9];refine⟨λe=>?_,λe=>?_⟩
 .have hcw:c<w.length:=by rw[ls] at e;omega
  obtain⟨b,hb⟩:∃b,w[c]?=some b:=⟨_,zE0 hcw⟩;have hb256:=hw b (zD0 hb);have cell:cellAt h' s.i (s.o+c*1)=some (.int .u8 (.ofNat b)):=by rw[qHc g,ho,qi,zV0,show 0+c*1=c from by omega,twk_at hb];rfl
  refine⟨hs,qAe.2 ⟨by omega,rfl,qL9.2 ⟨(.ofNat b),cell,qAy.2 ?_⟩⟩⟩;rw[toU_u8 hb256,u8_wrap (b:=Nat.xor b 85) (tw_lt hb256)];refine⟨hs,qAe.2 ⟨by omega,rfl,⟨⟨by have:=f.next;omega,_,_,_,_,g,?_⟩,qAy.2 ?_⟩⟩⟩
  .rw[Qt,twk_len,ho];omega
  rw[QD (e:=(c:Int)+1) (by omega) (by omega)];have g2:=qEy (o:=0+c*1) (vs:=[AV.int .u8 (.ofNat (tw b))]) g;rw[twk_put hb] at g2;rw[ho];exact ih (q-1) _ _ (by omega) ⟨c+1,⟨rfl,rfl,rfl,rfl,rfl,rfl,rfl,trivial⟩,f.trans (Q5.hput _ _ _ λ_=>rfl),g2,by omega⟩
 .have hcw:c=w.length:=by rw[ls] at e;omega
  subst hcw;rw[twk_all] at g;exact hk _ _ ⟨rfl,rfl,rfl,rfl,rfl,trivial⟩ f g
theorem turn_inc {z:ZT} {X0 X1 X2:ZT->Q0->Prop} {E:List (Nat × (ZT->Q0->Prop))} {v3 j:Nat} {m u:Int} {s:SL} {w:Ky} (hs:s.nil=false) (ho:s.o=0) (hl:s.len=w.length) (hi:s.i<h.next) (hg:h.get s.i=some (.cells (ofBytes w) 1 true false)) (hw:∀b,b∈w->b<256) (hlf:w.length<lf) (hm:w.length<8589934592)
  (hz:ZAt 67 [(1,.int .i64 m),(2,.int .i64 u),(3,.pv false v3 0),(9,.int .i64 (j:Int)),(10,.sl s),(11,.int .i64 0)] z)
  (hk:∀z' h',ZAt 67 [(1,.int .i64 m),(2,.int .i64 u),(3,.pv false v3 0),(9,.int .i64 (j:Int))] z'->Q5 (λi=>i=s.i) h h'->h'.get s.i=some (.cells (ofBytes (w.map tw)) 1 true false)->X2 z' h') :
  Qy lf (zAt Try.prog (Qq Try.prog S lf (n+1)) lf 16 [1,1,1,0,0,1,0,0,1,1,0,0]) z (KZ.mk ((6,X2)::(5,X1)::(4,X0)::E) (Q3 Try.prog 16 K)) h:=by
 refine Qy.inv (λq z h'=>∃c:Nat,ZAt 67 [(1,.int .i64 m),(2,.int .i64 u),(3,.pv false v3 0),(9,.int .i64 (j:Int)),(10,.sl s),(11,.int .i64 (c:Int))] z/\Q5 (λi=>i=s.i) h h'/\h'.get s.i=some (.cells (ofBytes (twk w c)) 1 true false)/\c+q=w.length) (n:=w.length) hlf
  ⟨0,hz,Q5.refl _ _,hg,by omega⟩ ?_
 rintro q z h' kk hq ⟨c,hz,f,g,hc⟩ ih;refine Qr _ hz λd=>(qAq _ _ _ _ _ _ _ _ _ _ _ _ _ _ _ _).mpr ?_;have ls:(Int.ofNat (SL.n s):Int)=((w.length:Nat):Int):=by rw[SL.n_of hs,hl];rfl
 rw[q9];refine⟨λe=>?_,λe=>?_⟩
 .have hcw:c<w.length:=by rw[ls] at e;omega
  obtain⟨b,hb⟩:∃b,w[c]?=some b:=⟨_,zE0 hcw⟩;have hb256:=hw b (zD0 hb);have cell:cellAt h' s.i (s.o+c*1)=some (.int .u8 (.ofNat b)):=by rw[qHc g,ho,qi,zV0,show 0+c*1=c from by omega,twk_at hb];rfl
  refine⟨hs,qAe.2 ⟨by omega,rfl,qL9.2 ⟨(.ofNat b),cell,qAy.2 ?_⟩⟩⟩;rw[toU_u8 hb256,u8_wrap (b:=Nat.xor b 85) (tw_lt hb256)];refine⟨hs,qAe.2 ⟨by omega,rfl,⟨⟨by have:=f.next;omega,_,_,_,_,g,?_⟩,qAy.2 ?_⟩⟩⟩
  .rw[Qt,twk_len,ho];omega
  rw[QD (e:=(c:Int)+1) (by omega) (by omega)];have g2:=qEy (o:=0+c*1) (vs:=[AV.int .u8 (.ofNat (tw b))]) g;rw[twk_put hb] at g2;rw[ho];exact ih (q-1) _ _ (by omega) ⟨c+1,⟨rfl,rfl,rfl,rfl,rfl,rfl,rfl,trivial⟩,f.trans (Q5.hput _ _ _ λ_=>rfl),g2,by omega⟩
 .have hcw:c=w.length:=by rw[ls] at e;omega
  subst hcw;rw[twk_all] at g;exact hk _ _ ⟨rfl,rfl,rfl,rfl,rfl,trivial⟩ f g
theorem turn2_ok {l c all:SL} {rs:List LE} {cs:List LC} (L:Lnd h0 h l c all rs cs) (hn:h0.next<=h.next) (lr:rs.length<=1048576) (lc:cs.length<=1048576) (hv:∀r,r∈rs->r.v.k.length<=1048576) (ho:∀r,r∈cs->r.o.k.length<=1048576) (hlf:2097152<lf)
  (hk:∀h',Q5 (λi=>∃b,b∈rs.flatMap LE.bs++cs.flatMap LC.bs/\i=b.i) h h'->Lnd h0 h' l c all (rs.map LE.tw) (cs.map LC.tw)->K (.tup []) h') :
  Qq Try.prog S lf (n+2) 16 [.agg [.sl l,.sl c,.sl all],.int .i64 ((rs.length:Nat):Int),.int .i64 ((cs.length:Nat):Int)] K h:=by
 refine QJ (hSD (by decide) (by decide)) (by kernel_rfl) ?_;rw[turn_nf];have V:=Var.new h [l.av,c.av,all.av];have f1:Q5 Qa h (h.newO (.cells [l.av,c.av,all.av] 0 false false)):=Q5.newO _ _ _;generalize h.newO (.cells [l.av,c.av,all.av] 0 false false)=H at V f1 ⊢;generalize e3:h.next=v3 at V ⊢
 have L1:=L.fr (f1.mono (T:=λi=>i<h0.next) λ_ _ e=>e.elim) λi hi e=>by omega
 have vne:∀b,b∈rs.flatMap LE.bs++cs.flatMap LC.bs->v3≠b.i:=λb hb=>by have:=(L.ok b hb).n;omega
 have back:∀{h'},Q5 (λi=>∃b,b∈rs.flatMap LE.bs++cs.flatMap LC.bs/\i=b.i) H h'->Var h' v3 [l.av,c.av,all.av]:=λf=>V.fr f λ⟨b,hb,e⟩=>vne b hb e
 refine Qy.inv (λq z h'=>∃j:Nat,ZAt 67 [(1,.int .i64 ((rs.length:Nat):Int)),(2,.int .i64 ((cs.length:Nat):Int)),(3,.pv false v3 0),(6,.int .i64 (j:Int))] z/\Q5 (λi=>∃b,b∈rs.flatMap LE.bs++cs.flatMap LC.bs/\i=b.i) H h' /\
   Loan h0 h' l c all rs.length cs.length (((rs.take j).map LE.tw++rs.drop j).flatMap LE.bs++cs.flatMap LC.bs) (rs.flatMap LE.row) (cs.flatMap LC.row)/\j+q=rs.length) (n:=rs.length) (by omega)
  ⟨0,⟨rfl,rfl,rfl,rfl,rfl,trivial⟩,Q5.refl _ _,L1,by omega⟩ ?_
 rintro q z h' kk hq ⟨j,hz,f,M,hj⟩ ih;refine Qr _ hz λd=>(qWd _ _ _ _ _ _ _ _ _ _ _ _).mpr ?_;rw[q9];refine⟨λe=>?_,λe=>?_⟩
 .obtain⟨r,hr⟩:∃r,rs[j]?=some r:=⟨_,zE0 (by omega)⟩;have hmem:=zD0 hr;obtain⟨s1,s2,s3⟩:=qCy hr LE.tw;rw[s1] at M;have hp:=(le_at ((rs.take j).map LE.tw++r::rs.drop (j+1)) (cs.flatMap LC.bs) j r (by rw[zD1 (by omega),s3,Nat.sub_self];rfl)).2;obtain⟨p1,q2,q3,o⟩:=M.at' hp;refine⟨rfl,rfl,(back f).ldL all rfl (qAy.2 (qAy.2 ?_))⟩;rw[show IntKind.i64.wrap (2*(j:Int))=((2*j:Nat):Int) from by rw[QD (by omega) (by omega)];omega,wi ((2*j+1:Nat):Int) (by omega) (by omega) (by omega)];refine⟨p1,qAe.2 ⟨q2,rfl,Qh q3 ?_⟩⟩;have hwl:(r.v.k++r.v.t).length=r.v.k.length+2:=by rw[zC0,o.t]
  have hw2:=hv r hmem;refine turn_inl (n:=n) (s:=r.v.f) (w:=r.v.k++r.v.t) rfl rfl hwl.symm o.n o.g o.b (by omega) (by omega) ⟨rfl,rfl,rfl,rfl,rfl,rfl,rfl,trivial⟩ λz2 h2 hz2 f2 g2=>?_;refine Qr _ hz2 λd2=>(qQ9 _ _ _ _ _ _ _ _ _ _ _ _).mpr (qAy.2 ?_);rw[QD (e:=(j:Int)+1) (by omega) (by omega)];have M2:=M.tw hp f2 g2;have e4:=le_set ((rs.take j).map LE.tw) r (rs.drop (j+1)) (cs.flatMap LC.bs) r.v.tw;rw[s3] at e4;rw[e4] at M2;refine ih (q-1) _ _ (by omega) ⟨j+1,⟨rfl,rfl,rfl,rfl,rfl,trivial⟩,f.trans (f2.mono λi _ e=>⟨r.v,zH0 _ (List.mem_flatMap.2 ⟨r,hmem,by simp[LE.bs]⟩),e⟩),?_,by omega⟩;rw[s2];exact M2
 .have hje:j=rs.length:=by omega
  subst hje;rw[List.take_length,List.drop_length,zS0] at M;clear ih;have lN:=le_bs (rs.map LE.tw);rw[zJ0] at lN;refine Qr (n:=67) [(1,.int .i64 ((rs.length:Nat):Int)),(2,.int .i64 ((cs.length:Nat):Int)),(3,.pv false v3 0)] ⟨rfl,rfl,rfl,rfl,trivial⟩ λd'=>(turn_a11 _ _ _ _ _ _ _ _).mpr ?_
  refine Qy.inv (λq z h2=>∃j:Nat,ZAt 67 [(1,.int .i64 ((rs.length:Nat):Int)),(2,.int .i64 ((cs.length:Nat):Int)),(3,.pv false v3 0),(9,.int .i64 (j:Int))] z/\Q5 (λi=>∃b,b∈rs.flatMap LE.bs++cs.flatMap LC.bs/\i=b.i) H h2 /\
   Loan h0 h2 l c all rs.length cs.length ((rs.map LE.tw).flatMap LE.bs++((cs.take j).map LC.tw++cs.drop j).flatMap LC.bs) (rs.flatMap LE.row) (cs.flatMap LC.row)/\j+q=cs.length) (n:=cs.length) (by omega)
   ⟨0,⟨rfl,rfl,rfl,rfl,rfl,trivial⟩,f,M,by omega⟩ ?_
  clear M f;rintro q3' z3 h3 k3 hq3 ⟨j,hz,f,M,hj⟩ ih;refine Qr _ hz λd3=>(qWc _ _ _ _ _ _ _ _ _ _ _ _).mpr ?_;rw[q9];refine⟨λe=>?_,λe=>?_⟩
  .obtain⟨r,hr⟩:∃r,cs[j]?=some r:=⟨_,zE0 (by omega)⟩;have hmem:=zD0 hr;obtain⟨s1,s2,s3⟩:=qCy hr LC.tw;rw[s1] at M;have hp:=(lc_at (rs:=rs.map LE.tw) (cs:=(cs.take j).map LC.tw++r::cs.drop (j+1)) (j:=j) (r:=r) (by rw[zD1 (by omega),s3,Nat.sub_self];rfl)).2.1;rw[zJ0] at hp;obtain⟨p1,q2,q3,o⟩:=M.at' hp;refine⟨rfl,rfl,(back f).ldL all rfl (qAy.2 (qAy.2 ?_))⟩;rw[show IntKind.i64.wrap (2*((rs.length:Nat):Int))=((2*rs.length:Nat):Int) from by rw[QD (by omega) (by omega)];omega,show IntKind.i64.wrap (3*(j:Int))=((3*j:Nat):Int) from by rw[QD (by omega) (by omega)];omega];refine qAy.2 (qAy.2 ?_);rw[wi (a:=((2*rs.length:Nat):Int)) (b:=((3*j:Nat):Int)) ((2*rs.length+3*j:Nat):Int) (by omega) (by omega) (by omega),wi ((2*rs.length+3*j+1:Nat):Int) (by omega) (by omega) (by omega)];refine⟨p1,qAe.2 ⟨q2,rfl,Qh q3 ?_⟩⟩;have hwl:(r.o.k++r.o.t).length=r.o.k.length+2:=by rw[zC0,o.t]
   have hw2:=ho r hmem;refine turn_inc (n:=n) (s:=r.o.f) (w:=r.o.k++r.o.t) rfl rfl hwl.symm o.n o.g o.b (by omega) (by omega) ⟨rfl,rfl,rfl,rfl,rfl,rfl,rfl,trivial⟩ λz2 h2 hz2 f2 g2=>?_;refine Qr _ hz2 λd2=>(qBu _ _ _ _ _ _ _ _ _ _ _ _).mpr (qAy.2 ?_);rw[QD (e:=(j:Int)+1) (by omega) (by omega)];have M2:=M.tw hp f2 g2;have e4:=lc_set lN ((cs.take j).map LC.tw) r (cs.drop (j+1)) r.o.tw;rw[s3] at e4;rw[e4] at M2;refine ih (q3'-1) _ _ (by omega) ⟨j+1,⟨rfl,rfl,rfl,rfl,rfl,trivial⟩,f.trans (f2.mono λi _ e=>⟨r.o,zI0 _ (List.mem_flatMap.2 ⟨r,hmem,by simp[LC.bs]⟩),e⟩),?_,by omega⟩;rw[s2];exact M2
  .have hje:j=cs.length:=by omega
   subst hje;show Q3 Try.prog 16 K _ _;rw[fin16];rw[List.take_length,List.drop_length,zS0] at M;refine hk h3 ((f1.mono λ_ _ e=>e.elim).trans f) ?_;show Loan _ _ _ _ _ _ _ _ _ _;rw[zJ0,zJ0,show (rs.map LE.tw).flatMap LE.row=rs.flatMap LE.row by rw[List.flatMap_map];congr 1;funext x;simp[LE.row,LE.er,ER.row,LE.tw,tw_s],show (cs.map LC.tw).flatMap LC.row=cs.flatMap LC.row by rw[List.flatMap_map];congr 1;funext x;simp[LC.row,LC.cr,CR.row,LC.tw,tw_s]];exact M
end
end DfN
