/-
 PROVED: the book's lists of entries,'banyanlaw19.DiffApplies' over heaps is true. Condition: its arguments read as slices of entries and of changes.
-/
import Derived.Test.YtppjfhdhgofeiaaPg
set_option linter.unusedVariables false
set_option linter.unusedSimpArgs false
set_option maxRecDepth 100000
set_option linter.unusedSectionVars false
open List renaming mem_cons_of_mem -> zA0, mem_cons_self -> zB0, length_append -> zC0, mem_of_getElem? -> zD0, getElem?_eq_getElem -> zE0, mem_append_left -> zH0, mem_append_right -> zI0, length_map -> zJ0, length_cons -> zK0, mem_cons -> zL0, not_mem_nil -> zM0, append_nil -> zS0, flatMap_append -> zT0, flatMap_cons -> zU0, getElem?_map -> zV0, map_append -> zW0, append_assoc -> zX0, length_take -> zY0, length_replicate -> zZ0, getElem?_append_right -> zD1
open Nat renaming lt_of_lt_of_le -> zF0, ble_eq_true_of_le -> zG0, le_refl -> zN0, lt_succ_self -> zO0, le_trans -> zP0, zero_le -> zA1, mul_one -> zC1
noncomputable section
namespace DfN
open Go Go.X Go.X.Df Go.Proofs
def Qd (k:Nat):List AV:=[.slice k 0 1 1 false,.nils]
theorem qBw (k:Nat):(Qd k).length=2:=rfl
theorem qAf:∀ks:List Nat,(ks.flatMap Qd).length=ks.length*2
 | []=>rfl
 | x::l=>by rw[zU0,zC0,qAf l,zK0,qBw];omega
theorem qDm (k:Nat):QL (Qd k)=true:=rfl
structure LP (h0 h:Q0) (s:SL) (cells:List AV):Prop where
 seg:Seg h s 2 cells
 own:s.nil=false->h0.next<=s.i/\s.o=0/\s.ext=false/\Head h s.i s.cap 2 cells
 nils:s.nil=true->s=QE
theorem LP.fr {h0 h h':Q0} {s:SL} {cells:List AV} {T:Nat->Prop} (x:LP h0 h s cells) (f:Q5 T h h') (hs:s.nil=false->¬T s.i):LP h0 h' s cells :=
 ⟨x.seg.fr f hs,λe=>by
  obtain⟨h1,h2,h3,h4⟩:=x.own e;exact⟨h1,h2,h3,h4.fr f (x.seg.lt e) (hs e)⟩,x.nils⟩
theorem LP.ab {h0 h:Q0} {s:SL} {cells:List AV} (x:LP h0 h s cells) (e:s.nil=false):¬AB h s.i:=by obtain⟨_,_,_,c,_,hg,_⟩:=x.own e;exact qNe hg
theorem LP.key {h0 h:Q0} {s:SL} {cells:List AV} {m k:Nat} (x:LP h0 h s cells) (e:s.nil=false) (y:KBk h m k):k≠s.i:=by
 obtain⟨_,_,_,c,_,hg,_⟩:=x.own e;intro e1
 have:=y.2
 rw[e1,hg] at this;cases this
theorem LP.put {h0 h:Q0} {s:SL} {a r:List AV} {b:List AV} {v:Nat} (x:LP h0 h s (a++(r++b))) (e:s.nil=false) (ha:a.length=v*2) (hr:r.length=2) {r':List AV} (hr':r'.length=2) :
  LP h0 (hput h s.i (s.o+v*2) r') s (a++(r'++b))/\qVm h s.i (s.o+v*2+2):=by
 obtain⟨h1,h2,h3,c,mk,h4,h5,h6⟩:=x.own e;have hlen:=x.seg.len;have hlt:=x.seg.lt e;rw[h2,Nat.zero_add];have hc:c=(a++(r++b))++c.drop (a++(r++b)).length:=by
  have:=List.take_append_drop (a++(r++b)).length c
  rw[h6] at this;exact this.symm
 have hle:(a++(r++b)).length<=c.length:=by
  have:=congrArg List.length h6
  rw[zY0] at this;omega
 have g:=qEy (o:=v*2) (vs:=r') h4;have e1:c.take (v*2)++(r'++c.drop (v*2+r'.length))=(a++(r'++b))++c.drop (a++(r++b)).length:=by
  have t1:c.take (v*2)=a:=by rw[hc,zX0,<- ha,List.take_left]
  have t2:c.drop (v*2+r'.length)=b++c.drop (a++(r++b)).length:=by
   conv=>lhs;rw[hc]
   rw[zX0,hr',show v*2+2=a.length+2 by omega,<- List.drop_drop,List.drop_left,zX0,show (2:Nat)=r.length from hr.symm,List.drop_left]
  rw[t1,t2];simp
 rw[e1] at g;have hl2:((a++(r'++b))++c.drop (a++(r++b)).length).length=s.cap*2:=by rw[zC0,List.length_drop,<- h5];simp only[zC0] at hle ⊢;omega
 have hd:Head (hput h s.i (v*2) r') s.i s.cap 2 (a++(r'++b)):=⟨_,_,g,hl2,List.take_left⟩;have hse:s=⟨false,s.i,0,s.n,s.cap,false⟩:=by obtain⟨nil,i,o,len,cap,ext⟩:=s;simp only[SL.mk.injEq];rw[SL.n_of e];exact⟨e,trivial,h2,rfl,trivial,h3⟩
 have hl3:(a++(r'++b)).length=s.n*2:=by rw[<- hlen];simp only[zC0];omega
 refine⟨⟨?_,λ_=>⟨h1,h2,h3,hd⟩,x.nils⟩,hlt,c,2,false,_,h4,?_⟩
 .have:=hd.seg (n:=s.n) (by rw[qg];exact hlt) hl3 false
  rw[hse];exact this
 .simp only[zC0] at hle;omega
structure EE (g0 h:Q0) (kb:Nat) (l:SL) (ss:List SL) (cont:Nat->List AV):Prop where
 lt:kb<g0.next
 var:∃a w e,Var h kb [a,w,l.av,e]
 arr:Arr g0 h l ss
 nn:l.nil=false->ss≠[]
 own:∀j s,ss[j]?=some s->LP g0 h s (cont j)
 ap:ss.Pairwise λs t=>s.nil=false->t.nil=false->s.i≠t.i
section
variable {S:QW} [GoodS S] {lf n:Nat} {h g0:Q0} {K:ZK} {kb:Nat} {l:SL} {ss:List SL} {cont:Nat->List AV}
theorem EE.len (b:EE g0 h kb l ss cont):l.n=ss.length:=Grown.n_eq b.arr
theorem EE.at' (b:EE g0 h kb l ss cont) {j:Nat} {s:SL} (hj:ss[j]?=some s):l.nil=false/\j<l.len/\cellAt h l.i (l.o+j*1)=some s.av:=Arr.at' b.arr hj
theorem EE.ne {i j:Nat} {s t:SL} (b:EE g0 h kb l ss cont) (hi:ss[i]?=some s) (hj:ss[j]?=some t) (hij:i≠j) (e1:s.nil=false) (e2:t.nil=false):s.i≠t.i:=by
 have hp:=List.pairwise_iff_getElem.1 b.ap;obtain⟨hi1,hi2⟩:=List.getElem?_eq_some_iff.1 hi;obtain⟨hj1,hj2⟩:=List.getElem?_eq_some_iff.1 hj;rcases Nat.lt_or_gt_of_ne hij with h | h
 .have:=hp i j hi1 hj1 h
  rw[hi2,hj2] at this;exact this e1 e2
 .have:=hp j i hj1 hi1 h
  rw[hi2,hj2] at this;exact λe=>this e2 e1 e.symm
theorem EE.fr (b:EE g0 h kb l ss cont) {h':Q0} {T:Nat->Prop} (f:Q5 T h h') (hT:∀i,T i->i≠kb/\¬(l.nil=false/\i=l.i)) {cont':Nat->List AV} (ho:∀j s,ss[j]?=some s->LP g0 h' s (cont' j)):EE g0 h' kb l ss cont':=by obtain⟨w,we,c,v⟩:=b.var;exact⟨b.lt,⟨w,we,c,v.fr f λe=>(hT _ e).1 rfl⟩,b.arr.fr f λe e'=>(hT _ e').2 ⟨e,rfl⟩,b.nn,ho,b.ap⟩
theorem EE.one (b:EE g0 h kb l ss cont) {i:Nat} {s:SL} (hi:ss[i]?=some s) (e:s.nil=false) {h':Q0} (f:Q5 (λj=>j=s.i) h h') {k:List AV} (ho:LP g0 h' s k):EE g0 h' kb l ss (λj=>if j=i then k else cont j):=by
 have hs:=b.own i s hi;refine b.fr f (λj hj=>?_) λj t ht=>?_
 .have hj:j=s.i:=hj
  have:=(hs.own e).1
  have:=b.lt
  refine⟨by omega,λ⟨e1,e2⟩=>?_⟩;have ha:=Arr.ab b.arr (b.nn e1) e1;rw[<- e2,hj] at ha;exact hs.ab e ha.1
 .by_cases hji:j=i
  .subst hji;rw[hi] at ht;cases ht;rw[if_pos rfl];exact ho
  .rw[if_neg hji];exact (b.own j t ht).fr f λe2 e3=>b.ne ht hi hji e2 e e3
theorem EE.cong {cont':Nat->List AV} (b:EE g0 h kb l ss cont) (hc:∀j,j<ss.length->cont j=cont' j):EE g0 h kb l ss cont' :=
 ⟨b.lt,b.var,b.arr,b.nn,λj s hj=>by rw[<- hc j (List.getElem?_eq_some_iff.1 hj).1];exact b.own j s hj,b.ap⟩
theorem EE.fr0 (b:EE g0 h kb l ss cont) {h':Q0} (f:Q5 Qa h h'):EE g0 h' kb l ss cont :=
 b.fr f (λ_ e=>e.elim) λj s hj=>(b.own j s hj).fr f λ_=>id
theorem EE.keep (b:EE g0 h kb l ss cont) {i:Nat} {s:SL} (hi:ss[i]?=some s) {h':Q0} (f:Q5 (λj=>s.nil=false/\j=s.i) h h') (ho:LP g0 h' s (cont i)):EE g0 h' kb l ss cont:=by
 cases e:s.nil with
 | true=>exact b.fr0 (f.mono λ_ _ e1=>by rw[e] at e1;cases e1.1)
 | false =>
  refine (b.one hi e (f.mono λ_ _ e1=>e1.2) ho).cong λj _=>?_;by_cases hj:j=i
  .subst hj;rw[if_pos rfl]
  .rw[if_neg hj]
theorem fille_ok {z:ZT} {k X0:ZT->Q0->Prop} {E:List (Nat × (ZT->Q0->Prop))} {i c:Nat} {s:SL} (b:EE g0 h kb l ss cont) (hi:ss[i]?=some s) (hz:ZAt 124 [(0,.pv false kb 0),(3,.int .i64 (i:Int))] z) (hcl:(cont i).length=c*2) (hc:c<1000000000) (hss:ss.length<1000000000) (hlf:c<lf)
  (hk:∀z h' (ks:List Nat),ZAt 124 [(0,.pv false kb 0),(3,.int .i64 ((i+1:Nat):Int))] z->Q5 (λj=>s.nil=false/\j=s.i) h h'->ks.length=c->(∀y,y∈ks->KBk h' (mkB i) y)->EE g0 h' kb l ss (λj=>if j=i then ks.flatMap Qd else cont j)->k z h') :
  zAt Try.prog (Qq Try.prog S lf (n+1)) lf 33 [1,0,1,0,0] z k ⟨(0,X0)::E,Q3 Try.prog 33 K⟩ h:=by
 refine Qr _ hz λd=>(qT7 _ _ _ _ _ _ _ _ _ _).mpr ?_;obtain⟨w,we,cc,v⟩:=b.var;obtain⟨hn,hil,hcell⟩:=b.at' hi;have el:(Int.ofNat l.n:Int)=l.n:=rfl;have hln:=b.len;have hilt:i<ss.length:=(List.getElem?_eq_some_iff.1 hi).1;refine⟨rfl,rfl,rfl,v.ldL l rfl ?_⟩;rw[decide_eq_true (show (i:Int)<Int.ofNat l.n by rw[SL.n_of hn] at el;rw[SL.n_of hn,el];omega),qBi];have hs:=b.own i s hi;have hsl:s.n=c:=by have:=hs.seg.len;omega
 refine Qy.inv (λq z h'=>∃(ks:List Nat),ZAt 124 [(0,.pv false kb 0),(3,.int .i64 (i:Int)),(4,.int .i64 ((ks.length:Nat):Int))] z/\Q5 (λj=>s.nil=false/\j=s.i) h h'/\ks.length+q=c/\(∀y,y∈ks->KBk h' (mkB i) y)/\EE g0 h' kb l ss (λx=>if x=i then ks.flatMap Qd++(cont i).drop (ks.length*2) else cont x)) (n:=c) hlf
  ⟨[],⟨rfl,rfl,rfl,rfl,trivial⟩,Q5.refl _ _,by simp,λy hy=>(by cases hy),b.cong λj _=>by
   by_cases hj:j=i
   .subst hj;rw[if_pos rfl];simp
   .rw[if_neg hj]⟩ ?_
 rintro q z h1 kk hq ⟨ks,hz,f1,hj,hks,b1⟩ ih;refine Qr _ hz λd=>(qAs _ _ _ _ _ _ _ _ _ _ _ _ _).mpr ?_;obtain⟨w1,w1e,c1,v1⟩:=b1.var;obtain⟨_,_,hcell1⟩:=b1.at' hi;have hs1:=b1.own i s hi;have hs1:LP g0 h1 s (ks.flatMap Qd++(cont i).drop (ks.length*2)):=by simp only[if_true] at hs1;exact hs1
 have es:(Int.ofNat s.n:Int)=s.n:=rfl;refine⟨rfl,rfl,rfl,v1.ldL l rfl ⟨hn,qAe.2 ⟨hil,rfl,Qh hcell1 ?_⟩⟩⟩;rw[q9];refine⟨λe=>?_,λe=>?_⟩
 .have hjc:ks.length<c:=by omega
  have sn:s.nil=false:=by
   cases e0:s.nil with
   | false=>rfl
   | true=>rw[SL.n_nil e0] at hsl;omega
  have sl:=SL.n_of sn;refine⟨rfl,rfl,rfl,v1.ldL l rfl ⟨hn,qAe.2 ⟨hil,rfl,Qh hcell1 (qF3 ?_)⟩⟩⟩;rw[qA0];have f2:Q5 Qa h1 (h1.newO (.cells [.int .u8 (.ofNat (mkB i))] 1 false false)):=Q5.newO _ _ _;have b2:=b1.fr0 f2;have kN:KBk (h1.newO (.cells [.int .u8 (.ofNat (mkB i))] 1 false false)) (mkB i) h1.next:=⟨zO0 _,Ql _ _⟩
  have hks2:∀y,y∈ks->KBk (h1.newO (.cells [.int .u8 (.ofNat (mkB i))] 1 false false)) (mkB i) y:=λy hy=>(hks y hy).fr f2 id;obtain⟨w2,w2e,c2,v2⟩:=b2.var;obtain⟨_,_,hcell2⟩:=b2.at' hi;have hs2:=hs1.fr f2 λ_=>id;have hN:(h1.newO (.cells [.int .u8 (.ofNat (mkB i))] 1 false false)).next=h1.next+1:=rfl
  refine qFa.2 ⟨⟨rfl,Qh hcell1 rfl⟩,⟨rfl,v1.ldL l rfl rfl⟩,⟨rfl,Qh hcell2 rfl⟩,⟨rfl,v2.ldL l rfl rfl⟩,sn,qAe.2 ⟨by omega,rfl,?_⟩⟩;show jb (h1.newO (.cells [.int .u8 (.ofNat (mkB i))] 1 false false)) s.i (s.o+ks.length*2) 2 (ZW .i64 (((ks.length:Nat):Int)+1) λr_1=>kk _ (hput (h1.newO (.cells [.int .u8 (.ofNat (mkB i))] 1 false false)) s.i (s.o+ks.length*2) (Qd h1.next)));generalize h1.newO (.cells [.int .u8 (.ofNat (mkB i))] 1 false false)=H at f2 b2 kN hks2 hs2 hN ⊢;have hsplit:(cont i).drop (ks.length*2)=((cont i).drop (ks.length*2)).take 2++(cont i).drop ((ks.length+1)*2):=by
   have:=List.take_append_drop 2 ((cont i).drop (ks.length*2))
   rw[List.drop_drop,show ks.length*2+2=(ks.length+1)*2 by omega] at this;exact this.symm
  rw[hsplit] at hs2;have hr5:(((cont i).drop (ks.length*2)).take 2).length=2:=by rw[zY0,List.length_drop,hcl];omega
  obtain⟨hs3,cp⟩:=hs2.put sn (qAf ks) hr5 (qBw h1.next);have f3:Q5 (λx=>x=s.i) H (hput H s.i (s.o+ks.length*2) (Qd h1.next)):=Q5.hput H _ _ λ_=>rfl;refine qAv cp (qAy.2 ?_);rw[QD (e:=((ks.length:Nat):Int)+1) (by omega) (by omega)];refine ih (q-1) _ _ (by omega) ⟨ks++[h1.next],?_,(f1.trans (f2.mono λ_ _ e=>e.elim)).trans (f3.mono λ_ _ e=>⟨sn,e⟩),by rw[zC0];show ks.length+1+_=_;omega,λy hy=>?_,(b2.one hi sn f3 hs3).cong λx _=>?_⟩
  .rw[zC0];exact⟨rfl,rfl,rfl,rfl,trivial⟩
  .have hy2:KBk H (mkB i) y:=by
    rcases List.mem_append.1 hy with hy | hy
    .exact hks2 y hy
    .rw[List.mem_singleton.1 hy];exact kN
   exact hy2.fr f3 λe1=>hs2.key sn hy2 e1
  .by_cases hx:x=i
   .subst hx;rw[if_pos rfl,if_pos rfl,zT0,zC0];show _=_++(Qd h1.next++[])++_;rw[zS0,zX0];rfl
   .rw[if_neg hx,if_neg hx,if_neg hx]
 .refine Qr (n:=124) [(0,.pv false kb 0),(3,.int .i64 (i:Int))] ⟨rfl,rfl,rfl,trivial⟩ λd'=>(qBl _ _ _ _ _ _ _ _ _ _).mpr ?_;have hje:ks.length=c:=by omega
  refine qAy.2 ?_;rw[QD (e:=(i:Int)+1) (by omega) (by omega)];refine hk _ _ ks ⟨rfl,rfl,rfl,trivial⟩ f1 hje hks (b1.cong λx _=>?_);by_cases hx:x=i
  .rw[if_pos hx,if_pos hx,hje,<- hcl,List.drop_length,zS0]
  .rw[if_neg hx,if_neg hx]
end
end DfN
namespace DfN
open Go Go.X Go.X.Df Go.Proofs
section
variable {h0 h h1 h2:Q0} {s g:SL} {c:Nat} {cells more:List AV}
theorem qDs {g0:Q0} (w:LP g0 h s cells) (hl:cells.length=c*2):Ext h h s s 2 c cells:=by
 have hn:=w.seg.len;cases e:s.nil with
 | true =>
  have hs:=w.nils e;have hc:c=0:=by rw[SL.n_nil e] at hn;omega
  subst hs;subst hc
  have:cells=[]:=List.eq_nil_of_length_eq_zero (by omega)
  subst this;exact⟨.inl ⟨rfl,Grown.start _ _ _⟩⟩
 | false =>
  obtain⟨h1,h2,h3,h4⟩:=w.own e;have hlt:=w.seg.lt e;have hle:=h4.len;have hse:s=⟨false,s.i,0,c,s.cap,false⟩:=by obtain⟨nil,i,o,len,cap,ext⟩:=s;simp only[SL.mk.injEq];rw[SL.n_of e] at hn;have hn:cells.length=len*2:=hn;exact⟨e,trivial,h2,by omega,trivial,h3⟩
  refine⟨.inr ⟨e,hlt,?_⟩⟩
  have:=More.start (h0:=h) h4 hl hlt (by omega)
  rw[<- hse] at this;exact this
theorem exte_list {g0:Q0} {d:Nat} (w:LP g0 h s cells) (x:Ext h h1 s g 2 d (cells++more)) (f:Q5 (λj=>s.nil=false/\j=s.i) h h1):LP g0 h1 s cells:=by
 cases e:s.nil with
 | true=>exact w.fr f λe1=>by rw[e] at e1;cases e1
 | false =>
  obtain⟨w1,w2,w3,w4⟩:=w.own e;have hle:=w4.len;have hn:=w.seg.len;rw[SL.n_of e] at hn;rcases x.is with ⟨e1,_⟩ | ⟨_,y1,y2⟩
  .rw[e1] at e;cases e
  .have hd:=(y2.head).take cells.length;rw[List.take_take,Nat.min_eq_left hle,List.take_left] at hd;have hlt:s.i<h1.next:=zF0 (w.seg.lt e) f.next
   have hse:s=⟨false,s.i,0,s.len,s.cap,false⟩:=by obtain⟨nil,i,o,len,cap,ext⟩:=s;simp only[SL.mk.injEq];exact⟨e,trivial,w2,trivial,trivial,w3⟩
   refine⟨?_,λ_=>⟨w1,w2,w3,hd⟩,w.nils⟩;rw[hse];exact hd.seg hlt hn _
theorem exte_nn {d:Nat} (x:Ext h0 h s g 2 d cells) (hd:0<d):g.nil=false:=by
 cases e:g.nil with
 | false=>rfl
 | true=>have:=x.seg.nil_cs e;have h2:=x.len;rw[this] at h2;simp at h2;omega
theorem exte_ab {d:Nat} (x:Ext h0 h s g 2 d cells) (e:g.nil=false):¬AB h g.i:=by
 have key:∀{c:List AV} {b m:Bool},h.get g.i=some (.cells c 2 b m)->¬AB h g.i:=λhg ⟨l,_,h2⟩=>by rw[hg] at h2;cases h2
 rcases x.is with ⟨_,h1⟩ | ⟨_,_,h1⟩
 .rcases h1.2 with ⟨_,rfl⟩ | ⟨_,_,_,_,_,_,_,h8⟩
  .cases e
  .exact key h8
 .rcases h1.is with ⟨_,rfl,h3,_,_⟩ | ⟨_,h3,_,_,_⟩
  .obtain⟨c,_,h4,_⟩:=h3;exact key h4
  .rcases h3.2 with ⟨_,rfl⟩ | ⟨_,_,_,_,_,_,_,h8⟩
   .cases e
   .exact key h8
theorem exte_key {d m k:Nat} (x:Ext h0 h s g 2 d cells) (e:g.nil=false) (y:KBk h m k):k≠g.i:=by
 have key:∀{c:List AV} {b m:Bool},h.get g.i=some (.cells c 2 b m)->k≠g.i:=λhg e1=>by
  have:=y.2
  rw[e1,hg] at this;cases this
 rcases x.is with ⟨_,h1⟩ | ⟨_,_,h1⟩
 .rcases h1.2 with ⟨_,rfl⟩ | ⟨_,_,_,_,_,_,_,h8⟩
  .cases e
  .exact key h8
 .rcases h1.is with ⟨_,rfl,h3,_,_⟩ | ⟨_,h3,_,_,_⟩
  .obtain⟨c,_,h4,_⟩:=h3;exact key h4
  .rcases h3.2 with ⟨_,rfl⟩ | ⟨_,_,_,_,_,_,_,h8⟩
   .cases e
   .exact key h8
end
section
variable {S:QW} [GoodS S] {lf n:Nat} {h g0 hB:Q0} {K:ZK} {kb:Nat} {l:SL} {ss:List SL} {cont:Nat->List AV}
theorem growe_ok {z:ZT} {X6 X5 X4:ZT->Q0->Prop} {E:List (Nat × (ZT->Q0->Prop))} {i c:Nat} {s v5:SL} {ks0:List Nat} (x:Ext h h s s 2 c (ks0.flatMap Qd)) (hc:c<1000000000) (hlf:40<lf) (hks0:∀y,y∈ks0->KBk h (mkB i) y)
  (hz:ZAt 124 [(0,.pv false kb 0),(5,.sl v5),(6,.int .i64 (i:Int)),(7,.sl s),(8,.int .i64 0)] z)
  (hk:∀z h1 g (ks:List Nat),ZAt 124 [(0,.pv false kb 0),(5,.sl v5),(6,.int .i64 (i:Int)),(7,.sl g)] z->Ext h h1 s g 2 (c+40) (ks0.flatMap Qd++ks.flatMap Qd)->(∀y,y∈ks0++ks->KBk h1 (mkB i) y)->Q5 (λj=>s.nil=false/\j=s.i) h h1->X6 z h1) :
  Qy lf (zAt Try.prog (Qq Try.prog S lf (n+1)) lf 33 [1,1,1,0,1,0,0,1,0,0,1,0,1,0,0]) z ⟨(6,X6)::(5,X5)::(4,X4)::E,Q3 Try.prog 33 K⟩ h:=by
 refine Qy.inv (λq z h'=>∃(g:SL) (ks:List Nat),ZAt 124 [(0,.pv false kb 0),(5,.sl v5),(6,.int .i64 (i:Int)),(7,.sl g),(8,.int .i64 ((ks.length:Nat):Int))] z/\Q5 (λj=>s.nil=false/\j=s.i) h h'/\ks.length+q=40/\Ext h h' s g 2 (c+ks.length) (ks0.flatMap Qd++ks.flatMap Qd)/\(∀y,y∈ks0++ks->KBk h' (mkB i) y)) (n:=40) hlf
  ⟨s,[],hz,Q5.refl _ _,by simp,by rw[List.flatMap_nil,zS0];exact x,λy hy=>hks0 y (by simpa using hy)⟩ ?_
 rintro q z h1 kk hq ⟨g,ks,hz,f1,hj,x1,hks⟩ ih;refine Qr _ hz λd=>(qAi _ _ _ _ _ _ _ _ _ _ _ _ _ _ _).mpr ?_;rw[q9];refine⟨λe=>qF3 ?_,λe=>?_⟩
 .rw[qA0];refine qFa.2 ?_;have f2:Q5 Qa h1 (h1.newO (.cells [.int .u8 (.ofNat (mkB i))] 1 false false)):=Q5.newO _ _ _;have kN:KBk (h1.newO (.cells [.int .u8 (.ofNat (mkB i))] 1 false false)) (mkB i) h1.next:=⟨zO0 _,Ql _ _⟩
  have hN:(h1.newO (.cells [.int .u8 (.ofNat (mkB i))] 1 false false)).next=h1.next+1:=rfl
  have hn1:=f1.next
  dsimp only;rw[show [AV.slice h1.next 0 1 1 false,AV.nils]=Qd h1.next from rfl];generalize h1.newO (.cells [.int .u8 (.ofNat (mkB i))] 1 false false)=H3 at f2 kN hN ⊢;have f3:Q5 Qa H3 (H3.newO (.cells (Qd h1.next) 2 false false)):=Q5.newO _ _ _;have sg:Seg (H3.newO (.cells (Qd h1.next) 2 false false)) ⟨false,H3.next,0,1,1,false⟩ 2 (Qd h1.next):=Seg.own (more:=[]) rfl (zO0 _) (by rw[zS0];exact Ql _ _);refine sg.zsrc ?_;have f23:=f2.trans f3;have x2:Ext h (H3.newO (.cells (Qd h1.next) 2 false false)) s g 2 (c+ks.length) (ks0.flatMap Qd++ks.flatMap Qd):=x1.fr f23 (λ_=>id) (λ_ _ _ _=>id) hn1;have kN2:=kN.fr f3 id;have hks2:∀y,y∈ks0++ks->KBk (H3.newO (.cells (Qd h1.next) 2 false false)) (mkB i) y:=λy hy=>(hks y hy).fr f23 id;have f12:Q5 (λj=>s.nil=false/\j=s.i) h (H3.newO (.cells (Qd h1.next) 2 false false)):=f1.trans (f23.mono λ_ _ e=>e.elim);have hn2:(H3.newO (.cells (Qd h1.next) 2 false false)).next=H3.next+1:=rfl
  generalize H3.newO (.cells (Qd h1.next) 2 false false)=H at x2 kN2 hks2 f12 hn2 ⊢;have keyne:∀y,KBk H (mkB i) y->¬(s.nil=false/\y=s.i):=λy hy ⟨e1,e2⟩=>by
   rcases x2.is with ⟨e3,_⟩ | ⟨_,_,m⟩
   .rw[e3] at e1;cases e1
   .obtain⟨cc,_,hg,_⟩:=m.head
    have:=hy.2
    rw[e2,hg] at this;cases this
  have keyng:∀y,KBk H (mkB i) y->¬(g.nil=false/\y=g.i):=λy hy ⟨e1,e2⟩=>exte_key x2 e1 hy e2;have hrow:(ks++[h1.next]).flatMap Qd=ks.flatMap Qd++Qd h1.next:=by rw[zT0];show _++(Qd h1.next++[])=_;rw[zS0]
  have hcore:∀y,KBk H (mkB i) y->∀H',Q5 (λj=>(s.nil=false/\j=s.i)∨h.next<=j) H H'->(∀z,H'.get z≠H.get z->z<H.next->(s.nil=false/\z=s.i)∨(g.nil=false/\z=g.i))->KBk H' (mkB i) y:=λy hy H' f hd=>by
   refine⟨zF0 hy.1 f.next,?_⟩;by_cases e:H'.get y=H.get y
   .rw[e];exact hy.2
   .rcases hd y e hy.1 with e1 | e1
    .exact absurd e1 (keyne y hy)
    .exact absurd e1 (keyng y hy)
  have hdiff:∀z,(Qx H g 2 1 (Qd h1.next)).get z≠H.get z->z<H.next->(s.nil=false/\z=s.i)∨(g.nil=false/\z=g.i):=λz hz hlt=>by
   refine .inr ?_;unfold Qx at hz;rw[show Nat.beq 1 0=false from rfl] at hz;simp only at hz;cases hgn:g.nil with
   | true =>
    rw[hgn] at hz;simp only at hz;rw[qm (Nat.ne_of_lt hlt)] at hz;exact absurd rfl hz
   | false =>
    refine⟨rfl,?_⟩;rw[hgn] at hz;simp only at hz;by_cases hzg:z=g.i
    .exact hzg
    .exfalso;revert hz;have hput_ne:∀(o:Nat) (vs:List AV),(hput H g.i o vs).get z=H.get z:=λo vs=>(Q5.hput (S:=λj=>j=g.i) H o vs λ_=>rfl).same z hlt hzg;split
     .intro hz;exact hz (hput_ne _ _)
     .split
      .split
       .intro hz;rw[qm (by show z≠H.next;omega),qZ8 hzg] at hz;exact hz rfl
       .intro hz;rw[qm (Nat.ne_of_lt hlt)] at hz;exact hz rfl
      .intro hz;rw[qm (Nat.ne_of_lt hlt)] at hz;exact hz rfl
      .intro hz;exact hz rfl
  refine x2.append rfl (qDm _) (qAr (by omega)) (by omega) λx3 f3'=>?_;refine qAy.2 ?_;rw[QD (e:=((ks.length:Nat):Int)+1) (by omega) (by omega)];refine ih (q-1) _ _ (by omega) ⟨g.app H.next 1,ks++[h1.next],?_,f12.back f3' λy hy e=>e.elim id λe=>by omega,by rw[zC0];show ks.length+1+_=_;omega,?_,λy hy=>?_⟩
  .rw[zC0];exact⟨rfl,rfl,rfl,rfl,rfl,rfl,trivial⟩
  .rw[hrow,<- zX0,zC0];exact x3
  .have hy2:KBk H (mkB i) y:=by
    rw[<- zX0] at hy;rcases List.mem_append.1 hy with hy | hy
    .exact hks2 y hy
    .rw[List.mem_singleton.1 hy];exact kN2
   exact hcore y hy2 _ f3' hdiff
 .have hje:ks.length=40:=by omega
  rw[hje] at x1;exact hk _ _ g ks ⟨rfl,rfl,rfl,rfl,rfl,trivial⟩ x1 hks f1
end
end DfN
namespace DfN
open Go Go.X Go.X.Df Go.Proofs
theorem roomE {k:Nat} (h:k<=8589934592):jy Try.prog 25 k=true:=by
 have e0:qJ4 Try.prog 25=some 24:=by kernel_rfl
 unfold jy;rw[e0];show cnd (Nat.ble (Nat.mul k 24) jX) (Nat.ble k jX) false=true;have e1:Nat.ble (Nat.mul k 24) jX=true:=zG0 (by show k*24<=1099511627776;omega);have e2:Nat.ble k jX=true:=zG0 (by show k<=1099511627776;omega);rw[e1,e2];rfl
structure GE (hB h:Q0) (s g:SL) (m:Nat):Prop where
 rows:∃ks:List Nat,Seg h g 2 (ks.flatMap Qd)/\(∀y,y∈ks->KBk h m y)/\ks.length<2000000000
 nn:g.nil=false
 ab:¬AB h g.i
 own:(s.nil=false/\g.i=s.i)∨hB.next<=g.i
theorem GE.lt {hB h:Q0} {s g:SL} {m:Nat} (x:GE hB h s g m):g.i<h.next:=by obtain⟨ks,h1,_,_⟩:=x.rows;exact h1.lt x.nn
theorem GE.fr {hB h h':Q0} {s g:SL} {m:Nat} {T:Nat->Prop} (x:GE hB h s g m) (f:Q5 T h h') (hT:¬T g.i) (hK:∀y,KBk h m y->¬T y):GE hB h' s g m :=
 ⟨by
  obtain⟨ks,h1,h2,h3⟩:=x.rows;exact⟨ks,h1.fr f λ_=>hT,λy hy=>(h2 y hy).fr f (hK y (h2 y hy)),h3⟩,x.nn,by
  rintro ⟨l,h3,h4⟩;exact x.ab ⟨l,h3,by rw[<- f.same _ x.lt hT];exact h4⟩,x.own⟩
structure P5 (g0 hB h:Q0) (kb:Nat) (l:SL) (ss:List SL) (kss:Nat->List Nat) (v5:SL) (G:List (SL × SL)):Prop where
 eb:EE g0 h kb l ss (λj=>(kss j).flatMap Qd)
 keys:∀j,j<ss.length->∀y,y∈kss j->KBk h (mkB j) y
 arr:Arr hB h v5 (G.flatMap two2)
 nn:v5.nil=false->G≠[]
 le:hB.next<=h.next
 old:∀s,s∈ss->s.nil=false->s.i<hB.next
 lk:kb<hB.next/\(l.nil=false->l.i<hB.next)
 gs:∀(j:Nat) s p,ss[j]?=some s->G[j]?=some p->p.1=s/\GE hB h s p.2 (mkB j)
section
variable {S:QW} [GoodS S] {lf n:Nat} {h g0 hB:Q0} {K:ZK} {kb:Nat} {l:SL} {ss:List SL} {kss:Nat->List Nat}
theorem p5_ok {v5:SL} {G:List (SL × SL)} {z:ZT} {k X4:ZT->Q0->Prop} {E:List (Nat × (ZT->Q0->Prop))} {i:Nat} {s:SL} (p:P5 g0 hB h kb l ss kss v5 G) (hi:ss[i]?=some s) (hG:G.length=i) (hz:ZAt 124 [(0,.pv false kb 0),(5,.sl v5),(6,.int .i64 (i:Int))] z)
  (hnl:(kss i).length<1000000000) (hss:ss.length<1000000000) (hlf:40<lf)
  (hk:∀z h' v5' q,ZAt 124 [(0,.pv false kb 0),(5,.sl v5'),(6,.int .i64 ((i+1:Nat):Int))] z->P5 g0 hB h' kb l ss kss v5' (G++[q])->Q5 (λj=>(s.nil=false/\j=s.i)∨hB.next<=j) h h'->k z h') :
  zAt Try.prog (Qq Try.prog S lf (n+1)) lf 33 [1,1,1,0,1,0,0] z k ⟨(4,X4)::E,Q3 Try.prog 33 K⟩ h:=by
 refine Qr _ hz λd=>(qO3 _ _ _ _ _ _ _ _ _ _ _).mpr ?_;have b:=p.eb;obtain⟨w,we,c,v⟩:=b.var;obtain⟨hn,hil,hcell⟩:=b.at' hi;have hln:=b.len;have hmem:=zD0 hi;have hilt:i<ss.length:=(List.getElem?_eq_some_iff.1 hi).1;refine⟨rfl,rfl,rfl,v.ldL l rfl ?_⟩;rw[decide_eq_true (show (i:Int)<Int.ofNat l.n by rw[SL.n_of hn];show (i:Int)<(l.len:Int);omega),qBi];refine⟨rfl,rfl,rfl,v.ldL l rfl ⟨hn,qAe.2 ⟨hil,rfl,Qh hcell ?_⟩⟩⟩;have hs:LP g0 h s ((kss i).flatMap Qd):=b.own i s hi;refine growe_ok (ks0:=kss i) (qDs hs (qAf _)) hnl hlf (p.keys i hilt) ⟨rfl,rfl,rfl,rfl,rfl,rfl,trivial⟩ λz1 h1 g ks hz1 xa hks f1=>?_;have hs1:=exte_list hs xa f1;have b1:EE g0 h1 kb l ss (λj=>(kss j).flatMap Qd):=b.keep hi f1 hs1;obtain⟨w1,w1e,c1,v1⟩:=b1.var;obtain⟨_,_,hcell1⟩:=b1.at' hi;have ga:=exte_nn xa (by omega);have kb2:=exte_ab xa ga;have hle:=p.le;have hsold:=p.old s hmem;have hn1:=f1.next
 refine Qr _ hz1 λd1=>(qAm _ _ _ _ _ _ _ _ _ _ _ _ _).mpr ?_;refine⟨rfl,rfl,rfl,v1.ldL l rfl ⟨hn,qAe.2 ⟨hil,rfl,Qh hcell1 ?_⟩⟩⟩;have f3:Q5 Qa h1 (h1.newO (.cells [s.av,g.av] 1 false false)):=Q5.newO _ _ _;have sg:Seg (h1.newO (.cells [s.av,g.av] 1 false false)) ⟨false,h1.next,0,2,2,false⟩ 1 [s.av,g.av]:=Seg.own (more:=[]) rfl (zO0 _) (by rw[zS0];exact Ql _ _);refine sg.zsrc ?_;have f13:Q5 (λj=>s.nil=false/\j=s.i) h (h1.newO (.cells [s.av,g.av] 1 false false)):=f1.trans (f3.mono λ_ _ e=>e.elim);have b3:=b1.fr0 f3;have sgr:=xa.seg.fr f3 λ_=>id;have hks3:∀y,y∈kss i++ks->KBk (h1.newO (.cells [s.av,g.av] 1 false false)) (mkB i) y:=λy hy=>(hks y hy).fr f3 id;have kb2':¬AB (h1.newO (.cells [s.av,g.av] 1 false false)) g.i:=λ⟨l,h3,h4⟩=>kb2 ⟨l,h3,by rw[<- f3.same _ (xa.seg.lt ga) id];exact h4⟩;have hn3:(h1.newO (.cells [s.av,g.av] 1 false false)).next=h1.next+1:=rfl
 have hGne:v5.nil=false->G.flatMap two2≠[]:=λe e0=>by
  have:=p.nn e
  have h2:=congrArg List.length e0;rw[qFs] at h2;cases G with
  | nil=>exact this rfl
  | cons x G=>simp at h2
 have v5lt:v5.nil=false->hB.next<=v5.i/\v5.i<h.next/\AB h v5.i:=λe=>by obtain⟨a1,a2,a3⟩:=Arr.ab p.arr (hGne e) e;exact⟨a2,a3,a1⟩
 have arr3:Arr hB (h1.newO (.cells [s.av,g.av] 1 false false)) v5 (G.flatMap two2):=Grown.fr p.arr f13 λe ⟨e1,e2⟩=>by have:=v5lt e;have:=hsold e1;omega
 have keyT:∀m y,KBk h m y->¬(s.nil=false/\y=s.i):=λm y hy ⟨e1,e2⟩=>hs.key e1 hy e2;have keys3:∀j,j<ss.length->∀y,y∈kss j->KBk (h1.newO (.cells [s.av,g.av] 1 false false)) (mkB j) y:=λj hj y hy=>(p.keys j hj y hy).fr f13 (keyT _ y (p.keys j hj y hy));generalize h1.newO (.cells [s.av,g.av] 1 false false)=H at f3 f13 b3 sgr hks3 kb2' hn3 arr3 keys3 ⊢;have hGl:G.length<ss.length:=by rw[hG];exact hilt
 refine Grown.append1 arr3 (by omega) (by decide) rfl ?_ (roomE (by rw[qFs];omega)) λg4 f4 hi4=>?_
 .exact qH.2 λv hv=>by simp only[zL0,zM0,or_false] at hv;rcases hv with rfl | rfl <;> exact jB _
 have hn4:=f4.next
 generalize hv5:v5.app H.next 2=v5' at g4 hi4 ⊢
 generalize Qx H v5 1 2 [s.av,g.av]=H4 at g4 f4 hn4 ⊢;refine Qr (n:=124) [(0,.pv false kb 0),(5,.sl v5'),(6,.int .i64 (i:Int))] ⟨rfl,rfl,rfl,rfl,trivial⟩ λd4=>(qA8 _ _ _ _ _ _ _ _ _ _ _).mpr ?_;refine qAy.2 ?_;rw[QD (e:=(i:Int)+1) (by omega) (by omega)];have lk:=p.lk;have oa:=xa.own ga;have nv:∀i:Nat,¬AB H i->¬(v5.nil=false/\i=v5.i):=λi hx ⟨e1,e2⟩=>by obtain⟨a1,_,_⟩:=Arr.ab arr3 (hGne e1) e1;exact hx (by rw[e2];exact a1)
 have hkl:(kss i++ks).length<2000000000:=by
  have:=xa.len
  rw[zC0,qAf,qAf] at this;rw[zC0];omega
 have Gg:GE hB H s g (mkB i):=⟨⟨kss i++ks,by rw[zT0];exact sgr,hks3,hkl⟩,ga,kb2',oa.imp id λe=>by omega⟩;have Gg4:=Gg.fr f4 (nv _ kb2') λy hy=>nv y hy.ab;refine hk _ H4 v5' (s,g) ⟨rfl,rfl,rfl,rfl,trivial⟩ ⟨?_,λj hj y hy=>(keys3 j hj y hy).fr f4 (nv y (keys3 j hj y hy).ab),?_,λ_=>by simp,by omega,p.old,lk,λj t q ht hq=>?_⟩ ((f13.mono λ_ _ e=>.inl e).trans (f4.mono λi _ ⟨e1,e2⟩=>.inr (by have:=v5lt e1;omega)))
 .refine b3.fr f4 (λx ⟨e1,e2⟩=>?_) λj t ht=>(b3.own j t ht).fr f4 λe ⟨e1,e2⟩=>?_
  .have:=v5lt e1
   refine⟨by omega,λ⟨e3,e4⟩=>?_⟩
   have:=lk.2 e3
   omega
  .have:=v5lt e1
   have:=p.old t (zD0 ht) e
   omega
 .show Grown _ _ _ 1 ((G++[(s,g)]).flatMap two2).length _;rw[zT0,zW0,zC0];exact g4
 .by_cases hj:j<G.length
  .rw[List.getElem?_append_left hj] at hq;obtain⟨q1,q2⟩:=p.gs j t q ht hq;have ne:¬(s.nil=false/\q.2.i=s.i):=λ⟨e1,e2⟩=>by
    rcases q2.own with ⟨e3,e4⟩ | e3
    .exact b.ne ht hi (by omega) e3 e1 (by rw[<- e4,e2])
    .have:=hsold e1;omega
   have g1:=q2.fr f13 ne (keyT _);exact⟨q1,g1.fr f4 (nv _ g1.ab) λy hy=>nv y hy.ab⟩
  .have hjl:j=G.length:=by
    have:=(List.getElem?_eq_some_iff.1 hq).1
    rw[zC0] at this;simp at this;omega
   subst hjl;rw[zD1 (zN0 _),Nat.sub_self] at hq;cases hq;subst hG;rw[hi] at ht;cases ht;exact⟨rfl,Gg4⟩
theorem qC0 {z:ZT} {k X8:ZT->Q0->Prop} {E:List (Nat × (ZT->Q0->Prop))} {v:Nat} {v5 t:SL} {LL:List SL} {ks:List Nat} (ha:Arr hB h v5 LL) (hv:LL[v]?=some t) (hs:Seg h t 2 (ks.flatMap Qd)) (hks:∀y,y∈ks->KBk h (mkB (v / 2)) y) (hz:ZAt 124 [(5,.sl v5),(9,.int .i64 (v:Int))] z)
  (hc:ks.length<2000000000) (hLL:LL.length<1000000000) (hlf:ks.length<lf) (hk:∀z,ZAt 124 [(5,.sl v5),(9,.int .i64 ((v+1:Nat):Int))] z->k z h) :
  zAt Try.prog (Qq Try.prog S lf (n+1)) lf 33 [1,1,1,1,0,1,0,0] z k ⟨(8,X8)::E,Q3 Try.prog 33 K⟩ h:=by
 refine Qr _ hz λd=>(qNl _ _ _ _ _ _ _ _ _ _).mpr ?_;obtain⟨hn,hil,hcell⟩:=Arr.at' ha hv;have hal:=Grown.n_eq ha;have hvl:v<LL.length:=(List.getElem?_eq_some_iff.1 hv).1;rw[decide_eq_true (show (v:Int)<Int.ofNat v5.n by show (v:Int)<(v5.n:Int);omega),qBi];have htn:t.n=ks.length:=by have:=hs.len;rw[qAf] at this;omega
 have et:(Int.ofNat t.n:Int)=t.n:=rfl;refine Qy.inv (λq z h'=>∃j:Nat,ZAt 124 [(5,.sl v5),(9,.int .i64 (v:Int)),(10,.int .i64 (j:Int))] z/\h'=h/\j+q=ks.length) (n:=ks.length) hlf ⟨0,⟨rfl,rfl,rfl,rfl,trivial⟩,rfl,by omega⟩ ?_;rintro q z h' kk hq ⟨j,hz,rfl,hj⟩ ih;refine Qr _ hz λd=>(qAk _ _ _ _ _ _ _ _ _ _ _ _ _).mpr ?_;refine⟨hn,qAe.2 ⟨hil,rfl,Qh hcell ?_⟩⟩;rw[q9];refine⟨λe=>?_,λe=>?_⟩
 .have hjl:j<ks.length:=by omega
  obtain⟨y,hy⟩:∃y,ks[j]?=some y:=⟨_,zE0 hjl⟩;have tn:t.nil=false:=by
   cases e0:t.nil with
   | false=>rfl
   | true=>rw[SL.n_nil e0] at htn;omega
  have tl:t.len=ks.length:=by rw[<- SL.n_of tn];exact htn
  have hkey:=hks y (zD0 hy);have hrow:cellAt h' t.i (Nat.add (t.o+j*2) 0)=some (SL.mk false y 0 1 1 false).av:=by
   have h1:(ks.flatMap Qd)[j*2+0]?=(Qd y)[0]?:=qW5 (λx _=>qBw x) hy (by decide)
   have:=hs.at' tn (q:=j*2+0) (v:=.slice y 0 1 1 false) (by rw[h1];rfl)
   rw[<- Nat.add_assoc] at this;exact this
  have hbyte:cellAt h' y (0+0*1)=some (.int .u8 (.ofNat (mkB (v / 2)))):=by rw[qHc hkey.2];rfl
  refine⟨hn,qAe.2 ⟨hil,rfl,Qh hcell ⟨tn,qAe.2 ⟨by omega,rfl,rfl,Qh hrow ?_⟩⟩⟩⟩;rw[show (!decide (Int.ofNat (SL.mk false y 0 1 1 false).n=1))=false from rfl,qAz];refine⟨hn,qAe.2 ⟨hil,rfl,Qh hcell ⟨tn,qAe.2 ⟨by omega,rfl,rfl,Qh hrow ⟨rfl,qTb.2 ⟨Nat.one_pos,rfl,qL9.2 ⟨_,hbyte,by decide,?_⟩⟩⟩⟩⟩⟩⟩;have hdiv:Int.tdiv (v:Int) 2=((v / 2:Nat):Int):=by rw[Int.tdiv_eq_ediv_of_nonneg (by omega)];omega
  refine qAy.2 ?_;rw[hdiv,QD (by omega) (by omega)];refine qF3 ?_;rw[qA0];refine qFa.2 ⟨⟨rfl,qL9.2 ⟨_,hbyte,rfl⟩⟩,⟨rfl,Qh hrow rfl⟩,⟨rfl,Qh hcell rfl⟩,?_⟩;rw[decide_eq_true rfl,Bool.not_true,qHv,qAz];refine qAy.2 ?_;rw[QD (e:=(j:Int)+1) (by omega) (by omega)];exact ih (q-1) _ _ (by omega) ⟨j+1,⟨rfl,rfl,rfl,rfl,trivial⟩,rfl,by omega⟩
 .refine Qr (n:=124) [(5,.sl v5),(9,.int .i64 (v:Int))] ⟨rfl,rfl,rfl,trivial⟩ λd'=>(qAx _ _ _ _ _ _ _ _ _ _).mpr ?_;refine qAy.2 ?_;rw[QD (e:=(v:Int)+1) (by omega) (by omega)];exact hk _ ⟨rfl,rfl,rfl,trivial⟩
theorem outere_ok {a w:AV} {cont:Nat->List AV} {cl:Nat->Nat} (b:EE g0 h kb l ss cont) (hcl:∀j,j<ss.length->(cont j).length=cl j*2) (hc:∀j,cl j<1000000000) (hss:ss.length<100000000) (hg:g0.next<=h.next) (hlf:4000000000<lf) (hk:∀h',Q5 (λi=>∃s,s∈ss/\s.nil=false/\i=s.i) h h'->K (.bool true) h') :
  Qq Try.prog S lf (n+2) 33 [.pv false kb 0] K h:=by
 refine QJ (hSD (by decide) (by decide)) (by kernel_rfl) ?_;rw[outer_nf];have hln:=b.len
 refine Qy.inv (λq z h'=>∃(j:Nat) (kss:Nat->List Nat),ZAt 124 [(0,.pv false kb 0),(3,.int .i64 (j:Int))] z/\j+q=ss.length/\Q5 (λi=>∃s,s∈ss/\s.nil=false/\i=s.i) h h'/\EE g0 h' kb l ss (λx=>if x<j then (kss x).flatMap Qd else cont x)/\∀x,x<j->(kss x).length=cl x/\∀y,y∈kss x->KBk h' (mkB x) y) (n:=ss.length) (by omega)
  ⟨0,λ_=>[],⟨rfl,rfl,rfl,trivial⟩,by omega,Q5.refl _ _,b.cong λx _=>by rw[if_neg (by omega)],λx hx=>absurd hx (Nat.not_lt_zero _)⟩ ?_
 rintro q z h1 kk hq ⟨j,kss,hz,hj,F1,b1,hks⟩ ih;have hn1:=F1.next
 by_cases hjl:j<ss.length
 .obtain⟨s,hs⟩:∃s,ss[j]?=some s:=⟨_,zE0 hjl⟩;have hcj:=hc j;refine fille_ok (n:=n) b1 hs hz (c:=cl j) (by rw[if_neg (Nat.lt_irrefl j)];exact hcl j hjl) hcj (by omega) (by omega) λz h2 ks hz2 f2 hl2 hk2 b2=>?_;have hn2:=f2.next
  refine ih (q-1) _ _ (by omega) ⟨j+1,λx=>if x=j then ks else kss x,hz2,by omega,F1.trans (f2.mono λi _ ⟨e1,e2⟩=>⟨s,zD0 hs,e1,e2⟩),b2.cong λx _=>?_,λx hx=>?_⟩
  .by_cases hx:x=j
   .subst hx;rw[if_pos rfl,if_pos (by omega)];simp only[if_true]
   .rw[if_neg hx];by_cases hx2:x<j
    .rw[if_pos hx2,if_pos (by omega)];simp only[if_neg hx]
    .rw[if_neg hx2,if_neg (by omega)]
  .by_cases hxj:x=j
   .subst hxj;simp only[if_true];exact⟨hl2,hk2⟩
   .simp only[if_neg hxj];obtain⟨e1,e2⟩:=hks x (by omega);exact⟨e1,λy hy=>(e2 y hy).fr f2 λ⟨e3,e4⟩=>(b1.own j s hs).key e3 (e2 y hy) e4⟩
 have hje:j=ss.length:=by omega
 subst hje;refine Qr _ hz λd=>(qT7 _ _ _ _ _ _ _ _ _ _).mpr ?_;obtain⟨w1,w1e,c1,v1⟩:=b1.var;refine⟨rfl,rfl,rfl,v1.ldL l rfl ?_⟩;rw[decide_eq_false (show ¬((ss.length:Int)<Int.ofNat l.n) by show ¬((ss.length:Int)<(l.n:Int));omega),qAz];clear ih hz;refine Qr (n:=124) [(0,.pv false kb 0)] ⟨rfl,rfl,trivial⟩ λd=>(outer_a11 _ _ _ _ _ _).mpr ?_;have b1:EE g0 h1 kb l ss (λx=>(kss x).flatMap Qd):=b1.cong λx hx=>by rw[if_pos hx]
 have hlt1:l.nil=false->l.i<h1.next:=λe=>(Arr.ab b1.arr (b1.nn e) e).2.2
 have hold:∀s,s∈ss->s.nil=false->s.i<h1.next:=λs hs e=>by obtain⟨j,hj⟩:=List.getElem?_of_mem hs;exact (b1.own j s hj).seg.lt e
 have hkb:=b.lt;have p0:P5 g0 h1 h1 kb l ss kss QE []:=⟨b1,λj hj y hy=>(hks j hj).2 y hy,Grown.start _ _ _,λe=>(by cases e),zN0 _,hold,⟨by omega,hlt1⟩,λj s p _ hp=>by simp at hp⟩
 refine Qy.inv (λq z h3=>∃(v5:SL) (G:List (SL × SL)),ZAt 124 [(0,.pv false kb 0),(5,.sl v5),(6,.int .i64 ((G.length:Nat):Int))] z/\G.length+q=ss.length/\P5 g0 h1 h3 kb l ss kss v5 G/\Q5 (λi=>∃s,s∈ss/\s.nil=false/\i=s.i) h h3) (n:=ss.length) (by omega)
  ⟨QE,[],⟨rfl,rfl,rfl,rfl,trivial⟩,by simp,p0,F1⟩ ?_
 rintro q z h3 kk hq ⟨v5,G,hz,hG,p3,F3⟩ ih;by_cases hjl:G.length<ss.length
 .obtain⟨s,hs⟩:∃s,ss[G.length]?=some s:=⟨_,zE0 hjl⟩;have hcj:=hc G.length;refine p5_ok (n:=n) p3 hs rfl hz (by rw[(hks _ hjl).1];exact hcj) (by omega) (by omega) λz h4 v5' qq hz4 p4 f4=>?_;refine ih (q-1) _ _ (by omega) ⟨v5',G++[qq],?_,by rw[zC0];show G.length+1+_=_;omega,p4,F3.back f4 λi hi e=>e.elim (λ⟨e1,e2⟩=>⟨s,zD0 hs,e1,e2⟩) λe=>absurd e (by omega)⟩;rw[zC0];exact hz4
 have hGe:G.length=ss.length:=by omega
 refine Qr _ hz λd=>(qO3 _ _ _ _ _ _ _ _ _ _ _).mpr ?_;have b3:=p3.eb;obtain⟨w3,w3e,c3,v3⟩:=b3.var;refine⟨rfl,rfl,rfl,v3.ldL l rfl ?_⟩;rw[decide_eq_false (show ¬((G.length:Int)<Int.ofNat l.n) by show ¬((G.length:Int)<(l.n:Int));omega),qAz];clear ih hz;refine Qr (n:=124) [(5,.sl v5)] ⟨rfl,rfl,trivial⟩ λd=>(qWq _ _ _ _ _ _).mpr ?_;have hlen:=qFs G;have hvn:=Grown.n_eq p3.arr;refine Qy.inv (λq z h4=>∃v:Nat,ZAt 124 [(5,.sl v5),(9,.int .i64 (v:Int))] z/\h4=h3/\v+q=(G.flatMap two2).length) (n:=(G.flatMap two2).length) (by omega) ⟨0,⟨rfl,rfl,rfl,trivial⟩,rfl,by omega⟩ ?_;rintro q z h4 kk hq ⟨v,hz,rfl,hv⟩ ih;by_cases hvl:v<(G.flatMap two2).length
 .have hj2:v / 2<G.length:=by omega
  obtain⟨p,hp⟩:∃p,G[v / 2]?=some p:=⟨_,zE0 hj2⟩;obtain⟨s,hs⟩:∃s,ss[v / 2]?=some s:=⟨_,zE0 (by omega)⟩;obtain⟨e1,gc⟩:=p3.gs _ s p hs hp;obtain⟨t1,t2⟩:=qWb G _ p hp;have hcj:=hc (v / 2);have hnext:∀z,ZAt 124 [(5,.sl v5),(9,.int .i64 ((v+1:Nat):Int))] z->kk z h4:=λz hz=>ih (q-1) _ _ (by omega) ⟨v+1,hz,rfl,by omega⟩;by_cases hev:v=2*(v / 2)
  .have so:=b3.own _ s hs;have hkl:=(hks (v / 2) (by omega)).1;exact qC0 (n:=n) p3.arr (v:=v) (t:=p.1) (by rw[<- t1,<- hev]) (ks:=kss (v / 2)) (by rw[e1];exact so.seg) (p3.keys _ (by omega)) hz (by omega) (by omega) (by omega) hnext
  .obtain⟨ks,r1,r2,r3⟩:=gc.rows;exact qC0 (n:=n) p3.arr (v:=v) (t:=p.2) (by rw[<- t2];congr 1;omega) (ks:=ks) r1 r2 hz r3 (by omega) (by omega) hnext
 .refine Qr _ hz λd=>(qNl _ _ _ _ _ _ _ _ _ _).mpr ?_;rw[decide_eq_false (show ¬((v:Int)<Int.ofNat v5.n) by show ¬((v:Int)<(v5.n:Int));omega),qAz];exact Qr (n:=124) [] ⟨rfl,trivial⟩ λd=>(qT8 _ _ _ _ _).mpr (hk _ F3)
end
end DfN
namespace DfN
open Go Go.X Go.X.Df Go.Proofs
structure Bk (g0 h:Q0) (kb:Nat) (A:List (SL × List SL)):Prop where
 lt:kb<g0.next
 var:Var h kb (A.map λp=>p.1.av)
 arr:∀p,p∈A->Arr g0 h p.1 p.2/\(p.1.nil=false->p.2≠[])
 ne:A.Pairwise λp q=>p.1.nil=false->q.1.nil=false->p.1.i≠q.1.i
section
variable {S:QW} [GoodS S] {lf n:Nat} {h h' g0 h0:Q0} {K:ZK} {kb q e:Nat} {A:List (SL × List SL)} {s x:SL} {l:List SL}
theorem Bk.nid (b:Bk g0 h kb A) {i j:Nat} {p r:SL × List SL} (hi:A[i]?=some p) (hj:A[j]?=some r) (hij:i≠j) (e1:p.1.nil=false) (e2:r.1.nil=false):p.1.i≠r.1.i:=by
 have hp:=List.pairwise_iff_getElem.1 b.ne;obtain⟨hi1,hi2⟩:=List.getElem?_eq_some_iff.1 hi;obtain⟨hj1,hj2⟩:=List.getElem?_eq_some_iff.1 hj;rcases Nat.lt_or_gt_of_ne hij with h | h
 .have:=hp i j hi1 hj1 h
  rw[hi2,hj2] at this;exact this e1 e2
 .have:=hp j i hj1 hi1 h
  rw[hi2,hj2] at this;exact λe=>this e2 e1 e.symm
theorem Bk.ids (b:Bk g0 h kb A) {p:SL × List SL} (hp:p∈A) (e:p.1.nil=false):AB h p.1.i/\g0.next<=p.1.i/\p.1.i<h.next:=Arr.ab (b.arr p hp).1 ((b.arr p hp).2 e) e
theorem Bk.fr (b:Bk g0 h kb A) {T:Nat->Prop} (f:Q5 T h h') (h1:¬T kb) (h2:∀p,p∈A->p.1.nil=false->¬T p.1.i):Bk g0 h' kb A :=
 ⟨b.lt,b.var.fr f h1,λp hp=>⟨(b.arr p hp).1.fr f λe=>h2 p hp e,(b.arr p hp).2⟩,b.ne⟩
theorem Bk.fr0 (b:Bk g0 h kb A) (f:Q5 Qa h h'):Bk g0 h' kb A:=b.fr f id λ_ _ _=>id
theorem Bk.app (b:Bk g0 h kb A) (hq:A[q]?=some (s,l)) (hg:g0.next<=h.next) (hr:jy Try.prog e (l.length+1)=true) {B:List AV->Prop}
  (hA:(∀Z:Prop,Z->jb (Qx (h.newO (.cells [x.av] 1 false false)) s 1 1 [x.av]) kb q 1 Z) ->
   Bk g0 (hput (Qx (h.newO (.cells [x.av] 1 false false)) s 1 1 [x.av]) kb q [(s.app (h.newO (.cells [x.av] 1 false false)).next 1).av]) kb (A.set q (s.app (h.newO (.cells [x.av] 1 false false)).next 1,l++[x])) ->
   KFr kb h (hput (Qx (h.newO (.cells [x.av] 1 false false)) s 1 1 [x.av]) kb q [(s.app (h.newO (.cells [x.av] 1 false false)).next 1).av])->B [x.av]) :
  jY (h.newO (.cells [x.av] 1 false false)) ⟨false,h.next,0,1,1,false⟩ 1 λds=>jz Try.prog (h.newO (.cells [x.av] 1 false false)) s e 1 1 ds (B ds):=by
 have f1:Q5 Qa h (h.newO (.cells [x.av] 1 false false)):=Q5.newO _ _ _;have sg:Seg (h.newO (.cells [x.av] 1 false false)) ⟨false,h.next,0,1,1,false⟩ 1 [x.av]:=Seg.own (more:=[]) rfl (zO0 _) (by rw[zS0];exact Ql _ _);refine sg.zsrc ?_;have hn1:(h.newO (.cells [x.av] 1 false false)).next=h.next+1:=rfl
 have b1:=b.fr0 f1;generalize h.newO (.cells [x.av] 1 false false)=H at f1 b1 hn1 hA ⊢;have hm:=zD0 hq;have hkb:=b.lt;have ql:=(List.getElem?_eq_some_iff.1 hq).1;refine Arr.app1 (l:=l) (x:=x) (b1.arr _ hm).1 (b1.arr _ hm).2 (by omega) hr λH3 f3 s' a3 hs' hi3 hi3' el eh=>?_;rw[<- el,<- eh] at hA;clear el eh;have v3:=b1.var.fr f3 λ⟨e1,e2⟩=>by have:=(b1.ids hm e1).2.1;have e2:kb=s.i:=e2;have:g0.next<=s.i:=this;omega
 have vp:=v3.put q [s'.av];have f5:=v3.put_fr q [s'.av];have hn5:(hput H3 kb q [s'.av]).next=H3.next:=qg _ _ _ _
 have ev:(A.map λp=>p.1.av).take q++([s'.av]++(A.map λp=>p.1.av).drop (q+[s'.av].length))=(A.set q (s',l++[x])).map λp=>p.1.av:=by rw[List.map_set,List.set_eq_take_append_cons_drop,if_pos (by rw[zJ0];exact ql)];rfl
 rw[ev] at vp;refine hA (λZ z=>v3.zput (by rw[zJ0];omega) z) ?_ ?_
 .have hn3:=f3.next
  generalize hput H3 kb q [s'.av]=H5 at vp f5 hn5 ⊢;have other:∀(j:Nat) (p:SL × List SL),A[j]?=some p->q≠j->Arr g0 H5 p.1 p.2:=λj p hp hj=>by have hpm:=zD0 hp;exact ((b1.arr p hpm).1.fr f3 λe ⟨e1,e2⟩=>b1.nid hq hp hj e1 e e2.symm).fr f5 λe e'=>by have:=(b1.ids hpm e).2.1;omega
  refine⟨b.lt,vp,λp hp=>?_,List.pairwise_iff_getElem.2 λi j hi hj hij=>?_⟩
  .obtain⟨j,hj⟩:=List.mem_iff_getElem?.1 hp;rw[List.getElem?_set] at hj;split at hj
   .cases hj;exact⟨a3.fr f5 λe e'=>by omega,λ_=>by simp⟩
   .rename_i hne;exact⟨other j p hj hne,(b.arr p (zD0 hj)).2⟩
  .rw[List.length_set] at hi hj;rw[List.getElem_set,List.getElem_set];have hlt:∀(j:Nat) (hj:j<A.length),A[j].1.nil=false->A[j].1.i<s'.i:=λj hj e=>by
    have:=(b.ids (List.getElem_mem hj) e).2.2
    omega
   split <;> split
   .omega
   .exact λ_ e=>Nat.ne_of_gt (hlt j hj e)
   .exact λe _=>Nat.ne_of_lt (hlt i hi e)
   .exact List.pairwise_iff_getElem.1 b.ne i j hi hj hij
 .exact ((KFr.of f1).trans (f3.mono λi _ ⟨e1,e2⟩=>.inr (by have:=(b1.ids hm e1).1;rw[e2];exact this))).trans (f5.mono λi _ e=>.inl e)
def Recs (g0 h:Q0) (L:List BR):Prop:=∀r,r∈L->qy g0 h r.s r.k/\WOk h r.w r.k/\(r.w.nil=false->g0.next<=r.w.i)
theorem Recs.kfr {L:List BR} (x:Recs g0 h L) (f:KFr kb h h') (hk:kb<g0.next):Recs g0 h' L:=λr hr=>by obtain⟨o,wo,hw⟩:=x r hr;exact⟨o.kfr f λe=>by have:=(o.own e).1;omega,wo.kfr f λe=>by have:=hw e;omega,hw⟩
structure Bok (g0 h:Q0) (kb:Nat) (L:List BR) (es cs:List SL):Prop where
 at':∃l w e c,Bk g0 h kb [(l,L.map BR.s),(w,L.map BR.w),(e,es),(c,cs)]
 recs:Recs g0 h L
theorem Bok.lt {L:List BR} {es cs:List SL} (b:Bok g0 h kb L es cs):kb<g0.next:=by obtain⟨l,w,e,c,k⟩:=b.at';exact k.lt
theorem qAu {L:List BR} {es cs:List SL} {k:Ky} (b:Bok g0 h kb L es cs) (hg:g0.next<=h.next) (ho:qy g0 h s k) (hl:k.length<=4294967296) (hL:L.length<1000000000)
  (hk:∀h' w,KFr kb h h'->Bok g0 h' kb (L++[⟨s,w,k⟩]) es cs->K (.tup []) h'):Qq Try.prog S lf (n+1) 30 [.pv false kb 0,.sl s] K h:=by
 refine QJ (hSD (by decide) (by decide)) (by kernel_rfl) ?_;rw[keep_nf];obtain⟨l,w,e,c,b0⟩:=b.at';have hkb:=b.lt;refine⟨rfl,rfl,rfl,b0.var.ldL l rfl ?_⟩;refine b0.app (q:=0) rfl hg (qYf (by rw[zJ0];omega)) λhp b1 K5=>?_;refine⟨rfl,rfl,rfl,hp _ ⟨rfl,rfl,rfl,?_⟩⟩;clear hp;generalize hput _ kb 0 _=H5 at b1 K5 ⊢;generalize SL.app l _ 1=l' at b1 ⊢;have b1:Bk g0 H5 kb [(l',L.map BR.s++[s]),(w,L.map BR.w),(e,es),(c,cs)]:=b1;have o5:qy g0 H5 s k:=ho.kfr K5 λe=>by have:=(ho.own e).1;omega
 have v5:=b1.var;have hn5:=K5.next
 refine v5.ldL w rfl ?_;have f7:Q5 Qa H5 (H5.newO (.cells [] 1 false false)):=Q5.newO _ _ _;refine⟨⟨rfl,(v5.fr f7 id).ldL w rfl rfl⟩,(o5.byts.seg.fr f7 λ_=>id).zsrc ?_⟩
 refine qSx (P:=Try.prog) (e:=5) o5.byts (qWi hl) (Q:=λh' s'=>Q6 (Q6 (false=false) (Qb h' kb 1 λs_3=>ZV.av (ZV.sl s_3)=ZV.av (ZV.sl w))) (Q6 (Q6 (false=false) (Qb (Q0.newO h' (.cells [s'.av] 1 false false)) kb 1 λs_3=>ZV.av (ZV.sl s_3)=ZV.av (ZV.sl w)))
  (jY (Q0.newO h' (.cells [s'.av] 1 false false)) ⟨false,h'.next,0,1,1,false⟩ 1 λds_3=>jz Try.prog (Q0.newO h' (.cells [s'.av] 1 false false)) w 49 1 1 ds_3 (Q6 (false=false) (Q6 (false=false) (Q6 (false=false) (jb (Qx (Q0.newO h' (.cells [s'.av] 1 false false)) w 1 1 ds_3) kb 1 1
   (K (ZV.tup []) (hput (Qx (Q0.newO h' (.cells [s'.av] 1 false false)) w 1 1 ds_3) kb 1 [(w.app (Q0.newO h' (.cells [s'.av] 1 false false)).next 1).av])))))))) ) λH11 x f11 wx nx=>?_
 have b11:=b1.fr0 f11;have f12:Q5 Qa H11 (H11.newO (.cells [x.av] 1 false false)):=Q5.newO _ _ _;refine⟨⟨rfl,b11.var.ldL w rfl rfl⟩,⟨rfl,(b11.var.fr f12 id).ldL w rfl rfl⟩,?_⟩;have x11:WOk H11 x k:=⟨wx.byts,λe=>⟨x.ext,(wx.own e).2.2.2⟩⟩;have hxi:x.nil=false->H5.next<=x.i:=λe=>(wx.own e).1
 have hn11:=f11.next
 refine b11.app (q:=1) rfl (by omega) (qYf (by rw[zJ0];omega)) λhp b2 K14=>?_;refine⟨rfl,rfl,rfl,hp _ (hk _ x ((K5.trans (KFr.of f11)).trans K14) ⟨⟨l',_,e,c,by rw[zW0,zW0];exact b2⟩,λr hr=>?_⟩)⟩;rcases List.mem_append.1 hr with hr | hr
 .exact b.recs.kfr ((K5.trans (KFr.of f11)).trans K14) hkb r hr
 .rw[List.mem_singleton.1 hr];exact⟨o5.kfr ((KFr.of f11).trans K14) λe=>by have:=(o5.own e).1;omega,x11.kfr K14 λe=>by have:=hxi e;omega,λe=>by have:=hxi e;show g0.next<=x.i;omega⟩
end
end DfN
namespace DfN
open Go Go.X Go.X.Df Go.Proofs
structure Ol where
 s:SL
 sz:Nat
 cells:List AV
 kvs:List (SL × Ky)
structure Ol.Ok (h0 h:Q0) (o:Ol):Prop where
 seg:Seg h o.s o.sz o.cells
 own:o.s.nil=false->h0.next<=o.s.i/\o.s.o=0/\o.s.ext=false/\Head h o.s.i o.s.cap o.sz o.cells
 ok:∀p,p∈o.kvs->qy h0 h p.1 p.2
 nils:o.s.nil=true->o.s=QE
 sz1:o.sz≠1
theorem Ol.Ok.ap {h0 h:Q0} {o:Ol} (x:o.Ok h0 h) (e:o.s.nil=false) {s:SL} {k:Ky} (w:qy h0 h s k) (e1:s.nil=false):s.i≠o.s.i:=by obtain⟨_,_,_,c,_,hg,_⟩:=x.own e;obtain⟨c',m,hg'⟩:=qAg w e1;intro e2;rw[e2,hg] at hg';simp only[Option.some.injEq,QB.cells.injEq] at hg';exact x.sz1 hg'.2.1
theorem Ol.Ok.fr {h0 h h':Q0} {o:Ol} {T:Nat->Prop} (x:o.Ok h0 h) (f:Q5 T h h') (hs:o.s.nil=false->¬T o.s.i) (ht:∀p,p∈o.kvs->p.1.nil=false->¬T p.1.i):o.Ok h0 h' :=
 ⟨x.seg.fr f hs,λe=>by
  obtain⟨h1,h2,h3,h4⟩:=x.own e;exact⟨h1,h2,h3,h4.fr f (x.seg.lt e) (hs e)⟩,λp hp=>(x.ok p hp).fr f (ht p hp),x.nils,x.sz1⟩
theorem Ol.Ok.frT {h0 h h':Q0} {o:Ol} {T:Nat->Prop} (x:o.Ok h0 h) (f:Q5 T h h') (hT:∀i,h0.next<=i->¬T i):o.Ok h0 h' :=
 x.fr f (λe=>hT _ (x.own e).1) λp hp e=>hT _ ((x.ok p hp).own e).1
theorem Ol.Ok.fr0 {h0 h h':Q0} {o:Ol} (x:o.Ok h0 h) (f:Q5 Qa h h'):o.Ok h0 h':=x.fr f (λ_=>id) λ_ _ _=>id
theorem Ol.Ok.kfr {kb:Nat} {h0 h h':Q0} {o:Ol} (x:o.Ok h0 h) (f:KFr kb h h') (hk:kb<h0.next):o.Ok h0 h' :=
 x.fr f (λe=>by
  obtain⟨h1,_,_,c,_,hg,_⟩:=x.own e;rintro (e1 | e1)
  .omega
  .exact qNe hg e1) λp hp e=>by
  have w:=x.ok p hp;rintro (e1 | e1)
  .have:=(w.own e).1;omega
  .exact qMe w e e1
theorem Ol.Ok.of {h0 h1 h:Q0} {o:Ol} (x:o.Ok h1 h) (hn:h0.next<=h1.next):o.Ok h0 h :=
 ⟨x.seg,λe=>by
  obtain⟨q1,q2,q3,q4⟩:=x.own e;exact⟨zP0 hn q1,q2,q3,q4⟩,λp hp=>(x.ok p hp).of hn,x.nils,x.sz1⟩
def ER.kvs (x:ER):List (SL × Ky):=[(x.ks,x.e.1),(x.vs,x.e.2)]
def chOl (s:SL) (Y:List CR):Ol:=⟨s,5,Y.flatMap CR.row,Y.flatMap CR.kvs⟩
def enOl (s:SL) (X:List ER):Ol:=⟨s,2,X.flatMap ER.row,X.flatMap ER.kvs⟩
theorem qB2:∀l:List ER,(l.flatMap ER.kvs).length=l.length*2
 | []=>rfl
 | x::l=>by rw[zU0,zC0,qB2 l,zK0];show 2+_=_;omega
theorem Ol.Ok.ch {h0 h:Q0} {s:SL} {Y:List CR} (x:(chOl s Y).Ok h0 h) {y:CR} (hy:y∈Y):y.Ok h0 h:=by have m:∀p,p∈y.kvs->qy h0 h p.1 p.2:=λp hp=>x.ok p (List.mem_flatMap.2 ⟨y,hy,hp⟩);exact⟨m (y.ks,_) (by simp[CR.kvs]),m (y.os,_) (by simp[CR.kvs]),m (y.ns,_) (by simp[CR.kvs])⟩
theorem Ol.Ok.en {h0 h:Q0} {s:SL} {X:List ER} (x:(enOl s X).Ok h0 h) {y:ER} (hy:y∈X):qy h0 h y.ks y.e.1/\qy h0 h y.vs y.e.2:=by have m:∀p,p∈y.kvs->qy h0 h p.1 p.2:=λp hp=>x.ok p (List.mem_flatMap.2 ⟨y,hy,hp⟩);exact⟨m (y.ks,_) (by simp[ER.kvs]),m (y.vs,_) (by simp[ER.kvs])⟩
theorem Ol.Ok.chgs {h0 h:Q0} {s:SL} {Y:List CR} (x:(chOl s Y).Ok h0 h):Chgs h s Y:=⟨x.seg,λ_ _=>rfl,λy hy=>(x.ch hy).rd⟩
theorem Ol.Ok.ents {h0 h:Q0} {s:SL} {X:List ER} (x:(enOl s X).Ok h0 h):j1 h s X:=⟨x.seg,λ_ _=>rfl,λy hy=>⟨(x.en hy).1.byts,(x.en hy).2.byts⟩⟩
section
variable {S:QW} [GoodS S] {lf n:Nat} {h g0 h0:Q0} {K:ZK} {kb:Nat} {L:List BR} {es cs:List SL} {Y:List CR} {X:List ER}
theorem qCv {a:SL} (b:Bok g0 h kb L es cs) (hg:g0.next<=h0.next) (hg2:h0.next<=h.next) (ha:(chOl a Y).Ok h0 h) (hs:∀y,y∈Y->Mc y.c) (hL:L.length+Y.length*3<1000000000) (hcs:cs.length<1000000) (hlf:Y.length<lf)
  (hk:∀h' R,KFr kb h h'->Bok g0 h' kb (L++R) es (cs++[a])->R.map (λr=>(r.s,r.k))=Y.flatMap CR.kvs->K (.tup []) h') :
  Qq Try.prog S lf (n+2) 17 [.pv false kb 0,.sl a] K h:=by
 refine QJ (hSD (by decide) (by decide)) (by kernel_rfl) ?_;rw[jAu];have la:=ha.chgs.len (by decide);have ea:(Int.ofNat a.n:Int)=a.n:=rfl;have hkb:=b.lt
 refine Qy.inv (λq z h'=>∃(j:Nat) (R:List BR),ZAt 42 [(0,.pv false kb 0),(1,.sl a),(4,.int .i64 (j:Int))] z/\KFr kb h h'/\Bok g0 h' kb (L++R) es cs/\R.map (λr=>(r.s,r.k))=(Y.take j).flatMap CR.kvs/\j+q=Y.length) (n:=Y.length) hlf
  ⟨0,[],⟨rfl,rfl,rfl,rfl,trivial⟩,.refl _ _,by rw[zS0];exact b,rfl,by omega⟩ ?_
 rintro q z h1 kk hq ⟨j,R,hz,f1,b1,hR,hj⟩ ih;refine Qr _ hz λd=>(qSq _ _ _ _ _ _ _ _ _ _ _).mpr ?_;have a1:=ha.kfr f1 (by omega);have hn1:=f1.next
 have hRl:R.length=(Y.take j).length*3:=by
  have:=congrArg List.length hR
  rw[zJ0,qWz] at this;exact this
 rw[q9];refine⟨λe=>?_,λe=>?_⟩
 .have hjy:j<Y.length:=by omega
  have na:=ha.chgs.nil_of (by decide) hjy;have a2:=ha.chgs.len' (by decide) na;obtain⟨y,hy⟩:∃y,Y[j]?=some y:=⟨_,zE0 hjy⟩;have hmem:=zD0 hy;obtain⟨m1,m2,m3⟩:=hs y hmem;have ow:∀{t:SL} {k:Ky} {H:Q0},qy h0 H t k->qy g0 H t k:=λw=>w.of hg;have hRl2:R.length=j*3:=by rw[hRl,zY0];omega
  have hlen:∀r:List BR,(L++r).length=L.length+r.length:=λr=>zC0;refine⟨na,qAe.2 ⟨by omega,rfl,rfl,Qh (a1.chgs.at5 na hy).1 ?_⟩⟩;refine qAu b1 (by omega) (ow (a1.ch hmem).1) (by omega) (by rw[hlen];omega) λh2 w2 f2 b2=>qI0 λ_=>?_;have a2':=a1.kfr f2 (by omega);have hn2:=f2.next
  refine⟨na,qAe.2 ⟨by omega,rfl,rfl,Qh (a2'.chgs.at5 na hy).2.2.2.1 ?_⟩⟩;refine qAu b2 (by omega) (ow (a2'.ch hmem).2.1) (by omega) (by rw[zC0,hlen];show _+1<_;omega) λh3 w3 f3 b3=>qI0 λ_=>?_;have a3':=a2'.kfr f3 (by omega);have hn3:=f3.next
  refine⟨na,qAe.2 ⟨by omega,rfl,rfl,Qh (a3'.chgs.at5 na hy).2.2.2.2 ?_⟩⟩;refine qAu b3 (by omega) (ow (a3'.ch hmem).2.2) (by omega) (by rw[zC0,zC0,hlen];show _+1+1<_;omega) λh4 w4 f4 b4=>qI0 λ_=>?_;refine qAy.2 ?_;rw[QD (e:=(j:Int)+1) (by omega) (by omega)];refine ih (q-1) _ _ (by omega) ⟨j+1,R++[⟨y.ks,w2,y.c.k⟩,⟨y.os,w3,y.c.old⟩,⟨y.ns,w4,y.c.new⟩],⟨rfl,rfl,rfl,rfl,trivial⟩,((f1.trans f2).trans f3).trans f4,?_,?_,by omega⟩
  .have:L++(R++[⟨y.ks,w2,y.c.k⟩,⟨y.os,w3,y.c.old⟩,⟨y.ns,w4,y.c.new⟩])=L++R++[⟨y.ks,w2,y.c.k⟩]++[⟨y.os,w3,y.c.old⟩]++[⟨y.ns,w4,y.c.new⟩]:=by simp
   rw[this];exact b4
  .have ht:Y.take (j+1)=Y.take j++[y]:=by rw[List.take_add_one,hy];rfl
   rw[zW0,hR,ht,zT0];simp[CR.kvs]
 .refine Qr (n:=42) [(0,.pv false kb 0),(1,.sl a)] ⟨rfl,rfl,rfl,trivial⟩ λd'=>(jAv _ _ _ _ _ _ _).mpr ?_;have hje:j=Y.length:=by omega
  subst hje;rw[List.take_length] at hR;obtain⟨l,w,e,c,b0⟩:=b1.at';refine⟨rfl,rfl,rfl,b0.var.ldL c rfl ?_⟩;refine b0.app (q:=3) rfl (by omega) (room34 (by omega)) λhp b2 KK=>⟨rfl,rfl,rfl,hp _ (hk _ R (f1.trans KK) ⟨⟨l,w,e,_,b2⟩,b1.recs.kfr KK hkb⟩ hR)⟩
theorem qDt {a:SL} (b:Bok g0 h kb L es cs) (hg:g0.next<=h0.next) (hg2:h0.next<=h.next) (ha:(enOl a X).Ok h0 h) (hs:∀x,x∈X->Mb x.e) (hL:L.length+X.length*2<1000000000) (hcs:es.length<1000000) (hlf:X.length<lf)
  (hk:∀h' R,KFr kb h h'->Bok g0 h' kb (L++R) (es++[a]) cs->R.map (λr=>(r.s,r.k))=X.flatMap ER.kvs->K (.tup []) h') :
  Qq Try.prog S lf (n+2) 24 [.pv false kb 0,.sl a] K h:=by
 refine QJ (hSD (by decide) (by decide)) (by kernel_rfl) ?_;rw[qDu];have la:=ha.ents.len (by decide);have ea:(Int.ofNat a.n:Int)=a.n:=rfl;have hkb:=b.lt
 refine Qy.inv (λq z h'=>∃(j:Nat) (R:List BR),ZAt 35 [(0,.pv false kb 0),(1,.sl a),(4,.int .i64 (j:Int))] z/\KFr kb h h'/\Bok g0 h' kb (L++R) es cs/\R.map (λr=>(r.s,r.k))=(X.take j).flatMap ER.kvs/\j+q=X.length) (n:=X.length) hlf
  ⟨0,[],⟨rfl,rfl,rfl,rfl,trivial⟩,.refl _ _,by rw[zS0];exact b,rfl,by omega⟩ ?_
 rintro q z h1 kk hq ⟨j,R,hz,f1,b1,hR,hj⟩ ih;refine Qr _ hz λd=>(qB1 _ _ _ _ _ _ _ _ _ _ _).mpr ?_;have a1:=ha.kfr f1 (by omega);have hn1:=f1.next
 have hRl:R.length=(X.take j).length*2:=by
  have:=congrArg List.length hR
  rw[zJ0,qB2] at this;exact this
 rw[q9];refine⟨λe=>?_,λe=>?_⟩
 .have hjy:j<X.length:=by omega
  have na:=ha.ents.nil_of (by decide) hjy;have a2:=ha.ents.len' (by decide) na;obtain⟨y,hy⟩:∃y,X[j]?=some y:=⟨_,zE0 hjy⟩;have hmem:=zD0 hy;obtain⟨m1,m2⟩:=hs y hmem;have hRl2:R.length=j*2:=by rw[hRl,zY0];omega
  have hlen:∀r:List BR,(L++r).length=L.length+r.length:=λr=>zC0;refine⟨na,qAe.2 ⟨by omega,rfl,rfl,Qh (a1.ents.at' na hy (q:=0) (by decide) rfl) ?_⟩⟩;refine qAu b1 (by omega) ((a1.en hmem).1.of hg) (by omega) (by rw[hlen];omega) λh2 w2 f2 b2=>qI0 λ_=>?_;have a2':=a1.kfr f2 (by omega);have hn2:=f2.next
  refine⟨na,qAe.2 ⟨by omega,rfl,rfl,Qh (a2'.ents.at' na hy (q:=1) (by decide) rfl) ?_⟩⟩;refine qAu b2 (by omega) ((a2'.en hmem).2.of hg) (by omega) (by rw[zC0,hlen];show _+1<_;omega) λh3 w3 f3 b3=>qI0 λ_=>?_;refine qAy.2 ?_;rw[QD (e:=(j:Int)+1) (by omega) (by omega)];refine ih (q-1) _ _ (by omega) ⟨j+1,R++[⟨y.ks,w2,y.e.1⟩,⟨y.vs,w3,y.e.2⟩],⟨rfl,rfl,rfl,rfl,trivial⟩,(f1.trans f2).trans f3,?_,?_,by omega⟩
  .have:L++(R++[⟨y.ks,w2,y.e.1⟩,⟨y.vs,w3,y.e.2⟩])=L++R++[⟨y.ks,w2,y.e.1⟩]++[⟨y.vs,w3,y.e.2⟩]:=by simp
   rw[this];exact b3
  .have ht:X.take (j+1)=X.take j++[y]:=by rw[List.take_add_one,hy];rfl
   rw[zW0,hR,ht,zT0];simp[ER.kvs]
 .refine Qr (n:=35) [(0,.pv false kb 0),(1,.sl a)] ⟨rfl,rfl,rfl,trivial⟩ λd'=>(qDv _ _ _ _ _ _ _).mpr ?_;have hje:j=X.length:=by omega
  subst hje;rw[List.take_length] at hR;obtain⟨l,w,e,c,b0⟩:=b1.at';refine⟨rfl,rfl,rfl,b0.var.ldL e rfl ?_⟩;refine b0.app (q:=2) rfl (by omega) (roomE (by omega)) λhp b2 KK=>⟨rfl,rfl,rfl,hp _ (hk _ R (f1.trans KK) ⟨⟨l,w,_,c,b2⟩,b1.recs.kfr KK hkb⟩ hR)⟩
end
end DfN
namespace DfN
open Go Go.X Go.X.Df Go.Proofs
section
variable {S:QW} [GoodS S] {lf n:Nat} {h g0 hB:Q0} {K:ZK} {kb:Nat} {L:List BR} {es cs:List SL}
theorem ends2_ok (b:Bok g0 h kb L es cs) (hg:g0.next<=h.next) (hd:(L.map BR.s).Pairwise λs t=>s.nil=false->t.nil=false->s.i≠t.i) (hks:∀r,r∈L->r.k.length<100000000) (hL:L.length<100000000) (hlf:200000000<lf)
  (hoe:∀h' (K2:ZK),Q5 (λx=>∃r,r∈L/\r.s.nil=false/\x=r.s.i) h h'->(∀h'',Q5 (λi=>∃s,s∈es/\s.nil=false/\i=s.i) h' h''->K2 (.bool true) h'')->Qq Try.prog S lf (n+4) 33 [.pv false kb 0] K2 h')
  (hoc:∀h' h'' (K2:ZK),Q5 (λx=>∃r,r∈L/\r.s.nil=false/\x=r.s.i) h h'->Q5 (λi=>∃s,s∈es/\s.nil=false/\i=s.i) h' h''->(∀h3,K2 (.bool true) h3)->Qq Try.prog S lf (n+4) 34 [.pv false kb 0] K2 h'')
  (hk:∀h',K (.bool true) h'):Qq Try.prog S lf (n+5) 18 [.pv false kb 0] K h:=by
 refine QJ (hSD (by decide) (by decide)) (by kernel_rfl) ?_;rw[ends_nf];obtain⟨l,w,ee,c,b0⟩:=b.at';have v:=b0.var;obtain⟨a1,n1'⟩:=b0.arr (l,L.map BR.s) (by simp);have a2:=(b0.arr (w,L.map BR.w) (by simp)).1;have n1:l.nil=false->L≠[]:=λe=>by simpa using n1' e
 have hkb:=b.lt;have hal:l.n=L.length:=by have:=Grown.n_eq a1;rw[zJ0] at this;exact this
 have el:(Int.ofNat l.n:Int)=l.n:=rfl;refine Qy.inv (λq z h'=>∃j:Nat,ZAt 176 [(0,.pv false kb 0),(3,.int .i64 (j:Int))] z/\h'=h/\j+q=L.length) (n:=L.length) (by omega) ⟨0,⟨rfl,rfl,rfl,trivial⟩,rfl,by omega⟩ ?_;rintro q z h' kk hq ⟨j,hz,rfl,hj⟩ ih;refine Qr _ hz λd=>(qXe _ _ _ _ _ _ _ _ _ _).mpr ?_;refine⟨rfl,rfl,rfl,v.ldL l rfl ?_⟩;rw[q9];refine⟨λe=>?_,λe=>?_⟩
 .have hjl:j<L.length:=by omega
  obtain⟨r,hr⟩:∃r,L[j]?=some r:=⟨_,zE0 hjl⟩;obtain⟨o,wo,_⟩:=b.recs r (zD0 hr);obtain⟨x1,x2,x3⟩:=Arr.at' a1 (j:=j) (x:=r.s) (by rw[zV0,hr];rfl);obtain⟨y1,y2,y3⟩:=Arr.at' a2 (j:=j) (x:=r.w) (by rw[zV0,hr];rfl);refine⟨rfl,rfl,rfl,v.ldL l rfl ⟨x1,qAe.2 ⟨x2,rfl,Qh x3 (o.byts.zbytes ⟨rfl,rfl,rfl,v.ldL w rfl ⟨y1,qAe.2 ⟨y2,rfl,Qh y3 (wo.byts.zbytes ?_)⟩⟩⟩)⟩⟩⟩;rw[decide_eq_true rfl,Bool.not_true,qAz];refine qAy.2 ?_;rw[QD (e:=(j:Int)+1) (by omega) (by omega)];exact ih (q-1) _ _ (by omega) ⟨j+1,⟨rfl,rfl,rfl,trivial⟩,rfl,by omega⟩
 clear ih hz;refine Qr (n:=176) [(0,.pv false kb 0)] ⟨rfl,rfl,trivial⟩ λd=>(ends_a11 _ _ _ _ _ _).mpr ?_
 let kf:Nat->Ky:=λj=>((L[j]?).map BR.k).getD []
 let ss:=L.map BR.s
 have hssl:ss.length=L.length:=zJ0 _;have hkf:∀j,(kf j).length<100000000:=λj=>by
  show (((L[j]?).map BR.k).getD []).length<_;cases hr:L[j]? with
  | none=>simp
  | some r=>simpa using hks r (zD0 hr)
 have eb0:EB g0 h' kb l ss kf:=⟨hkb,⟨_,_,_,v⟩,a1,λe=>by simpa [ss] using n1 e,λj s hs=>by
  have hs:(L.map BR.s)[j]?=some s:=hs;rw[zV0] at hs;obtain⟨r,hr,rfl⟩:=Option.map_eq_some_iff.1 hs
  have:kf j=r.k:=by show ((L[j]?).map BR.k).getD []=_;rw[hr];rfl
  rw[this];exact (b.recs r (zD0 hr)).1,hd⟩
 let T:Nat->Prop:=λx=>∃r,r∈L/\r.s.nil=false/\x=r.s.i
 have hT:∀s,s∈ss->s.nil=false->T s.i:=λs hs e=>by obtain⟨r,hr,rfl⟩:=List.mem_map.1 hs;exact⟨r,hr,e,rfl⟩
 have hold:∀s,s∈ss->s.nil=false->s.i<h'.next:=λs hs e=>by obtain⟨r,hr,rfl⟩:=List.mem_map.1 hs;exact (b.recs r hr).1.byts.seg.lt e
 refine Qy.inv (λq z h2=>∃j:Nat,ZAt 176 [(0,.pv false kb 0),(4,.int .i64 (j:Int))] z/\j+q=L.length/\Q5 T h' h2/\EB g0 h2 kb l ss (λx=>if x<j then marks (mkB x) (kf x).length else kf x)) (n:=L.length) (by omega)
  ⟨0,⟨rfl,rfl,rfl,trivial⟩,by omega,Q5.refl _ _,eb0.cong λx _=>by rw[if_neg (by omega)]⟩ ?_
 rintro q z h2 kk hq ⟨j2,hz,hj2,F2,b2⟩ ih;by_cases hjl:j2<L.length
 .obtain⟨s,hs⟩:∃s,ss[j2]?=some s:=⟨_,zE0 (by rw[hssl];exact hjl)⟩;have hkl:(if j2<j2 then marks (mkB j2) (kf j2).length else kf j2).length=(kf j2).length:=by rw[if_neg (by omega)]
  refine fill_ok (n:=n+3) b2 hs hz (by rw[hkl];have:=hkf j2;omega) (by omega) (by rw[hkl];have:=hkf j2;omega) λz h3 hz3 f3 b3=>?_;refine ih (q-1) _ _ (by omega) ⟨j2+1,hz3,by omega,F2.trans (f3.mono λx _ ⟨e1,e2⟩=>by rw[e2];exact hT s (zD0 hs) e1),b3.cong λx _=>?_⟩;rw[hkl];by_cases hx:x=j2
  .subst hx;rw[if_pos rfl,if_pos (by omega)]
  .rw[if_neg hx];by_cases hx2:x<j2
   .rw[if_pos hx2,if_pos (by omega)]
   .rw[if_neg hx2,if_neg (by omega)]
 have hje:j2=L.length:=by omega
 subst hje;refine Qr _ hz λd=>(qLx _ _ _ _ _ _ _ _ _ _).mpr ?_;obtain⟨w2,w2e,c2,v2⟩:=b2.var;refine⟨rfl,rfl,rfl,v2.ldL l rfl ?_⟩;rw[decide_eq_false (show ¬((L.length:Int)<Int.ofNat l.n) by omega),qAz];clear ih hz;refine Qr (n:=176) [(0,.pv false kb 0)] ⟨rfl,rfl,trivial⟩ λd=>(ends_a111 _ _ _ _ _ _).mpr ?_
 let nl:Nat->Nat:=λj=>(kf j).length
 have b2:EB g0 h2 kb l ss (λx=>marks (mkB x) (nl x)):=b2.cong λx hx=>by rw[if_pos (by omega)]
 have hn2:=F2.next
 have hlt2:l.nil=false->l.i<h2.next:=λe=>(Arr.ab b2.arr (b2.nn e) e).2.2
 have p0:P3 g0 h2 h2 kb l ss nl QE []:=⟨b2,Grown.start _ _ _,λe=>(by cases e),zN0 _,λs hs e=>by have:=hold s hs e;omega,⟨by omega,hlt2⟩,λj s p _ hp=>by simp at hp⟩
 refine Qy.inv (λq z h3=>∃(v6:SL) (G:List (SL × SL)),ZAt 176 [(0,.pv false kb 0),(6,.sl v6),(7,.int .i64 ((G.length:Nat):Int))] z/\G.length+q=L.length/\Q5 T h' h3/\P3 g0 h2 h3 kb l ss nl v6 G) (n:=L.length) (by omega)
  ⟨QE,[],⟨rfl,rfl,rfl,rfl,trivial⟩,by simp,F2,p0⟩ ?_
 rintro q z h3 kk hq ⟨v6,G,hz,hG,F3,p3⟩ ih;by_cases hjl:G.length<L.length
 .obtain⟨s,hs⟩:∃s,ss[G.length]?=some s:=⟨_,zE0 (by rw[hssl];exact hjl)⟩;refine p3_ok (n:=n+3) p3 hs rfl hz (by have:=hkf G.length;show (kf G.length).length<_;omega) (by omega) (by omega) λz h4 v6' qq hz4 p4 f4=>?_;refine ih (q-1) _ _ (by omega) ⟨v6',G++[qq],?_,by rw[zC0];show G.length+1+_=_;omega,F3.back f4 λx hx e=>?_,p4⟩
  .rw[zC0];exact hz4
  .rcases e with ⟨s,hs,e1,e2⟩ | e
   .rw[e2];exact hT s hs e1
   .omega
 have hGe:G.length=L.length:=by omega
 refine Qr _ hz λd=>(qHz _ _ _ _ _ _ _ _ _ _ _).mpr ?_;have b3:=p3.eb;obtain⟨w3,w3e,c3,v3⟩:=b3.var;refine⟨rfl,rfl,rfl,v3.ldL l rfl ?_⟩;rw[decide_eq_false (show ¬((G.length:Int)<Int.ofNat l.n) by omega),qAz];clear ih hz;refine Qr (n:=176) [(0,.pv false kb 0),(6,.sl v6)] ⟨rfl,rfl,rfl,trivial⟩ λd=>(qXf _ _ _ _ _ _ _).mpr ?_;have es:∀s:SL,(Int.ofNat s.n:Int)=s.n:=λ_=>rfl;refine Qy.inv (λq z h4=>∃j:Nat,ZAt 176 [(0,.pv false kb 0),(6,.sl v6),(12,.int .i64 (j:Int))] z/\h4=h3/\j+q=L.length) (n:=L.length) (by omega) ⟨0,⟨rfl,rfl,rfl,rfl,trivial⟩,rfl,by omega⟩ ?_;rintro q z h4 kk hq ⟨j,hz,rfl,hj⟩ ih;refine Qr _ hz λd=>(qOh _ _ _ _ _ _ _ _ _ _ _).mpr ?_;refine⟨rfl,rfl,rfl,v3.ldL l rfl ?_⟩;rw[q9];refine⟨λe=>?_,λe=>?_⟩
 .have hjl:j<L.length:=by omega
  obtain⟨s,hs⟩:∃s,ss[j]?=some s:=⟨_,zE0 (by rw[hssl];exact hjl)⟩;obtain⟨p,hp⟩:∃p,G[j]?=some p:=⟨_,zE0 (by omega)⟩;obtain⟨g1,g2⟩:=p3.gs j s p hs hp;obtain⟨t1,t2⟩:=qWb G j p hp;obtain⟨x1,x2,x3⟩:=b3.at' hs;obtain⟨y1,y2,y3⟩:=Arr.at' p3.arr t1;obtain⟨_,z2,z3⟩:=Arr.at' p3.arr t2;have so:qy g0 h4 s (marks (mkB j) (nl j)):=b3.own j s hs;have hkj:nl j<100000000:=hkf j;have w2:IntKind.i64.wrap (2*(j:Int))=((2*j:Nat):Int):=by rw[QD (by omega) (by omega)];omega
  have w21:IntKind.i64.wrap (((2*j:Nat):Int)+1)=((2*j+1:Nat):Int):=by rw[QD (by omega) (by omega)];omega
  refine⟨rfl,rfl,rfl,v3.ldL l rfl ⟨x1,qAe.2 ⟨x2,rfl,Qh x3 (qF3 ?_)⟩⟩⟩;rw[qA0];refine qFa.2 ⟨⟨rfl,Qh x3 rfl⟩,⟨rfl,v3.ldL l rfl rfl⟩,qW3 (n:=n+3) so.byts (by omega) (by omega) ?_⟩;rw[qA1];refine qDf.2 (qAy.2 ?_);rw[w2];refine⟨y1,qAe.2 ⟨y2,rfl,Qh y3 (qF3 ?_)⟩⟩;rw[qA0];refine qFa.2 ⟨⟨rfl,Qh y3 rfl⟩,qAy.2 (by rw[w2]),qW3 (n:=n+3) g1.byts (by omega) (by omega) ?_⟩;rw[qA1];refine qDf.2 (qAy.2 ?_);rw[w2];refine qAy.2 ?_;rw[w21];refine⟨y1,qAe.2 ⟨z2,rfl,Qh z3 (qF3 ?_)⟩⟩;rw[qA0];refine qFa.2 ⟨⟨rfl,Qh z3 rfl⟩,qAy.2 (by rw[w21]),qAy.2 (by rw[w2]),qW3 (n:=n+3) g2.byts (by omega) (by omega) ?_⟩;rw[qA1];refine qDf.2 ?_;rw[Bool.not_true,qAz,qHv,qAz,qAz];refine qAy.2 ?_;rw[QD (e:=(j:Int)+1) (by omega) (by omega)];exact ih (q-1) _ _ (by omega) ⟨j+1,⟨rfl,rfl,rfl,rfl,trivial⟩,rfl,by omega⟩
 .refine Qr (n:=176) [(0,.pv false kb 0)] ⟨rfl,rfl,trivial⟩ λd=>(qVd _ _ _ _ _ _).mpr ?_;refine hoe h4 _ F3 λh5 F5=>?_;rw[qA1];refine qDf.2 (hoc h4 h5 _ F3 F5 λh6=>?_);rw[qA1];refine qDf.2 ?_;rw[qBi];exact hk h6
end
end DfN
namespace DfN
open Go Go.X Go.X.Df Go.Proofs
def SlNe (s t:SL):Prop:=s.nil=false->t.nil=false->s.i≠t.i
theorem SlNe.symm {s t:SL} (x:SlNe s t):SlNe t s:=λe1 e2 e=>x e2 e1 e.symm
structure Qc (g0 h:Q0) (os:List Ol):Prop where
 each:∀o,o∈os->o.Ok g0 h
 ids:(os.flatMap λo=>o.kvs.map Prod.fst).Pairwise SlNe
 ap:(os.map Ol.s).Pairwise SlNe
theorem Qc.start (g0 h:Q0):Qc g0 h []:=⟨λ_ h=>(by cases h),List.Pairwise.nil,List.Pairwise.nil⟩
theorem Qc.frT {g0 h h':Q0} {os:List Ol} {T:Nat->Prop} (x:Qc g0 h os) (f:Q5 T h h') (hT:∀i,g0.next<=i->¬T i):Qc g0 h' os:=⟨λo ho=>(x.each o ho).frT f hT,x.ids,x.ap⟩
theorem Qc.of {g0 g1 h:Q0} {os:List Ol} (x:Qc g1 h os) (hn:g0.next<=g1.next):Qc g0 h os:=⟨λo ho=>(x.each o ho).of hn,x.ids,x.ap⟩
theorem Qc.kfr {kb:Nat} {g0 h h':Q0} {os:List Ol} (x:Qc g0 h os) (f:KFr kb h h') (hk:kb<g0.next):Qc g0 h' os:=⟨λo ho=>(x.each o ho).kfr f hk,x.ids,x.ap⟩
theorem Qc.perm {g0 h:Q0} {os os':List Ol} (x:Qc g0 h os) (p:os.Perm os'):Qc g0 h os' :=
 ⟨λo ho=>x.each o (p.mem_iff.2 ho),x.ids.perm (p.flatMap_right _) SlNe.symm,x.ap.perm (p.map _) SlNe.symm⟩
theorem Qc.add {g0 h h':Q0} {os:List Ol} {o:Ol} (x:Qc g0 h os) (hg:g0.next<=h.next) (f:Q5 Qa h h') (ok:o.Ok h h') (pw:(o.kvs.map Prod.fst).Pairwise SlLt):Qc g0 h' (os++[o]):=by
 refine⟨λp hp=>?_,?_,?_⟩
 .rcases List.mem_append.1 hp with hp | hp
  .exact (x.each p hp).fr0 f
  .rw[List.mem_singleton.1 hp];exact ok.of hg
 .rw[zT0];refine List.pairwise_append.2 ⟨x.ids,?_,λa ha b hb e1 e2=>?_⟩
  .rw[zU0,List.flatMap_nil,zS0];exact pw.imp λh e1 e2=>Nat.ne_of_lt (h e1 e2)
  .obtain⟨p,hp,ha⟩:=List.mem_flatMap.1 ha;rw[zU0,List.flatMap_nil,zS0] at hb;obtain⟨u,hu,rfl⟩:=List.mem_map.1 ha;obtain⟨v,hv,rfl⟩:=List.mem_map.1 hb
   have:=((x.each p hp).ok u hu).byts.seg.lt e1
   have:=((ok.ok v hv).own e2).1
   omega
 .rw[zW0];refine List.pairwise_append.2 ⟨x.ap,List.pairwise_singleton _ _,λa ha b hb e1 e2=>?_⟩;obtain⟨p,hp,rfl⟩:=List.mem_map.1 ha;rw[List.map_cons,List.map_nil,List.mem_singleton] at hb;subst hb
  have:=(x.each p hp).seg.lt e1
  have:=(ok.own e2).1
  omega
def eol (o:SL × List ER):Ol:=enOl o.1 o.2
def col (o:SL × List CR):Ol:=chOl o.1 o.2
def kvl (eo:List (SL × List ER)) (co:List (SL × List CR)):List (SL × Ky):=(eo.flatMap λo=>o.2.flatMap ER.kvs)++co.flatMap λo=>o.2.flatMap CR.kvs
section
variable {S:QW} [GoodS S] {lf n:Nat} {h g0:Q0} {K:ZK} {kb:Nat} {L:List BR} {eo:List (SL × List ER)} {co:List (SL × List CR)}
structure Kept2 (g0 h:Q0) (kb:Nat) (L:List BR) (eo:List (SL × List ER)) (co:List (SL × List CR)):Prop where
 book:Bok g0 h kb L (eo.map Prod.fst) (co.map Prod.fst)
 same:L.map (λr=>(r.s,r.k))=kvl eo co
theorem Kept2.moree {os:List Ol} {s:SL} {X:List ER} (b:Kept2 g0 h kb L eo []) (x:Qc g0 h os) (o:(enOl s X).Ok g0 h) (hg:g0.next<=h.next) (hs:∀y,y∈X->Mb y.e) (hL:L.length+X.length*2<1000000000) (hcs:eo.length<1000000) (hlf:X.length<lf)
  (hk:∀h' R,Kept2 g0 h' kb (L++R) (eo++[(s,X)]) []->Qc g0 h' os->h.next<=h'.next->R.length=X.length*2->KFr kb h h'->K (.tup []) h') :
  Qq Try.prog S lf (n+2) 24 [.pv false kb 0,.sl s] K h:=by
 refine qDt b.book (zN0 _) hg o hs hL (by rw[zJ0];exact hcs) hlf λh' R f b' e=>?_;refine hk h' R ⟨by rw[zW0];exact b',?_⟩ (x.kfr f b.book.lt) f.next ?_ f
 .rw[zW0,b.same,e];simp[kvl]
 .have:=congrArg List.length e
  rw[zJ0,qB2] at this;exact this
theorem Kept2.morec {os:List Ol} {s:SL} {Y:List CR} (b:Kept2 g0 h kb L eo co) (x:Qc g0 h os) (o:(chOl s Y).Ok g0 h) (hg:g0.next<=h.next) (hs:∀y,y∈Y->Mc y.c) (hL:L.length+Y.length*3<1000000000) (hcs:co.length<1000000) (hlf:Y.length<lf)
  (hk:∀h' R,Kept2 g0 h' kb (L++R) eo (co++[(s,Y)])->Qc g0 h' os->h.next<=h'.next->R.length=Y.length*3->KFr kb h h'->K (.tup []) h') :
  Qq Try.prog S lf (n+2) 17 [.pv false kb 0,.sl s] K h:=by
 refine qCv b.book (zN0 _) hg o hs hL (by rw[zJ0];exact hcs) hlf λh' R f b' e=>?_;refine hk h' R ⟨by rw[zW0];exact b',?_⟩ (x.kfr f b.book.lt) f.next ?_ f
 .rw[zW0,b.same,e];simp[kvl]
 .have:=congrArg List.length e
  rw[zJ0,qWz] at this;exact this
theorem Kept2.ends (b:Kept2 g0 h kb L eo co) (x:Qc g0 h (eo.map eol++co.map col)) (hg:g0.next<=h.next) (hes:∀o,o∈eo->∀y,y∈o.2->Mb y.e) (hcs:∀o,o∈co->∀y,y∈o.2->Mc y.c) (hL:L.length<100000000) (heo:eo.length<100000000) (hco:co.length<100000000)
  (hel:∀o,o∈eo->o.2.length<1000000000) (hcl:∀o,o∈co->o.2.length<1000000000) (hlf:4000000000<lf)
  (hk:∀h',K (.bool true) h'):Qq Try.prog S lf (n+5) 18 [.pv false kb 0] K h:=by
 have hl:L.map BR.s=(eo.map eol++co.map col).flatMap λo=>o.kvs.map Prod.fst:=by
  have h1:L.map BR.s=(L.map λr=>(r.s,r.k)).map Prod.fst:=by rw[List.map_map];rfl
  rw[h1,b.same,kvl,zW0,zT0,List.flatMap_map,List.flatMap_map,List.map_flatMap,List.map_flatMap];rfl
 have ow:∀r,r∈L->qy g0 h r.s r.k:=λr hr=>(b.book.recs r hr).1;have hkb:=b.book.lt;obtain⟨l,w,e,c,b0⟩:=b.book.at';have oe:∀o,o∈eo->(eol o).Ok g0 h:=λo ho=>x.each _ (zH0 _ (List.mem_map_of_mem ho));have oc:∀o,o∈co->(col o).Ok g0 h:=λo ho=>x.each _ (zI0 _ (List.mem_map_of_mem ho));have apl:=x.ap;rw[zW0,List.map_map,List.map_map] at apl;obtain⟨ap1,ap2,ap3⟩:=List.pairwise_append.1 apl;have ve:∀h',Q5 (λx=>∃r,r∈L/\r.s.nil=false/\x=r.s.i) h h'->Bk g0 h' kb [(l,L.map BR.s),(w,L.map BR.w),(e,eo.map Prod.fst),(c,co.map Prod.fst)]:=λh' f=>by
  refine b0.fr f (λ⟨r,hr,e1,e2⟩=>?_) λp hp e0 ⟨r,hr,e1,e2⟩=>?_
  .have:=((ow r hr).own e1).1
   omega
  .have q:=qMe (ow r hr) e1;rw[<- e2] at q;exact q (b0.ids hp e0).1
 have lo:∀h',Q5 (λx=>∃r,r∈L/\r.s.nil=false/\x=r.s.i) h h'->∀o:Ol,o.Ok g0 h->o.s.nil=false->¬ ∃r,r∈L/\r.s.nil=false/\o.s.i=r.s.i:=λh' f o ok e0 ⟨r,hr,e1,e2⟩=>ok.ap e0 (ow r hr) e1 e2.symm;have le:∀h',Q5 (λx=>∃r,r∈L/\r.s.nil=false/\x=r.s.i) h h'->∀o,o∈eo->LP g0 h' o.1 (o.2.flatMap ER.row):=λh' f o ho =>
  (show LP g0 h o.1 (o.2.flatMap ER.row) from⟨(oe o ho).seg,(oe o ho).own,(oe o ho).nils⟩).fr f λe0=>lo h' f _ (oe o ho) e0
 have lc:∀h',Q5 (λx=>∃r,r∈L/\r.s.nil=false/\x=r.s.i) h h'->∀o,o∈co->LO g0 h' o.1 (o.2.flatMap CR.row):=λh' f o ho =>
  (show LO g0 h o.1 (o.2.flatMap CR.row) from⟨(oc o ho).seg,(oc o ho).own,(oc o ho).nils⟩).fr f λe0=>lo h' f _ (oc o ho) e0
 refine ends2_ok b.book hg (by rw[hl];exact x.ids) (λr hr=>?_) hL (by omega) (λh' K2 f hK2=>?_) (λh' h'' K2 f f5 hK2=>?_) hk
 .have:(r.s,r.k)∈kvl eo co:=by rw[<- b.same];exact List.mem_map.2 ⟨r,hr,rfl⟩
  rcases List.mem_append.1 this with h1 | h1
  .obtain⟨o,ho,h1⟩:=List.mem_flatMap.1 h1;obtain⟨y,hy,h2⟩:=List.mem_flatMap.1 h1;obtain⟨q1,q2⟩:=hes o ho y hy;simp only[ER.kvs,zL0,zM0,or_false,Prod.mk.injEq] at h2;rcases h2 with ⟨_,e⟩ | ⟨_,e⟩ <;> rw[e] <;> omega
  .obtain⟨o,ho,h1⟩:=List.mem_flatMap.1 h1;obtain⟨y,hy,h2⟩:=List.mem_flatMap.1 h1;obtain⟨q1,q2,q3⟩:=hcs o ho y hy;simp only[CR.kvs,zL0,zM0,or_false,Prod.mk.injEq] at h2;rcases h2 with ⟨_,e⟩ | ⟨_,e⟩ | ⟨_,e⟩ <;> rw[e] <;> omega
 .have b1:=ve h' f;have q:=b1.arr (e,eo.map Prod.fst) (by simp);have ee:EE g0 h' kb e (eo.map Prod.fst) (λj=>((eo[j]?.map Prod.snd).getD []).flatMap ER.row):=by
   refine⟨hkb,⟨l.av,w.av,c.av,b1.var⟩,q.1,q.2,λj s hj=>?_,ap1⟩;rw[zV0] at hj;obtain⟨o,ho,e⟩:=Option.map_eq_some_iff.1 hj;subst e;rw[ho];exact le h' f o (zD0 ho)
  refine outere_ok (n:=n+2) (a:=l.av) (w:=w.av) (cl:=λj=>((eo[j]?.map Prod.snd).getD []).length) ee (λj hj=>qEr λ_ _=>rfl) (λj=>?_) (by rw[zJ0];exact heo) (by have:=f.next;omega) hlf hK2;cases ho:eo[j]? with
  | none=>decide
  | some o=>exact hel o (zD0 ho)
 .have b1:=ve h' f;have q:=b1.arr (c,co.map Prod.fst) (by simp);have hf:=f.next
  have nT:∀{s:SL},s∈eo.map Prod.fst->s.nil=false->g0.next<=s.i/\¬AB h' s.i:=λhs e1=>by obtain⟨o,ho,rfl⟩:=List.mem_map.1 hs;exact⟨((oe o ho).own e1).1,(le h' f o ho).ab e1⟩
  have b2:Bk g0 h'' kb [(l,L.map BR.s),(w,L.map BR.w),(e,eo.map Prod.fst),(c,co.map Prod.fst)]:=b1.fr f5 (λ⟨s,hs,e1,e2⟩=>by
   have:=(nT hs e1).1
   omega) λp hp e0 ⟨s,hs,e1,e2⟩=>by
   have q:=(nT hs e1).2;rw[<- e2] at q;exact q (b1.ids hp e0).1
  have q:=b2.arr (c,co.map Prod.fst) (by simp);have ec:EC g0 h'' kb c (co.map Prod.fst) (λj=>((co[j]?.map Prod.snd).getD []).flatMap CR.row):=by refine⟨hkb,⟨l.av,w.av,e.av,b2.var⟩,q.1,q.2,λj s hj=>?_,ap2⟩;rw[zV0] at hj;obtain⟨o,ho,e⟩:=Option.map_eq_some_iff.1 hj;subst e;rw[ho];refine (lc h' f o (zD0 ho)).fr f5 λe0 ⟨s,hs,e1,e2⟩=>?_;obtain⟨p,hp,rfl⟩:=List.mem_map.1 hs;exact ap3 p.1 (List.mem_map_of_mem (f:=Ol.s ∘ eol) hp) o.1 (List.mem_map_of_mem (f:=Ol.s ∘ col) (zD0 ho)) e1 e0 e2.symm
  refine outerc_ok (n:=n+2) (a:=l.av) (w:=w.av) (cl:=λj=>((co[j]?.map Prod.snd).getD []).length) ec (λj hj=>qEr λ_ _=>rfl) (λj=>?_) (by rw[zJ0];exact hco) (by have:=f5.next;omega) hlf λh1 _=>hK2 h1;cases ho:co[j]? with
  | none=>decide
  | some o=>exact hcl o (zD0 ho)
end
end DfN
namespace DfN
open Go Go.X Go.X.Df Go.Proofs
theorem rev_ol {K:ZK} {h0 h:Q0} {s:SL} {sz m:Nat} {cells:List AV} {kvs:List (SL × Ky)} (g:Grown h0 h s sz m cells) (hsz:sz≠1) (hkv:cells=[]->kvs=[]) (ok:∀p,p∈kvs->p.1.nil=false->∃c b b',h.get p.1.i=some (.cells c 1 b b'))
  (hk:∀h' s',Q5 (λi=>s.nil=false/\i=s.i) h h'->s'.nil=s.nil->s'.i=s.i->Seg h' s' sz cells->(s'.nil=false->h0.next<=s'.i/\s'.o=0/\s'.ext=false/\s'.i<h'.next/\∃x,h'.get s'.i=some (.cells (cells++List.replicate (x*sz) .junk) sz false false)/\(cells++List.replicate (x*sz) AV.junk).length=s'.cap*sz)->(s'.nil=true->s'=QE)->K (.sl s') h'):qJ7 K (.sl s) h:=by
 rcases g.2 with ⟨e0,rfl⟩ | ⟨h1,h2,h3,h4,h5,h6,h7,h8⟩
 .have hy:cells=[]:=List.eq_nil_of_length_eq_zero (by rw[g.1,e0,Nat.zero_mul]);subst hy;exact hk _ _ (Q5.refl _ _) rfl rfl (Seg.nil _ _ _) (λe=>(by cases e)) λ_=>rfl
 .obtain⟨nil,i,o,len,cap,ext⟩:=s;have h1:nil=false:=h1;subst h1;have h2:o=0:=h2;subst h2;have h5:ext=true:=h5;subst h5;have h4:cap=m:=h4;subst h4;have h3:len=cap:=h3;subst h3;have hl:=g.1;unfold qJ7;refine⟨_,_,_,h8,h7,λx=>?_⟩;have gg:=qD1 h i (some (.cells (cells++List.replicate (x*sz) AV.junk) sz false false));have f:Q5 (λj=>j=i) h (h.put i (some (.cells (cells++List.replicate (x*sz) AV.junk) sz false false))):=Q5.put _ _ λ_=>rfl;refine hk _ _ (f.mono λj _ e=>⟨rfl,e⟩) rfl rfl (Seg.own (more:=List.replicate (x*sz) AV.junk) hl h7 gg) (λ_=>⟨h6,rfl,rfl,h7,x,gg,?_⟩) λe=>(by cases e);rw[zC0,zZ0,hl,Nat.add_mul]
theorem qCb {K:List AV->Q0->Prop} {h:Q0}:∀(n:Nat) (acc:List AV),K (acc++List.replicate n .junk) h->qBa (List.replicate n .junk) acc K h
 | 0,acc,k=>by
  rw[List.replicate_zero,zS0] at k;exact k
 | n+1,acc,k=>by rw[List.replicate_succ];show qBa (List.replicate n .junk) (acc++[.junk]) K h;refine qCb n _ ?_;rw[zX0];exact k
def sid (s:SL):Bool × Nat:=(s.nil,s.i)
theorem sid_pw {l l':List SL} (e:l'.map sid=l.map sid) (p:l.Pairwise SlLt):l'.Pairwise SlLt:=by
 have h:∀l:List SL,l.Pairwise SlLt↔(l.map sid).Pairwise λa b=>a.1=false->b.1=false->a.2<b.2:=λl=>by rw[List.pairwise_map];rfl
 rw[h] at p ⊢;rw[e];exact p
theorem revL_ok {g0:Q0} {K:List AV->Q0->Prop} {rest:List AV}:∀(R:List ER) (acc:List AV) {h:Q0},(∀x,x∈R->x.Om g0 h)->(R.flatMap ER.sls).Pairwise SlLt ->
  (∀h' R',Q5 (λi=>∃x,x∈R/\i=x.ks.i) h h'->DfN.ents R'=DfN.ents R->(∀x,x∈R'->qy g0 h' x.ks x.e.1/\qy g0 h' x.vs x.e.2)->(R'.flatMap ER.sls).map sid=(R.flatMap ER.sls).map sid->qBa rest (acc++R'.flatMap ER.row) K h') ->
  qBa (R.flatMap ER.row++rest) acc K h
 | [],acc,h,_,_,hk=>by
  have:=hk h [] (Q5.refl _ _) rfl (λx hx=>by cases hx) rfl
  rw[List.flatMap_nil,zS0] at this;exact this
 | x::R,acc,h,ok,pw,hk=>by
  obtain⟨k1,v1⟩:=ok x zB0;obtain⟨ks,vs,e⟩:=x;have ei:=k1.is;obtain⟨nil,i,o,len,cap,ext⟩:=ks;simp only[SL.mk.injEq] at ei;obtain⟨rfl,-,rfl,rfl,rfl,rfl⟩:=ei;have g1:h.get i=some (.cells (ofBytes e.1) 1 true true):=k1.get;have lt:i<h.next:=k1.lt
  have pw:(⟨false,i,0,e.1.length,e.1.length,true⟩::vs::R.flatMap ER.sls:List SL).Pairwise SlLt:=pw;obtain⟨p1,p2⟩:=List.pairwise_cons.1 pw;obtain⟨p3,p4⟩:=List.pairwise_cons.1 p2;show ∃c esz mk,h.get i=some (.cells c esz true mk)/\i<h.next/\∀y,qBa (vs.av::(R.flatMap ER.row++rest)) (acc++[.slice i 0 e.1.length (e.1.length+y) false]) K (h.put i (some (.cells (c++List.replicate (y*esz) .junk) esz false mk)))
  refine⟨_,_,_,g1,lt,λy=>?_⟩;have f1:Q5 (λj=>j=i) h (h.put i (some (.cells (ofBytes e.1++List.replicate (y*1) .junk) 1 false true))):=Q5.put h _ λ_=>rfl;have gg:=qD1 h i (some (.cells (ofBytes e.1++List.replicate (y*1) .junk) 1 false true));have hn1:(h.put i (some (.cells (ofBytes e.1++List.replicate (y*1) .junk) 1 false true))).next=h.next:=rfl
  generalize h.put i (some (.cells (ofBytes e.1++List.replicate (y*1) .junk) 1 false true))=h1 at f1 gg hn1 ⊢;have o1:qy g0 h1 ⟨false,i,0,e.1.length,e.1.length+y,false⟩ e.1:=by refine⟨⟨Seg.own (more:=List.replicate (y*1) .junk) (by rw[Qt,zC1]) (by omega) gg,k1.byte⟩,λ_=>⟨k1.le,rfl,rfl,_,_,gg,?_,List.take_left⟩,λe=>(by cases e)⟩;rw[zC0,zZ0,Qt];show _=(e.1.length+y)*1;omega
  have vn:vs.nil=false->vs.i≠i:=λe1=>by have:i<vs.i:=p1 vs zB0 rfl e1;omega
  have v2:=v1.fr f1 λe1=>vn e1;have ok1:∀x,x∈R->x.Om g0 h1:=λx hx=>by obtain⟨a,b⟩:=ok x (zA0 _ hx);have m1:x.ks∈R.flatMap ER.sls:=List.mem_flatMap.2 ⟨x,hx,by simp[ER.sls]⟩;have m2:x.vs∈R.flatMap ER.sls:=List.mem_flatMap.2 ⟨x,hx,by simp[ER.sls]⟩;exact⟨a.fr f1 (by have:i<x.ks.i:=p1 _ (zA0 _ m1) rfl a.nn;omega),b.fr f1 λe1=>by have:i<x.vs.i:=p1 _ (zA0 _ m2) rfl e1;omega⟩
  have step:qBa (R.flatMap ER.row++rest) (acc++[.slice i 0 e.1.length (e.1.length+y) false]++[vs.av]) K h1:=by
   refine revL_ok R _ ok1 p4 λh' R' f hR ho hs=>?_
   have:=hk h' (⟨⟨false,i,0,e.1.length,e.1.length+y,false⟩,vs,e⟩::R') ((f1.mono λj _ e=>⟨_,zB0,e⟩).trans (f.mono λj _ ⟨x,hx,e⟩=>⟨x,zA0 _ hx,e⟩)) ?_ (λx hx=>?_) ?_
   .rw[zX0,zX0];exact this
   .show e::DfN.ents R'=e::DfN.ents R;rw[hR]
   .rcases List.mem_cons.1 hx with rfl | hx
    .refine⟨o1.fr f λ_ ⟨x,hx,e1⟩=>?_,v2.fr f λe2 ⟨x,hx,e1⟩=>?_⟩
     .have m1:x.ks∈R.flatMap ER.sls:=List.mem_flatMap.2 ⟨x,hx,by simp[ER.sls]⟩
      have:i<x.ks.i:=p1 _ (zA0 _ m1) rfl (ok1 x hx).1.nn
      have e1:i=x.ks.i:=e1;omega
     .have m1:x.ks∈R.flatMap ER.sls:=List.mem_flatMap.2 ⟨x,hx,by simp[ER.sls]⟩
      have:vs.i<x.ks.i:=p3 _ m1 e2 (ok1 x hx).1.nn
      have e1:vs.i=x.ks.i:=e1;omega
    .exact ho x hx
   .show (false,i)::sid vs::(R'.flatMap ER.sls).map sid=(false,i)::sid vs::(R.flatMap ER.sls).map sid;rw[hs]
  cases hvn:vs.nil with
  | true =>
   have ev:vs=QE:=v1.nils hvn;rw[ev] at step ⊢;exact step
  | false =>
   obtain⟨_,_,ve,_⟩:=v1.own hvn;have ev:vs.av=.slice vs.i vs.o vs.len vs.cap false:=by unfold SL.av;rw[hvn,ve]
   rw[ev] at step ⊢;exact step
end DfN
namespace DfN
open Go Go.X Go.X.Df Go.Proofs
def T0:QW:=orZ (qZu 7) (sortS 45)
def T1:QW:=qPd Try.prog 8589934592 9 38 T0
def T2:QW:=qPd Try.prog 8589934592 9 20 T1
def T3:QW:=addTZ Try.prog 8589934592 9 19 T2
theorem qA5 {f:Nat} (h1:f≠7) (h2:f≠45):T0 f=none:=by unfold T0 orZ qZu sortS;rw[qFl h1,qFl h2]
theorem qB6 {f:Nat} (h:f≠38):T1 f=T0 f:=by unfold T1 qPd;rw[qFl h]
theorem qCh {f:Nat} (h:f≠20):T2 f=T1 f:=by unfold T2 qPd;rw[qFl h]
theorem T3_ne {f:Nat} (h:f≠19):T3 f=T2 f:=by unfold T3 addTZ;rw[qFl h]
theorem T1_38:T1 38=some (λargs K h=>Qq Try.prog T0 8589934592 9 38 args (qJ7 K) h):=by unfold T1 qPd;rw[beq_of_eq rfl]
theorem T3_20:T3 20=some (λargs K h=>Qq Try.prog T1 8589934592 9 20 args (qJ7 K) h):=by rw[T3_ne (by decide)];unfold T2 qPd;rw[beq_of_eq rfl]
theorem T3_19:T3 19=some (λargs K h=>Qq Try.prog T2 8589934592 9 19 args (qCj K) h):=by unfold T3 addTZ;rw[beq_of_eq rfl]
theorem T0_45:T0 45=some sortZ:=by unfold T0 orZ qZu sortS;rw[qFl (by decide),beq_of_eq rfl]
theorem T3_7:T3 7=some (λargs K h=>args=[]/\K (.bool true) h):=by rw[T3_ne (by decide),qCh (by decide),qB6 (by decide)];unfold T0 orZ qZu;rw[beq_of_eq rfl]
theorem qBg {h:Q0} {K:ZK} {s:SL} {k:Ky} (hb:qz h s k) (hl:k.length<=4294967296) (hk:∀h' s',Q5 Qa h h'->qy h h' s' k->K (.sl s') h'):Qq Try.prog T0 8589934592 9 38 [.sl s] (qJ7 K) h :=
 clone0_ok (n:=8) (qA5 (by decide) (by decide)) hb hl λh' s' f w=>rev_own w λh2 s2 f2 o _=>hk h2 s2 (f.behind (f2.mono λi _ ⟨e,e'⟩=>by rw[e'];exact (w.own e).1)) o
instance:GoodT T1 where
 none f h1 h2 h3 h4 h5 h6:=by rw[qB6 h3];exact qA5 h1 h2
 clone hb hl hk:=qI2 (by kernel_rfl) T1_38 (qBg hb hl hk)
 sort:=by rw[qB6 (by decide)];exact T0_45
instance:GoodT T2 where
 none f h1 h2 h3 h4 h5 h6:=by rw[qCh h6,qB6 h3];exact qA5 h1 h2
 clone hb hl hk:=qI2 (by kernel_rfl) (by rw[qCh (by decide)];exact T1_38) (qBg hb hl hk)
 sort:=by rw[qCh (by decide),qB6 (by decide)];exact T0_45
instance:GoodT T3 where
 none f h1 h2 h3 h4 h5 h6:=by rw[T3_ne h5,qCh h6,qB6 h3];exact qA5 h1 h2
 clone hb hl hk:=qI2 (by kernel_rfl) (by rw[T3_ne (by decide),qCh (by decide)];exact T1_38) (qBg hb hl hk)
 sort:=by rw[T3_ne (by decide),qCh (by decide),qB6 (by decide)];exact T0_45
theorem kvs_fst:∀l:List CR,(l.flatMap CR.kvs).map Prod.fst=l.flatMap CR.sls
 | []=>rfl
 | x::l=>by rw[zU0,zU0,zW0,kvs_fst l];rfl
theorem qC4:∀l:List ER,(l.flatMap ER.kvs).map Prod.fst=l.flatMap ER.sls
 | []=>rfl
 | x::l=>by rw[zU0,zU0,zW0,qC4 l];rfl
theorem small_c {c:Ch} (h:Mc c):qDh c:=⟨zP0 h.1 (by decide),zP0 h.2.1 (by decide),zP0 h.2.2 (by decide)⟩
theorem small_e {e:Ky × Ky} (h:Mb e):Small e:=⟨zP0 h.1 (by decide),zP0 h.2 (by decide)⟩
section
variable {lf n:Nat} {h:Q0} {K:ZK} {X:List ER} {Y:List CR} {a c:SL}
theorem qDc (ha:Chgs h a Y) (hs:∀y,y∈Y->Mc y.c) (lY:Y.length<=1048576)
  (hk:∀h' s R,Q5 Qa h h'->(chOl s R).Ok h h'->((chOl s R).kvs.map Prod.fst).Pairwise SlLt->R.map CR.c=Y.map (λy=>back y.c)->K (.sl s) h'):Qq Try.prog T3 lf (n+1) 20 [.sl a] K h:=by
 refine qI2 (by kernel_rfl) T3_20 ?_;refine back_ok (S:=T1) (n:=7) (by rw[qB6 (by decide)];exact qA5 (by decide) (by decide)) ha (λy hy=>small_c (hs y hy)) (by omega) (by omega) λh' s R f g ok pw er=>?_;have kv:∀p,p∈R.flatMap CR.kvs->qy h h' p.1 p.2:=λp hp=>by
  obtain⟨y,hy,hp⟩:=List.mem_flatMap.1 hp;obtain⟨o1,o2,o3⟩:=ok y hy;simp only[CR.kvs,zL0,zM0,or_false] at hp;rcases hp with rfl | rfl | rfl
  .exact o1
  .exact o2
  .exact o3
 have ne:s.nil=false->∀p,p∈R.flatMap CR.kvs->p.1.nil=false->p.1.i≠s.i:=λe p hp e1=>by
  obtain⟨c,m,hg⟩:=qAg (kv p hp) e1;rcases g.2 with ⟨_,rfl⟩ | ⟨_,_,_,_,_,_,_,h8⟩
  .cases e
  .intro e2;rw[e2,h8] at hg;cases hg
 refine rev_ol (kvs:=R.flatMap CR.kvs) g (by decide) (λe=>?_) (λp hp e=>?_) λh2 t f2 tn ti sg own nl=>?_
 .cases R with
  | nil=>rfl
  | cons y l=>cases e
 .obtain⟨c,m,hg⟩:=qAg (kv p hp) e;exact⟨c,_,_,hg⟩
 .refine hk h2 t R (f.back f2 λi hi ⟨e1,e2⟩=>?_) ⟨sg,λe=>?_,λp hp=>(kv p hp).fr f2 λe ⟨e1,e2⟩=>ne e1 p hp e e2,nl,by show (5:Nat)≠1;decide⟩ (by rw[show (chOl t R).kvs=R.flatMap CR.kvs from rfl,kvs_fst];exact pw) er
  .rcases g.2 with ⟨_,rfl⟩ | ⟨_,_,_,_,_,h6,_⟩
   .cases e1
   .omega
  .obtain⟨q1,q2,q3,q4,x,q5,q6⟩:=own e;exact⟨q1,q2,q3,_,_,q5,q6,List.take_left⟩
theorem apply2_ok (ha:j1 h a X) (up:Up (ents X)) (sX:∀x,x∈X->Mb x.e) (hc:Chgs h c Y) (hs:∀y,y∈Y->Mc y.c) (lX:X.length<=1048576) (lY:Y.length<=1048576)
  (hno:steps (ents X) (Y.map CR.c)=none->∀h',Q5 Qa h h'->K (.tup [.sl QE,.int .i64 1]) h')
  (hk:∀r,steps (ents X) (Y.map CR.c)=some r->∀h' s R,Q5 Qa h h'->(enOl s R).Ok h h'->((enOl s R).kvs.map Prod.fst).Pairwise SlLt->ents R=r->K (.tup [.sl s,.int .i64 0]) h') :
  Qq Try.prog T3 lf (n+1) 19 [.sl a,.sl c] K h:=by
 refine qI2 (by kernel_rfl) T3_19 ?_;refine apply_ok (S:=T2) (n:=3) (by rw[qCh (by decide),qB6 (by decide)];exact qA5 (by decide) (by decide)) ha up (λx hx=>small_e (sX x hx)) hc (λy hy=>small_c (hs y hy)) (by omega) (by omega) (λe h' f=>hno e h' f) λr er h' s R gB f hg g ok pw eR=>?_;have nk:s.nil=false->∀x,x∈R->x.ks.i≠s.i/\(x.vs.nil=false->x.vs.i≠s.i):=λe x hx=>by obtain⟨k1,v1⟩:=ok x hx;refine⟨qBx g e k1.get,λe1=>?_⟩;obtain⟨c,m,hg⟩:=qAg v1 e1;exact qBx g e hg
 unfold qCj;refine rev_ol (kvs:=[]) g (by decide) (λ_=>rfl) (λp hp=>by cases hp) λh2 t f2 tn ti sg own nl=>?_;show qB7 t (K (.tup [.sl t,.int .i64 0])) h2;have F2:Q5 Qa h h2:=f.back f2 λi hi ⟨e1,e2⟩=>by
  rcases g.2 with ⟨_,rfl⟩ | ⟨_,_,_,_,_,h6,_⟩
  .cases e1
  .omega
 have ok2:∀x,x∈R->x.Om gB h2:=λx hx=>⟨(ok x hx).1.fr f2 λ⟨e1,e2⟩=>(nk e1 x hx).1 e2,(ok x hx).2.fr f2 λe ⟨e1,e2⟩=>(nk e1 x hx).2 e e2⟩;unfold qB7;cases e:t.nil with
 | true =>
  have hR:R=[]:=by
   have:=sg.nil_cs e
   cases R with
   | nil=>rfl
   | cons y l=>cases this
  subst hR;exact hk r er h2 t [] F2 ⟨sg,λe'=>(by rw[show (enOl t []).s=t from rfl,e] at e';cases e'),λp hp=>(by cases hp),nl,by show (2:Nat)≠1;decide⟩ List.Pairwise.nil eR
 | false =>
  obtain⟨q1,q2,q3,q4,x,q5,q6⟩:=own e;refine⟨_,_,_,_,q5,?_⟩;refine revL_ok (g0:=gB) R [] ok2 pw λh3 R' f3 eR' oR sR=>?_;rw[List.nil_append];have hRl:R'.length=R.length:=by have:=congrArg List.length eR';simpa [DfN.ents] using this
  have nt:¬ ∃x,x∈R/\t.i=x.ks.i:=λ⟨x,hx,e1⟩=>by
   have:=(ok2 x hx).1.get
   rw[<- e1,q5] at this;simp at this
  have f3n:=f3.next
  have g3:h3.get t.i=_:=(f3.same _ q4 nt).trans q5;refine qCb _ _ ⟨⟨_,_,_,_,g3⟩,by omega,?_⟩;have f4:Q5 (λj=>j=t.i) h3 (h3.put t.i (some (.cells (R'.flatMap ER.row++List.replicate (x*2) .junk) 2 false false))):=Q5.put h3 _ λ_=>rfl;have g4:=qD1 h3 t.i (some (.cells (R'.flatMap ER.row++List.replicate (x*2) .junk) 2 false false));have n4:(h3.put t.i (some (.cells (R'.flatMap ER.row++List.replicate (x*2) .junk) 2 false false))).next=h3.next:=rfl
  generalize h3.put t.i (some (.cells (R'.flatMap ER.row++List.replicate (x*2) .junk) 2 false false))=h4 at f4 g4 n4 ⊢;have fl:∀l:List ER,(l.flatMap ER.row).length=l.length*2:=λl=>qEr λ_ _=>rfl;have tl:=sg.len;rw[fl] at tl;have te:t=⟨false,t.i,0,t.n,t.cap,false⟩:=by obtain⟨nil,i,o,len,cap,ext⟩:=t;simp only[SL.mk.injEq];rw[SL.n_of e];exact⟨e,trivial,q2,rfl,trivial,q3⟩
  have nv:∀{s:SL} {k:Ky},qy gB h3 s k->s.nil=false->s.i≠t.i:=λw e1 e2=>by obtain⟨c,m,hg⟩:=qAg w e1;rw[e2,g3] at hg;cases hg
  have F4:Q5 Qa h h4:=(F2.back f3 λi hi ⟨x,hx,e1⟩=>by have:=(ok2 x hx).1.le;omega).back f4 λi hi e=>by omega
  refine hk r er h4 t R' F4 ⟨?_,λ_=>⟨by show h.next<=t.i;omega,q2,q3,_,_,g4,?_,List.take_left⟩,λp hp=>?_,nl,by show (2:Nat)≠1;decide⟩ ?_ (eR'.trans eR)
  .show Seg h4 t 2 (R'.flatMap ER.row);rw[te];exact Seg.own (more:=List.replicate (x*2) .junk) (by rw[fl,hRl];exact tl) (by omega) g4
  .rw[zC0,fl,hRl,<- fl,<- zC0];exact q6
  .obtain⟨y,hy,hp⟩:=List.mem_flatMap.1 hp;obtain⟨w1,w2⟩:=oR y hy;simp only[ER.kvs,zL0,zM0,or_false] at hp;rcases hp with rfl | rfl
   .exact (w1.fr f4 λe1=>nv w1 e1).of hg
   .exact (w2.fr f4 λe1=>nv w2 e1).of hg
  .show ((R'.flatMap ER.kvs).map Prod.fst).Pairwise SlLt;rw[qC4];exact sid_pw sR pw
end
end DfN
namespace DfN
open Go Go.X Go.X.Df Go.Proofs
theorem put_len {β:Type} (k:Ky) (v:β):∀m:List (Ky × β),(Df.put m k v).length<=m.length+1
 | []=>zN0 _
 | e::m=>by
  show (if e.1=k then (k,v)::m else if Qm k e.1 then (k,v)::e::m else e::Df.put m k v).length<=_
  have:=put_len k v m
  split
  .simp
  .split
   .simp
   .simpa using this
theorem qCa {P:Ky->Prop}:∀(l:List Ch) (m r:List (Ky × Ky)),steps m l=some r->(∀e,e∈m->P e.1/\P e.2)->(∀c,c∈l->P c.k/\P c.new)->(∀e,e∈r->P e.1/\P e.2)/\r.length<=m.length+l.length
 | [],m,r,h,hm,_=>by
  have h:some m=some r:=h;cases h;exact⟨hm,zN0 _⟩
 | c::l,m,r,h,hm,hl=>by
  have h:((step m c).bind λm'=>steps m' l)=some r:=h;cases hs:step m c with
  | none=>rw[hs] at h;cases h
  | some m' =>
   rw[hs] at h;have h:steps m' l=some r:=h;obtain⟨c1,c2⟩:=hl c zB0;have hp:(∀e,e∈Df.put m c.k c.new->P e.1/\P e.2)/\(Df.put m c.k c.new).length<=m.length+1:=⟨λe he=>by
    rcases qBz he with rfl | he
    .exact⟨c1,c2⟩
    .exact hm e he,put_len _ _ _⟩
   have hd:(∀e,e∈Df.del m c.k->P e.1/\P e.2)/\(Df.del m c.k).length<=m.length+1:=⟨λe he=>hm e ((qA3 m c.k).subset he),Nat.le_succ_of_le (qA3 m c.k).length_le⟩;have hme:(∀e,e∈m->P e.1/\P e.2)/\m.length<=m.length+1:=⟨hm,Nat.le_succ _⟩;have q:(∀e,e∈m'->P e.1/\P e.2)/\m'.length<=m.length+1:=by
    unfold Df.step at hs;split at hs
    .split at hs
     .cases hs
     .cases hs;split
      .exact hp
      .exact hme
    .split at hs
     .cases hs;split
      .exact hp
      .exact hd
     .cases hs
   obtain⟨a,b⟩:=qCa l m' r h q.1 λc hc=>hl c (zA0 _ hc);refine⟨a,?_⟩
   have:=q.2
   rw[zK0];omega
def stR (o:Option (List (Ky × Ky))):List (Ky × Ky):=o.getD []
def stC (o:Option (List (Ky × Ky))):Int:=match o with | none=>1 | some _=>0
theorem qR3 {R:List ER} {m:List (Ky × Ky)} (e:ents R=m) (h:∀x,x∈m->Mb x):∀x,x∈R->Mb x.e:=λx hx=>by
 have:x.e∈ents R:=List.mem_map_of_mem hx
 rw[e] at this;exact h _ this
theorem ents_mb {R:List ER} (h:∀x,x∈R->Mb x.e):∀x,x∈ents R->Mb x:=λx hx=>by obtain⟨y,hy,rfl⟩:=List.mem_map.1 hx;exact h y hy
theorem mc_chs {R Y:List CR} (e:R.map CR.c=Y.map CR.c) (h:∀y,y∈Y->Mc y.c):∀y,y∈R->Mc y.c:=λy hy=>by
 have:y.c∈R.map CR.c:=List.mem_map_of_mem hy
 rw[e] at this;obtain⟨z,hz,e⟩:=List.mem_map.1 this;rw[<- e];exact h z hz
theorem mc_back {R Y:List CR} (e:R.map CR.c=Y.map (λy=>back y.c)) (h:∀y,y∈Y->Mc y.c):∀y,y∈R->Mc y.c:=λy hy=>by
 have:y.c∈R.map CR.c:=List.mem_map_of_mem hy
 rw[e] at this;obtain⟨z,hz,e⟩:=List.mem_map.1 this;rw[<- e];obtain⟨h1,h2,h3⟩:=h z hz;exact⟨h1,h3,h2⟩
theorem st_mb {X:List ER} {Y:List CR} (mX:∀x,x∈X->Mb x.e) (mY:∀y,y∈Y->Mc y.c):(∀e,e∈stR (steps (ents X) (Y.map CR.c))->Mb e)/\(stR (steps (ents X) (Y.map CR.c))).length<=X.length+Y.length:=by
 cases h:steps (ents X) (Y.map CR.c) with
 | none=>exact⟨λe he=>(by cases he),zA1 _⟩
 | some r =>
  obtain⟨a,b⟩:=qCa (P:=λk=>k.length<=1048576) _ _ _ h (ents_mb mX) λc hc=>by obtain⟨y,hy,rfl⟩:=List.mem_map.1 hc;exact⟨(mY y hy).1,(mY y hy).2.2⟩
  refine⟨a,?_⟩;rw[zJ0,ents,zJ0] at b;exact b
section
variable {lf n:Nat} {h:Q0} {K:ZK} {X:List ER} {Y:List CR} {a c:SL}
theorem qBj (ha:j1 h a X) (up:Up (ents X)) (sX:∀x,x∈X->Mb x.e) (hc:Chgs h c Y) (hs:∀y,y∈Y->Mc y.c) (lX:X.length<=1048576) (lY:Y.length<=1048576)
  (hk:∀h' s R,Q5 Qa h h'->(enOl s R).Ok h h'->((enOl s R).kvs.map Prod.fst).Pairwise SlLt->ents R=stR (steps (ents X) (Y.map CR.c))->K (.tup [.sl s,.int .i64 (stC (steps (ents X) (Y.map CR.c)))]) h') :
  Qq Try.prog T3 lf (n+1) 19 [.sl a,.sl c] K h:=by
 refine apply2_ok ha up sX hc hs lX lY (λe h' f=>?_) λr e h' s R f o p er=>?_
 .rw[e] at hk;exact hk h' QE [] f ⟨Seg.nil _ _ _,λe=>(by cases e),λp hp=>(by cases hp),λ_=>rfl,by show (2:Nat)≠1;decide⟩ List.Pairwise.nil rfl
 .rw[e] at hk;exact hk h' s R f o p er
theorem qBr {S:QW} [GoodS S] (ha:j1 h a X) (up:Up (ents X)) (hc:Chgs h c Y) (hs:∀y,y∈Y->Mc y.c) (lX:X.length<=1048576) (lY:Y.length<=1048576) (hlf:4000000<lf)
  (hk:∀h' s R,Q5 Qa h h'->j1 h' s R->ents R=stR (steps (ents X) (Y.map CR.c))->K (.tup [.sl s,.int .i64 (stC (steps (ents X) (Y.map CR.c)))]) h') :
  Qq Try.prog S lf (n+3) 21 [.sl a,.sl c] K h:=by
 refine rapply_ok ha up hc hs lX lY hlf (λe h' f=>?_) λh' s R f o e l=>?_
 .rw[e] at hk;exact hk h' QE [] f (Rws.nil _ _) rfl
 .rw[e] at hk;exact hk h' s R f o rfl
theorem qB8 {s:SL} {i:Int} {Q:SL->Int->Prop} (k:Q s i):ZRT (ZV.tup [.sl s,.int .i64 i]).av 2 λf=>ZRL (f 0) λs=>ZRI (f 1) .i64 λm=>Q s m:=by rw[qQo,qHr,qHr,qXt,qA0,qDk];exact qCk (qe (qFa.2 k))
theorem zRA_3 {a b c:SL} {Q:SL->SL->SL->Prop} (k:Q a b c):ZRA (ZV.agg [.sl a,.sl b,.sl c]).av 3 λf=>ZRL (f 0) λx=>ZRL (f 1) λy=>ZRL (f 2) λz=>Q x y z :=
 ⟨λi=>match i with | 0=>a.av | 1=>b.av | _=>c.av,by simp[qVq],qe (qe (qe k))⟩
theorem var_new (h:Q0) (a b c:AV):Var (hput (h.newO (.cells [.nils,.nils,.nils] 0 false false)) h.next 0 [a,b,c]) h.next [a,b,c]/\Q5 Qa h (hput (h.newO (.cells [.nils,.nils,.nils] 0 false false)) h.next 0 [a,b,c])/\(hput (h.newO (.cells [.nils,.nils,.nils] 0 false false)) h.next 0 [a,b,c]).next=h.next+1 :=
 ⟨Var.put_all (Var.new h [.nils,.nils,.nils]) rfl,(Q5.newO Qa h _).back ((Var.new h [.nils,.nils,.nils]).put_fr 0 [a,b,c]) λi hi e=>by omega,qg _ _ _ _⟩
end
end DfN
namespace DfN
open Go Go.X Go.X.Df Go.Proofs
section
variable {lf n:Nat} {h:Q0} {K:ZK} {X:List ER} {Y:List CR} {a c:SL}
theorem second_ok {z:ZT} {h2 h3 h4 hw:Q0} {kb v8:Nat} {s1 l c' all e1 e2 b1 b2:SL} {R1 R2:List ER} {B1 B2:List CR} {rs:List LE} {cs:List LC}
  (hz:ZAt 201 [(1,.sl c),(6,.sl s1),(7,.pv false kb 0),(8,.pv false v8 0),(9,.sl e1),(11,.sl b1),(12,.sl e2),(14,.sl b2)] z)
  (Ln:Lnd h2 hw l c' all rs cs) (ll:∀b,b∈rs.flatMap LE.bs++cs.flatMap LC.bs->b.i<h3.next) (n1:s1.n=rs.length) (nc:c.n=cs.length)
  (up:Up (ents (rs.map LE.er))) (mR:∀x,x∈rs.map LE.er->Mb x.e) (mC:∀y,y∈cs.map LC.cr->Mc y.c) (lR:rs.length<=1048576) (lC:cs.length<=1048576)
  (VP:Var hw v8 [l.av,c'.av,all.av]) (v8l:h3.next<=v8) (VK:Var hw kb [.nils,.nils,.nils,.nils]) (hkb:kb<h2.next) (h23:h2.next<=h3.next) (h34:h3.next<=h4.next) (h4w:h4.next<=hw.next)
  (O:Qc h4 hw [enOl e1 R1,chOl b1 B1,enOl e2 R2,chOl b2 B2]) (m1:∀x,x∈R1->Mb x.e) (m2:∀x,x∈R2->Mb x.e) (w1:∀y,y∈B1->Mc y.c) (w2:∀y,y∈B2->Mc y.c)
  (l1:R1.length<=2097152) (l2:R2.length<=2097152) (k1:B1.length<=1048576) (k2:B2.length<=1048576) (hlf:8589934592<=lf) (hk:∀h',K (.bool true) h') :
  zAt Try.prog (Qq Try.prog T3 lf (n+6)) lf 5 [1,1,1,1,1,1,1,1,1,1,1,1,1,1,1,1,1,1] z (Q3 Try.prog 5 K) ⟨[],Q3 Try.prog 5 K⟩ hw:=by
 refine Qr _ hz λd=>(qD5 _ _ _ _ _ _ _ _ _ _ _ _ _).mpr ?_;have ea:(Int.ofNat s1.n:Int)=((rs.length:Nat):Int):=by rw[n1];rfl
 have ec:(Int.ofNat c.n:Int)=((cs.length:Nat):Int):=by rw[nc];rfl
 rw[ea,ec];have lv:∀r,r∈rs->r.v.k.length<=1048576:=λr hr=>(mR r.er (List.mem_map_of_mem hr)).2;have lo:∀r,r∈cs->r.o.k.length<=1048576:=λr hr=>(mC r.cr (List.mem_map_of_mem hr)).2.1;refine⟨rfl,VP.ldL l rfl (VP.ldL c' rfl (VP.ldL all rfl ?_))⟩;refine turn2_ok (S:=T3) (n:=n+4) Ln (by omega) lR lC lv lo (by omega) λh5 f5 Lt=>qI0 λ_=>?_;have hT:∀i,(∃b,b∈rs.flatMap LE.bs++cs.flatMap LC.bs/\i=b.i)->h2.next<=i/\i<h3.next:=λi ⟨b,hb,e⟩=>by
  have:=(Ln.ok b hb).l
  have:=ll b hb
  omega
 have VP5:=VP.fr f5 λT=>by have:=hT _ T;omega
 have VK5:=VK.fr f5 λT=>by have:=hT _ T;omega
 have O5:=O.frT f5 λi hi T=>by have:=hT i T;omega
 have n5:=f5.next
 obtain⟨p1,p2,EP,op⟩:=Lt.ents;obtain⟨q1,q2,CP⟩:=Lt.chgs;have er:ents ((rs.map LE.tw).map LE.er)=ents ((rs.map LE.tw).map LE.er):=rfl;rw[zJ0] at p2 q2 EP CP;have cutA:(l.nil=true->0=0/\rs.length=0)/\(l.nil=false->Nat.le 0 rs.length/\Nat.le rs.length l.cap):=⟨λe=>(by rw[p1] at e;cases e),λ_=>⟨zA1 _,by rw[p2];exact Nat.le_succ _⟩⟩;have cutC:(c'.nil=true->0=0/\cs.length=0)/\(c'.nil=false->Nat.le 0 cs.length/\Nat.le cs.length c'.cap):=⟨λe=>(by rw[q1] at e;cases e),λ_=>⟨zA1 _,by rw[q2];exact Nat.le_succ _⟩⟩;have upt:Up (ents ((rs.map LE.tw).map LE.er)):=by
  have e:∀l:List LE,(ents ((l.map LE.tw).map LE.er)).map Prod.fst=(ents (l.map LE.er)).map Prod.fst:=λl=>by rw[ents,ents,List.map_map,List.map_map,List.map_map,List.map_map,List.map_map];rfl
  unfold Up Rise at up ⊢;have h:∀l:List (Ky × Ky),l.Pairwise (λa b=>Qm a.1 b.1=true)↔(l.map Prod.fst).Pairwise λa b=>Qm a b=true:=λl=>by rw[List.pairwise_map]
  rw[h] at up ⊢;rw[e];exact up
 have mRt:∀x,x∈(rs.map LE.tw).map LE.er->Mb x.e:=λx hx=>by obtain⟨r',hr',rfl⟩:=List.mem_map.1 hx;obtain⟨r,hr,rfl⟩:=List.mem_map.1 hr';have q:=mR r.er (List.mem_map_of_mem hr);exact⟨q.1,by show (r.v.k.map tw).length<=_;rw[zJ0];exact q.2⟩
 have mCt:∀y,y∈(cs.map LC.tw).map LC.cr->Mc y.c:=λy hy=>by obtain⟨r',hr',rfl⟩:=List.mem_map.1 hy;obtain⟨r,hr,rfl⟩:=List.mem_map.1 hr';have q:=mC r.cr (List.mem_map_of_mem hr);exact⟨q.1,by show (r.o.k.map tw).length<=_;rw[zJ0];exact q.2.1,q.2.2⟩
 have lRt:((rs.map LE.tw).map LE.er).length=rs.length:=by rw[zJ0,zJ0]
 have lCt:((cs.map LC.tw).map LC.cr).length=cs.length:=by rw[zJ0,zJ0]
 generalize (rs.map LE.tw).map LE.er=Rt at EP upt mRt lRt;generalize (cs.map LC.tw).map LC.cr=Ct at CP mCt lCt;clear er mR mC lv lo up;refine⟨rfl,rfl,VP5.ldL l rfl (qCd.2 ⟨cutA,rfl,rfl,VP5.ldL c' rfl (qCd.2 ⟨cutC,?_⟩)⟩)⟩;refine qBr (S:=T3) (n:=n+3) EP upt CP mCt (by omega) (by omega) (by omega) λh6 s6 W f6 EW eW=>qB8 ?_;have VP6:=VP5.fr f6 id;refine⟨rfl,rfl,VP6.ldL l rfl (qCd.2 ⟨cutA,rfl,rfl,VP6.ldL c' rfl (qCd.2 ⟨cutC,?_⟩)⟩)⟩;refine qBj (n:=n+5) (EP.fr f6) upt mRt (CP.fr f6) mCt (by omega) (by omega) λh7 e3 R3 f7 o3 pw3 eR3=>qB8 ?_;obtain⟨ms,lens⟩:=st_mb mRt mCt;have m3:=qR3 eR3 ms;have l3:R3.length<=2097152:=by
  have:=congrArg List.length eR3
  rw[ents,zJ0] at this;omega
 have n6:=f6.next
 have n7:=f7.next
 have O7:=(O5.frT (f6.mono (T:=λi=>i<h4.next) λ_ _ e=>e.elim) λi hi e=>by omega).add (by omega) f7 o3 pw3;refine qBv (S:=T3) (n:=n+5) o3.ents (EW.fr f7) (by omega) (by omega) ?_;rw[decide_eq_true (eR3.trans eW.symm)];refine qDf.2 ?_;have VK7:=(VK5.fr f6 id).fr f7 id;have O8:Qc h2 h7 [enOl e1 R1,enOl e2 R2,enOl e3 R3,chOl b1 B1,chOl b2 B2]:=(O7.of (by omega)).perm (by
  show List.Perm [enOl e1 R1,chOl b1 B1,enOl e2 R2,chOl b2 B2,enOl e3 R3] _;refine List.Perm.cons _ ?_;refine ((List.Perm.swap _ _ _).trans (List.Perm.cons _ ?_))
  have:=(List.perm_append_comm (l₁:=[chOl b1 B1,chOl b2 B2]) (l₂:=[enOl e3 R3]))
  exact this)
 have K0:Kept2 h2 h7 kb [] [] []:=⟨⟨⟨QE,QE,QE,QE,hkb,VK7,λp hp=>?_,.cons (λq _ e=>(by cases e)) (.cons (λq _ e=>(by cases e)) (.cons (λq _ e=>(by cases e)) (.cons (λq _ e=>(by cases e)) .nil)))⟩,λr hr=>(by cases hr)⟩,rfl⟩
 .have ok:∀o,o∈[enOl e1 R1,enOl e2 R2,enOl e3 R3,chOl b1 B1,chOl b2 B2]->∀{h'},Qc h2 h' [enOl e1 R1,enOl e2 R2,enOl e3 R3,chOl b1 B1,chOl b2 B2]->o.Ok h2 h':=λo ho _ x=>x.each o ho;refine K0.moree (S:=T3) (n:=n+4) O8 (ok _ (by simp) O8) (by omega) m1 (by show 0+_<_;omega) (by decide) (by omega) λh8 Q1 K1 O9 n8 q1 _=>qI0 λ_=>?_;refine K1.moree (S:=T3) (n:=n+4) O9 (ok _ (by simp) O9) (by omega) m2 (by rw[zC0];show 0+_+_<_;omega) (by show 1<1000000;decide) (by omega) λh9 Q2 K2 O10 n9 q2 _=>qI0 λ_=>?_;refine K2.moree (S:=T3) (n:=n+4) O10 (ok _ (by simp) O10) (by omega) m3 (by rw[zC0,zC0];show 0+_+_+_<_;omega) (by show 2<1000000;decide) (by omega) λh10 Q3 K3 O11 n10 q3 _=>qI0 λ_=>?_;refine K3.morec (S:=T3) (n:=n+4) O11 (ok _ (by simp) O11) (by omega) w1 (by rw[zC0,zC0,zC0];show 0+_+_+_+_<_;omega) (by decide) (by omega) λh11 Q4 K4 O12 n11 q4 _=>qI0 λ_=>?_;refine K4.morec (S:=T3) (n:=n+4) O12 (ok _ (by simp) O12) (by omega) w2 (by rw[zC0,zC0,zC0,zC0];show 0+_+_+_+_+_<_;omega) (by show 1<1000000;decide) (by omega) λh12 Q5 K5 O13 n12 q5 _=>qI0 λ_=>?_;have K5:Kept2 h2 h12 kb _ [(e1,R1),(e2,R2),(e3,R3)] [(b1,B1),(b2,B2)]:=K5;refine K5.ends (S:=T3) (n:=n+1) O13 (by omega) (λo ho=>?_) (λo ho=>?_) ?_ (by show 3<100000000;decide) (by show 2<100000000;decide) (λo ho=>?_) (λo ho=>?_) (by omega) λh13=>?_
  .simp only[zL0,zM0,or_false] at ho;rcases ho with rfl | rfl | rfl
   .exact m1
   .exact m2
   .exact m3
  .simp only[zL0,zM0,or_false] at ho;rcases ho with rfl | rfl
   .exact w1
   .exact w2
  .rw[zC0,zC0,zC0,zC0,zC0];show 0+_+_+_+_+_<_;omega
  .simp only[zL0,zM0,or_false] at ho;rcases ho with rfl | rfl | rfl
   .show R1.length<_;omega
   .show R2.length<_;omega
   .show R3.length<_;omega
  .simp only[zL0,zM0,or_false] at ho;rcases ho with rfl | rfl
   .show B1.length<_;omega
   .show B2.length<_;omega
  .refine qDf.2 ?_;rw[decide_eq_true rfl,qBf,qBf,qBi];exact hk _
 .simp only[zL0,zM0,or_false,List.map_nil] at hp;rcases hp with rfl | rfl | rfl | rfl <;> exact⟨Grown.start _ _ _,λe=>(by cases e)⟩
end
end DfN
namespace DfN
open Go Go.X Go.X.Df Go.Proofs
section
variable {lf n:Nat} {h:Q0} {K:ZK} {X:List ER} {Y:List CR} {a c:SL}
theorem law5_ok (ha:j1 h a X) (hc:Chgs h c Y) (sX:∀x,x∈X->Mb x.e) (sY:∀y,y∈Y->Mc y.c) (lX:X.length<=1048576) (lY:Y.length<=1048576) (hlf:8589934592<=lf) :
  Qq Try.prog T3 lf (n+7) 5 [.sl a,.sl c] (λv _=>v.av=.bool true) h:=by
 refine QJ (hSD (by decide) (by decide)) (by kernel_rfl) ?_;rw[qD6];unfold qAp;refine qI2 (by kernel_rfl) T3_7 ⟨rfl,?_⟩;show ZRB (ZV.bool true).av _;rw[qA1];refine qDf.2 (qDi (S:=T3) (n:=n+5) ha hc lX lY sX sY (by omega) λw=>?_);rw[qA0];refine qFa.2 ?_;rw[q9];refine⟨λ_=>qA1 true,λ_=>?_⟩;refine risen_ok (S:=T3) (n:=n+5) ha (by omega) (by omega) λh1 s1 f1 e1 o1=>?_;rw[qDk];refine qe ?_;have lA:=(qY X none).length_le;have sA:∀x,x∈j5 none X->Mb x.e:=λx hx=>sX x ((qY X none).subset hx);have up:Up (ents (j5 none X)):=by rw[qAh];exact risen_up _
 generalize j5 none X=A at e1 lA sA up;have c1:=hc.fr f1;clear ha hc;have la:=e1.len (by decide);have lc:=c1.len (by decide);have VK:=Var.new h1 [AV.nils,.nils,.nils,.nils];have f2:Q5 Qa h1 (h1.newO (.cells [AV.nils,.nils,.nils,.nils] 0 false false)):=Q5.newO _ _ _;have n2:(h1.newO (.cells [AV.nils,.nils,.nils,.nils] 0 false false)).next=h1.next+1:=rfl
 generalize h1.newO (.cells [AV.nils,.nils,.nils,.nils] 0 false false)=h2 at VK f2 n2 ⊢;generalize hkb:h1.next=kb at VK n2 ⊢
 have E1:=e1.fr f2;have C1:=c1.fr f2;refine lend2_ok (S:=T3) (n:=n+4) E1 C1 (by omega) lY sA sY (by omega) λh3 l c' all rs cs f3 Ln er ec tl=>?_;refine zRA_3 ⟨rfl,(Var.new h3 [AV.nils,.nils,.nils]).zput (by simp) ?_⟩;obtain⟨VP,f4,n4⟩:=var_new h3 l.av c'.av all.av;have v8l:h3.next<=h3.next:=zN0 _
 generalize hv8:h3.next=v8 at VP v8l f4 n4 ⊢
 generalize hput (h3.newO (.cells [.nils,.nils,.nils] 0 false false)) v8 0 [l.av,c'.av,all.av]=h4 at VP f4 n4 ⊢;have ll:∀b,b∈rs.flatMap LE.bs++cs.flatMap LC.bs->b.i<h3.next:=λb hb=>(Ln.ok b hb).n
 have lr:rs.length=A.length:=by have:=congrArg List.length er;simpa [ents] using this
 have lcs:cs.length=Y.length:=by have:=congrArg List.length ec;simpa using this
 have ea:(Int.ofNat s1.n:Int)=((rs.length:Nat):Int):=by rw[la,lr];rfl
 have ecn:(Int.ofNat c.n:Int)=((cs.length:Nat):Int):=by rw[lc,lcs];rfl
 rw[ea,ecn];have mR:∀x,x∈rs.map LE.er->Mb x.e:=qR3 er (ents_mb sA);have mC:∀y,y∈cs.map LC.cr->Mc y.c:=mc_chs ec sY;have upr:Up (ents (rs.map LE.er)):=by rw[er];exact up
 have L4:Lnd h2 h4 l c' all rs cs:=Ln.fr (f4.mono (T:=λi=>i<h2.next) λ_ _ e=>e.elim) λi hi e=>by omega
 obtain⟨p1,p2,EP,op⟩:=L4.ents;obtain⟨q1,q2,CP⟩:=L4.chgs;have cutA:(l.nil=true->0=0/\rs.length=0)/\(l.nil=false->Nat.le 0 rs.length/\Nat.le rs.length l.cap):=⟨λe=>(by rw[p1] at e;cases e),λ_=>⟨zA1 _,by rw[p2];exact Nat.le_succ _⟩⟩;have cutC:(c'.nil=true->0=0/\cs.length=0)/\(c'.nil=false->Nat.le 0 cs.length/\Nat.le cs.length c'.cap):=⟨λe=>(by rw[q1] at e;cases e),λ_=>⟨zA1 _,by rw[q2];exact Nat.le_succ _⟩⟩;have lR:(rs.map LE.er).length=A.length:=by rw[zJ0];exact lr
 have lC:(cs.map LC.cr).length=Y.length:=by rw[zJ0];exact lcs
 refine⟨rfl,rfl,VP.ldL l rfl (qCd.2 ⟨cutA,rfl,rfl,VP.ldL c' rfl (qCd.2 ⟨cutC,?_⟩)⟩)⟩;refine qBj (n:=n+5) EP upr mR CP mC (by omega) (by omega) λh5 r1 R1 f5 o1 pw1 eR1=>qB8 ?_;have VP5:=VP.fr f5 id;refine⟨rfl,rfl,VP5.ldL c' rfl (qCd.2 ⟨cutC,?_⟩)⟩;refine qDc (n:=n+5) (CP.fr f5) mC (by omega) λh6 b1 B1 f6 u1 pv1 eB1=>qe ?_;have F6:=f5.trans f6;have VP6:=VP.fr F6 id;refine⟨rfl,rfl,VP6.ldL l rfl (qCd.2 ⟨cutA,rfl,rfl,VP6.ldL c' rfl (qCd.2 ⟨cutC,?_⟩)⟩)⟩;refine qBj (n:=n+5) (EP.fr F6) upr mR (CP.fr F6) mC (by omega) (by omega) λh7 r2 R2 f7 o2 pw2 eR2=>qB8 ?_;have F7:=F6.trans f7;have VP7:=VP.fr F7 id;refine⟨rfl,rfl,VP7.ldL c' rfl (qCd.2 ⟨cutC,?_⟩)⟩;refine qDc (n:=n+5) (CP.fr F7) mC (by omega) λh8 b2 B2 f8 u2 pv2 eB2=>qe ?_;have F8:=F7.trans f8;have F38:=f3.trans (f4.trans F8);refine qBr (S:=T3) (n:=n+3) (E1.fr F38) up (C1.fr F38) sY (by omega) lY (by omega) λh9 r3 W f9 EW eW=>qB8 ?_;refine rback_ok (S:=T3) (n:=n+4) ((C1.fr F38).fr f9) sY lY (by omega) λh10 b3 V f10 EV eV=>qe ?_;have nn5:=f5.next
 have nn6:=f6.next
 have nn7:=f7.next
 have nn8:=f8.next
 have Fx:=f9.trans f10;have O1:=(Qc.start h4 h4).add (zN0 _) f5 o1 pw1;have O2:=O1.add (by omega) f6 u1 pv1;have O3:=O2.add (by omega) f7 o2 pw2;have O4:=O3.add (by omega) f8 u2 pv2;have Ox:=O4.frT (Fx.mono (T:=λi=>i<h4.next) λ_ _ e=>e.elim) λi hi e=>by omega
 have es:stR (steps (ents (rs.map LE.er)) ((cs.map LC.cr).map CR.c))=stR (steps (ents A) (Y.map CR.c)):=by rw[er,ec]
 have esc:stC (steps (ents (rs.map LE.er)) ((cs.map LC.cr).map CR.c))=stC (steps (ents A) (Y.map CR.c)):=by rw[er,ec]
 obtain⟨ms,lens⟩:=st_mb mR mC;have x1:(enOl r1 R1).Ok h4 h10:=Ox.each _ (by simp);have x2:(enOl r2 R2).Ok h4 h10:=Ox.each _ (by simp);have y1:(chOl b1 B1).Ok h4 h10:=Ox.each _ (by simp);have y2:(chOl b2 B2).Ok h4 h10:=Ox.each _ (by simp);have m1:=qR3 eR1 ms;have m2:=qR3 eR2 ms;have l1:R1.length<=2097152:=by
  have:=congrArg List.length eR1
  rw[ents,zJ0] at this;omega
 have l2:R2.length<=2097152:=by
  have:=congrArg List.length eR2
  rw[ents,zJ0] at this;omega
 have bk:∀{B:List CR},B.map CR.c=(cs.map LC.cr).map (λy=>back y.c)->B.map CR.c=V.map CR.c/\B.length=Y.length:=λ{B} e=>by
  have e2:(cs.map LC.cr).map (λy=>back y.c)=Y.map λy=>back y.c:=by
   have:∀l:List CR,l.map (λy=>back y.c)=(l.map CR.c).map back:=λl=>by rw[List.map_map];rfl
   rw[this,this,ec]
  refine⟨by rw[e,e2,eV],?_⟩
  have:=congrArg List.length e
  rw[zJ0,zJ0] at this;omega
 obtain⟨g1,k1⟩:=bk eB1;obtain⟨g2,k2⟩:=bk eB2;refine qBv (S:=T3) (n:=n+5) x1.ents (EW.fr f10) (by omega) (by omega) ?_;rw[decide_eq_true (by rw[eR1,es,eW])];refine qDf.2 (qBv (S:=T3) (n:=n+5) x2.ents (EW.fr f10) (by omega) (by omega) ?_);rw[decide_eq_true (by rw[eR2,es,eW])];refine qDf.2 (qJ5 (S:=T3) (n:=n+5) y1.chgs EV g1 (by omega) (by omega) ?_);refine qDf.2 (qJ5 (S:=T3) (n:=n+5) y2.chgs EV g2 (by omega) (by omega) ?_);refine qDf.2 ?_;have F4x:=F8.trans Fx;have VPx:=VP.fr F4x id;have Lx:Lnd h2 h10 l c' all rs cs:=L4.fr (F4x.mono (T:=λi=>i<h2.next) λ_ _ e=>e.elim) λi hi e=>by omega
 have F3x:=F38.trans Fx;refine⟨rfl,VPx.ldL l rfl (VPx.ldL c' rfl (VPx.ldL all rfl (stays2_ok (S:=T3) (n:=n+4) Lx (E1.fr F3x) (C1.fr F3x) er ec tl (by omega) lY sA sY (by omega) λh11 f11=>?_)))⟩;refine qDf.2 ?_;rw[esc,decide_eq_true rfl];simp only[Bool.not_true,qHv,qAz];have nx:=F4x.next
 have n11:=f11.next
 have n3:=f3.next
 refine second_ok (n:=n) (h2:=h2) (h3:=h3) (h4:=h4) ⟨rfl,rfl,rfl,rfl,rfl,rfl,rfl,rfl,rfl,trivial⟩ (Lx.fr (f11.mono (T:=λi=>i<h2.next) λ_ _ e=>e.elim) λi hi e=>by omega) ll (by rw[la,lr]) (by rw[lc,lcs]) upr mR mC (by omega) (by omega)
  (VPx.fr f11 id) (by omega) ((VK.fr F3x id).fr f11 id) (by omega) (by omega) (by omega) (by omega)
  (Ox.frT (f11.mono (T:=λi=>i<h4.next) λ_ _ e=>e.elim) λi hi e=>by omega) m1 m2 (mc_back eB1 mC) (mc_back eB2 mC) l1 l2 (by omega) (by omega) hlf λh'=>qA1 true
end
end DfN
