/-
 PROVED: entries as summaries,slices of bytes,laws whose arguments name blocks,functions that answer by their arguments alone,names that are skipped,heaps of which some objects are known. Condition: each law's own.
-/
import Derived.Test.YtligncjhmmgajaaGreatDoorXg
import Derived.KernelRfl
set_option linter.unusedVariables false
set_option linter.unusedSimpArgs false
open List renaming mem_cons_of_mem -> zA0, mem_cons_self -> zB0, mem_of_getElem? -> zC0, length_map -> zI0, length_cons -> zJ0, not_mem_nil -> zK0, getElem?_map -> zP0
open Nat renaming lt_of_lt_of_le -> zE0, ble_eq_true_of_le -> zF0, le_refl -> zL0, le_trans -> zM0, le_of_ble_eq_true -> zS0
noncomputable section
namespace Go.X
open Go Go.RowKit
def putH (l:List (Nat × Q4)) (h:Q0):Q0:=match l with | []=>h | x::r=>putH r (h.put x.1 (some x.2))
def newH (l:List Q4) (h:Q0):Q0:=match l with | []=>h | o::r=>newH r (h.newO o)
def J3 (e:Ent) (h:Q0):Q0:=newH e.new (putH e.wr h)
theorem qV7:∀(l:List (Nat × Q4)) (h:Q0),(putH l h).inf=h.inf
 | [],_=>rfl
 | x::l,h=>(qV7 l (h.put x.1 (some x.2))).trans rfl
theorem jEv:∀(l:List Q4) (h:Q0),(newH l h).inf=h.inf
 | [],_=>rfl
 | o::l,h=>(jEv l (h.newO o)).trans rfl
theorem qKh (e:Ent) (h:Q0):(J3 e h).inf=h.inf:=(jEv _ _).trans (qV7 _ _)
section
variable {P:Program} {W0:World} {p:QF} {m:FM}
theorem jEm:∀(l:List (Nat × Q4)) (h:Q0),(∀x,x∈l->x.1<h.next)->m.sat p (putH l h)->(qJw l m).sat p h
 | [],_,_,hs=>hs
 | x::l,h,hl,hs=>⟨hl x zB0,jEm l (h.put x.1 (some x.2)) (λy hy=>hl y (zA0 _ hy)) hs⟩
theorem qR3:∀(l:List Q4) (h:Q0),h.inf=true->m.sat p (newH l h)->(jB l m).sat p h
 | [],_,_,hs=>hs
 | o::l,h,hi,hs=>⟨.inl hi,qR3 l (h.newO o) hi hs⟩
def qQo (p:Prop) (a b:FM):FM:=@ite FM p (Classical.propDecidable p) a b
theorem qF0 {p:Prop} {a b:FM} (h:p):qQo p a b=a:=if_pos h
theorem qKy {p:Prop} {a b:FM} (h:¬p):qQo p a b=b:=if_neg h
def rdI (l:List (Nat × Q4)) (m:FM):FM:=match l with
 | []=>m
 | x::r=>.get x.1 λo=>qQo (o=x.2) (rdI r m) (.fail 224)
def qIz (tab:List Ent) (a:Nat) (args:List AV) (k:KV):FM:=match tab with
 | []=>.fail 225
 | e::t=>qQo (e.next=a/\e.args=args) (qQo (a+e.new.length<=65536) (rdI e.rd (qJw e.wr (jB e.new (k e.v)))) (.fail 226)) (qIz t a args k)
def qV2 (tab:List Ent) (args:List AV) (k:KV) (_:QD->FM):FM:=.here λa=>qIz tab a args k
def rdL (l:List (Nat × Q4)) (h:Q0):List (Option Q4):=match l with | []=>[] | x::r=>h.get x.1::rdL r h
def rdR (l:List (Nat × Q4)):List (Option Q4):=match l with | []=>[] | x::r=>some x.2::rdR r
def zRep (tab:List Ent) (args:List ZV) (K:ZK) (h:Q0):Prop:=match tab with
 | []=>False
 | e::t=>(e.next=h.next/\e.args=avs args/\rdL e.rd h=rdR e.rd/\jW e.wr h.next=true/\h.next+e.new.length<=65536/\K (zOf e.v) (J3 e h))∨(¬(e.next=h.next/\e.args=avs args)/\zRep t args K h)
theorem rdI_of {h:Q0}:∀(l:List (Nat × Q4)),rdL l h=rdR l->m.sat p h->(rdI l m).sat p h
 | [],_,hs=>hs
 | x::l,hr,hs=>by
  have hr1:h.get x.1::rdL l h=some x.2::rdR l:=hr;injection hr1 with h1 h2
  refine⟨x.2,h1,?_⟩;show FM.sat (qQo (x.2=x.2) (rdI l m) (.fail 224)) p h;rw[qF0 rfl];exact rdI_of l h2 hs
theorem rdI_sat {h:Q0}:∀(l:List (Nat × Q4)),(rdI l m).sat p h->(∀x,x∈l->h.get x.1=some x.2)/\m.sat p h
 | [],hs=>⟨λ_ hx=>absurd hx zK0,hs⟩
 | x::l,hs=>by
  obtain⟨o,hg,hs1⟩:=hs;have hs2:FM.sat (qQo (o=x.2) (rdI l m) (.fail 224)) p h:=hs1;by_cases e:o=x.2
  .rw[qF0 e] at hs2;obtain⟨h1,h2⟩:=rdI_sat l hs2;refine⟨λy hy=>?_,h2⟩;rcases List.mem_cons.1 hy with hy | hy
   .rw[hy,hg,e]
   .exact h1 y hy
  .rw[qKy e] at hs2;exact False.elim hs2
theorem qTu {args:List ZV} {K:ZK} {h:Q0} (hi:h.inf=true):∀(tab:List Ent),zRep tab args K h->∀(k:KV),(∀v h',h'.inf=true->K v h'->(k v.av).sat p h')->(qIz tab h.next (avs args) k).sat p h
 | [],hz,_,_=>False.elim hz
 | e::t,hz,k,hk=>by
  show FM.sat (qQo (e.next=h.next/\e.args=avs args) (qQo (h.next+e.new.length<=65536) (rdI e.rd (qJw e.wr (jB e.new (k e.v)))) (.fail 226)) (qIz t h.next (avs args) k)) p h;rcases hz with ⟨h1,h2,h3,h4,h5,h6⟩ | ⟨h1,h2⟩
  .rw[qF0 ⟨h1,h2⟩,qF0 h5];refine rdI_of _ h3 (jEm _ _ (Jr h4) (qR3 _ _ (by rw[qV7];exact hi) ?_))
   have:=hk _ _ (by rw[qKh];exact hi) h6
   rw[qQd] at this;exact this
  .rw[qKy h1];exact qTu hi t h2 k hk
def Q0.toI (l:Nat) (g:Q0):Q0:=⟨g.t,g.next,l,true⟩
def Q0.toF (g:Q0):Q0:=⟨g.t,g.next,65536,false⟩
theorem qY3 {m':FM} {p':QF} {n:Nat}:∀(l:List (Nat × Q4)) (g:Q0),(∀g',m.sat p (Q0.toI n g')->g'.next=g.next->g'.lim=g.lim->g'.inf=g.inf->m'.sat p' g')->(qJw l m).sat p (Q0.toI n g)->(qJw l m').sat p' g
 | [],g,hm,hs=>hm g hs rfl rfl rfl
 | x::l,g,hm,hs=>⟨hs.1,qY3 l (g.put x.1 (some x.2)) (λg' a b c d=>hm g' a b c d) hs.2⟩
theorem qUc {m':FM} {p':QF} {n:Nat} (hm:∀g',m.sat p (Q0.toI n g')->m'.sat p' g'):∀(l:List Q4) (g:Q0),g.next+l.length<=g.lim->(jB l m).sat p (Q0.toI n g)->(jB l m').sat p' g
 | [],g,_,hs=>hm g hs
 | o::l,g,hl,hs=>by
  simp only[zJ0] at hl;refine⟨.inr (by omega),?_⟩;refine qUc hm l (g.newO o) ?_ hs.2;show g.next+1+l.length<=g.lim
  omega
theorem Rel.toF {E:Env} {h:Q0} {w:World} (r:Rel P W0 E h w) (hi:h.inf=true) (hn:h.next<=65536):Rel P W0 E h.toF w:=by
 refine⟨r.obj,r.inj,λi h1 _=>r.free i h1 (.inl hi),r.bound,r.below,r.old,r.glob,.inr ⟨zL0 _,λi ao hg=>?_⟩,.inr hn⟩;obtain⟨b,o,hb,_⟩:=r.obj i ao hg;rcases Nat.lt_or_ge i h.next with hlt | hge
 .exact zE0 hlt hn
 .rw[r.free i hge (.inl hi)] at hb;cases hb
theorem Rel.ofF {E E':Env} {h h':Q0} {w w':World} (r0:Rel P W0 E h w) (hi:h.inf=true) (hn:h.next<=65536) (s:Stp E h.toF E' h') (r:Rel P W0 E' h' w'):Stp E h E' (h'.toI h.lim)/\Rel P W0 E' (h'.toI h.lim) w':=by
 have hl:h'.lim=65536/\h'.inf=false:=by
  have:=s.lim
  simp only[Prod.mk.injEq] at this;exact this
 refine⟨⟨s.le,λi b hb=>(s.new i b hb).imp id λ⟨a,_⟩=>⟨a,.inl hi⟩,by show (h.lim,true)=_;rw[hi],s.next⟩,⟨r.obj,r.inj,λi h1 _=>?_,r.bound,r.below,r.old,r.glob,.inl rfl,.inl rfl⟩⟩;have h1':h'.next<=i:=h1
 rcases Nat.lt_or_ge i 65536 with hlt | hge
 .exact r.free i h1' (.inr (by rw[hl.1];exact hlt))
 .cases hb:E'.blk i with
  | none=>rfl
  | some b =>
   rcases s.new i b hb with h2 | ⟨_,h2⟩
   .rw[r0.free i (by omega) (.inl hi)] at h2;cases h2
   .rcases h2 with h2 | h2
    .cases h2
    .exact absurd h2 (Nat.not_lt_of_le hge)
theorem qLg {H:qI} {sums0:qm} {lf n:Nat} {f:FuncId} (hsum:Q7 P W0 sums0) (hW:0<W0.heap.size∨∀f,H.join f<=1) (hmo:P.follows .mixedOrders=true)
  (args:List AV) (k:KV) (kp:QD->FM) (E:Env) (h:Q0) (w:World) (vs:Array Value) (hb:qn P f=true) (r:Rel P W0 E h w) (hv:VRs E args vs.toList) :
  ∀(tab:List Ent),(∀e,e∈tab->jDj P H sums0 lf n f e=true)->(qIz tab h.next args k).sat p h->Calls P f vs w (Jn P W0 E h k kp p)
 | [],_,hs=>False.elim hs
 | e::t,hent,hs=>by
  have hs1:FM.sat (qQo (e.next=h.next/\e.args=args) (qQo (h.next+e.new.length<=65536) (rdI e.rd (qJw e.wr (jB e.new (k e.v)))) (.fail 226)) (qIz t h.next args k)) p h:=hs;by_cases hc:e.next=h.next/\e.args=args
  .rw[qF0 hc] at hs1;by_cases hro:h.next+e.new.length<=65536
   .rw[qF0 hro] at hs1;obtain⟨hrd,hs2⟩:=rdI_sat _ hs1;have hok:=hent e zB0;cases hinf:h.inf with
    | false=>exact qSs hok hsum hW hmo args k kp p E h w vs hb hinf hc.1 hc.2 hrd hs2 r hv
    | true =>
     have hh:h=Q0.toI h.lim h.toF:=Q0.ext (λ_=>rfl) rfl rfl hinf;refine Calls.mono (qSs hok hsum hW hmo args (λv=>.ret (.val v)) (λ_=>.fail 0) (λr g=>∃v,r=.val v/\(k v).sat p (Q0.toI h.lim g)) E h.toF w vs hb rfl hc.1 hc.2 hrd ?_ (r.toF hinf (by omega)) hv) λen w' he=>?_
     .rw[hh] at hs2;refine qY3 _ _ (λg' hg e1 e2 e3=>qUc (m:=k e.v) (m':=.ret (.val e.v)) (p:=p) (p':=λr g=>∃v,r=.val v/\(k v).sat p (Q0.toI h.lim g)) (n:=h.lim) (λg' hg=>(show ∃v,Res.val e.v=.val v/\(k v).sat p (Q0.toI h.lim g') from⟨_,rfl,hg⟩)) _ _ ?_ hg) hs2;rw[e1,e2];exact hro
     .cases en with
      | returned v =>
       obtain⟨E',h',av,s,r',hv',v2,e3,hk⟩:=he;cases e3;obtain⟨a,b⟩:=r.ofF hinf (by omega) s r';exact⟨E',_,_,a,b,hv',hk⟩
      | panicked c=>obtain⟨_,_,_,_,_,_,hf⟩:=he;exact hf.elim
      | outgrown=>exact he.elim
   .rw[qKy hro] at hs1;exact False.elim hs1
  .rw[qKy hc] at hs1;exact qLg hsum hW hmo args k kp E h w vs hb r hv t (λe he=>hent e (zA0 _ he)) hs1
def J9 (g:FuncId) (tab:List Ent) (sums:qm):qm:=λf=>match Nat.beq f g with | true=>some (qV2 tab) | false=>sums f
def Jv (g:FuncId) (tab:List Ent) (S:QC):QC:=λf=>match Nat.beq f g with | true=>some (zRep tab) | false=>S f
theorem Q7.addI {H:qI} {sums sums0:qm} (hs:Q7 P W0 sums) (hs0:Q7 P W0 sums0) {lf n:Nat} {g:FuncId} {tab:List Ent} (hW:0<W0.heap.size∨∀f,H.join f<=1) (hmo:P.follows .mixedOrders=true) (hent:∀e,e∈tab->jDj P H sums0 lf n g e=true) :
  Q7 P W0 (J9 g tab sums):=by
 intro f s hf args k kp p E h w vs hb hsat r hv;have hf1:(match Nat.beq f g with | true=>some (qV2 tab) | false=>sums f)=some s:=hf;cases hfg:Nat.beq f g with
 | false =>
  rw[hfg] at hf1;exact hs f s hf1 args k kp p E h w vs hb hsat r hv
 | true =>rw[hfg] at hf1;cases hf1;have e:=beq_iff.1 hfg;subst e;exact qLg hs0 hW hmo args k kp E h w vs hb r hv tab hent hsat
theorem Qq {S:QC} {sums:qm} (hs:jH S sums) (g:FuncId) (tab:List Ent):jH (Jv g tab S) (J9 g tab sums):=by
 constructor
 .intro f hf;have hf1:(match Nat.beq f g with | true=>some (zRep tab) | false=>S f)=none:=hf;show (match Nat.beq f g with | true=>some (qV2 tab) | false=>sums f)=none;cases hfg:Nat.beq f g with
  | false=>rw[hfg] at hf1;exact hs.none f hf1
  | true=>rw[hfg] at hf1;cases hf1
 .intro f s hf;have hf1:(match Nat.beq f g with | true=>some (zRep tab) | false=>S f)=some s:=hf;show ∃x,(match Nat.beq f g with | true=>some (qV2 tab) | false=>sums f)=some x/\_;cases hfg:Nat.beq f g with
  | false=>rw[hfg] at hf1;exact hs.some f s hf1
  | true =>rw[hfg] at hf1;cases hf1;exact⟨_,rfl,λargs K h hi hz kp k p hp=>qTu hi tab hz k hp⟩
end
def qN9 (G g:Nat) (cs:List AV):Q0:=⟨(jR G g cs).get,G,0,true⟩
section
variable {P:Program} {W:World} {G g:Nat} {cs:List AV}
theorem jF9 (hG:P.globals.size=G) (hg:g<G) (hsz:G<=W.heap.size) (ht:G<=top) {arr:Array Value} {t:TypeId} {fr:Nat × Nat} (hw:W.heap[g]?=some (.cells arr t fr)) (hv:VRs (qHl G) cs arr.toList):Rel P W (qHl G) (qN9 G g cs) W:=by have r:=qT3 (cs:=cs) hG hg hsz ht hw hv;refine⟨r.obj,r.inj,λi h1 _=>?_,r.bound,r.below,r.old,r.glob,.inl rfl,.inl rfl⟩;have h1':G<=i:=h1;exact if_neg (by omega)
end
end Go.X
namespace Go.X
abbrev Qn (_:Nat):Prop:=False
theorem SL.n_nil {s:SL} (e:s.nil=true):s.n=0:=by unfold SL.n;rw[e]
theorem SL.n_of {s:SL} (e:s.nil=false):s.n=s.len:=by unfold SL.n;rw[e]
structure Seg (h:Q0) (s:SL) (sz:Nat) (cs:List AV):Prop where
 len:cs.length=s.n*sz
 lt:s.nil=false->s.i<h.next
 src:s.nil=false->∃c,QS h s.i=some c/\(c.drop s.o).take (s.len*sz)=cs/\s.len*sz<=(c.drop s.o).length
theorem Seg.fr {S:Nat->Prop} {h h':Q0} {s:SL} {sz:Nat} {cs:List AV} (x:Seg h s sz cs) (f:Qv S h h') (hs:s.nil=false->¬S s.i):Seg h' s sz cs :=
 ⟨x.len,λe=>zE0 (x.lt e) f.next,λe=>by rw[qU4 (f.same _ (x.lt e) (hs e))];exact x.src e⟩
theorem Seg.nil_cs {h:Q0} {s:SL} {sz:Nat} {cs:List AV} (x:Seg h s sz cs) (e:s.nil=true):cs=[] :=
 List.eq_nil_of_length_eq_zero (by rw[x.len,SL.n_nil e,Nat.zero_mul])
theorem Seg.at' {h:Q0} {s:SL} {sz:Nat} {cs:List AV} (x:Seg h s sz cs) (e:s.nil=false) {q:Nat} {v:AV} (hq:cs[q]?=some v):cellAt h s.i (s.o+q)=some v:=by
 obtain⟨c,hc,h1,h2⟩:=x.src e;unfold cellAt;rw[hc];show c[s.o+q]?=_;have hl:q<s.len*sz:=by
  have:=(List.getElem?_eq_some_iff.1 hq).1
  rw[x.len,SL.n_of e] at this;exact this
 rw[<- h1,List.getElem?_take_of_lt hl,List.getElem?_drop] at hq;exact hq
theorem Seg.zsrc {h:Q0} {s:SL} {sz:Nat} {cs:List AV} {K:List AV->Prop} (x:Seg h s sz cs) (k:K cs):ZSrc h s sz K :=
 ⟨cs,λe=>x.nil_cs e,λe=>x.src e,k⟩
theorem Seg.nil (h:Q0) (sz:Nat) (ext:Bool):Seg h ⟨true,0,0,0,0,ext⟩ sz []:=⟨by simp[SL.n],λe=>(by cases e),λe=>(by cases e)⟩
theorem Seg.own {h:Q0} {i n cap:Nat} {ext:Bool} {cs more:List AV} {sz e:Nat} {g m:Bool} (hl:cs.length=n*sz) (hi:i<h.next) (hg:h.get i=some (.cells (cs++more) e g m)):Seg h ⟨false,i,0,n,cap,ext⟩ sz cs :=
 ⟨hl,λ_=>hi,λ_=>⟨_,qI5 hg,by rw[List.drop_zero];show List.take (n*sz) _=_;rw[<- hl,List.take_left],by rw[List.drop_zero,List.length_append];show n*sz<=_;omega⟩⟩
theorem Grown.seg {h0 h:Q0} {s:SL} {sz n:Nat} {cs:List AV} (g:Grown h0 h s sz n cs):Seg h s sz cs:=by
 obtain⟨hl,g⟩:=g;rcases g with ⟨rfl,rfl⟩ | ⟨h1,h2,h3,h4,h5,h6,h7,h8⟩
 .have:cs=[]:=List.eq_nil_of_length_eq_zero (by rw[hl];simp)
  subst this;exact Seg.nil _ _ _
 .obtain⟨nil,i,o,len,cap,ext⟩:=s;simp only at h1 h2 h3 h4 h5 h6 h7 h8;subst h1;subst h2;subst h3;exact Seg.own (more:=[]) hl h7 (by rw[List.append_nil];exact h8)
theorem Grown.fr {h0 h h':Q0} {s:SL} {sz n:Nat} {cs:List AV} (g:Grown h0 h s sz n cs) {S:Nat->Prop} (f:Qv S h h') (hs:s.nil=false->¬S s.i):Grown h0 h' s sz n cs:=by refine⟨g.1,g.2.imp id λ⟨h1,h2,h3,h4,h5,h6,h7,h8⟩=>⟨h1,h2,h3,h4,h5,h6,zE0 h7 f.next,(f.same _ h7 (hs h1)).trans h8⟩⟩
structure qP (h:Q0) (s:SL) (k:List Nat):Prop where
 seg:Seg h s 1 (ofBytes k)
 byte:∀x,x∈k->x<256
theorem QE (l:List Nat):(ofBytes l).length=l.length:=by rw[qS,zI0]
theorem qJd (a b:List Nat):ofBytes (a++b)=ofBytes a++ofBytes b:=by simp[qS]
theorem qP.len {h:Q0} {s:SL} {k:List Nat} (x:qP h s k):s.n=k.length:=by
 have:=x.seg.len
 rw[QE] at this;omega
theorem qP.fr {h h':Q0} {s:SL} {k:List Nat} {S:Nat->Prop} (x:qP h s k) (f:Qv S h h') (hs:s.nil=false->¬S s.i):qP h' s k:=⟨x.seg.fr f hs,x.byte⟩
theorem qP.nil (h:Q0) (ext:Bool):qP h ⟨true,0,0,0,0,ext⟩ []:=⟨Seg.nil h 1 ext,λx hx=>(by cases hx)⟩
theorem qP.at' {h:Q0} {s:SL} {k:List Nat} (x:qP h s k) (e:s.nil=false) {j b:Nat} (hj:k[j]?=some b):cellAt h s.i (s.o+j)=some (.int .u8 (.ofNat b)) :=
 x.seg.at' e (by rw[qS,zP0,hj];rfl)
theorem qTp (l:List Nat):QX (ofBytes l)=true:=by
 rw[qS]
 induction l with
 | nil=>rfl
 | cons x l ih=>exact ih
structure Rws {α:Type} (sz:Nat) (row:α->List AV) (Q:Q0->α->Prop) (h:Q0) (s:SL) (l:List α):Prop where
 seg:Seg h s sz (l.flatMap row)
 rl:∀x,x∈l->(row x).length=sz
 ok:∀x,x∈l->Q h x
section
variable {α:Type} {sz:Nat} {row:α->List AV} {Q:Q0->α->Prop} {h h':Q0} {s:SL} {l:List α}
theorem jDa (hr:∀x,x∈l->(row x).length=sz):(l.flatMap row).length=l.length*sz:=by
 induction l with
 | nil=>simp
 | cons x l ih=>rw[List.flatMap_cons,List.length_append,hr x zB0,ih λy hy=>hr y (zA0 _ hy),zJ0,Nat.add_mul];omega
theorem flat_at (hr:∀x,x∈l->(row x).length=sz) {j:Nat} {x:α} (hj:l[j]?=some x) {q:Nat} (hq:q<sz):(l.flatMap row)[j*sz+q]?=(row x)[q]?:=by
 induction l generalizing j with
 | nil=>cases hj
 | cons y l ih =>
  have hy:=hr y zB0;rw[List.flatMap_cons];cases j with
  | zero =>
   cases hj;rw[Nat.zero_mul,Nat.zero_add,List.getElem?_append_left (by omega)]
  | succ j =>rw[List.getElem?_append_right (by rw[hy,Nat.add_mul];omega),hy,show (j+1)*sz+q-sz=j*sz+q by rw[Nat.add_mul];omega];exact ih (λz hz=>hr z (zA0 _ hz)) (by simpa using hj)
theorem Rws.len (hsz:0<sz) (x:Rws sz row Q h s l):s.n=l.length:=by
 have:=x.seg.len
 rw[jDa x.rl] at this;exact (Nat.eq_of_mul_eq_mul_right hsz this).symm
theorem Rws.at' (x:Rws sz row Q h s l) (e:s.nil=false) {j:Nat} {y:α} (hj:l[j]?=some y) {q:Nat} (hq:q<sz) {v:AV} (hv:(row y)[q]?=some v):cellAt h s.i (s.o+j*sz+q)=some v:=by rw[Nat.add_assoc];exact x.seg.at' e (by rw[flat_at x.rl hj hq];exact hv)
theorem Rws.fr {S:Nat->Prop} (x:Rws sz row Q h s l) (f:Qv S h h') (hs:s.nil=false->¬S s.i) (hq:∀y,y∈l->Q h y->Q h' y):Rws sz row Q h' s l :=
 ⟨x.seg.fr f hs,x.rl,λy hy=>hq y hy (x.ok y hy)⟩
theorem Rws.nil (h:Q0) (ext:Bool):Rws sz row Q h ⟨true,0,0,0,0,ext⟩ []:=⟨Seg.nil _ _ _,λ_ hx=>(by cases hx),λ_ hx=>(by cases hx)⟩
end
structure Var (h:Q0) (i:Nat) (cs:List AV):Prop where
 lt:i<h.next
 get:h.get i=some (.cells cs 0 false false)
section
variable {h:Q0} {i:Nat} {cs:List AV}
theorem Var.new (h:Q0) (cs:List AV):Var (h.newO (.cells cs 0 false false)) h.next cs:=⟨Nat.lt_succ_self _,Qz _ _⟩
theorem Var.fr {S:Nat->Prop} {h':Q0} (x:Var h i cs) (f:Qv S h h') (hs:¬S i):Var h' i cs:=⟨zE0 x.lt f.next,(f.same _ x.lt hs).trans x.get⟩
theorem Var.cell (x:Var h i cs) (o:Nat):cellAt h i o=cs[o]?:=qMj x.get
theorem Var.ldL (x:Var h i cs) {o:Nat} (s:SL) {K:SL->Prop} (e:cs[o]?=some s.av) (k:K s):qD h i o K:=⟨s,(x.cell o).trans e,k⟩
theorem Var.ldB (x:Var h i cs) {o:Nat} (b:Bool) {K:Bool->Prop} (e:cs[o]?=some (.bool b)) (k:K b):ZLdB h i o K:=⟨b,(x.cell o).trans e,k⟩
theorem Var.ldI (x:Var h i cs) {o:Nat} {q:IntKind} (n:Int) {K:Int->Prop} (e:cs[o]?=some (.int q n)) (k:K n):Qg h i o q K:=⟨n,(x.cell o).trans e,k⟩
theorem Var.ldP (x:Var h i cs) {o:Nat} (nil:Bool) (j p:Nat) {K:Bool->Nat->Nat->Prop} (e:cs[o]?=some (ZV.pv nil j p).av) (k:K nil j p):jP h i o K:=⟨nil,j,p,(x.cell o).trans e,k⟩
theorem Var.ldM (x:Var h i cs) {o:Nat} (nil:Bool) (j:Nat) {K:Bool->Nat->Prop} (e:cs[o]?=some (ZV.mp nil j).av) (k:K nil j):ZLdM h i o K:=⟨nil,j,(x.cell o).trans e,k⟩
theorem Var.zput (x:Var h i cs) {o n:Nat} {A:Prop} (hn:o+n<=cs.length) (k:A):qB h i o n A:=⟨⟨x.lt,cs,0,false,false,x.get,hn⟩,k⟩
theorem Var.put (x:Var h i cs) (o:Nat) (vs:List AV):Var (hput h i o vs) i (cs.take o++(vs++cs.drop (o+vs.length))):=by refine⟨?_,hput_get x.get⟩;unfold hput;rw[x.get];exact x.lt
theorem Var.put_fr (x:Var h i cs) (o:Nat) (vs:List AV):Qv (λj=>j=i) h (hput h i o vs):=Qv.hput h o vs λ_=>rfl
end
theorem Qv.back {S T:Nat->Prop} {h0 a b:Q0} (x:Qv T h0 a) (y:Qv S a b) (hs:∀i,i<h0.next->S i->T i):Qv T h0 b :=
 ⟨zM0 x.next y.next,λi hi ht=>(y.same i (zE0 hi x.next) λh=>ht (hs i hi h)).trans (x.same i hi ht)⟩
structure Own (h0 h:Q0) (s:SL) (k:List Nat):Prop where
 byts:qP h s k
 own:s.nil=false->h0.next<=s.i/\s.o=0/\∃e g,h.get s.i=some (.cells (ofBytes k) e g false)
theorem Own.fr {h0 h h':Q0} {s:SL} {k:List Nat} {S:Nat->Prop} (x:Own h0 h s k) (f:Qv S h h') (hs:s.nil=false->¬S s.i):Own h0 h' s k :=
 ⟨x.byts.fr f hs,λe=>by
  obtain⟨h1,h2,a,b,h3⟩:=x.own e;exact⟨h1,h2,a,b,(f.same _ (x.byts.seg.lt e) (hs e)).trans h3⟩⟩
theorem Own.of {h0 h1 h:Q0} {s:SL} {k:List Nat} (x:Own h1 h s k) (hn:h0.next<=h1.next):Own h0 h s k :=
 ⟨x.byts,λe=>by
  obtain⟨h1,h2,h3⟩:=x.own e;exact⟨zM0 hn h1,h2,h3⟩⟩
end Go.X
namespace Go.X
open Go Go.RowKit Go.ChangeShapes Go.WideShapes
section
variable {H:Type} {enc:TypeId × Value->H} {P:Program} {W:World} {base:Nat} {sp:Nat->Bool} {held:Bool}
theorem trod_u8 {e:TypeId} (he:P.underlying e=some (.int .u8)) {u:Value} {fuel:Nat} {x:DataW H × List MemPlace} (h:DataW.trod enc P W 0 (λ_=>true) held fuel e [u]=some x) :
  ∃n:Nat,u=.int .u8 (.ofNat n)/\n<256:=by
 cases fuel with
 | zero=>simp[DataW.trod] at h
 | succ m =>unfold DataW.trod at h;rw[he] at h;cases u <;> simp at h;rename_i q n;obtain⟨⟨rfl,hw⟩,rfl⟩:=h;obtain⟨h1,h2⟩:=bounds_u8 hw;obtain⟨m,rfl⟩:=Int.eq_ofNat_of_zero_le h1;exact⟨m,rfl,by omega⟩
def valB:List Value->Nat
 | [.int _ n]=>n.toNat
 | _=>0
theorem abs_bytes {t e:TypeId} (ht:P.underlying t=some (.slice e)) (he:P.underlying e=some (.int .u8)) (hc:P.cellsOf e=1) {v:Value} {fuel:Nat} {x:DataW H × List MemPlace}
  (h:DataW.trod enc P W 0 (λ_=>true) held fuel t [v]=some x) :
  ∃(s:SL) (k:List Nat),Ja W.heap.size v=s.av/\qP (absH W) s k/\((x.1=.nil/\k=[])∨∃es r,x.1=.slice es r/\es.length=k.length):=by
 obtain⟨s,rows,m,hv,hn,hcell,hrow,hx⟩:=jFn ht hc (by decide) h;have hone:∀r,r∈rows->∃n:Nat,r.1=[.int .u8 (.ofNat n)]/\n<256:=λr hr=>by
  obtain⟨h1,p,h2⟩:=hrow r hr
  match hr1:r.1,h1 with
  | [u],_ =>rw[hr1] at h2;obtain⟨n,rfl,h3⟩:=trod_u8 he h2;exact⟨n,rfl,h3⟩
 refine⟨s,rows.map λr=>valB r.1,hv,⟨⟨by rw[QE,zI0,Nat.mul_one];exact hn.symm,λe=>(hcell e).1,λe=>?_⟩,?_⟩,?_⟩
 .obtain⟨hlt,c,el,f,hb,hq⟩:=hcell e;refine⟨c.toList.map (Ja W.heap.size),by unfold QS;rw[qJa hb],?_⟩;have hlen:s.len=rows.length:=by unfold SL.n at hn;rw[e] at hn;exact hn
  have:=qFj (c:=c.toList.map (Ja W.heap.size)) (l:=ofBytes (rows.map λr=>valB r.1)) (o:=s.o) λj y hy=>by rw[qS,zP0,zP0,Option.map_map] at hy;obtain⟨r,hr,rfl⟩:=Option.map_eq_some_iff.1 hy;obtain⟨u,hu,hcu⟩:=hq j r hr 0 (by decide);obtain⟨n,h1,_⟩:=hone r (zC0 hr);rw[h1] at hu;cases hu;rw[Nat.mul_one,Nat.add_zero] at hcu;rw[zP0,Array.getElem?_toList,hcu];show some (Ja W.heap.size (.int .u8 (.ofNat n)))=some (AV.int .u8 (.ofNat (valB r.1)));rw[jFo,h1];rfl
  rw[QE,zI0,<- hlen] at this;rw[Nat.mul_one];exact this
 .intro n hn;obtain⟨r,hr,rfl⟩:=List.mem_map.1 hn;obtain⟨n,h1,h2⟩:=hone r hr;rw[h1];exact h2
 .rcases hx with ⟨h1,h2⟩ | ⟨sp,h1⟩
  .exact .inl ⟨h1,by rw[h2];rfl⟩
  .exact .inr ⟨_,_,h1,by rw[zI0,zI0]⟩
end
end Go.X
namespace Go.X
open Go Go.RowKit
section
variable {P:Program} {W:World} {G g:Nat} {cs:List AV} {bs:List Nat}
end
end Go.X
namespace Go.X
open Go Go.RowKit
def allIs (v:AV) (o:Out):Bool:=Out.rec (motive:=λ_=>Bool) (λ_=>false) (λl _=>List.rec (motive:=λ_=>Bool) true (λx _ ih=>cnd (jAc x.1 (.val v)) ih false) l) o
theorem jHa {v:AV} {o:Out} (h:allIs v o=true):∃l g,o=.ok l g/\∀x,x∈l->x.1=.val v:=by
 cases o with
 | err n=>cases h
 | ok l g =>
  refine⟨l,g,rfl,?_⟩;have key:∀l:List (Res × Q5),(List.rec (motive:=λ_=>Bool) true (λx _ ih=>cnd (jAc x.1 (.val v)) ih false) l:Bool)=true->∀x,x∈l->x.1=.val v:=by
   intro l
   induction l with
   | nil=>exact λ_ x hx=>absurd hx zK0
   | cons a t ih =>
    intro h x hx;have h2:cnd (jAc a.1 (.val v)) (List.rec (motive:=λ_=>Bool) true (λx _ ih=>cnd (jAc x.1 (.val v)) ih false) t) false=true:=h;rw[Qk] at h2;rcases List.mem_cons.1 hx with e | e
    .rw[e];exact qXd h2.1
    .exact ih h2.2 x e
  exact key l h
theorem qO2 {E:Env} {q:IntKind}:∀(zs:List Int) (l:List Value),VRs E (zs.map λz=>AV.int q z) l->l=zs.map λz=>Value.int q z
 | [],l,h=>by cases h;rfl
 | z::zs,l,h=>by
  cases h with
  | cons _ v _ m h1 h2=>cases h1;rw[qO2 zs m h2];rfl
section
variable {P:Program} {W W0:World} {G:Nat}
theorem closed_is {H:qI} {sums:qm} {lf n:Nat} {f:FuncId} {v:AV} (hmo:P.follows .mixedOrders=true) (hG:P.globals.size=G) (hsz:G<=W.heap.size) (ht:G<=top) (hb:qn P f=true)
  (hsum:Q7 P W sums) (hW:0<W.heap.size∨∀f,H.join f<=1) (hrun:allIs v ((qVo P H sums lf n f []).run 0 (qOa G) Log.nil)=true) :
  Calls P f #[] W λe W'=>∃u E,e=.returned u/\VR E v u/\Below W.heap.size W W':=by
 obtain⟨l,g,e,hl⟩:=jHa hrun;have hs:=jBy _ _ _ _ _ _ (λr _=>r=.val v) e (jEj ht) (Nat.zero_le _) hl;refine Calls.mono (qE1 hsum hW hmo hb hs (qYn hG hsz ht) (vs:=#[]) .nil) λe w' ⟨v,E',h',av,e1,s,r,hv,hp⟩=>?_;subst e1;cases hp;exact⟨_,_,rfl,hv,r.below⟩
def rowV (q:IntKind) (zs:List Int):AV:=.agg (zs.map λz=>AV.int q z)
def jFf (f:FuncId) (v:AV):QC:=λg=>match Nat.beq g f with | true=>some (λargs K h=>args=[]/\K (.any v) h) | false=>none
def qU2 (f:FuncId) (v:AV):qm:=λg=>match Nat.beq g f with | true=>some (λargs k _=>match args with | []=>k v | _=>.fail 172) | false=>none
theorem const_fit (f:FuncId) (v:AV):jH (jFf f v) (qU2 f v):=by
 constructor
 .intro g hg;unfold jFf at hg;unfold qU2;cases hb:Nat.beq g f with
  | true=>rw[hb] at hg;cases hg
  | false=>rfl
 .intro g s hg;unfold jFf at hg;unfold qU2;cases hb:Nat.beq g f with
  | false=>rw[hb] at hg;cases hg
  | true =>
   rw[hb] at hg;cases hg;refine⟨_,rfl,?_⟩;rintro args K h hi ⟨rfl,hk⟩ kp k p hp
   have:=hp _ h hi hk
   rwa [qEo] at this
theorem jDm {f:FuncId} {q:IntKind} {zs:List Int} (hc:∀w,Below W0.heap.size W0 w->Calls P f #[] w λe w'=>e=.returned (.agg (zs.map λz=>Value.int q z).toArray)/\Below w.heap.size w w'):Q7 P W0 (qU2 f (rowV q zs)):=by
 intro g s hg args k kp p E h w vs hb hs r hv;unfold qU2 at hg;cases hbq:Nat.beq g f with
 | false=>rw[hbq] at hg;cases hg
 | true =>
  rw[hbq] at hg
  have:=Nat.eq_of_beq_eq_true hbq
  subst this;cases hg;cases args with
  | cons=>exact hs.elim
  | nil =>
   have e:vs=#[]:=by obtain⟨l⟩:=vs;cases hv;rfl
   subst e;refine Calls.mono (hc w r.below) λe w' ⟨e1,hb'⟩=>?_;subst e1;exact⟨E,h,rowV q zs,.refl _ _,r.garbage hb',.agg _ _ (qP7 q zs),hs⟩
theorem law_int {S:QC} {sums:qm} (hsum:Q7 P W sums) (hS:jH S sums) (hmo:P.follows .mixedOrders=true) (hG:P.globals.size<=W.heap.size) {lf n:Nat} {f:FuncId} (hb:qn P f=true) {q:IntKind} {z:Int}
  {args:List ZV} {vs:Array Value} (hv:VRs (absE W.heap.size) (avs args) vs.toList) (hz:Qu P S lf n f args (λv _=>v.av=.int q z) (absH W)) :
  Calls P f vs W λe W'=>e=.returned (.int q z)/\Below W.heap.size W W':=by
 have hs:(qVo P Qp sums lf n f (avs args)).sat (λr _=>r=.val (.int q z)) (absH W) :=
  (qEy hS (lf:=lf) n).call f args _ (absH W) (qIe hb) rfl hz (λ_=>.fail 163) (λv=>.ret (.val v)) (λr _=>r=.val (.int q z)) λv h' _ hv=>by show Res.val v.av=_;rw[hv]
 refine Calls.mono (qE1 hsum (.inr λf=>Nat.zero_le _) hmo hb hs (abs_rel hG) hv) λe w' ⟨v,E',h',av,e1,s,r,hv,hp⟩=>?_;subst e1;cases hp;cases hv;exact⟨rfl,r.below⟩
def okSl (b:AV) (m:FM):FM:=b.onSlice m m (λ_ _ len cap _=>cnd (Nat.ble len cap) (cnd (Nat.ble len 1048576) m (.fail 173)) (.fail 173)) (.fail 173)
def byteF (F:Nat->List Nat->(Nat->FM)->FM) (args:List AV) (k:KV):FM :=
 qTk args λa b=>a.onInt (λq n=>kEq q .u64 (Int.rec (motive:=λ_=>FM) (λm=>cnd (ltb m 18446744073709551616) (okSl b (jJ b λl=>F m l λr=>k (.int .u64 (.ofNat r)))) (.fail 173)) (λ_=>.fail 173) n)) (.fail 173)
def byteX (f:FuncId) (F:Nat->List Nat->(Nat->FM)->FM) (S:qm):qm:=λg=>cnd (Nat.beq g f) (some λargs k _=>byteF F args k) (S g)
theorem bytes_abs {E:Env} {h:Q0} {w:World} {p:QF} (r:Rel P W0 E h w) {a:AV} {v:Value} (ha:VR E a v) {kk:List Nat->FM} (hs:(okSl a (jJ a kk)).sat p h) :
  ∃(s:SL) (l:List Nat),VR (absE w.heap.size) s.av v/\qP (absH w) s l/\l.length<=1048576/\(kk l).sat p h:=by
 cases ha with
 | nils=>exact⟨⟨true,0,0,0,0,false⟩,[],.nils,qP.nil _ _,by simp,hs⟩
 | emp a c=>exact⟨⟨true,0,0,0,0,true⟩,[],.emp _ _,qP.nil _ _,by simp,hs⟩
 | slice i o len cap ext b x cc hi hx hcc =>
  subst hx;have hs1:(cnd (Nat.ble len cap) (cnd (Nat.ble len 1048576) (q9 i λc=>j3 len (jO o c) λl=>Ju l kk) (.fail 173)) (.fail 173)).sat p h:=hs;obtain⟨_,hs1⟩:=Qi hs1;obtain⟨hle,hs1⟩:=Qi hs1;have hle:=qs.1 hle;obtain⟨ao,hg,hs2⟩:=hs1;obtain⟨c,ho,hs3⟩:=jT hs2;obtain⟨hl,hs4⟩:=jh hs3;rw[qq] at hl hs4;obtain⟨s,he,hb,hk⟩:=qF8 _ _ hs4;obtain⟨vs,h1,h2,h3⟩:=(r.readAt hg ho hi).cells o len hl;rw[he] at h2;have h4:=Jl h2;have hbw:=r.bound i b hi;have hsl:s.length=len:=by rw[<- h1,h4];simp
  refine⟨⟨false,b,E.base i+o,len,cc,false⟩,s,.slice _ _ _ _ _ b _ cc (if_pos hbw) (by simp[absE]) (by simp[cnd]),⟨⟨by rw[QE,hsl];show len=len*1;omega,λ_=>hbw,λ_=>?_⟩,hb⟩,by rw[hsl];exact hle,hk⟩;obtain⟨cs,e,fr,pre,c1,rest,q1,q2,q3,q4⟩:=(r.readAt hg ho hi).ex;refine⟨cs.toList.map (Ja w.heap.size),by unfold QS;rw[qJa q1],?_⟩
  have:=qFj (c:=cs.toList.map (Ja w.heap.size)) (l:=ofBytes s) (o:=E.base i+o) λj u hu=>by rw[qS,zP0] at hu;obtain⟨y,hy,rfl⟩:=Option.map_eq_some_iff.1 hu;have h5:=h3 j (.int .u8 (.ofNat y)) (by rw[h4,zP0,hy];rfl);rw[j6,qKl q1] at h5;rw[zP0,Array.getElem?_toList,h5];rfl
  rw[QE,hsl] at this;rw[Nat.mul_one];exact this
 | _=>exact False.elim hs
theorem jG6 {sums:qm} (hs0:Q7 P W0 sums) {f:FuncId} {F:Nat->List Nat->(Nat->FM)->FM} {fn:Nat->List Nat->Nat} (hF:∀a l k,F a l k=k (fn a l))
  (hc:∀w (a:Nat) (v:Value) (s:SL) (l:List Nat),Below W0.heap.size W0 w->a<18446744073709551616->VR (absE w.heap.size) s.av v->qP (absH w) s l->l.length<=1048576 ->
   Calls P f #[.int .u64 (.ofNat a),v] w λe w'=>e=.returned (.int .u64 (.ofNat (fn a l)))/\Below w.heap.size w w'):Q7 P W0 (byteX f F sums):=by
 intro g s hg args k kp p E h w vs hb hsat r hv;have hg1:cnd (Nat.beq g f) (some λargs k _=>byteF F args k) (sums g)=some s:=hg;cases hbq:Nat.beq g f with
 | false=>rw[hbq,Q8] at hg1;exact hs0 g s hg1 args k kp p E h w vs hb hsat r hv
 | true =>
  rw[hbq,Q6] at hg1
  have:=Nat.eq_of_beq_eq_true hbq
  subst this;cases hg1;obtain⟨a,b,u,v,e,hu,hv2,hs1⟩:=Jx hv (show (byteF F args k).sat p h from hsat);cases hu with
  | int q n =>
   obtain⟨hq,hs2⟩:=qa (m:=Int.rec (motive:=λ_=>FM) (λm=>cnd (ltb m 18446744073709551616) (okSl b (jJ b λl=>F m l λr=>k (.int .u64 (.ofNat r)))) (.fail 173)) (λ_=>.fail 173) n) hs1;subst hq;cases n with
   | negSucc m=>exact False.elim hs2
   | ofNat m =>
    obtain⟨hm,hs3⟩:=Qi (show (cnd (ltb m 18446744073709551616) (okSl b (jJ b λl=>F m l λr=>k (.int .u64 (.ofNat r)))) (.fail 173)).sat p h from hs2);obtain⟨s,l,h1,h2,h3,h4⟩:=bytes_abs r hv2 hs3;rw[hF] at h4;rw[qVu e];refine Calls.mono (hc w m v s l r.below (Qo.1 hm) h1 h2 h3) λe w' ⟨e1,hb'⟩=>?_;subst e1;exact⟨E,h,_,.refl _ _,r.garbage hb',.int _ _,h4⟩
  | _=>exact False.elim hs1
end
end Go.X
namespace Go.X
open Go Go.RowKit
end Go.X
namespace Go.X
theorem Qt {b:Bool} {A B:Prop} (h:b=false) (k:B):@cnd Prop b A B:=by subst h;exact k
theorem QB {b:Bool} {A B:Prop} (h:b=true) (k:A):@cnd Prop b A B:=by subst h;exact k
theorem nay {b:Bool} {A B:Prop} (k:B) (h:b=false:=by kernel_rfl):@cnd Prop b A B:=Qt h k
theorem yea {b:Bool} {A B:Prop} (k:A) (h:b=true:=by kernel_rfl):@cnd Prop b A B:=QB h k
theorem zRep_at {args:List ZV} {K:ZK} {h:Q0} {e:Ent} (hk:(e.next,e.args,rdL e.rd h,jW e.wr h.next,Nat.ble (h.next+e.new.length) 65536)=(h.next,avs args,rdR e.rd,true,true)) (k:K (zOf e.v) (J3 e h)) :
  ∀(i:Nat) (tab:List Ent),tab[i]?=some e->(tab.take i).all (λx=>!Nat.beq x.next h.next)=true->zRep tab args K h
 | 0,x::tab,he,_=>by
  cases he;simp only[Prod.mk.injEq] at hk;exact Or.inl ⟨hk.1,hk.2.1,hk.2.2.1,hk.2.2.2.1,zS0 hk.2.2.2.2,k⟩
 | i+1,x::tab,he,hm=>by rw[List.take_succ_cons,List.all_cons,Bool.and_eq_true,Bool.not_eq_true'] at hm;exact Or.inr ⟨λhh=>absurd hm.1 (by rw[hh.1,beq_iff.2 rfl];decide),zRep_at hk k i tab he hm.2⟩
theorem hit {P:Program} {S:QC} {lf n:Nat} {f:FuncId} {args:List ZV} {K:ZK} {h:Q0} (i:Nat) (e:Ent) (tab:List Ent) (hS:S f=some (zRep tab))
  (hk:(ltb f P.funcs.size,tab[i]?,(tab.take i).all (λx=>!Nat.beq x.next h.next),e.next,e.args,rdL e.rd h,jW e.wr h.next,Nat.ble (h.next+e.new.length) 65536)=(true,some e,true,h.next,avs args,rdR e.rd,true,true)) (k:K (zOf e.v) (J3 e h)):Qu P S lf (n+1) f args K h:=by
 simp only[Prod.mk.injEq] at hk;exact qEx hk.1 hS (zRep_at (by simp only[Prod.mk.injEq];exact hk.2.2.2) k i tab hk.2.1 hk.2.2.1)
theorem Var.put_all {h:Q0} {i:Nat} {cs vs:List AV} (x:Var h i cs) (e:vs.length=cs.length):Var (hput h i 0 vs) i vs:=by
 have:=x.put 0 vs
 rwa [List.take_zero,List.nil_append,Nat.zero_add,e,List.drop_length,List.append_nil] at this
end Go.X
namespace Go.X
open Go Go.RowKit
def startEk (G b off:Nat):Env:=⟨λi=>if i<G then some i else if i=G then some b else none,λi=>if i=G then off else 0,λ_=>0⟩
section
variable {P:Program} {W:World} {G g:Nat} {cs:List AV} {b off:Nat} {o:Option (List AV)}
structure KOk (W:World) (G g b off:Nat) (o:Option (List AV)):Prop where
 lt:b<W.heap.size
 ne:∀c,o=some c->b≠g
 ob:∀c,o=some c->∃arr t fr pre c1 rest,W.heap[b]?=some (.cells arr t fr)/\arr.toList=pre++(c1++rest)/\pre.length=off/\VRs (startEk G b off) c c1
end
theorem jAu {P:Program} {h:Q0} {s:SL} {l:List Int} {e:Nat} {Q:Q0->SL->Prop} (hb:J5 h s l) (hl:l≠[]) (hr:qLc P e l.length=true)
  (hk:Q ((h.newO (.cells [] 1 false false)).newO (.cells (l.map (AV.int .i64)) 1 true false)) ⟨false,h.next+1,0,l.length,l.length,true⟩) :
  ZApp P (h.newO (.cells [] 1 false false)) ⟨false,h.next,0,0,0,false⟩ e 1 s.n (l.map (AV.int .i64)) (Q (Js (h.newO (.cells [] 1 false false)) ⟨false,h.next,0,0,0,false⟩ 1 s.n (l.map (AV.int .i64))) (SL.app ⟨false,h.next,0,0,0,false⟩ (h.newO (.cells [] 1 false false)).next s.n)):=by
 rw[hb.len];refine⟨⟨λ_=>zL0 _,λ_ e=>(by cases e),λh1 _ h2=>?_,λ_ _=>?_,λ_ _ _ h=>(by cases h),λ_ _ _ _=>⟨[],qI5 (Qz _ _),by simp⟩⟩,qXq l,?_⟩
 .exact absurd h2 (by show ¬ 0+l.length<=0;omega)
 .show qLc P e (0+l.length)=true;rw[Nat.zero_add];exact hr
 cases l with
 | nil=>exact absurd rfl hl
 | cons x k =>
  have e1:Js (h.newO (.cells [] 1 false false)) ⟨false,h.next,0,0,0,false⟩ 1 (x::k).length ((x::k).map (AV.int .i64))=(h.newO (.cells [] 1 false false)).newO (.cells ((x::k).map (AV.int .i64)) 1 true false):=by unfold Js;rw[show Nat.beq (x::k).length 0=false from rfl];simp only;rw[show Nat.ble (0+(x::k).length) 0=false by rw[Nat.zero_add];rfl,Qz];rfl
  have e2:SL.app ⟨false,h.next,0,0,0,false⟩ (h.newO (.cells [] 1 false false)).next (x::k).length=⟨false,h.next+1,0,(x::k).length,(x::k).length,true⟩:=by unfold SL.app;rw[show Nat.beq (x::k).length 0=false from rfl];simp only;rw[show Nat.ble (0+(x::k).length) 0=false by rw[Nat.zero_add];rfl,Nat.zero_add];rfl
  rw[e1,e2];exact hk
theorem qO1 {P:Program} {h:Q0} {s:SL} {e:Nat} {Q:Q0->SL->Prop} (h0:s.n=0)
  (hk:Q (h.newO (.cells [] 1 false false)) ⟨false,h.next,0,0,0,false⟩) :
  ZApp P (h.newO (.cells [] 1 false false)) ⟨false,h.next,0,0,0,false⟩ e 1 s.n [] (Q (Js (h.newO (.cells [] 1 false false)) ⟨false,h.next,0,0,0,false⟩ 1 s.n []) (SL.app ⟨false,h.next,0,0,0,false⟩ (h.newO (.cells [] 1 false false)).next s.n)):=by
 rw[h0];exact⟨⟨λ_=>zL0 _,λh=>absurd rfl h,λh=>absurd rfl h,λh=>absurd rfl h,λh=>absurd rfl h,λh=>absurd rfl h⟩,rfl,hk⟩
end Go.X
namespace Go.X
open Go Go.RowKit
theorem jn (n:Nat):Nat.beq n n=true:=beq_iff.2 rfl
theorem jAd:∀s:List Nat,eqNs s s=true
 | []=>rfl
 | x::s=>by show cnd (Nat.beq x x) (eqNs s s) false=true;rw[jn,Q6];exact jAd s
theorem eqFn_self (f:AFn):eqFn f f=true:=by
 cases f with
 | plain a=>exact decide_eq_true (p:=a=a) rfl
 | yield i=>exact jn i
theorem eqAV_self (x:AV):qx x x=true:=by
 induction x using AV.rec (motive_2:=λl=>jAh l l=true) with
 | func f first captured h1 h2 =>
  show cnd (eqFn f f) (cnd (jAh first first) (jAh captured captured) false) false=true;rw[eqFn_self,h1,h2];rfl
 | iface t v ih =>
  show cnd (Nat.beq t t) (qx v v) false=true;rw[jn,ih];rfl
 | agg cs ih=>exact ih
 | tuple cs ih=>exact ih
 | bool b=>exact qKm.2 rfl
 | int q n =>
  show cnd (Nat.beq (QT q) (QT q)) (eqI n n) false=true;rw[jn,jAf.2 rfl];rfl
 | str s=>exact jAd s
 | ptr i o =>
  show cnd (Nat.beq i i) (Nat.beq o o) false=true;rw[jn,jn];rfl
 | slice i o len cap ext =>
  show cnd (cnd (Nat.beq i i) (Nat.beq o o) false) (cnd (cnd (Nat.beq len len) (Nat.beq cap cap) false) (beqB ext ext) false) false=true;rw[jn,jn,jn,jn,qKm.2 rfl];rfl
 | map i=>exact jn i
 | cons a t ha ht =>
  show cnd (qx a a) (jAh t t) false=true;rw[ha,ht];rfl
 | _=>rfl
theorem jFa {α:Type} {f:α->α->Bool} (hf:∀x,f x x=true):∀l:List α,eqL f l l=true
 | []=>rfl
 | x::l=>by show cnd (f x x) (eqL f l l) false=true;rw[hf,jFa hf l];rfl
end Go.X
namespace Go.X
open Go Go.RowKit
theorem jEu (h:Q0) (o p:Q4):(h.newO o).put h.next (some p)=h.newO p :=
 Q0.ext (λj=>by
  by_cases hj:j=h.next
  .subst hj;rw[qHw];exact (if_pos rfl).symm
  .rw[qT8 hj];exact (if_neg hj).trans (if_neg hj).symm) rfl rfl rfl
end Go.X
namespace Go.X
open Go Go.RowKit
def qHo (N:Nat) (h:Q0):Q0:=⟨λi=>cnd (cnd (Nat.ble h.next i) (Nat.ble (Nat.succ i) N) false) (some .tomb) (h.get i),N,h.lim,h.inf⟩
theorem qE3 (N:Nat) (h:Q0) (i:Nat):(qHo N h).get i=if h.next<=i/\i<N then some .tomb else h.get i:=by
 show cnd (cnd (Nat.ble h.next i) (Nat.ble (Nat.succ i) N) false) (some .tomb) (h.get i)=_;by_cases h1:h.next<=i
 .rw[zF0 h1,Q6];by_cases h2:i<N
  .rw[zF0 (show Nat.succ i<=N from h2),Q6,if_pos ⟨h1,h2⟩]
  .rw[show Nat.ble (Nat.succ i) N=false from qE.2 (Nat.le_of_not_lt h2),Q8,if_neg (λh=>h2 h.2)]
 .have:Nat.ble h.next i=false:=by
   cases hb:Nat.ble h.next i with
   | false=>rfl
   | true=>exact absurd (zS0 hb) h1
  rw[this,Q8,Q8,if_neg (λh=>h1 h.1)]
theorem qUa:∀(d:Nat) (h:Q0),newH (List.replicate d .tomb) h=qHo (h.next+d) h
 | 0,h=>Q0.ext (λi=>by
   show h.get i=_;rw[qE3,if_neg (by omega)]) rfl rfl rfl
 | d+1,h=>by
  show newH (List.replicate d .tomb) (h.newO .tomb)=_;rw[qUa d (h.newO .tomb)];refine Q0.ext (λi=>?_) (show h.next+1+d=h.next+(d+1) by omega) rfl rfl;rw[qE3,qE3,Q0.newO_get _ trivial];show (if h.next+1<=i/\i<h.next+1+d then some Q4.tomb else if i=h.next then some .tomb else h.get i)=_;by_cases e:i=h.next
  .rw[if_neg (by omega),if_pos e,if_pos (by omega)]
  .by_cases e2:h.next+1<=i/\i<h.next+1+d
   .rw[if_pos e2,if_pos (by omega)]
   .rw[if_neg e2,if_neg e,if_neg (by omega)]
section
variable {P:Program} {W0:World} {p:QF} {m:FM}
theorem Rel.newTomb {E:Env} {h:Q0} {w:World} (r:Rel P W0 E h w) (hn:h.fr h.next) (hw:0<w.heap.size):∃E',Stp E h E' (h.newO .tomb)/\Rel P W0 E' (h.newO .tomb) w:=by
 have hb:=r.free h.next (zL0 _) hn
 let h1:Q0:=⟨h.t,h.next+1,h.lim,h.inf⟩
 have r1:Rel P W0 E h1 w:=⟨r.obj,r.inj,λi hi hf=>r.free i (zM0 (Nat.le_succ _) hi) hf,r.bound,r.below,r.old,r.glob,r.lim,hn.imp id λq=>q⟩;have e:h1.put h.next (some .tomb)=h.newO .tomb:=Q0.ext (λi=>by rw[Q0.get_put _ trivial,Q0.newO_get _ trivial];rfl) rfl rfl rfl
 have le:=Env.add_le hb 0 0 0;refine⟨E.add h.next 0 0 0,⟨le,λi b hib=>(Env.add_inv hib).elim (λe=>.inr ⟨Nat.le_of_eq e.1.symm,by rw[e.1];exact hn⟩) (λe=>.inl e.2),rfl,Nat.le_succ _⟩,?_⟩;rw[<- e];exact r1.tombs (Nat.lt_succ_self _) hb hw
theorem qR2 {w:World} (hw:0<w.heap.size):∀(d:Nat) (E:Env) (h:Q0),Rel P W0 E h w->(jB (List.replicate d .tomb) m).sat p h->∃E' h',Stp E h E' h'/\Rel P W0 E' h' w/\m.sat p h'
 | 0,E,h,r,hs=>⟨E,h,.refl _ _,r,hs⟩
 | d+1,E,h,r,hs=>by
  have hs1:h.fr h.next/\(jB (List.replicate d .tomb) m).sat p (h.newO .tomb):=hs
  obtain⟨E1,s1,r1⟩:=r.newTomb hs1.1 hw;obtain⟨E2,h2,s2,r2,hs2⟩:=qR2 hw d E1 _ r1 hs1.2;exact⟨E2,h2,s1.trans s2,r2,hs2⟩
end
def alX (N:Nat->Nat) (o:Option (List AV->KV->(QD->FM)->FM)):Option (List AV->KV->(QD->FM)->FM):=match o with
 | none=>none
 | some s=>some λargs k kp=>.here λa=>jB (List.replicate (N a-a) .tomb) (s args k kp)
def alZ (N:Nat->Nat) (o:Option (List ZV->ZK->Q0->Prop)):Option (List ZV->ZK->Q0->Prop):=match o with
 | none=>none
 | some s=>some λargs K h=>Nat.ble h.next (N h.next)=true/\s args K (qHo (N h.next) h)
def qb (N:Nat->Nat) (g:FuncId) (sums:qm):qm:=λf=>match Nat.beq f g with
 | true=>alX N (sums f)
 | false=>sums f
def ql (N:Nat->Nat) (g:FuncId) (S:QC):QC:=λf=>match Nat.beq f g with
 | true=>alZ N (S f)
 | false=>S f
section
variable {P:Program} {W0:World}
theorem Q7.align {sums:qm} (hs:Q7 P W0 sums) (hW:0<W0.heap.size) (N:Nat->Nat) (g:FuncId):Q7 P W0 (qb N g sums):=by
 intro f s hf args k kp p E h w vs hb hsat r hv;have hf1:(match Nat.beq f g with | true=>alX N (sums f) | false=>sums f)=some s:=hf;cases hfg:Nat.beq f g with
 | false=>rw[hfg] at hf1;exact hs f s hf1 args k kp p E h w vs hb hsat r hv
 | true =>
  rw[hfg] at hf1;cases hsf:sums f with
  | none=>rw[hsf] at hf1;cases hf1
  | some s0 =>
   rw[hsf] at hf1;cases hf1;have hw:0<w.heap.size:=zE0 hW r.below.size;obtain⟨E1,h1,s1,r1,hs1⟩:=qR2 hw (N h.next-h.next) E h r (show (jB (List.replicate (N h.next-h.next) .tomb) (s0 args k kp)).sat p h from hsat);refine Calls.mono (hs f s0 hsf args k kp p E1 h1 w vs hb hs1 r1 (hv.mono s1.le)) λe w' he=>?_;cases e with
   | returned v =>
    obtain⟨E',h',av,s,r',hv',hs'⟩:=he;exact⟨E',h',av,s1.trans s,r',hv',hs'⟩
   | panicked c =>
    obtain⟨E',h',av,s,r',hv',hs'⟩:=he;exact⟨E',h',av,s1.trans s,r',hv',hs'⟩
   | outgrown=>exact he
theorem Qm {S:QC} {sums:qm} (hs:jH S sums) (N:Nat->Nat) (g:FuncId):jH (ql N g S) (qb N g sums):=by
 constructor
 .intro f hf;have hf1:(match Nat.beq f g with | true=>alZ N (S f) | false=>S f)=none:=hf;show (match Nat.beq f g with | true=>alX N (sums f) | false=>sums f)=none;cases hfg:Nat.beq f g with
  | false=>rw[hfg] at hf1;exact hs.none f hf1
  | true =>
   rw[hfg] at hf1;cases hsf:S f with
   | none=>rw[hs.none f hsf];rfl
   | some s=>rw[hsf] at hf1;cases hf1
 .intro f s hf;have hf1:(match Nat.beq f g with | true=>alZ N (S f) | false=>S f)=some s:=hf;show ∃x,(match Nat.beq f g with | true=>alX N (sums f) | false=>sums f)=some x/\_;cases hfg:Nat.beq f g with
  | false=>rw[hfg] at hf1;exact hs.some f s hf1
  | true =>
   rw[hfg] at hf1;cases hsf:S f with
   | none=>rw[hsf] at hf1;cases hf1
   | some s0 =>rw[hsf] at hf1;cases hf1;obtain⟨x,hx,hx2⟩:=hs.some f s0 hsf;rw[hx];refine⟨_,rfl,λargs K h hi hz kp k p hp=>?_⟩;refine qR3 _ _ hi ?_;rw[qUa];have hle:=zS0 hz.1;rw[show h.next+(N h.next-h.next)=N h.next by omega];exact hx2 args K (qHo (N h.next) h) (show (qHo (N h.next) h).inf=true from hi) hz.2 kp k p hp
end
end Go.X
namespace Go.X
open Go Go.RowKit
section
variable {P:Program} {W0:World} {E:Env} {h:Q0} {w:World}
theorem Rel.ro (r:Rel P W0 E h w) (hn:h.fr h.next) (hi:h.inf=true) {b off:Nat} {c:List AV} {arr:Array Value} {t:TypeId} {fr:Nat × Nat} {pre c1 rest:List Value} (hw:w.heap[b]?=some (.cells arr t fr)) (hcs:arr.toList=pre++(c1++rest)) (hp:pre.length=off) (hc:VRs E c c1)
  (hne:∀i x,h.get i=some x->x≠.tomb->E.blk i≠some b):Rel P W0 (E.add h.next b off 0) (h.newO (.ro c)) w:=by
 have hf:=r.free h.next (zL0 _) hn
 have le:=Env.add_le hf b off 0;have hnt:True:=trivial;have hb:b<w.heap.size:=by
  rcases Nat.lt_or_ge b w.heap.size with h1 | h1
  .exact h1
  .rw[Array.getElem?_eq_none h1] at hw;cases hw
 have keyE:∀{j c},j≠h.next->(E.add h.next b off 0).blk j=some c->E.blk j=some c:=λhj hc=>(Env.add_inv hc).elim (λe=>absurd e.1 hj) (λe=>e.2)
 have self:∀{j c},j=h.next->(E.add h.next b off 0).blk j=some c->c=b:=λhj hc=>(Env.add_inv hc).elim (λe=>e.2) (λe=>absurd hj e.1)
 refine⟨λj ao hj=>?_,λj k x y c hj hk hx hy ej ek=>?_,λj h1 h2=>?_,λj c hc=>?_,r.below,λj ao c hj hc hlt=>?_,λg hg=>?_,.inl hi,.inl hi⟩
 .rw[Q0.newO_get _ hnt] at hj;by_cases e:j=h.next
  .subst e;rw[if_pos rfl] at hj;cases hj;exact⟨b,_,Env.add_blk _ _ _ _ _,hw,.ro _ _ _ _ pre c1 rest hcs (hp.trans (Env.add_base _ _ _ _ _).symm) (hc.mono le)⟩
  .rw[if_neg e] at hj;obtain⟨c,o,hc,hw,hor⟩:=r.obj j ao hj;refine⟨c,o,le.blk _ _ hc,hw,hor.mono le hc λm d es v hd hv=>?_⟩;rw[Q0.newO_get _ hnt] at hv;by_cases em:m=h.next
   .rw[if_pos em] at hv;cases hv
   .rw[if_neg em] at hv;exact⟨v,es,hv,zL0 _,λ_=>rfl⟩
 .rw[Q0.newO_get _ hnt] at hj hk;by_cases e1:j=h.next
  .by_cases e2:k=h.next
   .rw[e1,e2]
   .rw[if_neg e2] at hk
    have:=self e1 ej
    subst this;exact absurd (keyE e2 ek) (hne k y hk hy)
  .rw[if_neg e1] at hj;by_cases e2:k=h.next
   .have:=self e2 ek
    subst this;exact absurd (keyE e1 ej) (hne j x hj hx)
   .rw[if_neg e2] at hk;exact r.inj j k x y c hj hk hx hy (keyE e1 ej) (keyE e2 ek)
 .have h1':h.next+1<=j:=h1
  show (if j=h.next then some b else E.blk j)=none;rw[if_neg (by omega)];exact r.free j (by omega) h2
 .rcases Env.add_inv hc with ⟨_,e⟩ | ⟨_,e⟩
  .rw[e];exact hb
  .exact r.bound j c e
 .rw[Q0.newO_get _ hnt] at hj;by_cases e:j=h.next
  .rw[if_pos e] at hj;cases hj;exact .inr ⟨_,rfl⟩
  .rw[if_neg e] at hj;exact r.old j ao c hj (keyE e hc) hlt
 .obtain⟨h1,h2⟩:=r.glob g hg;exact⟨le.blk _ _ h1,by rw[le.base _ _ h1];exact h2⟩
def roT (o:Option (List AV)):Q4:=Option.rec (motive:=λ_=>Q4) .tomb (λc=>.ro c) o
structure RoLOk (w:World) (E:Env) (h:Q0) (b off:Nat) (o:Option (List AV)):Prop where
 lt:b<w.heap.size
 ne:∀c,o=some c->∀i x,h.get i=some x->x≠.tomb->E.blk i≠some b
 ob:∀c,o=some c->∃arr t fr pre c1 rest,w.heap[b]?=some (.cells arr t fr)/\arr.toList=pre++(c1++rest)/\pre.length=off/\VRs E c c1
theorem Rel.roT (r:Rel P W0 E h w) (hi:h.inf=true) {b off:Nat} {o:Option (List AV)} (k:RoLOk w E h b off o):∃x,Rel P W0 (E.add h.next b x 0) (h.newO (roT o)) w/\(∀c,o=some c->x=off):=by
 cases o with
 | some c =>
  obtain⟨arr,t,fr,pre,c1,rest,h1,h2,h3,h4⟩:=k.ob c rfl;exact⟨off,r.ro (.inl hi) hi h1 h2 h3 h4 (k.ne c rfl),λ_ _=>rfl⟩
 | none =>
  have hb:=r.free h.next (zL0 _) (.inl hi)
  let h1:Q0:=⟨h.t,h.next+1,h.lim,h.inf⟩
  have r1:Rel P W0 E h1 w:=⟨r.obj,r.inj,λi hi hf=>r.free i (zM0 (Nat.le_succ _) hi) hf,r.bound,r.below,r.old,r.glob,r.lim,.inl hi⟩;have e:h1.put h.next (some .tomb)=h.newO .tomb:=Q0.ext (λi=>by rw[Q0.get_put _ trivial,Q0.newO_get _ trivial];rfl) rfl rfl rfl
  refine⟨0,?_,λc h=>by cases h⟩;show Rel P W0 _ (h.newO .tomb) w;rw[<- e];exact r1.tombs (Nat.lt_succ_self _) hb k.lt
theorem lawR_true {S:QC} {sums:qm} (hsum:Q7 P w sums) (hS:jH S sums) (hmo:P.follows .mixedOrders=true) {lf n:Nat} {f:FuncId} (hb:qn P f=true) (hi:h.inf=true) (r:Rel P w E h w)
  {args:List ZV} {vs:Array Value} (hv:VRs E (avs args) vs.toList) (hz:Qu P S lf n f args (λv _=>v.av=.bool true) h) :
  Calls P f vs w λe W'=>e=.returned (.bool true)/\Below w.heap.size w W':=by
 have hs:(qVo P Qp sums lf n f (avs args)).sat (λr _=>r=.val (.bool true)) h :=
  (qEy hS (lf:=lf) n).call f args _ h (qIe hb) hi hz (λ_=>.fail 163) (λv=>.ret (.val v)) (λr _=>r=.val (.bool true)) λv h' _ hv=>by show Res.val v.av=_;rw[hv]
 refine Calls.mono (qE1 hsum (.inr λ_=>Nat.zero_le _) hmo hb hs r (vs:=vs) hv) λe w' ⟨v,E',h',av,e1,s,r,hv,hp⟩=>?_;subst e1;cases hp;cases hv;exact⟨rfl,r.below⟩
end
end Go.X
namespace Go.X
open Go Go.RowKit
abbrev Obs:=Nat->Option Q4
def putB (l:List (Nat × Q4)) (H:Obs):Obs:=match l with | []=>H | x::r=>putB r (λi=>match Nat.beq i x.1 with | true=>some x.2 | false=>H i)
def newB (l:List Q4) (a:Nat) (H:Obs):Obs:=match l with | []=>H | o::r=>newB r (Nat.succ a) (λi=>match Nat.beq i a with | true=>some o | false=>H i)
def QN (e:Ent) (H:Obs):Obs:=newB e.new e.next (putB e.wr H)
theorem qY {a b:Nat} (h:a≠b):Nat.beq a b=false:=by
 cases e:Nat.beq a b with
 | false=>rfl
 | true=>exact absurd (Nat.eq_of_beq_eq_true e) h
structure Has (h:Q0) (H:Obs) (A B:Nat):Prop where
 get:∀i o,H i=some o->h.get i=some o
 dom:∀i o,H i=some o->i<A
 lo:A<=h.next
 hi:h.next<=B
 inf:h.inf=true
section
variable {h:Q0} {H:Obs} {A B:Nat}
theorem Has.newO (x:Has h H A B) (o:Q4):Has (h.newO o) H A (B+1):=by
 refine⟨λi p hp=>?_,x.dom,Nat.le_succ_of_le x.lo,Nat.succ_le_succ x.hi,x.inf⟩;have hd:=x.dom i p hp
 have:=x.lo
 rw[Q0.newO_get _ trivial,if_neg (by omega)];exact x.get i p hp
theorem Has.wide (x:Has h H A B) {B':Nat} (hb:B<=B'):Has h H A B':=⟨x.get,x.dom,x.lo,zM0 x.hi hb,x.inf⟩
theorem Has.var (x:Has h H A B) {i:Nat} {cs:List AV} (e:H i=some (.cells cs 0 false false)):Var h i cs:=⟨zE0 (x.dom i _ e) x.lo,x.get i _ e⟩
theorem qY4 {i:Nat}:∀(l:List (Nat × Q4)) (H:Obs),(∀x,x∈l->i≠x.1)->putB l H i=H i
 | [],_,_=>rfl
 | x::l,H,hl=>by show putB l _ i=_;rw[qY4 l _ λy hy=>hl y (zA0 _ hy),show Nat.beq i x.1=false from qY (hl x zB0)]
theorem ji:∀(l:List (Nat × Q4)) (h:Q0),(putH l h).next=h.next
 | [],_=>rfl
 | x::l,h=>(ji l (h.put x.1 (some x.2))).trans rfl
theorem qFa:∀(l:List Q4) (h:Q0),(newH l h).next=h.next+l.length
 | [],_=>rfl
 | o::l,h=>(qFa l (h.newO o)).trans (by show h.next+1+l.length=h.next+(l.length+1);omega)
theorem qV8:∀(l:List (Nat × Q4)) {h:Q0} {H:Obs},(∀i o,H i=some o->h.get i=some o)->∀i o,putB l H i=some o->(putH l h).get i=some o
 | [],_,_,hg=>hg
 | x::l,h,H,hg=>by
  refine qV8 l (h:=h.put x.1 (some x.2)) (H:=λi=>match Nat.beq i x.1 with | true=>some x.2 | false=>H i) λi o hi=>?_;rw[Q0.get_put _ trivial];by_cases e:i=x.1
  .rw[if_pos e];have hi':(match Nat.beq i x.1 with | true=>some x.2 | false=>H i)=some o:=hi;rw[beq_iff.2 e] at hi';exact hi'
  .rw[if_neg e];have hi':(match Nat.beq i x.1 with | true=>some x.2 | false=>H i)=some o:=hi;rw[qY e] at hi';exact hg i o hi'
theorem qWv:∀(l:List Q4) {h:Q0} {H:Obs} {a:Nat},h.next=a->(∀i o,H i=some o->h.get i=some o)->(∀i o,H i=some o->i<a) ->
  (∀i o,newB l a H i=some o->(newH l h).get i=some o)/\∀i o,newB l a H i=some o->i<a+l.length
 | [],_,_,_,_,hg,hd=>⟨hg,hd⟩
 | x::l,h,H,a,ha,hg,hd=>by
  have h1:∀i o,(match Nat.beq i a with | true=>some x | false=>H i)=some o->(h.newO x).get i=some o:=λi o hi=>by
   rw[Q0.newO_get _ trivial,ha];by_cases e:i=a
   .rw[beq_iff.2 e] at hi;rw[if_pos e];exact hi
   .rw[qY e] at hi;rw[if_neg e];exact hg i o hi
  have h2:∀i o,(match Nat.beq i a with | true=>some x | false=>H i)=some o->i<Nat.succ a:=λi o hi=>by
   by_cases e:i=a
   .omega
   .rw[qY e] at hi;exact Nat.lt_succ_of_lt (hd i o hi)
  obtain⟨a1,a2⟩:=qWv l (h:=h.newO x) (H:=λi=>match Nat.beq i a with | true=>some x | false=>H i) (a:=Nat.succ a) (by show h.next+1=_;rw[ha]) h1 h2;exact⟨a1,λi o hi=>by have:=a2 i o hi;simp only[zJ0];omega⟩
theorem qV9:∀(l:List (Nat × Q4)) {H:Obs} {a:Nat},jW l a=true->(∀i o,H i=some o->i<a)->∀i o,putB l H i=some o->i<a
 | [],_,_,_,hd=>hd
 | x::l,H,a,hk,hd=>by
  have hx:x.1<a:=Jr hk x zB0;refine qV9 l (H:=λi=>match Nat.beq i x.1 with | true=>some x.2 | false=>H i) ?_ λi o hi=>?_
  .have:cnd (ltb x.1 a) (jW l a) false=true:=hk
   rw[Qo.2 hx,Q6] at this;exact this
  .by_cases e:i=x.1
   .omega
   .have hi':(match Nat.beq i x.1 with | true=>some x.2 | false=>H i)=some o:=hi;rw[qY e] at hi';exact hd i o hi'
def rdB (l:List (Nat × Q4)) (H:Obs):List (Option Q4):=match l with | []=>[] | x::r=>H x.1::rdB r H
theorem jB5 {h:Q0} {H:Obs} (hg:∀i o,H i=some o->h.get i=some o):∀(l:List (Nat × Q4)),rdB l H=rdR l->rdL l h=rdR l
 | [],_=>rfl
 | x::l,e=>by
  have e1:H x.1::rdB l H=some x.2::rdR l:=e;injection e1 with e2 e3
  show h.get x.1::rdL l h=some x.2::rdR l;rw[hg _ _ e2,jB5 hg l e3]
theorem qVb {args:List ZV} {K:ZK} {h:Q0} {e:Ent} (h1:e.next=h.next) (h2:eqL qx e.args (avs args)=true) (h3:rdL e.rd h=rdR e.rd) (h4:jW e.wr h.next=true) (h5:h.next+e.new.length<=65536) (k:K (zOf e.v) (J3 e h)) :
  ∀(i:Nat) (tab:List Ent),tab[i]?=some e->(tab.take i).all (λx=>cnd (Nat.beq x.next e.next) (!eqL qx x.args e.args) true)=true->zRep tab args K h
 | 0,x::tab,he,_=>by
  cases he;exact Or.inl ⟨h1,qI4 h2,h3,h4,h5,k⟩
 | i+1,x::tab,he,hm=>by rw[List.take_succ_cons,List.all_cons,Bool.and_eq_true] at hm;refine Or.inr ⟨λhh=>?_,qVb h1 h2 h3 h4 h5 k i tab he hm.2⟩;have hm1:=hm.1;rw[hh.1,h1,beq_iff.2 rfl,Q6,hh.2,qI4 h2,jFa eqAV_self] at hm1;cases hm1
end
end Go.X
namespace Go.X
open Go Go.RowKit
section
variable {h:Q0} {H:Obs} {A B:Nat}
def WrE (e:Ent) (i:Nat):Prop:=∃x,x∈e.wr/\x.1=i
theorem qQ0 {i:Nat}:∀(l:List (Nat × Q4)) (h:Q0),(∀x,x∈l->x.1≠i)->(putH l h).get i=h.get i
 | [],_,_=>rfl
 | x::l,h,hl=>by show (putH l (h.put x.1 (some x.2))).get i=_;rw[qQ0 l _ λy hy=>hl y (zA0 _ hy),Q0.get_put _ trivial,if_neg λe=>hl x zB0 e.symm]
theorem qR1 {i:Nat}:∀(l:List Q4) (h:Q0),i<h.next->(newH l h).get i=h.get i
 | [],_,_=>rfl
 | o::l,h,hi=>by show (newH l (h.newO o)).get i=_;rw[qR1 l _ (Nat.lt_succ_of_lt hi),Q0.newO_get _ trivial,if_neg (Nat.ne_of_lt hi)]
theorem qZq {i:Nat}:∀(l:List Q4) (a:Nat) (H:Obs),i<a->newB l a H i=H i
 | [],_,_,_=>rfl
 | o::l,a,H,hi=>by show newB l (Nat.succ a) _ i=_;rw[qZq l _ _ (Nat.lt_succ_of_lt hi),qY (Nat.ne_of_lt hi)]
theorem qM {e:Ent} {H:Obs} {i:Nat} (hi:i<e.next) (hw:¬WrE e i):QN e H i=H i:=by unfold QN;rw[qZq _ _ _ hi,qY4 _ _ λx hx e2=>hw ⟨x,hx,e2.symm⟩]
def EntC (P:Program) (S:QC) (lf:Nat) (f:FuncId) (H:Obs) (A:Nat) (e:Ent) (args:List ZV):Prop :=
 ∀n h B K,Has h H A B->B<=e.next->(∀h',Has h' (QN e H) (e.next+e.new.length) (e.next+e.new.length)->Qv (WrE e) h h'->K (zOf e.v) h')->Qu P S lf (n+1) f args K h
theorem entC_of {P:Program} {S:QC} {lf:Nat} {f:FuncId} {args:List ZV} (i:Nat) (e:Ent) (tab:List Ent) {Nf:Nat->Nat} (hS:S f=alZ Nf (some (zRep tab))) (hN:∀x,A<=x->x<=e.next->Nf x=e.next)
  (hk:(ltb f P.funcs.size,tab[i]?,(tab.take i).all (λx=>cnd (Nat.beq x.next e.next) (!eqL qx x.args e.args) true),eqL qx e.args (avs args),rdB e.rd H,jW e.wr e.next,Nat.ble (e.next+e.new.length) 65536)=(true,some e,true,true,rdR e.rd,true,true)) :
  EntC P S lf f H A e args:=by
 intro n h B K x hB k;simp only[Prod.mk.injEq] at hk;obtain⟨k1,k2,k3,k4,k5,k6,k7⟩:=hk;have hN:=hN h.next x.lo (zM0 x.hi hB)
 have hle:h.next<=e.next:=zM0 x.hi hB
 have hg:∀i o,H i=some o->(qHo e.next h).get i=some o:=λi o hi=>by
  have:=x.dom i o hi;have:=x.lo
  rw[qE3,if_neg (by omega)];exact x.get i o hi
 have hd:∀i o,H i=some o->i<e.next:=λi o hi=>by
  have:=x.dom i o hi;have:=x.lo
  omega
 refine qEx k1 hS ?_;refine⟨zF0 (by rw[hN];exact hle),?_⟩;rw[hN];refine qVb (h:=qHo e.next h) rfl k4 (jB5 hg _ k5) k6 (zS0 k7) (k _ ?_ ?_) i tab k2 k3
 .obtain⟨n1,n2⟩:=qWv e.new (h:=putH e.wr (qHo e.next h)) (H:=putB e.wr H) (a:=e.next) (ji _ _) (qV8 _ hg) (qV9 _ k6 hd);refine⟨n1,n2,?_,?_,?_⟩
  .exact Nat.le_of_eq (qFa _ _ |>.trans (by rw[ji];rfl)).symm
  .exact Nat.le_of_eq (qFa _ _ |>.trans (by rw[ji];rfl))
  .exact (qKh e _).trans x.inf
 .refine⟨?_,λi hi hw=>?_⟩
  .show h.next<=(J3 e (qHo e.next h)).next
   unfold J3;rw[qFa,ji];show h.next<=e.next+_
   omega
  .show (J3 e (qHo e.next h)).get i=h.get i;unfold J3;rw[qR1 _ _ (by rw[ji];show i<e.next;omega),qQ0 _ _ λy hy e2=>hw ⟨y,hy,e2⟩,qE3,if_neg (by omega)]
theorem Has.put (x:Has h H A B) {v o:Nat} {vs:List AV} (hn:H v=Option.none):Has (hput h v o vs) H A B:=by
 refine⟨λi p hi=>?_,x.dom,?_,?_,?_⟩
 .have hne:i≠v:=λe=>by rw[e,hn] at hi;cases hi
  have f:=Qv.hput (S:=λj=>j=v) h o vs (i:=v) λ_=>rfl;have hl:i<h.next:=zE0 (x.dom i p hi) x.lo
  rw[f.same i hl hne];exact x.get i p hi
 .rw[qH7];exact x.lo
 .rw[qH7];exact x.hi
 .rw[qGy];exact x.inf
theorem Has.none_next (x:Has h H A B):H h.next=Option.none:=by
 cases e:H h.next with
 | none=>rfl
 | some o=>exact absurd (x.dom _ o e) (Nat.not_lt_of_le x.lo)
end
end Go.X
namespace Go.X
open Go Go.RowKit
def baseO (G g:Nat) (cs:List AV) (o1 o2:Option (List AV)):Obs:=λi=>match Nat.beq i g with
 | true=>some (.ro cs)
 | false=>match Nat.beq i G with
  | true=>some (roT o1)
  | false=>match Nat.beq i (Nat.succ G) with
   | true=>some (roT o2)
   | false=>none
def qHk (G g:Nat) (cs:List AV) (o1 o2:Option (List AV)):Q0:=((qN9 G g cs).newO (roT o1)).newO (roT o2)
theorem start_has {G g:Nat} {cs:List AV} {o1 o2:Option (List AV)} (hg:g<G) (ht:G<=top):Has (qHk G g cs o1 o2) (baseO G g cs o1 o2) (G+2) (G+2):=by
 have hs:∀i,(qN9 G g cs).get i=if i=g then some (.ro cs) else none:=λi=>(show (qN9 G g cs).get i=(jR G g cs).get i from rfl).trans (qNa (zE0 hg ht) i)
 have hn:(qN9 G g cs).next=G:=rfl
 have hget:∀i,(qHk G g cs o1 o2).get i=if i=G+1 then some (roT o2) else if i=G then some (roT o1) else if i=g then some (.ro cs) else none:=by intro i;show (((qN9 G g cs).newO (roT o1)).newO (roT o2)).get i=_;rw[Q0.newO_get _ trivial,Q0.newO_get _ trivial,hs];rfl
 refine⟨λi o hi=>?_,λi o hi=>?_,zL0 _,zL0 _,rfl⟩
 .rw[hget];unfold baseO at hi;by_cases e1:i=g
  .rw[beq_iff.2 e1] at hi;rw[if_neg (by omega),if_neg (by omega),if_pos e1];exact hi
  .rw[qY e1] at hi;by_cases e2:i=G
   .rw[beq_iff.2 e2] at hi;rw[if_neg (by omega),if_pos e2];exact hi
   .rw[qY e2] at hi;by_cases e3:i=G+1
    .rw[beq_iff.2 (show i=Nat.succ G from e3)] at hi;rw[if_pos e3];exact hi
    .rw[qY (show i≠Nat.succ G from e3)] at hi;cases hi
 .unfold baseO at hi;by_cases e1:i=g
  .omega
  .rw[qY e1] at hi;by_cases e2:i=G
   .omega
   .rw[qY e2] at hi;by_cases e3:i=G+1
    .omega
    .rw[qY (show i≠Nat.succ G from e3)] at hi;cases hi
def obsL (l:List (Nat × Q4)):Obs:=λi=>match l with
 | []=>none
 | x::r=>match Nat.beq i x.1 with | true=>some x.2 | false=>obsL r i
theorem QO {H:Obs}:∀{l:List (Nat × Q4)},rdB l H=rdR l->∀i o,obsL l i=some o->H i=some o
 | [],_,i,o,h=>by cases h
 | x::l,e,i,o,h=>by
  have e1:H x.1::rdB l H=some x.2::rdR l:=e;injection e1 with e2 e3
  have h1:(match Nat.beq i x.1 with | true=>some x.2 | false=>obsL l i)=some o:=h;by_cases hi:i=x.1
  .rw[beq_iff.2 hi] at h1;rw[hi,e2];exact h1
  .rw[qY hi] at h1;exact QO e3 i o h1
theorem QQ {A:Nat}:∀{l:List (Nat × Q4)},jW l A=true->∀i o,obsL l i=some o->i<A
 | [],_,i,o,h=>by cases h
 | x::l,hk,i,o,h=>by
  have hx:x.1<A:=Jr hk x zB0;have h1:(match Nat.beq i x.1 with | true=>some x.2 | false=>obsL l i)=some o:=h;by_cases hi:i=x.1
  .omega
  .rw[qY hi] at h1;have hk2:cnd (ltb x.1 A) (jW l A) false=true:=hk;rw[Qo.2 hx,Q6] at hk2;exact QQ hk2 i o h1
theorem wrE_gap {e:Ent} {lo hi:Nat} (h:e.wr.all (λx=>cnd (ltb x.1 lo) true (Nat.ble hi x.1))=true):∀i,lo<=i->i<hi->¬WrE e i:=by
 rintro i h1 h2 ⟨x,hx,rfl⟩
 have:=List.all_eq_true.1 h x hx
 cases hb:ltb x.1 lo with
 | true=>have:=Qo.1 hb;omega
 | false =>
  rw[hb,Q8] at this
  have:=zS0 this
  omega
theorem qM7 {e:Ent} {i:Nat} (h:e.wr.all (λx=>cnd (Nat.beq x.1 i) false true)=true):¬WrE e i:=by
 rintro ⟨x,hx,rfl⟩
 have:=List.all_eq_true.1 h x hx
 rw[Nat.beq_refl] at this;cases this
end Go.X
namespace Go.X
open Go Go.RowKit
def zAsI (hit:TypeId->TypeId->Nat) (args:List ZV) (K:ZK) (h:Q0):Prop :=
 ∃te tp n i o,avs args=[.iface te (.int .i64 n),.iface tp (.ptr i o)]/\hit te tp=3/\jFh h i (o+1)/\K (.bool true) (hput h i o [.int .i64 n])
def asZ (g:FuncId) (hit:TypeId->TypeId->Nat) (S:QC):QC:=λf=>match Nat.beq f g with | true=>some (zAsI hit) | false=>S f
theorem qQq {S:QC} {sums:qm} (hs:jH S sums) (g:FuncId) (hit:TypeId->TypeId->Nat):jH (asZ g hit S) (asX g hit sums):=by
 constructor
 .intro f hf;have hf1:asZ g hit S f=none:=hf;unfold asZ at hf1;unfold asX;cases hfg:Nat.beq f g with
  | false=>rw[hfg] at hf1;exact hs.none f hf1
  | true=>rw[hfg] at hf1;cases hf1
 .intro f s hf;have hf1:asZ g hit S f=some s:=hf;unfold asZ at hf1;unfold asX;cases hfg:Nat.beq f g with
  | false=>rw[hfg] at hf1;exact hs.some f s hf1
  | true =>
   rw[hfg] at hf1;cases hf1;refine⟨_,rfl,λargs K h hi hz kp k p hk=>?_⟩;obtain⟨te,tp,n,i,o,e,h3,hc,hK⟩:=hz;show (asM hit (avs args) k).sat p h;rw[e];have e2:asM hit [.iface te (.int .i64 n),.iface tp (.ptr i o)] k=qGs i o [.int .i64 n] (k (.bool true)):=by show (match IntKind.i64,hit te tp with | .i64,3=>qGs i o [.int .i64 n] (k (.bool true)) | .i64,2=>k (.bool false) | _,_=>.fail 171)=_;rw[h3];rfl
   rw[e2];refine qLl (by rfl) hc ?_
   have:=hk (.bool true) _ (by rw[qGy];exact hi) hK
   rwa [qBr] at this
end Go.X
namespace Go.X
open Go Go.RowKit
def qHe (tab:List Ent) (N:Nat->Nat) (a:Nat) (args:List AV):Bool:=tab.any λe=>cnd (Nat.beq e.next (N a)) (eqL qx e.args args) false
def orX (P:Program) (g:FuncId) (c:Nat->List AV->Bool) (sums0:qm) (lf n:Nat) (A:qm):qm:=λf=>match Nat.beq f g with
 | true=>match A g with
  | some a=>some λargs k kp=>.here λx=>cnd (c x args) (a args k kp) ((xCR P Qp sums0 lf n).call g args k kp)
  | none=>none
 | false=>A f
def orZ (P:Program) (g:FuncId) (c:Nat->List AV->Bool) (S0:QC) (lf n:Nat) (A:QC):QC:=λf=>match Nat.beq f g with
 | true=>match A g with
  | some a=>some λargs K h=>@cnd Prop (c h.next (avs args)) (a args K h) (Qu P S0 lf n g args K h)
  | none=>none
 | false=>A f
section
variable {P:Program} {W0:World}
theorem Q7.or {sums sums0:qm} (hs:Q7 P W0 sums) (hs0:Q7 P W0 sums0) (hmo:P.follows .mixedOrders=true) (g:FuncId) (c:Nat->List AV->Bool) (lf n:Nat):Q7 P W0 (orX P g c sums0 lf n sums):=by
 intro f s hf args k kp p E h w vs hb hsat r hv;unfold orX at hf;cases hfg:Nat.beq f g with
 | false=>rw[hfg] at hf;exact hs f s hf args k kp p E h w vs hb hsat r hv
 | true =>
  rw[hfg] at hf;have e:=Nat.eq_of_beq_eq_true hfg;subst e;cases ha:sums f with
  | none=>rw[ha] at hf;cases hf
  | some a =>
   rw[ha] at hf;cases hf;have h1:(cnd (c h.next args) (a args k kp) ((xCR P Qp sums0 lf n).call f args k kp)).sat p h:=hsat;cases hc:c h.next args with
   | true=>rw[hc,Q6] at h1;exact hs f a ha args k kp p E h w vs hb h1 r hv
   | false=>rw[hc,Q8] at h1;exact (qKx hs0 (.inr λ_=>Nat.zero_le _) hmo n).1 f args k kp p E h w vs hb h1 r hv
theorem qQp {S S0:QC} {sums sums0:qm} (hs:jH S sums) (hs0:jH S0 sums0) {g:FuncId} (hb:ltb g P.funcs.size=true) (c:Nat->List AV->Bool) (lf n:Nat):jH (orZ P g c S0 lf n S) (orX P g c sums0 lf n sums):=by
 constructor
 .intro f hf;unfold orZ at hf;unfold orX;cases hfg:Nat.beq f g with
  | false=>rw[hfg] at hf;exact hs.none f hf
  | true =>
   rw[hfg] at hf;cases ha:S g with
   | none=>show (match sums g with | some a=>_ | none=>_)=_;rw[hs.none g ha]
   | some a=>rw[ha] at hf;cases hf
 .intro f s hf;unfold orZ at hf;cases hfg:Nat.beq f g with
  | false =>
   rw[hfg] at hf;obtain⟨x,hx,hx2⟩:=hs.some f s hf;exact⟨x,by unfold orX;rw[hfg];exact hx,hx2⟩
  | true =>
   rw[hfg] at hf;cases ha:S g with
   | none=>rw[ha] at hf;cases hf
   | some a =>
    rw[ha] at hf;cases hf;obtain⟨x,hx,hx2⟩:=hs.some g a ha;refine⟨λargs k kp=>.here λy=>cnd (c y args) (x args k kp) ((xCR P Qp sums0 lf n).call g args k kp),by unfold orX;rw[hfg];show (match sums g with | some a=>_ | none=>_)=_;rw[hx],?_⟩;intro args K h hi hz kp k p hp;have hz1:@cnd Prop (c h.next (avs args)) (a args K h) (Qu P S0 lf n g args K h):=hz;show (cnd (c h.next (avs args)) (x (avs args) k kp) ((xCR P Qp sums0 lf n).call g (avs args) k kp)).sat p h;cases hc:c h.next (avs args) with
    | true =>
     rw[hc] at hz1;rw[Q6];exact hx2 args K h hi hz1 kp k p hp
    | false =>rw[hc] at hz1;rw[Q8];exact (qEy (P:=P) hs0 (lf:=lf) n).call g args K h (Qo.1 hb) hi hz1 kp k p hp
end
section
variable {h:Q0} {H:Obs} {A B:Nat}
theorem entC_of2 {P:Program} {S:QC} {lf:Nat} {f:FuncId} {args:List ZV} (i:Nat) (e:Ent) (tab:List Ent) {Nf:Nat->Nat} {a:List ZV->ZK->Q0->Prop} (hS:S f=some a) (ha:∀K h,A<=h.next->h.next<=e.next->Nat.ble h.next (Nf h.next)=true->zRep tab args K (qHo (Nf h.next) h)->a args K h) (hN:∀x,A<=x->x<=e.next->Nf x=e.next)
  (hk:(ltb f P.funcs.size,tab[i]?,(tab.take i).all (λx=>cnd (Nat.beq x.next e.next) (!eqL qx x.args e.args) true),eqL qx e.args (avs args),rdB e.rd H,jW e.wr e.next,Nat.ble (e.next+e.new.length) 65536)=(true,some e,true,true,rdR e.rd,true,true)) :
  EntC P S lf f H A e args:=by
 intro n h B K x hB k;simp only[Prod.mk.injEq] at hk;obtain⟨k1,k2,k3,k4,k5,k6,k7⟩:=hk;have hN:=hN h.next x.lo (zM0 x.hi hB)
 have hle:h.next<=e.next:=zM0 x.hi hB
 have hg:∀i o,H i=some o->(qHo e.next h).get i=some o:=λi o hi=>by
  have:=x.dom i o hi;have:=x.lo
  rw[qE3,if_neg (by omega)];exact x.get i o hi
 have hd:∀i o,H i=some o->i<e.next:=λi o hi=>by
  have:=x.dom i o hi;have:=x.lo
  omega
 refine qEx k1 hS (ha K h x.lo (zM0 x.hi hB) (zF0 (by rw[hN];exact hle)) ?_);rw[hN];refine qVb (h:=qHo e.next h) rfl k4 (jB5 hg _ k5) k6 (zS0 k7) (k _ ?_ ?_) i tab k2 k3
 .obtain⟨n1,n2⟩:=qWv e.new (h:=putH e.wr (qHo e.next h)) (H:=putB e.wr H) (a:=e.next) (ji _ _) (qV8 _ hg) (qV9 _ k6 hd);refine⟨n1,n2,?_,?_,?_⟩
  .exact Nat.le_of_eq (qFa _ _ |>.trans (by rw[ji];rfl)).symm
  .exact Nat.le_of_eq (qFa _ _ |>.trans (by rw[ji];rfl))
  .exact (qKh e _).trans x.inf
 .refine⟨?_,λi hi hw=>?_⟩
  .show h.next<=(J3 e (qHo e.next h)).next
   unfold J3;rw[qFa,ji];show h.next<=e.next+_
   omega
  .show (J3 e (qHo e.next h)).get i=h.get i;unfold J3;rw[qR1 _ _ (by rw[ji];show i<e.next;omega),qQ0 _ _ λy hy e2=>hw ⟨y,hy,e2⟩,qE3,if_neg (by omega)]
end
end Go.X
open Go Go.X in
def Go.X.dr (d:Nat->ZV) (i n:Nat) (r:List ZV):List ZV:=Nat.rec (motive:=λ_=>Nat->List ZV) (λ_=>r) (λ_ ih i=>d i::ih (i+1)) n i
open Go Go.X in
def Go.X.du (n:Nat) (r:List ZV):List ZV:=Nat.rec (motive:=λ_=>List ZV) r (λ_ ih=>.tup []::ih) n
open Go Go.X in
abbrev Go.X.Yq (A:Prop):Prop:=Ql (false=false) A
open Go Go.X in
abbrev Go.X.Kt:=ZT->Q0->Prop
