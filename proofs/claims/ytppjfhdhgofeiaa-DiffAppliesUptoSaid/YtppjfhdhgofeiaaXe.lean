/-
 PROVED: regions,code,loops,rounds,deferred calls and calls are sound;a closed law that runs to true over abstract values returns true. Condition: the program follows 'mixedOrders'.
-/
import Derived.Test.YtppjfhdhgofeiaaXd
import Derived.Orders
import Derived.OrdersIn
import Derived.LoopNIn
import Derived.RangeFuncIn
set_option linter.unusedVariables false
set_option linter.unusedSimpArgs false
open List renaming mem_cons_of_mem -> zA0, mem_cons_self -> zB0, mem_of_getElem? -> zD0, mem_append_right -> zI0, length_cons -> zK0, mem_cons -> zL0, not_mem_nil -> zM0, append_assoc -> zX0
open Nat renaming lt_of_lt_of_le -> zF0, le_refl -> zN0, le_trans -> zP0, zero_le -> zA1, le_of_ble_eq_true -> zB1
noncomputable section
namespace Go.X
open Go Go.RowKit
theorem getD_set (a:Array Value) (s r:Nat) (v:Value) (hs:s<a.size):(a.setIfInBounds s v).getD r undef=if r=s then v else a.getD r undef:=by
 simp only[Array.getD_eq_getD_getElem?,Array.getElem?_setIfInBounds];by_cases h:s=r
 .subst h;simp[hs]
 .rw[if_neg h,if_neg (λe=>h e.symm)]
section
variable {E:Env} {N:Nat}
theorem qU.put {t:TT} {a:Array Value} (h:qU E N t a) {s:Nat} (hs:s<N) {av:AV} {v:Value} (hv:VR E av v):qU E N (TT.put s av t) (a.setIfInBounds s v):=by
 have hle:=h.le;refine⟨by rw[Array.size_setIfInBounds];exact h.size,h.le,λr hr=>?_⟩;rw[TT.at_put (by omega) hr,getD_set _ _ _ _ (by rw[h.size];exact hs)];by_cases e:r=s
 .rw[if_pos e,if_pos e];exact hv
 .rw[if_neg e,if_neg e];exact h.at' r hr
structure StR (E:Env) (N:Nat) (st:St) (a:Act):Prop where
 tmps:qU E N st.tmps a.tmps
 defers:DRs E st.defers a.defers
theorem StR.mono {E E':Env} (le:E.Le E') {st:St} {a:Act} (h:StR E N st a):StR E' N st a:=⟨h.tmps.mono le,h.defers.mono le⟩
theorem qFd {dst:Option Tmp} {av:AV} {st:St} {k:St->FM} {p:QQ} {h:Q0} (hs:(putDst N dst av st k).sat p h) {a:Act} (hst:StR E N st a) {v:Value} (hv:VR E av v) :
  ∃st',StR E N st' (a.put dst v)/\(k st').sat p h:=by
 cases dst with
 | none=>exact⟨st,hst,hs⟩
 | some s =>obtain⟨hlt,hs2⟩:=Qp (m:=TT.putK s av st.tmps λt=>k ⟨t,st.defers,st.u⟩) hs;rw[TT.putK_eq] at hs2;exact⟨⟨TT.put s av st.tmps,st.defers,st.u⟩,⟨hst.tmps.put (Qw.1 hlt) hv,hst.defers⟩,hs2⟩
theorem getD_some {a:Array Value} {s:Nat} {v:Value} (h:a.getD s undef=v) (hv:v≠undef):a[s]?=some v:=by
 rw[Array.getD_eq_getD_getElem?] at h;cases ha:a[s]? with
 | none=>rw[ha] at h;exact absurd h.symm hv
 | some u=>rw[ha] at h;simp at h;rw[h]
theorem qIa {ops:Array Oper} {t:TT} {a:Array Value} (ht:qU E N t a) {o:Oper} {k:Bool->FM} {p:QQ} {h:Q0} (hs:(je ops t o k).sat p h):(k (Region.wanted o (yielded ops a))).sat p h:=by
 have hs1:(Option.rec (motive:=λ_=>FM) (k true) (λg=>Option.rec (motive:=λ_=>FM) (k false) (λs=>cnd (ltb s 4096) (qLr g.2 (TT.at s t) k) (.fail 159)) g.1) (guardOf ops o)).sat p h:=hs;unfold guardOf at hs1;unfold Region.wanted;cases hg:o.guard with
 | none=>rw[hg] at hs1;exact hs1
 | some jw =>
  obtain⟨j,want⟩:=jw;rw[hg] at hs1;simp only at hs1 ⊢;cases ho:ops[j]? with
  | none =>
   rw[ho] at hs1
   have:yielded ops a j=none:=by simp[yielded,ho]
   rw[this];exact hs1
  | some x =>
   rw[ho] at hs1;simp only at hs1;cases hd:x.dst with
   | none =>
    rw[hd] at hs1
    have:yielded ops a j=none:=by simp[yielded,ho,hd]
    rw[this];exact hs1
   | some s =>
    rw[hd] at hs1;obtain⟨hlt,hs2⟩:=Qp hs1;have hv:=ht.at' s (Qw.1 hlt);generalize t.at s=av at hv hs2;generalize hgd:a.getD s undef=v at hv;cases hv with
    | bool b =>
     have hget:=getD_some hgd (by simp[undef])
     have:yielded ops a j=some b:=by simp[yielded,ho,hd,hget]
     rw[this];have hs3:(k (cnd b want (cnd want false true))).sat p h:=hs2
     have:(some b == some want)=cnd b want (cnd want false true):=by cases b <;> cases want <;> rfl
     rw[this];exact hs3
    | tuple cs x hx =>
     have:yielded ops a j=none:=by
      unfold yielded;rw[ho];simp only[Option.bind_some,hd];rw[Array.getD_eq_getD_getElem?] at hgd;cases hq:a[s]? with
      | none=>rfl
      | some u=>rw[hq] at hgd;simp at hgd;subst hgd;rfl
     rw[this];exact hs2
    | _=>exact False.elim hs2
end
section
variable (P:Program) (W0:World)
def FW (ro:Option Nat):Fence:={ Fence.wide with round:=ro }
def qGb (E:Env) (h:Q0) (k:KV) (kp:QR->FM) (p:QQ):Ending->World->Prop
 | .returned v,w'=>∃E' h' av,Stp E h E' h'/\Rel P W0 E' h' w'/\VR E' av v/\(k av).sat p h'
 | .panicked chain,w'=>∃E' h' ach,Stp E h E' h'/\Rel P W0 E' h' w'/\ChR E' ach chain/\(kp ach).sat p h'
 | .outgrown,_=>False
def QU (call:Qz):Prop:=∀f args (k:KV) (kp:QR->FM) p E h w vs,qC P f=true->(call f args k kp).sat p h->Rel P W0 E h w->VRs E args (Array.toList vs)->Calls P f vs w (qGb P W0 E h k kp p)
def qt (round:Qv):Prop:=qFm round/\∀i args (k:KV) p E h w (vs:Array Value) l r,(round i args k).sat p h->Rel P W0 E h w->E.blk i=some l->VRs E args vs.toList->w.heap[l]?=some (.loop r)->vs.size=r.params.size ->
 ∀n,RoundIn (FW none) n P l r.fn ((r.params.zip vs).foldl (λtmps (t,a)=>tmps.setIfInBounds t a) r.tmps) r.assign r.body w (qGb P W0 E h k (λ_=>.fail 0) p)
inductive ExR (E:Env):QY->Exit->Prop
 | normal:ExR E .normal .normal
 | exit (i:Nat):ExR E (.exit i) (.exit i)
 | goto (l:Nat):ExR E (.goto l) (.goto l)
 | ret:ExR E .ret .ret
 | panic (c:QR) (d:List PanicEntry) (h:ChR E c d):ExR E (.panic c) (.panic d)
def QP (E0:Env) (h0:Q0) (N:Nat) (kk:KC) (p:QQ) (e:Exit) (a:Act) (w:World):Prop :=
 ∃E' h' xe st',Stp E0 h0 E' h'/\Rel P W0 E' h' w/\StR E' N st' a/\ExR E' xe e/\(kk xe st').sat p h'
end
section
variable {P:Program} {W0:World} {E E0:Env} {h h0:Q0} {p:QQ} {w:World} {k:KV} {call:Qz} {round:Qv} {N:Nat} {ro:Option Nat} {n:Nat} {kk:KC}
theorem qKy {f:FuncId} {args:Array Value} {R:Ending->World->Prop}:CallsIn (FW ro) n P f args w R↔Calls P f args w R:=by show CallsIn Fence.wide n P f args w R↔_;exact callsIn_wide
theorem qZ0 {l:Nat} {f:FuncId} {tmps:Array Value} {assign body:Code} {R:Ending->World->Prop}:RoundIn (FW ro) n P l f tmps assign body w R↔RoundIn (FW none) n P l f tmps assign body w R:=Iff.rfl
theorem QP.step {E1:Env} {h1:Q0} (s:Stp E0 h0 E1 h1) {e:Exit} {a:Act} {w:World} (q:QP P W0 E1 h1 N kk p e a w):QP P W0 E0 h0 N kk p e a w:=by obtain⟨E',h',xe,st',a1,a2,a3,a4,a5⟩:=q;exact⟨E',h',xe,st',s.trans a1,a2,a3,a4,a5⟩
theorem StR.put {st:St} {a:Act} (hst:StR E N st a) {d:Deferred} {ad:QT} (hd:DR E ad d):StR E N ⟨st.tmps,ad::st.defers,st.u⟩ { a with defers:=d::a.defers }:=⟨hst.tmps,.cons _ _ _ _ hd hst.defers⟩
theorem qQ7 (hc:QU P W0 call) (hr:qt P W0 round) {o:Oper} {a:Act} {k:KV} {kd:QT->FM} {kp:QR->FM} {K:Act->World->Prop} {Q:Exit->Act->World->Prop}
  (back:∀E' h' w' av v,Stp E h E' h'->Rel P W0 E' h' w'->VR E' av v->(k av).sat p h'->K (a.put o.dst v) w')
  (skp:∀E' h' w',Stp E h E' h'->Rel P W0 E' h' w'->(k (.tuple [])).sat p h'->K (a.put o.dst undef) w')
  (dfr:∀E' h' w' ad d,Stp E h E' h'->Rel P W0 E' h' w'->DR E' ad d->(kd ad).sat p h'->K ({ a with defers:=d::a.defers }.put o.dst undef) w')
  (pan:∀E' h' w' ach chain,Stp E h E' h'->Rel P W0 E' h' w'->ChR E' ach chain->(kp ach).sat p h'->Q (.panic chain) a w')
  {res:Result Next} (hu:Upon P W0 E h k kd kp call round p res):o.uponIn (FW ro) n P a K Q res:=by
 have hnd:(FW ro).depth.isSome=true->1<=n:=λh=>by cases h
 cases res with
 | ok nx w' =>
  cases nx with
  | value v =>
   obtain⟨E',h',av,s,r,hv,hs⟩:=hu;exact back _ _ _ _ _ s r hv hs
  | skip =>
   obtain⟨E',h',s,r,hs⟩:=hu;exact skp _ _ _ s r hs
  | defer d =>
   obtain⟨E',h',ad,s,r,hd,hs⟩:=hu;exact dfr _ _ _ _ _ s r hd hs
  | enter f args =>
   obtain⟨E',h',as,s,r,hv,hb,hs⟩:=hu;refine⟨hnd,qKy.2 ((hc f as _ _ p E' h' w' args hb hs r hv).mono λe w'' he=>?_)⟩;cases e with
   | returned v =>
    obtain⟨E2,h2,av,s2,r2,hv2,hs2⟩:=he;exact back _ _ _ _ _ (s.trans s2) r2 hv2 hs2
   | panicked chain =>
    obtain⟨E2,h2,ach,s2,r2,hv2,hs2⟩:=he;exact pan _ _ _ _ _ (s.trans s2) r2 hv2 hs2
   | outgrown=>exact he.elim
  | round l f tmps assign body =>
   obtain⟨E',h',i,as,args,lp,rr,s,r,hi,hv,hg,hw,hsz,e1,e2,e3,e4,hs⟩:=hu;subst e1;subst e2;subst e3;subst e4;refine⟨hnd,qZ0.2 ((hr.2 i as _ p E' h' w' args l rr hs r hi hv hw hsz (n-1)).mono λe w'' he=>?_)⟩;cases e with
   | returned v =>
    obtain⟨E2,h2,av,s2,r2,hv2,hs2⟩:=he;exact back _ _ _ _ _ (s.trans s2) r2 hv2 hs2
   | panicked chain =>
    obtain⟨E2,h2,ach,s2,r2,hv2,hs2⟩:=he;exact hs2.elim
   | outgrown=>exact he.elim
  | _=>exact hu.elim
 | halt hh w' =>
  cases hh with
  | panic v =>
   obtain⟨E',h',ach,s,r,hc2,hs⟩:=hu;exact pan _ _ _ _ _ s r hc2 hs
  | _=>exact hu.elim
theorem qRx (r:Rel P W0 E h w) (hfit:qFm round) {c:OC} (hcr:c.round=round) {ρ:Operand->Value} (hev:∀x,VR E (c.ev x) (ρ x)) {o:Oper} {k:KV} {kd:QT->FM} {kp:QR->FM} (hkd:∀ad g,¬(kd ad).sat p g)
  (hs3:(opK P o.op c k kd kp).sat p h):∀cl,o.op≠.defer cl:=by
 intro cl hcl;subst hcr;have hu:=qJq (o:=o) r hfit hev hs3;have hrun:(execOp ρ o).run P w=((resolve ρ cl o.type).run P w).andThen λd w'=>.ok (.defer d) w':=by simp[execOp,hcl]
 rw[hrun] at hu;cases hres:(resolve ρ cl o.type).run P w with
 | ok d w' =>
  rw[hres] at hu;obtain⟨_,_,_,_,_,_,hf⟩:=hu;exact hkd _ _ hf
 | halt hh w' =>
  rw[hcl] at hs3;have h5:=qLf (call:=c.call) (round:=c.round) (ty:=o.type) (kp:=kp) (k:=k) r hev (show (qYo cl c k kd kp).sat p h from hs3);have e5:(do pure (.defer (<- resolve ρ cl o.type)):Sem Next).run P w=.halt hh w':=by simp[hres]
  rw[e5] at h5;cases hh with
  | panic v =>
   exfalso;unfold resolve at hres;cases hcal:cl.callee with
   | value f =>
    rw[hcal] at hres;simp only[Deferred.ofValue] at hres;cases hfe:ρ f <;> rw[hfe] at hres <;> simp at hres
   | invoke a b=>rw[hcal] at hres;simp at hres
   | builtin b=>rw[hcal] at hres;simp at hres
  | _=>exact h5.elim
theorem sem_eq (r:Rel P W0 E h w) (hfit:qFm round) {c:OC} (hcr:c.round=round) {ρ:Operand->Value} (hev:∀x,VR E (c.ev x) (ρ x)) {o:Oper} {k:KV} {kd:QT->FM} {kp:QR->FM} (hkd:ro=none∨∀ad g,¬(kd ad).sat p g)
  (hs3:(opK P o.op c k kd kp).sat p h):o.semAt (FW ro).round ρ=execOp ρ o:=by
 rcases hkd with hro | hkd
 .subst hro;rfl
 .exact Oper.semAt_eq _ _ _ (qRx r hfit hcr hev hkd hs3)
theorem qOa (r:Rel P W0 E h w) {t:TT} {a:Act} (ht:qU E N t a.tmps) (x:Operand):VR E (qOb P.globals.size t x) (a.eval x):=by
 cases x with
 | tmp s =>
  show VR E (cnd (ltb s 4096) (TT.at s t) .junk) _;cases hb:ltb s 4096
  .exact .junk _
  .exact ht.at' s (Qw.1 hb)
 | const v=>exact jW E v
 | global g =>
  show VR E (cnd (ltb g P.globals.size) (.ptr g Nat.zero) .junk) _;cases hb:ltb g P.globals.size
  .exact .junk _
  .obtain⟨h1,h2⟩:=r.glob g (Qw.1 hb);exact .ptr _ _ _ _ h1 (by rw[h2])
 | func f=>exact .func _ _ _ _ _ _ (.plain _) .nil .nil
theorem qKb (hc:QU P W0 call) (hr:qt P W0 round) {dok:Bool} (hdok:dok=true->ro=none) {ops:Array Oper}:∀(l:List Oper) (i:Nat),ops.toList.drop i=l->∀(st:St) (a:Act) (E:Env) (h:Q0) (w:World),
  (xOps P call round N dok ops l st (λst'=>kk .normal st') (λst' ch=>kk (.panic ch) st')).sat p h->Rel P W0 E h w->StR E N st a->Stp E0 h0 E h ->
  wpOpsIn (FW ro) n P ops (QP P W0 E0 h0 N kk p) (List.range' i l.length) a w
 | [],i,_,st,a,E,h,w,hs,r,hst,s0=>⟨E,h,.normal,st,s0,r,hst,.normal,hs⟩
 | o::l,i,hl,st,a,E,h,w,hs,r,hst,s0=>by
  have hget:ops[i]?=some o:=by
   rw[<- Array.getElem?_toList]
   have:(ops.toList.drop i)[0]?=some o:=by rw[hl];rfl
   rw[List.getElem?_drop] at this;simpa using this
  have hl2:ops.toList.drop (i+1)=l:=by
   have:(ops.toList.drop i).drop 1=l:=by rw[hl];rfl
   rw[List.drop_drop] at this;exact this
  have next:=λst' a' E' h' w' hs' r' hst' s'=>qKb hc hr hdok l (i+1) hl2 st' a' E' h' w' hs' r' hst' s'
  have hs1:(je ops st.tmps o λb=>cnd b
   (opK P o.op ⟨call,round,st.tmps,P.globals.size⟩ (λv=>putDst N o.dst v st λst'=>xOps P call round N dok ops l st' (λst'=>kk .normal st') (λst' ch=>kk (.panic ch) st'))
    (λd=>cnd dok (putDst N o.dst (.tuple []) ⟨st.tmps,d::st.defers,st.u⟩ λst'=>xOps P call round N dok ops l st' (λst'=>kk .normal st') (λst' ch=>kk (.panic ch) st')) (.fail 157)) (λch=>kk (.panic ch) st))
   (putDst N o.dst (.tuple []) st λst'=>xOps P call round N dok ops l st' (λst'=>kk .normal st') (λst' ch=>kk (.panic ch) st'))).sat p h:=hs
  have hs2:=qIa hst.tmps hs1;rw[zK0,List.range'_succ];simp only[wpOpsIn,hget];rcases QA hs2 with ⟨hw,hs3⟩ | ⟨hw,hs3⟩
  .rw[if_pos hw];refine⟨λf _=>trivial,?_⟩;have hev:∀x,VR E ((⟨call,round,st.tmps,P.globals.size⟩:OC).ev x) (a.eval x):=λx=>qOa r hst.tmps x;have hu:=qJq (o:=o) r hr.1 hev hs3;rw[sem_eq (ro:=ro) r hr.1 (c:=⟨call,round,st.tmps,P.globals.size⟩) rfl hev (by
    cases hd:dok with
    | true=>exact .inl (hdok hd)
    | false=>exact .inr λad g hf=>hf) hs3]
   refine qQ7 hc hr (λE' h' w' av v s r' hv hs=>?_) (λE' h' w' s r' hs=>?_) (λE' h' w' ad d s r' hd hs=>?_) (λE' h' w' ach chain s r' hch hs=>?_) hu
   .obtain⟨st',h1,h2⟩:=qFd hs (hst.mono s.le) hv;exact next _ _ _ _ _ h2 r' h1 (s0.trans s)
   .obtain⟨st',h1,h2⟩:=qFd hs (hst.mono s.le) (v:=undef) (.tuple _ _ .nil);exact next _ _ _ _ _ h2 r' h1 (s0.trans s)
   .obtain⟨_,hs2⟩:=Qp hs;obtain⟨st',h1,h2⟩:=qFd hs2 (a:={ a with defers:=d::a.defers }) ((hst.mono s.le).put hd) (v:=undef) (.tuple _ _ .nil);exact next _ _ _ _ _ h2 r' h1 (s0.trans s)
   .exact⟨E',h',.panic ach,st,s0.trans s,r',hst.mono s.le,.panic _ _ hch,hs⟩
  .rw[hw];simp only[Bool.false_eq_true,if_false];refine⟨λf _=>trivial,?_⟩;obtain⟨st',h1,h2⟩:=qFd hs3 hst (v:=undef) (.tuple _ _ .nil);exact next _ _ _ _ _ h2 r h1 s0
end
end Go.X
namespace Go.X
open Go Go.RowKit
theorem qVh {α:Type} {p q:α->Bool}:∀{l:List α} {x:α},(∀y∈l,q y=true->p y=true)->x∈l->p x=true->q x=false->l.countP q<l.countP p
 | [],_,_,hx,_,_=>absurd hx zM0
 | a::l,x,h,hx,hp,hq=>by
  have hle:l.countP q<=l.countP p:=List.countP_mono_left λy hy=>h y (zA0 _ hy);rw[List.countP_cons,List.countP_cons];rcases List.mem_cons.1 hx with e | e
  .subst e;rw[hp,hq];simp only[Bool.false_eq_true,if_false,if_true];omega
  .have:=qVh (λy hy=>h y (zA0 _ hy)) e hp hq
   by_cases hqa:q a=true
   .rw[if_pos hqa,if_pos (h a zB0 hqa)];omega
   .rw[if_neg hqa];by_cases hpa:p a=true
    .rw[if_pos hpa];omega
    .rw[if_neg hpa];omega
section
variable {ops:Array Oper} {md:Region.Mode} {ord:Nat->Nat->Bool}
structure EdgesOk (md:Region.Mode) (ops:Array Oper) (ord:Nat->Nat->Bool):Prop where
 lt:∀i o,ops[i]?=some o->∀e∈o.after,Region.binds md e=true->e.on<i
 ord:∀i o,ops[i]?=some o->∀j,j<ops.size->ord j i=true->∃e∈o.after,Region.binds md e=true/\(j=e.on∨ord j e.on=true)
structure GoOk (ops:Array Oper) (ord:Nat->Nat->Bool) (listed:Array Bool) (l:List Nat):Prop where
 nodup:l.Nodup
 mem:∀i,i∈l↔i<ops.size/\listed.getD i true=false
 ord:∀a i b,l=a++i::b->∀j,j<ops.size->ord j i=true->j∈a∨listed.getD j false=true
theorem qG4 {listed:Array Bool} {j:Nat} (hj:j<listed.size) (d d':Bool):listed.getD j d=listed.getD j d':=by simp[hj]
theorem go_ok (ek:EdgesOk md ops ord):∀(fuel t:Nat) (listed:Array Bool),listed.size=ops.size->(List.range ops.size).countP (λi=>!listed.getD i true)<=fuel ->
  (∀i,i<ops.size->listed.getD i true=true->∀j,j<ops.size->ord j i=true->listed.getD j true=true)->GoOk ops ord listed (Region.linearise.go md ops fuel t listed []):=by
 have stuck:∀listed:Array Bool,listed.size=ops.size->Region.ready md ops listed=[]->∀i,i<ops.size->listed.getD i true=true:=by
  intro listed hsz hr i
  induction i using Nat.strongRecOn with
  | _ i ih =>
   intro hi;cases hl:listed.getD i true with
   | true=>rfl
   | false =>
    exfalso;have hm:i∈Region.ready md ops listed:=mem_ready.2 ⟨hl,ops[i],by simp[hi],λe he hb=>by
     have hlt:=ek.lt i ops[i] (by simp[hi]) e he hb;rw[qG4 (by omega) false true];exact ih e.on hlt (by omega)⟩
    rw[hr] at hm;exact absurd hm zM0
 have done:∀listed:Array Bool,(∀i,i<ops.size->listed.getD i true=true)->GoOk ops ord listed []:=λlisted h =>
  ⟨List.nodup_nil,λi=>⟨λhm=>absurd hm zM0,λ⟨h1,h2⟩=>by rw[h i h1] at h2;cases h2⟩,λa i b e=>by simp at e⟩
 intro fuel
 induction fuel with
 | zero =>
  intro t listed hsz hc _;refine done listed λi hi=>?_;have h0:(List.range ops.size).countP (λi=>!listed.getD i true)=0:=by omega
  have:=List.countP_eq_zero.1 h0 i (List.mem_range.2 hi)
  simpa using this
 | succ fuel ih =>
  intro t listed hsz hc hd;simp only[Region.linearise.go]
  change GoOk ops ord listed (match (Region.ready md ops listed)[t % (Region.ready md ops listed).length]? with
   | some i=>Region.linearise.go md ops fuel (t / (Region.ready md ops listed).length) (listed.setIfInBounds i true) [i]
   | none=>[].reverse)
  cases hi:(Region.ready md ops listed)[t % (Region.ready md ops listed).length]? with
  | none =>
   have hnil:Region.ready md ops listed=[]:=by
    cases hr:Region.ready md ops listed with
    | nil=>rfl
    | cons x xs =>rw[hr] at hi;have hlt:t % (x::xs).length<(x::xs).length:=Nat.mod_lt _ (by simp);simp at hi;simp at hlt;omega
   exact done listed (stuck listed hsz hnil)
  | some i =>
   simp only[];rw[linearise_go_acc,List.reverse_singleton,List.singleton_append];obtain⟨hl,o,ho,hall⟩:=mem_ready.1 (zD0 hi);have hin:i<ops.size:=(Array.getElem?_eq_some_iff.1 ho).1;have hset:∀j d,(listed.setIfInBounds i true).getD j d=if j=i then true else listed.getD j d:=by
    intro j d;by_cases e:j=i
    .subst e;rw[if_pos rfl];simp[hsz,hin]
    .rw[if_neg e];exact getD_set_ne d (λh=>e h.symm)
   have g:=ih (t / (Region.ready md ops listed).length) (listed.setIfInBounds i true) (by simpa using hsz) (by
    have:=qVh (l:=List.range ops.size) (p:=λi=>!listed.getD i true) (q:=λj=>!(listed.setIfInBounds i true).getD j true) (x:=i) (λy _ hy=>by
     simp only[hset] at hy;by_cases e:y=i
     .rw[if_pos e] at hy;simp at hy
     .rw[if_neg e] at hy;exact hy) (List.mem_range.2 hin) (by simpa using hl) (by simp only[hset];simp)
    omega) (λk hk hkl j hj hjk=>by
     rw[hset] at hkl ⊢;by_cases e:j=i
     .rw[if_pos e]
     .rw[if_neg e];by_cases ek2:k=i
      .subst ek2;obtain⟨x,hx,hb,hor⟩:=ek.ord k o ho j hj hjk;have h1:=hall x hx hb;have hlt:=ek.lt k o ho x hx hb;rcases hor with hor | hor
       .rw[hor,qG4 (by omega) true false];exact h1
       .refine hd x.on (by omega) (by rw[qG4 (by omega) true false];exact h1) j hj hor
      .rw[if_neg ek2] at hkl;exact hd k hk hkl j hj hjk)
   refine⟨List.nodup_cons.2 ⟨λhm=>?_,g.nodup⟩,λj=>?_,λa j b e x hx hord=>?_⟩
   .have:=((g.mem i).1 hm).2
    rw[hset,if_pos rfl] at this;cases this
   .rw[zL0,g.mem,hset];constructor
    .rintro (e | ⟨h1,h2⟩)
     .subst e;exact⟨hin,hl⟩
     .by_cases e:j=i
      .rw[if_pos e] at h2;cases h2
      .rw[if_neg e] at h2;exact⟨h1,h2⟩
    .rintro ⟨h1,h2⟩;by_cases e:j=i
     .exact .inl e
     .exact .inr ⟨h1,by rw[if_neg e];exact h2⟩
   .cases a with
    | nil =>
     simp only[List.nil_append,List.cons.injEq] at e;obtain⟨e1,e2⟩:=e;subst e1;obtain⟨y,hy,hb,hor⟩:=ek.ord i o ho x hx hord;have h1:=hall y hy hb;have hlt:=ek.lt i o ho y hy hb;rcases hor with hor | hor
     .right;rw[hor];exact h1
     .right;rw[qG4 (by omega) false true];exact hd y.on (by omega) (by rw[qG4 (by omega) true false];exact h1) x hx hor
    | cons c a =>
     simp only[List.cons_append,List.cons.injEq] at e;obtain⟨e1,e2⟩:=e;subst e1;rcases g.ord a j b e2 x hx hord with h1 | h1
     .exact .inl (zA0 _ h1)
     .rw[hset] at h1;by_cases exi:x=i
      .exact .inl (by rw[exi];exact zB0)
      .rw[if_neg exi] at h1;exact .inr h1
theorem qUt (ek:EdgesOk md ops ord) (t:Nat):LinExt ops.size ord (Region.linearise md ops t):=by
 have hz:∀i,i<ops.size->(Array.replicate ops.size false).getD i true=false:=λi hi=>by simp[hi]
 have g:=go_ok ek ops.size t (Array.replicate ops.size false) (by simp) (zP0 List.countP_le_length (by simp)) (λi hi h=>by rw[hz i hi] at h;cases h);refine⟨g.nodup,λi=>(g.mem i).trans ⟨λh=>h.1,λh=>⟨h,hz i h⟩⟩,λa i b e j hj ho=>(g.ord a i b e j hj ho).resolve_right λh=>?_⟩;simp[hj] at h
theorem qOp:∀(l:List Oper) (acc:List Nat),∃t,befL l acc=acc++t/\t.length=l.length
 | [],acc=>⟨[],by simp[befL],rfl⟩
 | o::r,acc=>by
  obtain⟨t,e,hl⟩:=qOp r (acc++[o.after.toList.foldl (λs e=>if Region.binds .any e then s ||| 2 ^ e.on ||| acc.getD e.on 0 else s) 0]);refine⟨o.after.toList.foldl (λs e=>if Region.binds .any e then s ||| 2 ^ e.on ||| acc.getD e.on 0 else s) 0::t,?_,?_⟩
  .rw[befL,e];simp
  .simp[hl]
theorem qU6 (acc:List Nat) (j:Nat):∀(es:List Edge) (s:Nat),(es.foldl (λs e=>if Region.binds .any e then s ||| 2 ^ e.on ||| acc.getD e.on 0 else s) s).testBit j=true ->
  s.testBit j=true∨∃e∈es,Region.binds .any e=true/\(j=e.on∨(acc.getD e.on 0).testBit j=true)
 | [],s,h=>.inl h
 | e::es,s,h=>by
  rw[List.foldl_cons] at h;rcases qU6 acc j es _ h with h1 | ⟨x,hx,h2⟩
  .by_cases hb:Region.binds .any e=true
   .rw[if_pos hb,Nat.testBit_or,Nat.testBit_or,Bool.or_eq_true,Bool.or_eq_true] at h1;rcases h1 with (h1 | h1) | h1
    .exact .inl h1
    .rw[Nat.testBit_two_pow] at h1;exact .inr ⟨e,zB0,hb,.inl ((by simpa using h1:e.on=j).symm)⟩
    .exact .inr ⟨e,zB0,hb,.inr h1⟩
   .rw[if_neg hb] at h1;exact .inl h1
  .exact .inr ⟨x,zA0 _ hx,h2⟩
theorem qUo:∀(l:List Oper) (acc:List Nat) (n:Nat),acc.length=n->(∀k o,l[k]?=some o->∀e∈o.after,Region.binds .any e=true->e.on<n+k)->∀k o,l[k]?=some o->∀j,((befL l acc).getD (n+k) 0).testBit j=true ->
  ∃e∈o.after,Region.binds .any e=true/\(j=e.on∨((befL l acc).getD e.on 0).testBit j=true)
 | [],_,_,_,_,k,o,hk,_,_=>by simp at hk
 | o::r,acc,n,hn,hlt,0,o',hk,j,hb=>by
  simp only[List.getElem?_cons_zero,Option.some.injEq] at hk;subst hk;rw[befL] at hb ⊢;obtain⟨t,e,hl⟩:=qOp r (acc++[o.after.toList.foldl (λs e=>if Region.binds .any e then s ||| 2 ^ e.on ||| acc.getD e.on 0 else s) 0]);rw[e] at hb ⊢;have h1:(acc++[o.after.toList.foldl (λs e=>if Region.binds .any e then s ||| 2 ^ e.on ||| acc.getD e.on 0 else s) 0]++t).getD (n+0) 0=o.after.toList.foldl (λs e=>if Region.binds .any e then s ||| 2 ^ e.on ||| acc.getD e.on 0 else s) 0:=by simp[List.getD_eq_getElem?_getD,hn]
  rw[h1] at hb;rcases qU6 acc j _ _ hb with h2 | ⟨x,hx,hxb,h2⟩
  .simp at h2
  .refine⟨x,by simpa using hx,hxb,h2.imp id λh3=>?_⟩
   have:=hlt 0 o rfl x (by simpa using hx) hxb
   rw[zX0,List.getD_eq_getElem?_getD,List.getElem?_append_left (by omega),<- List.getD_eq_getElem?_getD];exact h3
 | o::r,acc,n,hn,hlt,k+1,o',hk,j,hb=>by
  rw[befL] at hb ⊢
  have:=qUo r (acc++[o.after.toList.foldl (λs e=>if Region.binds .any e then s ||| 2 ^ e.on ||| acc.getD e.on 0 else s) 0]) (n+1) (by simp[hn]) (λk o hk e he hb=>by
   have:=hlt (k+1) o hk e he hb
   omega) k o' hk j (by rw[show n+1+k=n+(k+1) by omega];exact hb)
  exact this
structure RegFit (N:Nat) (ops:Array Oper):Prop where
 lt:∀(i:Nat) (o:Oper),ops[i]?=some o->∀e∈o.after,Region.binds .any e=true->e.on<i
 dst:∀(i:Nat) (o:Oper) (s:Nat),ops[i]?=some o->o.dst=some s->s<N
 slots:∀i,i<ops.size->∀s∈slotsOf ops i,s<4096
theorem qWo {N:Nat} (h:qPx N ops=true):RegFit N ops:=by
 unfold qPx at h;rw[List.all_eq_true] at h;have key:∀i o,ops[i]?=some o->_:=λi o ho=>h (o,i) (by
  rw[List.mem_zipIdx_iff_getElem?];simpa using ho)
 refine⟨λi o ho e he hb=>?_,λi o s ho hd=>?_,λi hi s hs=>?_⟩
 .have:=key i o ho
  simp only[Bool.and_eq_true,List.all_eq_true] at this
  have:=this.1.1 e (by simpa using he)
  simpa [hb] using this
 .have:=key i o ho
  simp only[Bool.and_eq_true] at this
  have:=this.1.2
  rw[hd] at this;simpa using this
 .have:=key i ops[i] (by simp[hi])
  simp only[Bool.and_eq_true,List.all_eq_true] at this;simpa using this.2 s hs
theorem RegFit.edges {N:Nat} (f:RegFit N ops):EdgesOk .any ops (ordL (masks ops)):=by
 refine⟨f.lt,λi o ho j hj hji=>?_⟩
 have:=qUo ops.toList [] 0 rfl (λk o hk e he hb=>by
  have:=f.lt k o (by simpa using hk) e he hb
  omega) i o (by simpa using ho) j (by rw[Nat.zero_add];exact hji)
 exact this
end
end Go.X
namespace Go.X
open Go Go.RowKit
section
variable {P:Program} {W0:World} {E E0:Env} {h h0:Q0} {p:QQ} {w:World} {call:Qz} {round:Qv} {N:Nat} {ro:Option Nat} {n:Nat} {kk:KC} {ops:Array Oper}
def qGl (N:Nat) (sl:List Nat) (a:Array Value):Array Value:=((List.range N).map λs=>if s∈sl then a.getD s undef else undef).toArray
theorem qHi (N:Nat) (sl:List Nat) (a:Array Value):(qGl N sl a).size=N:=by simp[qGl]
theorem qJm {N:Nat} {sl:List Nat} {a:Array Value} (ha:a.size=N) (s:Nat):(qGl N sl a).getD s undef=if s∈sl then a.getD s undef else undef:=by
 by_cases hs:s<N
 .simp[qGl,hs]
 .have h1:(qGl N sl a).getD s undef=undef:=by
   rw[Array.getD_eq_getD_getElem?,Array.getElem?_eq_none (by rw[qHi];omega)];rfl
  have h2:a.getD s undef=undef:=by rw[Array.getD_eq_getD_getElem?,Array.getElem?_eq_none (by omega)];rfl
  rw[h1,h2];simp
theorem jAa {N:Nat} {sl:List Nat} {a:Array Value} (ha:a.size=N) {s:Nat} (hs:s∈sl):(qGl N sl a)[s]?=a[s]?:=by
 by_cases hN:s<N
 .have h1:(qGl N sl a)[s]?=some (if s∈sl then a.getD s undef else undef):=by
   simp[qGl,hN]
  rw[h1,if_pos hs,Array.getD_eq_getD_getElem?,Array.getElem?_eq_getElem (by omega)];rfl
 .rw[Array.getElem?_eq_none (by rw[qHi];omega),Array.getElem?_eq_none (by omega)]
theorem TT.at_undef (s:Nat):TT.undef.at s=.tuple []:=by simp only[TT.at,TT.getP,TT.undef,p2,N16.get_all]
theorem qN6:∀(sl:List Nat),(∀s∈sl,s<4096)->∀(st:St) (t:TT) (k:TT->FM) (p:QQ) (h:Q0),(fillT sl (st.sel sl) t k).sat p h ->
  ∃t',(k t').sat p h/\∀s,s<4096->t'.at s=if s∈sl then st.tmps.at s else t.at s
 | [],_,st,t,k,p,h,hs=>⟨t,hs,λs _=>by simp⟩
 | x::sl,hl,st,t,k,p,h,hs=>by
  have hs1:(TT.putK x (st.tmps.at x) t λt'=>fillT sl (st.sel sl) t' k).sat p h:=hs;rw[TT.putK_eq] at hs1;obtain⟨t',h1,h2⟩:=qN6 sl (λs hm=>hl s (zA0 _ hm)) st _ k p h hs1;refine⟨t',h1,λs hlt=>?_⟩;rw[h2 s hlt,TT.at_put (hl x zB0) hlt];by_cases e:s=x
  .rw[if_pos (show s∈x::sl by rw[e];exact zB0),if_pos e];by_cases e2:s∈sl
   .rw[if_pos e2]
   .rw[if_neg e2,e]
  .by_cases e2:s∈sl
   .rw[if_pos e2,if_pos (zA0 _ e2)]
   .rw[if_neg e2,if_neg e,if_neg (λhm=>(List.mem_cons.1 hm).elim e e2)]
theorem qNm {i:Nat} {o:Oper} (ho:ops[i]?=some o):qa ops i=o:=by rw[qa,Array.getD_eq_getD_getElem?,ho];rfl
theorem qK6 {sl:List Nat} {a:Array Value} (ha:a.size=N) {o:Oper} (hsl:∀g w,guardOf ops o=some (some g,w)->g∈sl) :
  Region.wanted o (yielded ops (qGl N sl a))=Region.wanted o (yielded ops a):=by
 unfold Region.wanted;cases hg:o.guard with
 | none=>rfl
 | some jw =>
  obtain⟨j,want⟩:=jw;simp only
  have:yielded ops (qGl N sl a) j=yielded ops a j:=by
   unfold yielded;cases hoj:ops[j]? with
   | none=>rfl
   | some x =>
    cases hd:x.dst with
    | none=>simp[hd]
    | some s =>have hm:s∈sl:=hsl s want (by unfold guardOf;rw[hg];simp only;rw[hoj];simp only;rw[hd]);simp only[Option.bind_some,hd,jAa ha hm]
  rw[this]
theorem qJb {i:Nat} {o:Oper} (ho:ops[i]?=some o):∀g w,guardOf ops o=some (some g,w)->g∈slotsOf ops i:=by intro g w hg;unfold slotsOf qN3;rw[qNm ho,hg];simp
theorem qM9 {i:Nat} {o:Oper} (ho:ops[i]?=some o) {s:Nat} (hm:Operand.tmp s∈o.op.operands):s∈slotsOf ops i:=by unfold slotsOf;rw[qNm ho];refine zI0 _ (List.mem_filterMap.2 ⟨.tmp s,by simpa using hm,rfl⟩)
theorem St.put_eq {st:St} {i:Nat} {o:Oper} (ho:ops[i]?=some o) {a:Act} (hst:StR E N st a) (hd:∀s,o.dst=some s->s<N) {av:AV} {v:Value} (hv:VR E av v):StR E N (st.put (QO ops i) av) (a.put o.dst v):=by
 unfold QO;rw[qNm ho];cases hdst:o.dst with
 | none=>exact hst
 | some s=>exact⟨hst.tmps.put (hd s hdst) hv,hst.defers⟩
theorem qZ3 (hc:QU P W0 call) (hr:qt P W0 round) (hfit:RegFit N ops) {pos:Nat->Nat} (hp0:pos 0=h0.next) (hpm:∀i,i<ops.size->pos i<=pos (i+1)) (hpl:pos ops.size<=h0.lim) (hlim:h0.lim<=top) (hinf:h0.inf=false) (hfree:∀x,h0.next<=x->x<h0.lim->E0.blk x=none) :
  ∀(l done:List Nat),(done++l).Nodup->(∀i∈done++l,i<ops.size)->∀(st:St) (a:Act) (E:Env) (h:Q0) (w:World),
  qT3 (slotsOf ops) (QO ops) (λi vs q g=>(qKk P call round ops i vs).sat q g) pos ops.size h0.lim (λs g=>(kk .normal s).sat p g) l st h ->
  Rel P W0 E h w->StR E N st a->E0.Le E->h.inf=false->(∀x b,E.blk x=some b->E0.blk x=some b∨∃j∈done,pos j<=x/\x<pos (j+1)) ->
  wpOpsIn (FW ro) n P ops (QP P W0 E0 h0 N kk p) l a w:=by
 have mono:∀j i,i<=j->j<=ops.size->pos i<=pos j:=by
  intro j
  induction j with
  | zero =>
   intro i hi _
   have:i=0:=by omega
   subst this;exact zN0 _
  | succ j ih =>
   intro i hi hj;rcases Nat.lt_or_ge i (j+1) with hlt | hge
   .exact zP0 (ih i (by omega) (by omega)) (hpm j (by omega))
   .have:i=j+1:=by omega
    subst this;exact zN0 _
 intro l
 induction l with
 | nil =>
  intro done _ hin st a E h w hs r hst le hif hinv;have hs1:(kk .normal st).sat p (h.win (pos ops.size) h0.lim):=hs;have hm0:=mono ops.size 0 (zA1 _) (zN0 _);refine⟨E,h.win (pos ops.size) h0.lim,.normal,st,⟨le,λx b hx=>?_,by rw[hinf];rfl,?_⟩,r.win hpl hlim (r.lim.resolve_left (by simp[hif])).2 λx h1 h2=>?_,hst,.normal,hs1⟩
  .rcases hinv x b hx with h1 | ⟨j,hj,h1,h2⟩
   .exact .inl h1
   .have hjl:=hin j (by simpa using hj)
    have:=mono j 0 (zA1 _) (by omega)
    have:=mono ops.size (j+1) (by omega) (zN0 _)
    exact .inr ⟨by omega,.inr (by omega)⟩
  .show h0.next<=pos ops.size
   omega
  .cases hx:E.blk x with
   | none=>rfl
   | some b =>
    exfalso;rcases hinv x b hx with h3 | ⟨j,hj,h3,h4⟩
    .rw[hfree x (by omega) h2] at h3;cases h3
    .have hjl:=hin j (by simpa using hj)
     have:=mono ops.size (j+1) (by omega) (zN0 _)
     omega
 | cons i l ih =>
  intro done hnd hin st a E h w hs r hst le hif hinv;have hi:i<ops.size:=hin i (by simp);have ho:ops[i]?=some ops[i]:=by simp[hi]
  generalize ops[i]=o at ho;have hm1:=mono i 0 (zA1 _) (by omega);have hm2:=mono ops.size (i+1) (by omega) (zN0 _);have hm3:=hpm i hi;have hni:i ∉ done:=λhm=>by
   have:=(List.nodup_append.1 hnd).2.2 i hm i zB0
   exact this rfl
  have r1:Rel P W0 E (h.win (pos i) (pos (i+1))) w:=r.win hm3 (by omega) (r.lim.resolve_left (by simp[hif])).2 λx h1 h2=>by
   cases hx:E.blk x with
   | none=>rfl
   | some b =>
    exfalso;rcases hinv x b hx with h3 | ⟨j,hj,h3,h4⟩
    .rw[hfree x (by omega) (by omega)] at h3;cases h3
    .have hjl:=hin j (by simp[hj]);have hji:j≠i:=λe=>hni (e ▸ hj);rcases Nat.lt_or_gt_of_ne hji with hlt | hgt
     .have:=mono i (j+1) (by omega) (by omega)
      omega
     .have:=mono j (i+1) (by omega) (by omega)
      omega
  have next:∀E' h' w' av v,Stp E (h.win (pos i) (pos (i+1))) E' h'->Rel P W0 E' h' w'->VR E' av v ->
    (∃x,Res.val av=.val x/\qT3 (slotsOf ops) (QO ops) (λi vs q g=>(qKk P call round ops i vs).sat q g) pos ops.size h0.lim (λs g=>(kk .normal s).sat p g) l (st.put (QO ops i) x) h') ->
    wpOpsIn (FW ro) n P ops (QP P W0 E0 h0 N kk p) l (a.put o.dst v) w':=by
   intro E' h' w' av v s' r' hv ⟨x,e,hs'⟩;cases e;refine ih (done++[i]) (by simpa using hnd) (λj hj=>hin j (by simpa using hj)) _ _ _ _ _ hs' r' (St.put_eq ho (hst.mono s'.le) (λs=>hfit.dst i o s ho) hv) (le.trans s'.le) (by have:=s'.lim;simp only[Prod.mk.injEq,Q0.win_inf] at this;exact this.2) λx b hx=>?_;rcases s'.new x b hx with h1 | ⟨h1,h2⟩
   .rcases hinv x b h1 with h2 | ⟨j,hj,h2⟩
    .exact .inl h2
    .exact .inr ⟨j,by simp[hj],h2⟩
   .exact .inr ⟨i,by simp,h1,h2.resolve_left (by simp)⟩
  obtain⟨t,hs1,ht⟩:=qN6 (slotsOf ops i) (hfit.slots i hi) st TT.undef _ _ _ hs;rw[qNm ho] at hs1;have htm:qU E N t (qGl N (slotsOf ops i) a.tmps):=⟨qHi _ _ _,hst.tmps.le,λs hlt=>by
   rw[ht s hlt,qJm hst.tmps.size];by_cases e:s∈slotsOf ops i
   .rw[if_pos e,if_pos e];exact hst.tmps.at' s hlt
   .rw[if_neg e,if_neg e,TT.at_undef];exact .tuple _ _ .nil⟩
  have hs2:=qIa htm hs1;rw[qK6 hst.tmps.size (qJb ho)] at hs2;simp only[wpOpsIn,ho];rcases QA hs2 with ⟨hw,hs3⟩ | ⟨hw,hs3⟩
  .rw[if_pos hw];refine⟨λf _=>trivial,?_⟩;have hev:∀x,VR E ((⟨call,round,t,P.globals.size⟩:OC).ev x) ((⟨qGl N (slotsOf ops i) a.tmps,a.defers⟩:Act).eval x):=λx=>qOa r1 htm x;have hu:=qJq (o:=o) r1 hr.1 hev hs3;have hsel:∀cs b,o.op≠.select cs b:=λcs b e=>by
    rw[e] at hs3;exact hs3
   have hcg:execOp (⟨qGl N (slotsOf ops i) a.tmps,a.defers⟩:Act).eval o=execOp a.eval o:=execOp_congr o hsel λx hx=>by
    cases x with
    | tmp s =>
     show (qGl N (slotsOf ops i) a.tmps).getD s undef=a.tmps.getD s undef;rw[qJm hst.tmps.size,if_pos (qM9 ho hx)]
    | _=>rfl
   have hse:o.semAt (FW ro).round a.eval=execOp a.eval o :=
    Oper.semAt_eq _ _ _ (qRx r1 hr.1 (c:=⟨call,round,t,P.globals.size⟩) (kd:=λ_=>.fail 155) rfl hev (λad g (hf:False)=>hf) hs3)
   rw[hse,<- hcg];refine qQ7 hc hr (λE' h' w' av v s r' hv hs=>?_) (λE' h' w' s r' hs=>?_) (kd:=λ_=>.fail 155) (kp:=λ_=>.fail 156) (λE' h' w' ad d s r' hd hs=>False.elim hs) (λE' h' w' ach chain s r' hch hs=>False.elim hs) hu
   .exact next _ _ _ _ _ s r' hv hs
   .exact next _ _ _ _ _ s r' (.tuple _ _ .nil) hs
  .rw[hw];simp only[Bool.false_eq_true,if_false];refine⟨λf _=>trivial,?_⟩;exact next _ _ _ _ _ (.refl _ _) r1 (.tuple _ _ .nil) hs3
theorem qWl (hc:QU P W0 call) (hr:qt P W0 round) (hfit:RegFit N ops) :
  ∀(l:List Nat),(∀i∈l,i<ops.size)->∀(st:St) (a:Act) (E:Env) (h:Q0) (w:World),
  qId (slotsOf ops) (QO ops) (λi vs q g=>(qKk P call round ops i vs).sat q g) (λs g=>(kk .normal s).sat p g) l st h ->
  Rel P W0 E h w->StR E N st a->Stp E0 h0 E h->wpOpsIn (FW ro) n P ops (QP P W0 E0 h0 N kk p) l a w:=by
 intro l
 induction l with
 | nil=>exact λ_ st a E h w hs r hst s0=>⟨E,h,.normal,st,s0,r,hst,.normal,hs⟩
 | cons i l ih =>
  intro hin st a E h w hs r1 hst s0;have hi:i<ops.size:=hin i (by simp);have ho:ops[i]?=some ops[i]:=by simp[hi]
  generalize ops[i]=o at ho
  have next:∀E' h' w' av v,Stp E h E' h'->Rel P W0 E' h' w'->VR E' av v ->
    (∃x,Res.val av=.val x/\qId (slotsOf ops) (QO ops) (λi vs q g=>(qKk P call round ops i vs).sat q g) (λs g=>(kk .normal s).sat p g) l (st.put (QO ops i) x) h') ->
    wpOpsIn (FW ro) n P ops (QP P W0 E0 h0 N kk p) l (a.put o.dst v) w':=by
   intro E' h' w' av v s' r' hv ⟨x,e,hs'⟩;cases e;exact ih (λj hj=>hin j (zA0 _ hj)) _ _ _ _ _ hs' r' (St.put_eq ho (hst.mono s'.le) (λs=>hfit.dst i o s ho) hv) (s0.trans s')
  obtain⟨t,hs1,ht⟩:=qN6 (slotsOf ops i) (hfit.slots i hi) st TT.undef _ _ _ hs;rw[qNm ho] at hs1;have htm:qU E N t (qGl N (slotsOf ops i) a.tmps):=⟨qHi _ _ _,hst.tmps.le,λs hlt=>by
   rw[ht s hlt,qJm hst.tmps.size];by_cases e:s∈slotsOf ops i
   .rw[if_pos e,if_pos e];exact hst.tmps.at' s hlt
   .rw[if_neg e,if_neg e,TT.at_undef];exact .tuple _ _ .nil⟩
  have hs2:=qIa htm hs1;rw[qK6 hst.tmps.size (qJb ho)] at hs2;simp only[wpOpsIn,ho];rcases QA hs2 with ⟨hw,hs3⟩ | ⟨hw,hs3⟩
  .rw[if_pos hw];refine⟨λf _=>trivial,?_⟩;have hev:∀x,VR E ((⟨call,round,t,P.globals.size⟩:OC).ev x) ((⟨qGl N (slotsOf ops i) a.tmps,a.defers⟩:Act).eval x):=λx=>qOa r1 htm x;have hu:=qJq (o:=o) r1 hr.1 hev hs3;have hsel:∀cs b,o.op≠.select cs b:=λcs b e=>by
    rw[e] at hs3;exact hs3
   have hcg:execOp (⟨qGl N (slotsOf ops i) a.tmps,a.defers⟩:Act).eval o=execOp a.eval o:=execOp_congr o hsel λx hx=>by
    cases x with
    | tmp s =>
     show (qGl N (slotsOf ops i) a.tmps).getD s undef=a.tmps.getD s undef;rw[qJm hst.tmps.size,if_pos (qM9 ho hx)]
    | _=>rfl
   have hse:o.semAt (FW ro).round a.eval=execOp a.eval o :=
    Oper.semAt_eq _ _ _ (qRx r1 hr.1 (c:=⟨call,round,t,P.globals.size⟩) (kd:=λ_=>.fail 155) rfl hev (λad g (hf:False)=>hf) hs3)
   rw[hse,<- hcg];refine qQ7 hc hr (λE' h' w' av v s r' hv hs=>?_) (λE' h' w' s r' hs=>?_) (kd:=λ_=>.fail 155) (kp:=λ_=>.fail 156) (λE' h' w' ad d s r' hd hs=>False.elim hs) (λE' h' w' ach chain s r' hch hs=>False.elim hs) hu
   .exact next _ _ _ _ _ s r' hv hs
   .exact next _ _ _ _ _ s r' (.tuple _ _ .nil) hs
  .rw[hw];simp only[Bool.false_eq_true,if_false];refine⟨λf _=>trivial,?_⟩;exact next _ _ _ _ _ (.refl _ _) r1 (.tuple _ _ .nil) hs3
end
end Go.X
namespace Go.X
open Go Go.RowKit
section
variable {P:Program} {W0:World} {E E0:Env} {h h0:Q0} {p:QQ} {w:World} {call:Qz} {round:Qv} {N:Nat} {ro:Option Nat} {n:Nat} {kk:KC} {H:Hints} {fn:FuncId} {cur:Option Nat} {lf:Nat}
theorem Rel.drawn (r:Rel P W0 E h w) (d:Nat):Rel P W0 E h { w with drawn:=d }:=r.same rfl rfl rfl rfl
theorem qQ0 (hc:QU P W0 call) (hr:qt P W0 round) (hm:P.follows .mixedOrders=true) {dok:Bool} (hdok:dok=true->ro=none) {id:Nat} {ops:Array Oper} {draw:Bool} {st:St} {a:Act}
  (hs:(qV7 P call round N dok ops draw st (λst'=>kk .normal st') (λst' ch=>kk (.panic ch) st')).sat p h) (r:Rel P W0 E h w) (hst:StR E N st a) :
  (Code.region id ops draw).wpIn (FW ro) n P (QP P W0 E h N kk p) a w:=by
 cases draw with
 | false =>
  refine wpIn_region ?_
  have:=qKb (n:=n) (kk:=kk) (E0:=E) (h0:=h) hc hr hdok ops.toList 0 (by simp) st a E h w hs r hst (.refl _ _)
  rw[List.range_eq_range'];simpa using this
 | true =>
  obtain⟨hf,hs1⟩:=Qp (show (cnd (qPx N ops) (FM.regn ops.size (ordL (masks ops)) (slotsOf ops) (QO ops) (qKk P call round ops) st (λst'=>kk .normal st')) (FM.fail 154)).sat p h from hs);have fit:=qWo hf;refine wpIn_region_draw λt=>?_;have hl:=qUt fit.edges t;have hsch:Region.schedule (P.follows .mixedOrders) ops t=Region.linearise .any ops t:=by simp[Region.schedule,hm]
  rw[hsch];rcases hs1 with ⟨hinf,pos,p0,p1,p2,hall⟩ | ⟨_,hall⟩
  .exact qZ3 (E0:=E) (h0:=h) hc hr fit p0 p1 p2 (r.lim.resolve_left (by simp[hinf])).1 hinf (λx h1 h2=>r.free x h1 (.inr h2)) _ [] (by simpa using hl.nodup) (λi hi=>(hl.mem i).1 (by simpa using hi)) st a E h _ (hall _ hl) (r.drawn _) hst (.refl _) hinf (λx b hx=>.inl hx)
  .exact qWl (E0:=E) (h0:=h) hc hr fit _ (λi hi=>(hl.mem i).1 hi) st a E h _ (hall _ hl) (r.drawn _) hst (.refl _ _)
def CurR (E:Env) (cur ro:Option Nat):Prop:=(cur=none/\ro=none)∨∃l lb,cur=some l/\ro=some lb/\E.blk l=some lb
theorem CurR.mono {E E':Env} (le:E.Le E') {cur ro:Option Nat} (c:CurR E cur ro):CurR E' cur ro:=by
 rcases c with c | ⟨l,lb,h1,h2,h3⟩
 .exact .inl c
 .exact .inr ⟨l,lb,h1,h2,le.blk _ _ h3⟩
theorem CurR.dok {E:Env} {cur ro:Option Nat} (c:CurR E cur ro):(Option.rec (motive:=λ_=>Bool) true (λ_=>false) cur:Bool)=true->ro=none:=by
 intro h;rcases c with ⟨_,c⟩ | ⟨l,lb,h1,h2,h3⟩
 .exact c
 .subst h1;cases h
theorem qLs (hc:QU P W0 call) (r:Rel P W0 E h w) {f:AFn} {fv:Fn} (hf:FnR E f fv) {first captured:List AV} {x y:Array Value} (h1:VRs E first x.toList) (h2:VRs E captured y.toList)
  {t:TT} {tmps:Array Value} (ht:qU E N t tmps) {dblock db:Nat} (hd:E.blk dblock=some db) {params:Array Tmp} {assign body:Code} {st':St} {a':Act} (hst:StR E N st' a') (fn2:FuncId)
  (hs:(qU5 P call round N fn f first captured params assign body t dblock st' kk).sat p h) :
  ∃g args w2,(invoke (.fn fv y) (x++#[.func (.yield w.heap.size) #[] #[]])).run P (w.alloc (.loop { state:=.ready,pending:=none,fn:=fn2,tmps,params,assign,body,defers:=db }))=.ok (.enter g args) w2 /\
   CallsIn (FW ro) (n-1) P g args w2 (rangePost (FW ro) n P w.heap.size (QP P W0 E h N kk p) a'):=by
 obtain⟨hn,hs0⟩:=hs;have hf0:=r.free h.next (zN0 _) hn
 obtain⟨E1,le,r1,s1,hnew⟩:∃E1,E.Le E1/\Rel P W0 E1 (h.newO (.loop ⟨.ready,.normal,fn,t,N::params.toList,assign,body,dblock⟩)) (w.alloc (.loop { state:=.ready,pending:=none,fn:=fn2,tmps,params,assign,body,defers:=db })) /\
   Stp E h E1 (h.newO (.loop ⟨.ready,.normal,fn,t,N::params.toList,assign,body,dblock⟩))/\E1.blk h.next=some w.heap.size :=
  have le:=Env.add_le hf0 w.heap.size 0 0
  ⟨_,le,r.new hn 0 0 (.loop _ _ rfl .none N (ht.mono le) rfl rfl rfl (le.blk _ _ hd)),Stp.add hf0 hn w.heap.size 0 0,Env.add_blk _ _ _ _ _⟩
 generalize w.alloc (.loop { state:=.ready,pending:=none,fn:=fn2,tmps,params,assign,body,defers:=db })=w1 at r1;generalize w.heap.size=lb at hnew;have hs1:(jR first [.func (.yield h.next) [] []] λargs=>afnM f (λg=>jR args captured λas=>cnd (qC P g) (call g as (λ_=>qJ2 h.next st' kk) (λ_=>.fail 204)) (.fail 204)) (λ_=>.fail 204) (λ_=>.fail 204) (.fail 204)).sat p (h.newO (.loop ⟨.ready,.normal,fn,t,N::params.toList,assign,body,dblock⟩)):=hs0;rw[qw] at hs1;cases hf with
 | yield=>exact False.elim hs1
 | plain =>
  cases fv with
  | func g =>
   have hs2:(jR (first++[.func (.yield h.next) [] []]) captured λas=>cnd (qC P g) (call g as (λ_=>qJ2 h.next st' kk) (λ_=>.fail 204)) (.fail 204)).sat p (h.newO (.loop ⟨.ready,.normal,fn,t,N::params.toList,assign,body,dblock⟩)):=hs1;rw[qw] at hs2;obtain⟨hb,hs3⟩:=Qp hs2;have hargs:VRs E1 (first++[AV.func (.yield h.next) [] []]++captured) ((x++#[Value.func (.yield lb) #[] #[]])++y).toList:=by rw[Array.toList_append,Array.toList_append];refine ((h1.mono le).append (.cons _ _ _ _ (.func _ _ _ _ _ _ (.yield _ _ hnew) .nil .nil) .nil)).append (h2.mono le)
   have hb0:=hb;unfold qC at hb;have hcall:=hc g _ _ _ p _ _ _ _ hb0 hs3 r1 hargs;refine⟨g,(x++#[Value.func (.yield lb) #[] #[]])++y,w1,?_,qKy.2 (hcall.mono λe w' he=>?_)⟩
   .cases hfn:P.funcs[g]? with
    | none=>rw[hfn] at hb;cases hb
    | some gn =>
     rw[hfn] at hb;simp only[Bool.and_eq_true,Bool.not_eq_true'] at hb;have hh1:gn.name ≠ "runtime.NumGoroutine":=by simpa using hb.2
     cases hbo:gn.body with
     | none=>rw[hbo] at hb;simp at hb
     | some c=>simp[invoke,callFunc,hfn,hh1,hbo]
   .cases e with
    | outgrown=>exact he.elim
    | panicked chain=>obtain⟨_,_,_,_,_,_,hx⟩:=he;exact hx.elim
    | returned v =>
     obtain⟨E',h',av,s',r',hv,o,hg,hs4⟩:=he;obtain⟨lr,e,hs5⟩:=qEe hs4;subst e;have hbl:=s'.le.blk _ _ hnew;obtain⟨b,o,hb1,hw1,hor⟩:=r'.obj _ _ hg;rw[hbl] at hb1;cases hb1;cases hor with
     | loop _ rr hstt hpend N2 ht2 hps ha hbd hdd =>
      have fin:lr.state=.ready∨lr.state=.done->(FM.set h.next .tomb (kk lr.pending st')).sat p h'->rangePost (FW ro) n P lb (QP P W0 E h N kk p) a' (.returned v) w':=by
       intro hst2 hs6;have hnb:rr.state≠.busy:=by rw[hstt];rcases hst2 with e | e <;> rw[e] <;> simp[lsOf]
       have r2:=r'.set (a1:=.tomb) (o1:=.loop { rr with state:=.exhausted }) hg hbl (by rintro (e | ⟨c,e⟩) <;> cases e) (λes v e=>by cases e) (.tomb _);have s2:Stp E h E' (h'.put h.next (some .tomb)):=s1.trans (s'.trans ⟨.refl _,λ_ _ h=>.inl h,rfl,zN0 _⟩);have hst3:=hst.mono (le.trans s'.le);have hs7:(kk lr.pending st').sat p (h'.put h.next (some .tomb)):=hs6.2;refine⟨rr.pending,_,run_endLoop hw1 hnb,?_⟩;generalize w'.putObj lb (.loop { rr with state:=.exhausted })=w4 at r2;generalize lr.pending=pe at hpend hs7;generalize rr.pending=rp at hpend;cases hpend with
       | none=>exact⟨E',_,.normal,st',s2,r2,hst3,.normal,hs7⟩
       | exit i=>exact wpIn_exit ⟨E',_,.exit i,st',s2,r2,hst3,.exit i,hs7⟩
       | ret=>exact wpIn_ret ⟨E',_,.ret,st',s2,r2,hst3,.ret,hs7⟩
      cases hls:lr.state with
      | ready=>rw[hls] at hs5;exact fin (.inl hls) hs5
      | busy=>rw[hls] at hs5;exact False.elim hs5
      | done=>rw[hls] at hs5;exact fin (.inr hls) hs5
      | exhausted=>rw[hls] at hs5;exact False.elim hs5
  | _=>exact False.elim hs1
end
end Go.X
namespace Go.X
open Go Go.RowKit
section
variable {P:Program} {W0:World} {E E0:Env} {h h0:Q0} {p:QQ} {w:World} {call:Qz} {round:Qv} {N:Nat} {ro:Option Nat} {n:Nat} {kk:KC} {H:Hints} {fn:FuncId} {cur:Option Nat} {lf:Nat}
theorem qJj {a:Act} {g:Operand} {fv:Fn} {x y:Array Value} (hg:a.eval g=.func fv x y) (l:Nat) (w:World) :
  (resolve a.eval (rangeCall g l) 0).run P w=.ok { target:=.fn fv y,args:=x++#[.func (.yield l) #[] #[]] } w:=by
 have e:(#[.const (.func (.yield l) #[] #[])]:Array Operand).map a.eval=#[.func (.yield l) #[] #[]]:=by simp[Act.eval]
 simp only[resolve,rangeCall,hg,e,Deferred.ofValue,Sem.run_pure]
theorem qIb {l:Nat} {r:Loop} (hw:w.heap[l]?=some (.loop r)) (fn:FuncId) (tmps:Array Value) (ps:Array Tmp) (assign body:Code) :
  (Instr.enterLoop fn tmps ps assign body (some l)).run P w=.ok (w.heap.size,[]) (w.alloc (.loop { state:=.ready,pending:=none,fn,tmps,params:=ps,assign,body,defers:=r.defers })):=by
 unfold Instr.enterLoop;simp only[Sem.run_bind,run_getLoop hw,run_newObj_alloc,Result.andThen,Sem.run_pure]
theorem qTi (hc:QU P W0 call) {g:Operand} {params:Array Tmp} {assign body:Code} {st:St} {a:Act} (hcur:CurR E cur ro)
  (hs:(xRange P call round N fn cur g params assign body st kk).sat p h) (r:Rel P W0 E h w) (hst:StR E N st a) :
  (Code.rangeFunc g params assign body).wpIn (FW ro) n P (QP P W0 E h N kk p) a w:=by
 refine wpIn_rangeFunc λfn2 _=>?_;have hev:=qOa r hst.tmps g;obtain⟨fa,fv,first,captured,x,y,e1,e2,hf,h1,h2,hs1⟩:=qKm hev hs;have hdep:(FW ro).depth.isSome=true->1<=n:=λh=>by cases h
 have hlead:∀(w':World) (d:Deferred) (f':FuncId),Target.leads P w' d.target d.args=some f'->(FW ro).fn f':=λ_ _ _ _=>trivial;rcases hcur with ⟨hc1,hc2⟩ | ⟨l,lb,hc1,hc2,hc3⟩
 .subst hc1;subst hc2;obtain⟨hn,hs2⟩:=hs1;have hf0:=r.free h.next (zN0 _) hn
  obtain⟨E1,le,r1,s1,hnew⟩:∃E1,E.Le E1/\Rel P W0 E1 (h.newO (.deferred (some []))) (w.alloc (.deferred (some [])))/\Stp E h E1 (h.newO (.deferred (some [])))/\E1.blk h.next=some w.heap.size :=
   ⟨_,Env.add_le hf0 w.heap.size 0 0,r.new hn 0 0 (.deferred _ _ .nil),Stp.add hf0 hn w.heap.size 0 0,Env.add_blk _ _ _ _ _⟩
  have hst':StR E1 N ⟨st.tmps,⟨.yield h.next,[]⟩::st.defers,st.u⟩ { a with defers:=[{ target:=.collected w.heap.size,args:=#[] }]++a.defers } :=
   ⟨hst.tmps.mono le,.cons _ _ _ _ (.mark _ _ hnew) (hst.defers.mono le)⟩
  obtain⟨g2,args,w2,hinv,hcalls⟩:=qLs (ro:=none) (n:=n) hc r1 (hf.mono le) (h1.mono le) (h2.mono le) (hst.tmps.mono le) hnew hst' fn2 hs2;have hsz:(w.alloc (.deferred (some []))).heap.size=w.heap.size+1:=by simp
  rw[hsz] at hinv hcalls;refine⟨w.heap.size+1,_,_,_,_,g2,args,w2,run_enterLoop_outer fn2 a.tmps params assign body,qJj e2 _ _,λf' hf'=>trivial,hinv,hdep,hcalls.mono λe w' he=>?_⟩;cases e with
  | returned v =>
   obtain⟨jump,w4,ha,hb⟩:=he;refine⟨jump,w4,ha,?_⟩;cases jump with
   | none=>exact QP.step s1 hb
   | some c=>exact wpIn_mono hb λ_ _ _ q=>q.step s1
  | panicked chain=>exact QP.step s1 he
  | outgrown=>obtain⟨a0,w0,q⟩:=he;exact⟨a0,w0,q.step s1⟩
 .subst hc1;subst hc2;obtain⟨o,hg,hs2⟩:=hs1;obtain⟨lr,e,hs3⟩:=qEe hs2;subst e;obtain⟨b,o,hb,hw,hor⟩:=r.obj _ _ hg;rw[hc3] at hb;cases hb;cases hor with
  | loop _ rr hstt hpend N2 ht2 hps ha hbd hdd =>obtain⟨g2,args,w2,hinv,hcalls⟩:=qLs (ro:=some lb) (n:=n) (a':=a) hc r hf h1 h2 hst.tmps hdd hst fn2 hs3;exact⟨w.heap.size,[],_,_,_,g2,args,w2,qIb hw fn2 a.tmps params assign body,qJj e2 _ _,λf' hf'=>trivial,hinv,hdep,hcalls⟩
theorem QP.thn {kn:St->FM} {k:KC} {K:Act->World->Prop} {e:Exit} {a:Act} {w:World} (q:QP P W0 E h N (λe st'=>j7 e st' kn k) p e a w)
  (next:∀E' h' st',Stp E h E' h'->Rel P W0 E' h' w->StR E' N st' a->(kn st').sat p h'->K a w):Exit.then K (QP P W0 E h N k p) e a w:=by
 obtain⟨E',h',xe,st',s,r,hst,hex,hs⟩:=q;cases hex with
 | normal=>exact next E' h' st' s r hst hs
 | exit i=>exact⟨E',h',.exit i,st',s,r,hst,.exit i,hs⟩
 | goto l=>exact⟨E',h',.goto l,st',s,r,hst,.goto l,hs⟩
 | ret=>exact⟨E',h',.ret,st',s,r,hst,.ret,hs⟩
 | panic c d hcd=>exact⟨E',h',.panic c,st',s,r,hst,.panic c d hcd,hs⟩
def CodeS (P:Program) (W0:World) (N n:Nat) (cur ro:Option Nat) (X:qIv) (c:Code):Prop :=
 ∀st kk p E h a w,(X st kk).sat p h->Rel P W0 E h w->StR E N st a->CurR E cur ro->c.wpIn (FW ro) n P (QP P W0 E h N kk p) a w
theorem qM1 {X:qIv} {c:Code} (hx:CodeS P W0 N n cur ro X c) {k:KC}:∀(m:Nat) (st:St) (E:Env) (h:Q0) (a:Act) (w:World),(qZp X m st k).sat p h->Rel P W0 E h w->StR E N st a->CurR E cur ro->Stp E0 h0 E h ->
  Code.roundsIn (FW ro) n P c (QP P W0 E0 h0 N k p) m a w
 | 0,_,_,_,_,_,hs,_,_,_,_=>False.elim hs
 | m+1,st,E,h,a,w,hs,r,hst,hcur,s0=>by
  have hs1:(X st λe st'=>j7 e st' (λst2=>qZp X m st2 k) k).sat p h:=hs;rw[roundsIn_succ];refine wpIn_mono (hx st _ p E h a w hs1 r hst hcur) λe a' w' q=>?_;have q2:=q.thn (K:=Code.roundsIn (FW ro) n P c (QP P W0 E0 h0 N k p) m) λE' h' st' s r' hst' hs'=>qM1 hx m st' E' h' a' w' hs' r' hst' (hcur.mono s.le) (s0.trans s);cases e with
  | normal=>exact q2
  | _=>exact QP.step s0 q2
theorem qU.junk {t:TT} {a:Array Value} (ht:qU E N t a) {s:Nat} (hs:s<4096):qU E N (TT.put s .junk t) a:=⟨ht.size,ht.le,λx hx=>by
 rw[TT.at_put hs hx];by_cases e:x=s
 .rw[if_pos e];exact .junk _
 .rw[if_neg e];exact ht.at' x hx⟩
theorem qU0 {a:Array Value} {k:TT->FM}:∀(l:List Nat) (t:TT),qU E N t a->(junkK l t k).sat p h->∃t',qU E N t' a/\(k t').sat p h
 | [],t,ht,hs=>⟨t,ht,hs⟩
 | s::l,t,ht,hs=>by obtain⟨hlt,hs1⟩:=Qp (m:=TT.putK s .junk t λt'=>junkK l t' k) hs;rw[TT.putK_eq] at hs1;exact qU0 l _ (ht.junk (Qw.1 hlt)) hs1
theorem onPtr_any {av:AV} {k:Nat->Nat->FM} {m:FM} (hs:(av.onPtr k m).sat p h):(∃i o,(k i o).sat p h)∨m.sat p h:=by
 cases av with
 | ptr i o=>exact .inl ⟨i,o,hs⟩
 | _=>exact .inr hs
theorem qRu {o:QB} {k:Nat->Nat->List (AV × AV)->AV->FM} {m:FM} (hs:(o.onMapIter k m m).sat p h):(∃a b c d,o=.mapIter a b c d/\(k a b c d).sat p h)∨m.sat p h:=by
 cases o with
 | mapIter a b c d=>exact .inl ⟨a,b,c,d,rfl,hs⟩
 | _=>exact .inr hs
theorem qMl {t:TT} {m:FM}:∀(l:List Nat) (h:Q0),Rel P W0 E h w->(curK t l m).sat p h->∃h',h'.next=h.next/\(h'.lim,h'.inf)=(h.lim,h.inf)/\Rel P W0 E h' w/\m.sat p h'
 | [],h,r,hs=>⟨h,rfl,rfl,r,hs⟩
 | s::l,h,r,hs=>by
  have hs1:((TT.at s t).onPtr (λi _=>.get i λo=>o.onMapIter (λm' ver left _=>.set i (.mapIter m' ver left .junk) (curK t l m)) (curK t l m) (curK t l m)) (curK t l m)).sat p h:=hs;rcases onPtr_any hs1 with ⟨i,o0,o,hg,hs2⟩ | hs2
  .rcases qRu hs2 with ⟨m',ver,left,cur,e,hs3⟩ | hs3
   .subst e;obtain⟨_,hs4⟩:=hs3;obtain⟨b,o,hb,hw,hor⟩:=r.obj _ _ hg;have r2:Rel P W0 E (h.put i (some (.mapIter m' ver left .junk))) w:=by
     have r3:=r.set (a1:=.mapIter m' ver left .junk) (o1:=o) hg hb (by rintro (e | ⟨c,e⟩) <;> cases e) (λes v e=>by cases e) (by
      rw[qF0 hw];cases hor with
      | mapIter _ _ _ _ b' since stepped seen h0 hb' hh =>
       refine .mapIter _ _ _ _ _ _ _ _ h0 hb' λes v hv=>?_;have hne:m'≠i:=λe=>by rw[e,Q0.get_put _ (r.ltTop hg),if_pos rfl] at hv;cases hv
       rw[Q0.get_put _ (r.ltTop hg),if_neg hne] at hv;obtain⟨k1,k2⟩:=hh es v hv;refine⟨k1,λev=>?_⟩;obtain⟨xs,clock,c1,c2,c3,c4⟩:=k2 ev;exact⟨xs,clock,c1,c2,c3,⟨c4.nodup,c4.left,c4.right,c4.kind,.inl rfl⟩⟩)
     rw[qF0 hw] at r3;exact r3
    obtain⟨h',e1,e2,r',hm⟩:=qMl l _ r2 hs4;exact⟨h',e1,e2,r',hm⟩
   .exact qMl l h r hs3
  .exact qMl l h r hs2
theorem dropO_sat {a x:Nat} {m:FM} (r:Rel P W0 E h w) (hs:(dropO a x m).sat p h):∃h',Stp E h E h'/\Rel P W0 E h' w/\m.sat p h':=by
 rcases QA hs with ⟨_,hs1⟩ | ⟨_,h0,h1,h2,h3,hs1⟩
 .exact⟨h,.refl _ _,r,hs1⟩
 .exact⟨(qKv a (h.next-a) h).win (a+x) h.lim,⟨.refl _,λ_ _ h=>.inl h,by rw[h0];rfl,h2⟩,r.drop h0 h1 h2 h3,hs1⟩
theorem qK7 {X:qIv} {c:Code} (hx:CodeS P W0 N n cur ro X c) {jw:LH} {k:KC}:∀(m:Nat) (st:St) (E:Env) (h:Q0) (a:Act) (w:World),
  qR5 (λs q g=>(FM.here λa=>X s λe s'=>curK s'.tmps jw.its (junkK jw.junk s'.tmps λt=>dropO a jw.win (.ret (.st e ⟨t,s'.defers,s'.u⟩)))).sat q g) (λe s g=>(k e s).sat p g) m st h ->
  Rel P W0 E h w->StR E N st a->CurR E cur ro->Stp E0 h0 E h->Code.roundsIn (FW ro) n P c (QP P W0 E0 h0 N k p) m a w
 | 0,_,_,_,_,_,hs,_,_,_,_=>False.elim hs
 | m+1,st,E,h,a,w,hs,r,hst,hcur,s0=>by
  rw[roundsIn_succ];refine wpIn_mono (hx st _ _ E h a w hs r hst hcur) λe a' w' q=>?_;obtain⟨E',h',xe,st',s,r',hst',hex,hs'⟩:=q;obtain⟨h1,e1,e2,r1,hs1⟩:=qMl _ _ r' hs';obtain⟨t,ht,hs2⟩:=qU0 _ _ hst'.tmps hs1;obtain⟨h2,s2,r2,hs3⟩:=dropO_sat r1 hs2;have s1:Stp E h E' h1:=⟨s.le,s.new,e2.trans s.lim,by rw[e1];exact s.next⟩;have s3:=s0.trans (s1.trans s2);have hst2:StR E' N ⟨t,st'.defers,st'.u⟩ a':=⟨ht,hst'.defers⟩;cases hex with
  | normal=>exact qK7 hx m _ E' h2 a' w' hs3 r2 hst2 (hcur.mono s.le) s3
  | exit i=>exact⟨E',h2,.exit i,_,s3,r2,hst2,.exit i,hs3⟩
  | goto l=>exact⟨E',h2,.goto l,_,s3,r2,hst2,.goto l,hs3⟩
  | ret=>exact⟨E',h2,.ret,_,s3,r2,hst2,.ret,hs3⟩
  | panic c d hcd=>exact⟨E',h2,.panic c,_,s3,r2,hst2,.panic c d hcd,hs3⟩
theorem qEk (hc:QU P W0 call) (hr:qt P W0 round) (hm:P.follows .mixedOrders=true) (c:Code):CodeS P W0 N n cur ro (ql P call round H fn N cur lf c) c:=by
 induction c with
 | skip=>exact λst kk p E h a w hs r hst hcur=>wpIn_skip ⟨E,h,.normal,st,.refl _ _,r,hst,.normal,hs⟩
 | region id ops draw=>exact λst kk p E h a w hs r hst hcur=>qQ0 hc hr hm hcur.dok hs r hst
 | seq x y ihx ihy =>
  intro st kk p E h a w hs r hst hcur;refine wpIn_seq (wpIn_mono (ihx st (λe st'=>j7 e st' (λst2=>ql P call round H fn N cur lf y st2 kk) kk) p E h a w hs r hst hcur) λe a' w' q=>?_);exact q.thn λE' h' st' s r' hst' hs'=>wpIn_mono (ihy st' kk p E' h' a' w' hs' r' hst' (hcur.mono s.le)) λ_ _ _ q=>q.step s
 | cond x a b iha ihb =>
  intro st kk p E h ac w hs r hst hcur;have hs1:((qOb P.globals.size st.tmps x).onBool (λb'=>cnd b' (ql P call round H fn N cur lf a st kk) (ql P call round H fn N cur lf b st kk)) (.fail 206)).sat p h:=hs;have hev:=qOa r hst.tmps x;generalize qOb P.globals.size st.tmps x=av at hev hs1;generalize hv:ac.eval x=v at hev;cases hev with
  | bool t =>
   refine wpIn_cond hv ?_;cases t
   .exact ihb st kk p E h ac w hs1 r hst hcur
   .exact iha st kk p E h ac w hs1 r hst hcur
  | _=>exact False.elim hs1
 | block id b ih =>
  intro st kk p E h a w hs r hst hcur;refine wpIn_block (wpIn_mono (ih st (λe st'=>qMj id e st' kk) p E h a w hs r hst hcur) λe a' w' q=>?_);obtain⟨E',h',xe,st',s,r',hst',hex,hs'⟩:=q;cases hex with
  | normal=>exact⟨E',h',.normal,st',s,r',hst',.normal,hs'⟩
  | exit i =>
   have hs2:(cnd (Nat.beq i id) (kk .normal st') (kk (.exit i) st')).sat p h':=hs';rcases QA hs2 with ⟨hb,hs3⟩ | ⟨hb,hs3⟩
   .show (if i=id then QP P W0 E h N kk p .normal a' w' else QP P W0 E h N kk p (.exit i) a' w');rw[if_pos (beq_iff.1 hb)];exact⟨E',h',.normal,st',s,r',hst',.normal,hs3⟩
   .show (if i=id then QP P W0 E h N kk p .normal a' w' else QP P W0 E h N kk p (.exit i) a' w');rw[if_neg (λe=>by rw[beq_iff.2 e] at hb;cases hb)];exact⟨E',h',.exit i,st',s,r',hst',.exit i,hs3⟩
  | goto l=>exact⟨E',h',.goto l,st',s,r',hst',.goto l,hs'⟩
  | ret=>exact⟨E',h',.ret,st',s,r',hst',.ret,hs'⟩
  | panic c d hcd=>exact⟨E',h',.panic c,st',s,r',hst',.panic c d hcd,hs'⟩
 | loop b ih =>
  intro st kk p E h a w hs r hst hcur;have hs1:(xLoops H fn (ql P call round H fn N cur lf b) lf st kk).sat p h:=hs;unfold xLoops at hs1;refine wpIn_loop_rounds lf ?_;cases hl:H.loop fn with
  | none=>rw[hl] at hs1;exact qM1 ih lf st E h a w hs1 r hst hcur (.refl _ _)
  | some jw=>rw[hl] at hs1;exact qK7 ih lf st E h a w hs1 r hst hcur (.refl _ _)
 | rangeFunc g params assign body _ _=>exact λst kk p E h a w hs r hst hcur=>qTi hc hcur hs r hst
 | exit id=>exact λst kk p E h a w hs r hst hcur=>wpIn_exit ⟨E,h,.exit id,st,.refl _ _,r,hst,.exit id,hs⟩
 | scope b _=>exact λst kk p E h a w hs r hst hcur=>False.elim hs
 | label l=>exact λst kk p E h a w hs r hst hcur=>wpIn_label ⟨E,h,.normal,st,.refl _ _,r,hst,.normal,hs⟩
 | goto l=>exact λst kk p E h a w hs r hst hcur=>wpIn_goto ⟨E,h,.goto l,st,.refl _ _,r,hst,.goto l,hs⟩
 | ret=>exact λst kk p E h a w hs r hst hcur=>wpIn_ret ⟨E,h,.ret,st,.refl _ _,r,hst,.ret,hs⟩
 | refuse why=>exact λst kk p E h a w hs r hst hcur=>False.elim hs
end
end Go.X
namespace Go.X
open Go Go.RowKit
section
variable {P:Program} {W0:World} {E E0:Env} {h h0:Q0} {p:QQ} {w:World} {call:Qz} {round:Qv} {N:Nat} {ro:Option Nat} {n:Nat} {kk:KC} {H:Hints} {fn:FuncId} {cur:Option Nat} {lf:Nat}
theorem qVp {k:TT->FM}:∀(ps:List Tmp) (args:List AV) (t:TT),(qPb N ps args t k).sat p h->ps.length=args.length
 | [],[],t,_=>rfl
 | [],_::_,t,hs=>False.elim hs
 | _::_,[],t,hs=>False.elim hs
 | q::ps,a::args,t,hs=>by
  obtain⟨_,hs1⟩:=Qp (m:=TT.putK q a t λt'=>qPb N ps args t' k) hs;rw[TT.putK_eq] at hs1
  have:=qVp ps args _ hs1
  simp[this]
theorem qVo {k:TT->FM}:∀(ps:List Tmp) (args:List AV) (vs:List Value) (t:TT) (tmps:Array Value),VRs E args vs->qU E N t tmps->(qPb N ps args t k).sat p h ->
  ∃t',qU E N t' ((ps.zip vs).foldl (λtmps x=>tmps.setIfInBounds x.1 x.2) tmps)/\(k t').sat p h
 | [],[],vs,t,tmps,hv,ht,hs=>⟨t,ht,hs⟩
 | [],_::_,vs,t,tmps,hv,ht,hs=>False.elim hs
 | _::_,[],vs,t,tmps,hv,ht,hs=>False.elim hs
 | q::ps,a::args,_,t,tmps,.cons _ v _ vs hv hvs,ht,hs=>by obtain⟨hlt,hs1⟩:=Qp (m:=TT.putK q a t λt'=>qPb N ps args t' k) hs;rw[TT.putK_eq] at hs1;exact qVo ps args vs _ _ hvs (ht.put (Qw.1 hlt) hv) hs1
theorem jA4 (l:Nat):(FW none).inRound l=FW (some l):=rfl
theorem qOi {i l:Nat} {k:KV} (r:Rel P W0 E h w) (hi:E.blk i=some l) (s0:Stp E0 h0 E h) {xe:QY} {e:Exit} {a:Act} (hex:ExR E xe e) (hs:(J1 i k xe).sat p h) :
  roundPost P l (qGb P W0 E0 h0 k (λ_=>.fail 0) p) e a w:=by
 obtain⟨o,hg,hs1⟩:=hs;obtain⟨lr,eo,hs2⟩:=qEe hs1;subst eo;obtain⟨b,o,hb,hw,hor⟩:=r.obj _ _ hg;rw[hi] at hb;cases hb;cases hor with
 | loop _ rr hstt hpend N2 ht2 hps ha hbd hdd =>
  have fin:∀(jump:Option Code) (ls:LSt) (pe:QY),PendR pe jump->(if jump.isNone then LoopState.ready else LoopState.done)=lsOf ls->(FM.set i (lr.with ls pe) (k (.bool jump.isNone))).sat p h ->
    ∃v w',(Instr.endRound l jump).run P w=.ok v w'/\qGb P W0 E0 h0 k (λ_=>.fail 0) p (.returned v) w':=by
   intro jump ls pe hpe hls hs3
   have r2:=r.set (a1:=lr.with ls pe) (o1:=.loop { rr with state:=if jump.isNone then .ready else .done,pending:=jump }) hg hi (by rintro (e | ⟨c,e⟩) <;> cases e) (λes v e=>by cases e)
    (.loop ⟨ls,pe,lr.fn,lr.tmps,lr.params,lr.assign,lr.body,lr.defers⟩ _ hls hpe N2 ht2 hps ha hbd hdd)
   exact⟨_,_,run_endRound jump hw,E,h.put i (some (lr.with ls pe)),.bool jump.isNone,s0.trans ⟨.refl _,λ_ _ h=>.inl h,rfl,zN0 _⟩,r2,.bool _,hs3.2⟩
  cases hex with
  | normal=>exact fin none .ready .normal .none rfl hs2
  | exit j=>exact fin (some (.exit j)) .done (.exit j) (.exit j) rfl hs2
  | goto j=>exact False.elim hs2
  | ret=>exact fin (some .ret) .done .ret .ret rfl hs2
  | panic c d hcd=>exact False.elim hs2
theorem qTh (hc:QU P W0 call) (hr:qt P W0 round) (hm:P.follows .mixedOrders=true):qt P W0 (xRound P call round H lf):=by
 refine⟨λi args k p h hs=>?_,λi args k p E h w vs l r hs rel hi hv hw hsz n=>?_⟩
 .obtain⟨o,hg,hs1⟩:=hs;obtain⟨lr,eo,hs2⟩:=qEe hs1;subst eo;refine⟨lr,hg,?_⟩;cases hps:lr.params with
  | nil=>rw[hps] at hs2;exact False.elim hs2
  | cons N ps=>rw[hps] at hs2;simp[qVp ps args _ hs2]
 .obtain⟨o,hg,hs1⟩:=hs;obtain⟨lr,eo,hs2⟩:=qEe hs1;subst eo;obtain⟨b,o,hb,hw1,hor⟩:=rel.obj _ _ hg;rw[hi] at hb;cases hb;rw[hw] at hw1;cases hw1;cases hor with
  | loop _ _ hstt hpend N ht hps ha hbd hdd =>
   rw[hps] at hs2
   have hs3:(qPb N r.params.toList args lr.tmps λt=>ql P call (round) H lr.fn N (some i) lf lr.assign ⟨t,[],.na⟩ λe st=>j7 e st
    (λst'=>.get i λo'=>o'.onLoop (λr'=>LSt.rec (motive:=λ_=>FM)
     (.set i (r'.with .busy r'.pending) (ql P call round H lr.fn N (some i) lf lr.body st' λe2 _=>J1 i k e2)) (.fail 170) (.fail 170) (.fail 170) r'.state) (.fail 171)) (λ_ _=>.fail 172)).sat p h:=hs2
   obtain⟨t,ht2,hs4⟩:=qVo r.params.toList args vs.toList lr.tmps r.tmps hv ht hs3;have hfold:(r.params.zip vs).foldl (λtmps (t,a)=>tmps.setIfInBounds t a) r.tmps=(r.params.toList.zip vs.toList).foldl (λtmps x=>tmps.setIfInBounds x.1 x.2) r.tmps:=by rw[<- Array.foldl_toList,Array.toList_zip]
   rw[hfold,ha,hbd];refine roundIn_of_wpIn trivial ?_;rw[jA4];have hst:StR E N ⟨t,[],.na⟩ { tmps:=(r.params.toList.zip vs.toList).foldl (λtmps x=>tmps.setIfInBounds x.1 x.2) r.tmps,defers:=[] }:=⟨ht2,.nil⟩;refine wpIn_mono (qEk (n:=n) hc hr hm lr.assign _ _ p E h _ w hs4 rel hst (.inr ⟨i,l,rfl,rfl,hi⟩)) λe a1 w1 q=>?_;have q2:=q.thn (K:=λa1 w1=>∃w2,(Instr.beginRound l).run P w1=.ok () w2/\lr.body.wpIn (FW (some l)) n P (roundPost P l (qGb P W0 E h k (λ_=>.fail 0) p)) a1 w2) λE' h' st' s rel' hst' hs'=>?_
   .cases e with
    | normal=>exact q2
    | _=>obtain⟨_,_,_,_,_,_,_,_,hf⟩:=q2;exact hf.elim
   .obtain⟨o',hg',hs5⟩:=hs';obtain⟨lr',eo',hs6⟩:=qEe hs5;subst eo';have hi':=s.le.blk _ _ hi;obtain⟨b,o,hb,hw2,hor⟩:=rel'.obj _ _ hg';rw[hi'] at hb;cases hb;cases hor with
    | loop _ rr' hstt' hpend' N' ht' hps' ha' hbd' hdd' =>
     cases hls:lr'.state with
     | ready =>
      rw[hls] at hs6 hstt'
      have r2:=rel'.set (a1:=lr'.with .busy lr'.pending) (o1:=.loop { rr' with state:=.busy }) hg' hi' (by rintro (e | ⟨c,e⟩) <;> cases e) (λes v e=>by cases e)
       (.loop ⟨.busy,lr'.pending,lr'.fn,lr'.tmps,lr'.params,lr'.assign,lr'.body,lr'.defers⟩ _ rfl hpend' N' ht' hps' ha' hbd' hdd')
      refine⟨_,run_beginRound hw2 hstt',?_⟩;have s2:Stp E h E' (h'.put i (some (lr'.with .busy lr'.pending))):=s.trans ⟨.refl _,λ_ _ h=>.inl h,rfl,zN0 _⟩;refine wpIn_mono (qEk (n:=n) hc hr hm lr.body st' _ p E' _ _ _ hs6.2 r2 hst' (.inr ⟨i,l,rfl,rfl,hi'⟩)) λe2 a2 w3 q3=>?_;obtain⟨E3,h3,xe,st3,s3,rel3,hst3,hex,hs7⟩:=q3;exact qOi rel3 (s3.le.blk _ _ hi') (s2.trans s3) hex hs7
     | busy=>rw[hls] at hs6;exact False.elim hs6
     | done=>rw[hls] at hs6;exact False.elim hs6
     | exhausted=>rw[hls] at hs6;exact False.elim hs6
end
end Go.X
namespace Go.X
open Go Go.RowKit
section
variable {P:Program} {W0:World} {E E0:Env} {h h0:Q0} {p:QQ} {w:World} {call:Qz} {round:Qv} {N:Nat} {n:Nat} {kk:KC} {H:Hints} {lf:Nat}
def qT0 (tmps:Array Value):ResultVar->Sem Value
 | .tmp t=>pure (tmps.getD t undef)
 | .cell a t=>do loadVar t (<- asAddr (tmps.getD a undef))
theorem qPw (fn:Func) (tmps:Array Value):results fn tmps=(do
  let vs <- fn.results.toList.mapM (qT0 tmps)
  pure (if h:vs.toArray.size=1 then vs.toArray[0] else .tuple vs.toArray)):=by
 have e:results fn tmps=(do
  let vs <- fn.results.mapM (qT0 tmps)
  pure (if h:vs.size=1 then vs[0] else .tuple vs)):=rfl
 rw[e,Array.mapM_eq_mapM_toList];simp only[map_eq_pure_bind,bind_assoc,pure_bind]
theorem qRl (r:Rel P W0 E h w) {t:TT} {a:Array Value} (ht:qU E N t a) {x:ResultVar} {k:KV} (hs:(qWj P t x k).sat p h):∃v av,(qT0 a x).run P w=.ok v w/\VR E av v/\(k av).sat p h:=by
 cases x with
 | tmp s =>
  obtain⟨hlt,hs1⟩:=Qp (show (cnd (ltb s 4096) (k (TT.at s t)) (.fail 208)).sat p h from hs);exact⟨_,_,rfl,ht.at' s (Qw.1 hlt),hs1⟩
 | cell s ty =>
  obtain⟨hlt,hs1⟩:=Qp (show (cnd (ltb s 4096) ((TT.at s t).onPtr (λi o=>qL6 P ty i o k) (.fail 209)) (.fail 208)).sat p h from hs);have hv:=ht.at' s (Qw.1 hlt);generalize t.at s=av at hv hs1;generalize hav:a.getD s undef=v at hv;cases hv with
  | ptr i o b x hb hx =>
   obtain⟨v,av,h1,h2,h3⟩:=qIn r hb (show (qL6 P ty i o k).sat p h from hs1);subst hx;exact⟨v,av,by simp only[qT0,hav,asAddr,Sem.run_bind,Sem.run_pure,Result.andThen_ok];exact h1,h2,h3⟩
  | _=>exact False.elim hs1
theorem qE4 (r:Rel P W0 E h w) {t:TT} {a:Array Value} (ht:qU E N t a):∀(l:List ResultVar) (k:List AV->FM),(qN P t l k).sat p h ->
  ∃vs avs,(l.mapM (qT0 a)).run P w=.ok vs w/\VRs E avs vs/\(k avs).sat p h
 | [],k,hs=>⟨[],[],by simp,.nil,hs⟩
 | x::l,k,hs=>by have hs1:(qWj P t x λv=>qN P t l λvs=>k (v::vs)).sat p h:=hs;obtain⟨v,av,h1,h2,h3⟩:=qRl r ht hs1;obtain⟨vs,avs,h4,h5,h6⟩:=qE4 r ht l _ h3;exact⟨v::vs,av::avs,by simp[List.mapM_cons,h1,h4],.cons _ _ _ _ h2 h5,h6⟩
theorem qRk (r:Rel P W0 E h w) {t:TT} {a:Array Value} (ht:qU E N t a) {fn:Func} {k:KV} (hs:(qN P t fn.results.toList λvs=>results1 vs k).sat p h) :
  ∃v av,(results fn a).run P w=.ok v w/\VR E av v/\(k av).sat p h:=by
 obtain⟨vs,avs,h1,h2,h3⟩:=qE4 r ht _ _ hs;rw[qPw];simp only[Sem.run_bind,h1,Result.andThen_ok,Sem.run_pure];cases h2 with
 | nil=>exact⟨_,_,rfl,.tuple _ _ .nil,h3⟩
 | cons x y l m hx hl =>
  cases hl with
  | nil=>exact⟨y,x,rfl,hx,h3⟩
  | cons x2 y2 l2 m2 hx2 hl2=>exact⟨.tuple (y::y2::m2).toArray,.tuple (x::x2::l2),rfl,.tuple _ _ (.cons _ _ _ _ hx (.cons _ _ _ _ hx2 hl2)),h3⟩
theorem qNh (r:Rel P W0 E h w) {t:TT} {a:Array Value} (ht:qU E N t a) {fn:Func} {m:FM} (hs:(qN P t fn.results.toList λ_=>m).sat p h) :
  ∃v,(results fn a).run P w=.ok v w/\m.sat p h:=by
 obtain⟨vs,avs,h1,h2,h3⟩:=qE4 r ht _ _ hs;rw[qPw];simp only[Sem.run_bind,h1,Result.andThen_ok,Sem.run_pure];exact⟨_,rfl,h3⟩
theorem qTq {k:TT->FM}:∀(args:List AV) (vs:List Value) (i:Nat) (t:TT) (a:Array Value),VRs E args vs->qU E N t a->i+args.length<=N->(TT.args args i t k).sat p h ->
  ∃t' a',qU E N t' a'/\(k t').sat p h/\a'.size=a.size/\(∀j,j<i->a'[j]?=a[j]?)/\(∀j v,vs[j]?=some v->a'[i+j]?=some v)/\∀j,i+args.length<=j->a'[j]?=a[j]?
 | [],_,i,t,a,.nil,ht,_,hs=>⟨t,a,ht,hs,rfl,λ_ _=>rfl,λ_ _ e=>by simp at e,λ_ _=>rfl⟩
 | x::args,_,i,t,a,.cons _ v _ vs hv hvs,ht,hlen,hs=>by
  have hs1:(TT.putK i x t λt'=>TT.args args (i+1) t' k).sat p h:=hs;rw[TT.putK_eq] at hs1;simp only[zK0] at hlen;have hsz:=ht.size;obtain⟨t',a',h1,h2,h3,h4,h5,h6⟩:=qTq args vs (i+1) _ _ hvs (ht.put (s:=i) (by omega) hv) (by omega) hs1;refine⟨t',a',h1,h2,by rw[h3,Array.size_setIfInBounds],λj hj=>?_,λj u hu=>?_,λj hj=>?_⟩
  .rw[h4 j (by omega),Array.getElem?_setIfInBounds_ne (by omega)]
  .cases j with
   | zero =>
    simp only[List.getElem?_cons_zero,Option.some.injEq] at hu;subst hu;rw[Nat.add_zero,h4 i (by omega),Array.getElem?_setIfInBounds_self_of_lt (by omega)]
   | succ j =>
    rw[List.getElem?_cons_succ] at hu
    have:=h5 j u hu
    rw[show i+(j+1)=i+1+j by omega];exact this
  .simp only[zK0] at hj;rw[h6 j (by omega),Array.getElem?_setIfInBounds_ne (by omega)]
theorem qTp (hN:N<=4096):qU E N TT.undef (Array.replicate N undef):=⟨by simp,hN,λs _=>by
 rw[TT.at_undef]
 have:(Array.replicate N undef).getD s undef=undef:=by rw[Array.getD_eq_getD_getElem?,Array.getElem?_replicate];by_cases e:s<N <;> simp[e]
 rw[this];exact .tuple _ _ .nil⟩
theorem qVr {args:List AV} {vs:Array Value} {k:TT->FM} (hv:VRs E args vs.toList) (hs:(qSw N args k).sat p h):∃t,qU E N t (vs++Array.replicate (N-vs.size) undef)/\(k t).sat p h:=by
 obtain⟨hN,hs1⟩:=Qp (show (cnd (Nat.ble N 4096) (jQ args Nat.zero λn=>cnd (Nat.ble n N) (TT.args args Nat.zero TT.undef k) (.fail 165)) (.fail 164)).sat p h from hs);rw[qIo] at hs1;obtain⟨hl,hs2⟩:=Qp hs1;have hN2:=zB1 hN;have hl2:=zB1 hl;have hlen:=hv.length;obtain⟨t',a',h1,h2,h3,_,h5,h6⟩:=qTq args vs.toList 0 TT.undef (Array.replicate N undef) hv (qTp hN2) (by omega) hs2;refine⟨t',?_,h2⟩;have hvs:vs.size=args.length:=by rw[<- hlen];simp
 have e:a'=vs++Array.replicate (N-vs.size) undef:=by
  apply Array.ext_getElem?;intro j;rcases Nat.lt_or_ge j vs.size with hj | hj
  .rw[Array.getElem?_append_left hj]
   have:=h5 j vs[j] (by rw[Array.getElem?_toList];simp[hj])
   rw[Nat.zero_add] at this;rw[this];simp[hj]
  .rw[h6 j (by omega),Array.getElem?_append_right hj,Array.getElem?_replicate,Array.getElem?_replicate];by_cases e:j<N
   .rw[if_pos e,if_pos (by omega)]
   .rw[if_neg e,if_neg (by omega)]
 rw[<- e];exact h1
end
end Go.X
namespace Go.X
open Go Go.RowKit
section
variable {P:Program} {W0:World} {E E0:Env} {h h0:Q0} {p:QQ} {w:World} {call:Qz} {round:Qv} {N:Nat} {n:Nat} {kk:KC} {H:Hints} {lf:Nat}
inductive MR (E:Env):QZ->FrameMode->Prop
 | returning:MR E .returning .returning
 | panicking (ch:QR) (d:List PanicEntry) (h:ChR E ch d):MR E (.panicking ch) (.panicking d)
theorem MR.mono {E':Env} (le:E.Le E') {u:QZ} {m:FrameMode} (h:MR E u m):MR E' u m:=by
 cases h with
 | returning=>exact .returning
 | panicking ch d hc=>exact .panicking _ _ (hc.mono le)
theorem MR.run {u:QZ} {m:FrameMode} (h:MR E u m):m≠.run:=by cases h <;> simp
theorem ChR.append {a b:QR} {c d:List PanicEntry} (h:ChR E a c) (k:ChR E b d):ChR E (a++b) (c++d):=by
 induction h with
 | nil=>exact k
 | cons a b v l m h _ ih=>exact .cons _ _ _ _ _ h ih
theorem ChR.drop {a:QR} {d:List PanicEntry} (h:ChR E a d):d.dropWhile (λe=>!e.goexit)=[]:=by
 induction h with
 | nil=>rfl
 | cons a b v l m h _ ih=>rw[List.dropWhile_cons];simpa using ih
theorem MR.settle {u:QZ} {m:FrameMode} (h:MR E u m):MR E (qM8 u) (Go.settle m):=by
 cases h with
 | returning=>exact .returning
 | panicking ch d hc =>
  cases hc with
  | nil=>exact .panicking _ _ .nil
  | cons a b v l m hv ht =>
   cases b with
   | false=>exact .panicking _ _ (.cons _ _ _ _ _ hv ht)
   | true =>
    have e:Go.settle (.panicking ({ v:=v,recovered:=true }::m))=.returning:=by simp only[Go.settle,ht.drop]
    rw[e];exact .returning
theorem MR.raised {u:QZ} {m:FrameMode} (h:MR E u m) {ch:QR} {d:List PanicEntry} (hc:ChR E ch d):MR E (raisedA u ch) (Go.raised m d):=by
 cases h with
 | returning=>exact .panicking _ _ hc
 | panicking c2 d2 hc2=>exact .panicking _ _ (hc.append hc2)
theorem qLh {l:List QT} {m:FM} (hs:(qJt l m).sat p h):l=[]/\m.sat p h:=by
 cases l with
 | nil=>exact⟨rfl,hs⟩
 | cons a l=>exact False.elim hs
def DPost (K:FrameMode->World->Prop):Ending->FrameMode->World->Prop
 | .returned _,u',w'=>K (Go.settle u') w'
 | .panicked chain,u',w'=>K (Go.raised u' chain) w'
 | .outgrown,_,_=>False
theorem qIu {fn:Func} {u:QZ} {k:QZ->FM} {K:FrameMode->World->Prop} {e:Exit} {a:Act} {c0:Frame} {cs:List Frame} {m:FrameMode} (hm:MR E u m)
  (hK:∀E' h' au m' w',Stp E h E' h'->Rel P W0 E' h' w'->MR E' au m'->(k au).sat p h'->K m' w') (q:QP P W0 E h N (qKw P fn u k) p e a w):bodyPostS P fn c0 cs (DPost K) e a ({ c0 with mode:=m }::cs) w:=by
 obtain⟨E',h',xe,st',s,r,hst,hex,hs⟩:=q;obtain⟨hd,hs1⟩:=qLh hs;have hdef:a.defers=[]:=by
  have:=hst.defers
  rw[hd] at this;generalize a.defers=dd at this;cases this with
  | nil=>rfl
 have hm':=hm.mono s.le;cases hex with
 | normal =>
  obtain⟨v,h1,h2⟩:=qNh r hst.tmps (show (qN P st'.tmps fn.results.toList λ_=>k (qM8 u)).sat p h' from hs1);exact⟨hdef,m,rfl,v,h1,hK _ _ _ _ _ s r hm'.settle h2⟩
 | exit i=>exact False.elim hs1
 | goto l=>exact False.elim hs1
 | ret =>
  obtain⟨v,h1,h2⟩:=qNh r hst.tmps (show (qN P st'.tmps fn.results.toList λ_=>k (qM8 u)).sat p h' from hs1);exact⟨hdef,m,rfl,v,h1,hK _ _ _ _ _ s r hm'.settle h2⟩
 | panic c d hcd=>exact⟨hdef,m,rfl,hK _ _ _ _ _ s r (hm'.raised hcd) hs1⟩
theorem qZ6 {o:Oper} {d:Option Tmp} (hd:recOp o=some d):o.guard=none/\(∃cl,o.op=.call cl/\cl.callee=.builtin .recover)/\o.dst=d:=by
 unfold recOp at hd;split at hd
 .rename_i hg ho2;split at hd
  .rename_i hcl;cases hd;exact⟨hg,⟨_,ho2,hcl⟩,rfl⟩
  .cases hd
 .cases hd
theorem qZ7 {c:Code} {dst:Option Tmp} {ops:Array Oper} {os:List Oper} {rest:Code} (h:recOf c=some (dst,ops,os,rest)) :
  ∃id o,c=.seq (.region id ops false) rest/\recOp o=some dst/\ops.toList=o::os:=by
 unfold recOf at h;split at h
 .rename_i id ops r;split at h
  .rename_i o os' ho;split at h
   .rename_i d hd;simp only[Option.some.injEq,Prod.mk.injEq] at h;obtain⟨e1,e2,e3,e4⟩:=h;subst e1;subst e2;subst e3;subst e4;exact⟨id,o,rfl,hd,ho⟩
   .cases h
  .cases h
 .cases h
theorem qQ6 {F:Fence} {id:Nat} {ops:Array Oper} {o:Oper} {l:List Nat} {a:Act} {cs:List Frame} {w:World} {Q:Exit->Act->List Frame->World->Prop} (hro:F.round=none) (hl:List.range ops.size=0::l) (h0:ops[0]?=some o)
  (hw:Region.wanted o (yielded ops a.tmps)=true) (hex:(execOp a.eval o).run P w=.ok .recover w) (habout:∀f,o.about P w a.eval=some f->F.fn f)
  (h:∃v cs',(recoverD cs=some (v,cs')∨(recoverD cs=none/\v=.nilIface/\cs'=cs))/\∃Q1,wpOpsIn F n P ops Q1 l (a.put o.dst v) w/\∀e a' w',Q1 e a' w'->Q e a' cs' w'):(Code.region id ops false).wpSIn F n P Q a cs w:=by
 intro b k hb hr hF hroom;have hk:(b.atR a (.inRegion ops (0::l)::k)).kind=.deferred:=hb;have h1:(lone (b.atR a (.inRegion ops (0::l)::k)) cs w).fenced P F:=fenced_oper hF hroom h0 habout;have hg:=stepGR_op (P:=P) (b:=b) (k:=k) (cs:=cs) (w:=w) (rest:=l) h0 hw;rw[hr,Oper.semAt_none] at hg;have hfin:∀v,(b.atR a (.inRegion ops (0::l)::k)).finish v=b.atR (a.put o.dst v) (.inRegion ops l::k):=by intro v;rw[Frame.finish_atR,h0];rfl
 have htr:=tryRecover_deferred hk cs;obtain⟨v,cs',hrec,Q1,hw1,hq1⟩:=h;have hlen:cs'.length=cs.length:=by
  rcases hrec with hrec | ⟨_,_,e⟩
  .exact recoverD_length hrec
  .rw[e]
 obtain⟨e,a',w',hq,harr⟩:=wp_opsIn _ _ _ hw1 b k cs' (hr.trans hro.symm) hF (hlen ▸ hroom);refine⟨e,a',cs',w',hlen,hq1 _ _ _ hq,.of_steps (.one (fenced_calm hF hroom rfl) stepR_region) ?_⟩;rw[hl];refine .of_steps (.one h1 (step_lone_go ?_)) harr;rcases hrec with hrec | ⟨hrec,e1,e2⟩
 .rw[hg,<- hfin];simp only[Frame.atR,hr] at htr ⊢;simp[stepG.apply,hex,htr,hrec]
 .subst e1;subst e2;rw[hg,<- hfin];simp only[Frame.atR,hr] at htr ⊢;simp[stepG.apply,hex,htr,hrec]
theorem qO2 {u:QZ} {m:FrameMode} (hm:MR E u m) {k:AV->QZ->FM} (hs:(qRn u k).sat p h) (c0:Frame) (cs:List Frame) (hc0:c0.mode=m) :
  ∃v av u' m',VR E av v/\MR E u' m'/\(k av u').sat p h/\(recoverD (c0::cs)=some (v,{ c0 with mode:=m' }::cs)∨(recoverD (c0::cs)=none/\v=.nilIface/\m'=m)):=by
 cases hm with
 | returning=>exact⟨.nilIface,.nilIface,.returning,.returning,.nilIface,.returning,hs,.inr ⟨by simp[recoverD,hc0],rfl,rfl⟩⟩
 | panicking ch d hc =>
  cases hc with
  | nil=>exact⟨.nilIface,.nilIface,.panicking [],.panicking [],.nilIface,.panicking _ _ .nil,hs,.inr ⟨by simp[recoverD,hc0],rfl,rfl⟩⟩
  | cons a b v l m hv ht =>
   cases b with
   | true=>exact⟨.nilIface,.nilIface,_,_,.nilIface,.panicking _ _ (.cons _ _ _ _ _ hv ht),hs,.inr ⟨by simp[recoverD,hc0],rfl,rfl⟩⟩
   | false=>exact⟨v,a,_,.panicking ({ v:=v,recovered:=true }::m),hv,.panicking _ _ (.cons _ true _ _ _ hv ht),hs,.inl (by simp[recoverD,hc0])⟩
theorem qTk (hc:QU P W0 call) (hr:qt P W0 round) (hmo:P.follows .mixedOrders=true) {f:FuncId} {args:List AV} {vs:Array Value} {u:QZ} {m:FrameMode} {k:QZ->FM} {K:FrameMode->World->Prop}
  (hs:(xDefer P call round H lf f args u k).sat p h) (r:Rel P W0 E h w) (hv:VRs E args vs.toList) (hm:MR E u m)
  (hK:∀E' h' au m' w',Stp E h E' h'->Rel P W0 E' h' w'->MR E' au m'->(k au).sat p h'->K m' w'):qC P f=true/\CallsDIn (FW none) n P f vs m w (DPost K):=by
 obtain⟨hb,hs1⟩:=Qp (show (cnd (qC P f) (Qn P.funcs[f]? (.fail 160) λfn=>Qn fn.body (.fail 160) λc=>qSw fn.ntmps args λt =>
  Option.rec (motive:=λ_=>FM) (ql P call round H f fn.ntmps none lf c ⟨t,[],.na⟩ (qKw P fn u k))
   (λdr=>qRn u λv u'=>putDst fn.ntmps dr.1 v ⟨t,[],.na⟩ λst=>xOps P call round fn.ntmps true dr.2.1 dr.2.2.1 st (λst'=>ql P call round H f fn.ntmps none lf dr.2.2.2 st' (qKw P fn u' k)) (λst' ch=>qKw P fn u' k (.panic ch) st')) (recOf c)) (.fail 193)).sat p h from hs)
 refine⟨hb,?_⟩;obtain⟨fn,hf,hs2⟩:=Qj hs1;obtain⟨c,hbo,hs3⟩:=Qj hs2;obtain⟨t,ht,hs4⟩:=qVr hv hs3;have hst:StR E fn.ntmps ⟨t,[],.na⟩ { tmps:=vs++Array.replicate (fn.ntmps-vs.size) undef,defers:=[] }:=⟨ht,.nil⟩;refine callsDIn_of_wpSIn hf hbo trivial λc0 cs hc0=>?_;have hself:({ c0 with mode:=m }:Frame)=c0:=by subst hc0;rfl
 cases hrec:recOf c with
 | none =>
  rw[hrec] at hs4;refine wpSIn_of_wpIn rfl (wpIn_mono (qEk (n:=n) hc hr hmo c _ _ p E h _ w hs4 r hst (.inl ⟨rfl,rfl⟩)) λe a w' q=>?_)
  have:=qIu (c0:=c0) (cs:=cs) hm hK q
  rw[hself] at this;exact this
 | some dr =>
  obtain⟨dst,ops,os,rest⟩:=dr;rw[hrec] at hs4;obtain⟨id,o,ec,hro,hops⟩:=qZ7 hrec;obtain⟨hg,⟨cl,hop,hcl⟩,hdst⟩:=qZ6 hro;subst ec;obtain⟨v,av,u',m',hv',hm',hs5,hrd⟩:=qO2 hm hs4 c0 cs hc0;obtain⟨st',hst',hs6⟩:=qFd hs5 hst hv';have hs6:(xOps P call round fn.ntmps true ops os st' (λst2=>ql P call round H f fn.ntmps none lf rest st2 (qKw P fn u' k)) (λst2 ch=>qKw P fn u' k (.panic ch) st2)).sat p h:=hs6;refine wpSIn_seq (qQ6 (o:=o) (l:=List.range' 1 os.length) rfl ?_ ?_ ?_ ?_ (λ_ _=>trivial) ⟨v,({ c0 with mode:=m' }:Frame)::cs,?_,?_⟩)
  .rw[<- Array.length_toList,hops,zK0,List.range_eq_range',List.range'_succ]
  .rw[<- Array.getElem?_toList,hops];rfl
  .simp[Region.wanted,hg]
  .simp[execOp,hop,resolve,hcl,invoke,builtin]
  .rcases hrd with hrd | ⟨hrd,e1,e2⟩
   .exact .inl hrd
   .subst e2;rw[hself];exact .inr ⟨hrd,e1,rfl⟩
  .have hx:=qKb (kk:=λe st=>j7 e st (λst2=>ql P call round H f fn.ntmps none lf rest st2 (qKw P fn u' k)) (qKw P fn u' k)) (n:=n) (ro:=none) hc hr (dok:=true) (λ_=>rfl) os 1 (by rw[hops];rfl) st' _ E h w hs6 r hst' (Stp.refl _ _);rw[hdst];refine⟨_,hx,λe a' w' q=>?_⟩;obtain⟨E',h',xe,st2,s,r2,hst2,hex,hsat⟩:=q;have tail:∀e,(qKw P fn u' k xe st2).sat p h'->ExR E' xe e->bodyPostS P fn c0 cs (DPost K) e a' ({ c0 with mode:=m' }::cs) w':=λe hd hx=>qIu (c0:=c0) (cs:=cs) hm' hK ⟨E',h',xe,st2,s,r2,hst2,hx,hd⟩;cases hex with
   | normal =>
    have hs7:(ql P call round H f fn.ntmps none lf rest st2 (qKw P fn u' k)).sat p h':=hsat;exact wpSIn_of_wpIn rfl (wpIn_mono (qEk (n:=n) hc hr hmo rest _ _ p E' h' _ w' hs7 r2 hst2 (.inl ⟨rfl,rfl⟩)) λe a w' q=>qIu (c0:=c0) (cs:=cs) (hm'.mono s.le) (λE2 h2 au m2 w2 s2 r3 hm2 hk2=>hK E2 h2 au m2 w2 (s.trans s2) r3 hm2 hk2) q)
   | exit i=>exact tail _ hsat (.exit i)
   | goto l=>exact tail _ hsat (.goto l)
   | ret=>exact tail _ hsat .ret
   | panic c d hcd=>exact tail _ hsat (.panic c d hcd)
end
end Go.X
namespace Go.X
open Go Go.RowKit
section
variable {P:Program} {W0:World} {E E0:Env} {h h0:Q0} {p:QQ} {w:World} {call:Qz} {round:Qv} {N:Nat} {n:Nat} {kk:KC} {H:Hints} {lf:Nat}
theorem qIc {f:FuncId} (hb:qC P f=true) (vs:Array Value) (w:World):(callFunc f vs).run P w=.ok (.enter f vs) w:=by
 unfold qC at hb;cases hfn:P.funcs[f]? with
 | none=>rw[hfn] at hb;cases hb
 | some gn =>
  rw[hfn] at hb;simp only[Bool.and_eq_true,Bool.not_eq_true'] at hb;have hh1:gn.name ≠ "runtime.NumGoroutine":=by simpa using hb.2
  cases hbo:gn.body with
  | none=>rw[hbo] at hb;simp at hb
  | some c=>simp[callFunc,hfn,hh1,hbo]
theorem jO (hc:QU P W0 call) (hr:qt P W0 round) (hmo:P.follows .mixedOrders=true) {fn:Func} {tmps:Array Value} {t:TT} {k:KV} {kp:QR->FM} :
  ∀(ds:List QT) (cs:List Deferred) (u:QZ) (m:FrameMode) (E:Env) (h:Q0) (w:World),DRs E ds cs->MR E u m->Rel P W0 E h w->qU E N t tmps->Stp E0 h0 E h ->
  (qE3 P call round H lf ds u (endK P fn t k kp)).sat p h->LeavesInM (FW none) n P fn tmps (qGb P W0 E0 h0 k kp p) cs m w
 | [],_,u,m,E,h,w,.nil,hm,r,ht,s0,hs=>by
  have hs1:(endK P fn t k kp u).sat p h:=hs;cases hm with
  | returning =>
   obtain⟨v,av,h1,h2,h3⟩:=qRk r ht (show (qN P t fn.results.toList λvs=>results1 vs k).sat p h from hs1);exact⟨v,h1,E,h,av,s0,r,h2,h3⟩
  | panicking ch d hcd=>exact⟨E,h,ch,s0,r,hcd,hs1⟩
 | a::ds,_,u,m,E,h,w,.cons _ d _ cs hd hds,hm,r,ht,s0,hs=>by
  refine⟨hm.run,?_⟩;cases hd with
  | mark i b hb =>
   left;have hs1:(FM.get i λo=>o.onDeferred (λl=>qJt l (.set i .tomb (qE3 P call round H lf ds u (endK P fn t k kp)))) (.fail 192)).sat p h:=hs;obtain⟨o,hg,hs2⟩:=hs1;obtain⟨b',ob,hb',hw,hor⟩:=r.obj _ _ hg;rw[hb] at hb';cases hb';cases hor with
   | deferred l cs2 hl =>
    obtain⟨e,hs3⟩:=qLh (show (qJt l (.set i .tomb (qE3 P call round H lf ds u (endK P fn t k kp)))).sat p h from hs2);subst e;cases hl with
    | nil =>
     have r2:=r.set (a1:=.tomb) (o1:=.deferred none) hg hb (by rintro (e | ⟨c,e⟩) <;> cases e) (λes v e=>by cases e) (.tomb _);have s2:Stp E h E (h.put i (some .tomb)):=⟨.refl _,λ_ _ h=>.inl h,rfl,zN0 _⟩;exact⟨b,_,rfl,run_takeDeferred hw,jO hc hr hmo ds cs u m E _ _ hds hm r2 ht (s0.trans s2) hs3.2⟩
   | _=>exact False.elim hs2
  | fn f l cap args hl =>
   right;have hs1:(xDefer P call round H lf f l u λu'=>qE3 P call round H lf ds u' (endK P fn t k kp)).sat p h:=hs;obtain⟨hb,hcd⟩:=qTk (n:=n-1) hc hr hmo hs1 r hl hm (K:=λm' w'=>LeavesInM (FW none) n P fn tmps (qGb P W0 E0 h0 k kp p) cs m' w') λE' h' au m' w' s r' hm' hs' =>
    jO hc hr hmo ds cs au m' E' h' w' (hds.mono s.le) hm' r' (ht.mono s.le) (s0.trans s) hs'
   have hdep:(FW none).depth.isSome=true->1<=n:=λh=>by cases h
   refine⟨hdep,.func f,cap,f,args++cap,rfl,?_,λ_ _=>trivial,hcd.mono λe u' w' he=>?_⟩
   .show (invoke (.fn (.func f) cap) args).run P w=_;simp only[invoke];exact qIc hb _ _
   .cases e with
    | returned v=>exact he
    | panicked c=>exact he
    | outgrown=>exact he.elim
theorem qV9 (hc:QU P W0 call) (hr:qt P W0 round) (hmo:P.follows .mixedOrders=true):QU P W0 (qOw P H lf call round):=by
 intro f args k kp p E h w vs hb hs r hv;obtain⟨fn,hf,hs2⟩:=Qj (show (Qn P.funcs[f]? (.fail 160) λfn=>Qn fn.body (.fail 160) λc=>qSw fn.ntmps args λt=>ql P call round H f fn.ntmps none lf c ⟨t,[],.na⟩ (qGi P call round H lf fn k kp)).sat p h from hs);obtain⟨c,hbo,hs3⟩:=Qj hs2;obtain⟨t,ht,hs4⟩:=qVr hv hs3;have hst:StR E fn.ntmps ⟨t,[],.na⟩ { tmps:=vs++Array.replicate (fn.ntmps-vs.size) undef,defers:=[] }:=⟨ht,.nil⟩;have key:CallsIn (FW none) 0 P f vs w (qGb P W0 E h k kp p):=by
  refine callsIn_of_wp_marks hf hbo trivial (wpIn_mono (qEk (n:=0) hc hr hmo c _ _ p E h _ w hs4 r hst (.inl ⟨rfl,rfl⟩)) λe a w' q=>?_);obtain⟨E',h',xe,st',s,r',hst',hex,hs'⟩:=q;cases hex with
  | normal=>exact jO hc hr hmo _ _ .returning .returning E' h' w' hst'.defers .returning r' hst'.tmps s hs'
  | exit i=>exact False.elim hs'
  | goto l=>exact False.elim hs'
  | ret=>exact jO hc hr hmo _ _ .returning .returning E' h' w' hst'.defers .returning r' hst'.tmps s hs'
  | panic c d hcd=>exact jO hc hr hmo _ _ (.panicking c) (.panicking d) E' h' w' hst'.defers (.panicking _ _ hcd) r' hst'.tmps s hs'
 exact qKy.1 key
theorem Calls.imp {f:FuncId} {vs:Array Value} {R R':Ending->World->Prop} (h:Calls P f vs w R) (hr:∀e w',R e w'->R' e w'):Calls P f vs w R':=Calls.mono h hr
theorem qU1 (hc:QU P W0 call):QU P W0 (qYs call):=by
 intro f args k kp p E h w vs hb hs r hv;refine Calls.mono (hc f args (λv=>.ret (.val v)) (λch=>.ret (.pan ch .na)) _ E h w vs hb hs r hv) λe w' he=>?_;cases e with
 | returned v=>exact he
 | panicked c=>exact he
 | outgrown=>exact he
theorem qFt {av:AV} {m:FM} (hw:0<w.heap.size):∀(c:Nat) (E:Env) (h:Q0),Stp E0 h0 E h->Rel P W0 E h w->(gcK h0.next av c m).sat p h->∃E' h',Stp E0 h0 E' h'/\E.Le E'/\Rel P W0 E' h' w/\m.sat p h'
 | 0,E,h,s0,r,hs=>⟨E,h,s0,.refl _,r,hs⟩
 | c+1,E,h,s0,r,hs=>by
  have hs1:(cnd (ownOf av (Nat.add h0.next c)) (gcK h0.next av c m) (Qo (Nat.add h0.next c) λi=>.set i .tomb (gcK h0.next av c m))).sat p h:=hs;rcases QA hs1 with ⟨_,hs2⟩ | ⟨_,hs2⟩
  .exact qFt hw c E h s0 r hs2
  .rw[Qk] at hs2;obtain⟨hlt,hs3⟩:=hs2;have hi:h0.next+c<h.next:=hlt
   have ht:h.inf=true∨h0.next+c<top:=r.lim.elim .inl λl=>r.room.imp id λq=>by omega
   have hl:h0.fr (h0.next+c):=(fr_iff s0.lim _).1 (r.room.imp id λhr=>by omega);cases hb:E.blk (h0.next+c) with
   | some b=>exact qFt hw c E (h.put (h0.next+c) (some .tomb)) ⟨s0.le,s0.new,s0.lim,s0.next⟩ (r.tombB ht hb) hs3
   | none =>have le:=Env.add_le hb 0 0 0;have s1:Stp E0 h0 (E.add (h0.next+c) 0 0 0) (h.put (h0.next+c) (some .tomb)):=⟨s0.le.trans le,λi b hib=>(Env.add_inv hib).elim (λe=>.inr ⟨by omega,by rw[e.1];exact hl⟩) (λe=>s0.new i b e.2),s0.lim,s0.next⟩;obtain⟨E',h',a1,a2,a3,a4⟩:=qFt hw c _ _ s1 (r.tombs hi hb hw) hs3;exact⟨E',h',a1,le.trans a2,a3,a4⟩
theorem qSc (hW:0<W0.heap.size) (hc:QU P W0 call):QU P W0 (qW1 call):=by
 intro f args k kp p E h w vs hb hs r hv;refine Calls.mono (hc f args (λv=>.here λb=>gcK h.next v (Nat.sub b h.next) (.ret (.val v))) (λch=>.ret (.pan ch .na)) _ E h w vs hb hs r hv) λe w' he=>?_;cases e with
 | returned v =>
  obtain⟨E',h',av,s,r',hv',hs'⟩:=he;have hw:0<w'.heap.size:=zF0 hW r'.below.size;obtain⟨E2,h2,s2,le,r2,hs2⟩:=qFt hw _ E' h' s r' hs';exact⟨E2,h2,av,s2,r2,hv'.mono le,hs2⟩
 | panicked c=>exact he
 | outgrown=>exact he
def qk (P:Program) (W0:World) (sums:Sums):Prop:=∀f s,sums f=some s->∀args (k:KV) (kp:QR->FM) p E h w (vs:Array Value),qC P f=true->(s args k kp).sat p h->Rel P W0 E h w->VRs E args vs.toList->Calls P f vs w (qGb P W0 E h k kp p)
theorem qTj {sums:Sums} (hsum:qk P W0 sums) (hW:0<W0.heap.size∨∀f,H.join f<=1) (hc:QU P W0 call) (hr:qt P W0 round) (hmo:P.follows .mixedOrders=true):QU P W0 (qX9 P H sums lf call round):=by
 intro f args k kp p E h w vs hb hs r hv;have hbody:=qV9 (H:=H) (lf:=lf) hc hr hmo;have hs1:(Option.rec (motive:=λ_=>FM) (cnd (Nat.beq (H.join f) 0) (qOw P H lf call round f args k kp) (cnd (Nat.beq (H.join f) 1) (qYs (qOw P H lf call round) f args k kp) (qW1 (qOw P H lf call round) f args k kp))) (λs=>s args k kp) (sums f)).sat p h:=hs;cases hsf:sums f with
 | some s =>
  rw[hsf] at hs1;exact hsum f s hsf args k kp p E h w vs hb hs1 r hv
 | none =>
  rw[hsf] at hs1;rcases QA hs1 with ⟨_,hs2⟩ | ⟨h0',hs2⟩
  .exact hbody f args k kp p E h w vs hb hs2 r hv
  .rcases QA hs2 with ⟨_,hs3⟩ | ⟨h1',hs3⟩
   .exact qU1 hbody f args k kp p E h w vs hb hs3 r hv
   .refine qSc ?_ hbody f args k kp p E h w vs hb hs3 r hv;rcases hW with hW | hW
    .exact hW
    .exfalso
     have:=hW f
     have n0:H.join f≠0:=λe=>by rw[e] at h0';cases h0'
     have n1:H.join f≠1:=λe=>by rw[e] at h1';cases h1'
     omega
theorem qM4 {sums:Sums} (hsum:qk P W0 sums) (hW:0<W0.heap.size∨∀f,H.join f<=1) (hmo:P.follows .mixedOrders=true):∀n,QU P W0 (xCR P H sums lf n).call/\qt P W0 (xCR P H sums lf n).round
 | 0=>⟨λf args k kp p E h w vs hb hs r hv=>False.elim hs,λi args k p h hs=>False.elim hs,λi args k p E h w vs l r hs=>False.elim hs⟩
 | n+1 =>
  have ih:=qM4 hsum hW hmo n
  ⟨qTj hsum hW ih.1 ih.2 hmo,qTh ih.1 ih.2 hmo⟩
theorem qM3 {sums:Sums} (hsum:qk P W0 sums) (hW:0<W0.heap.size∨∀f,H.join f<=1) (hmo:P.follows .mixedOrders=true) {n:Nat} {f:FuncId} {args:List AV} {vs:Array Value} (hb:qC P f=true)
  (hs:(xCall P H sums lf n f args).sat p h) (r:Rel P W0 E h w) (hv:VRs E args vs.toList) :
  Calls P f vs w λe w'=>∃v E' h' av,e=.returned v/\Stp E h E' h'/\Rel P W0 E' h' w'/\VR E' av v/\p (.val av) h':=by
 refine Calls.mono ((qM4 hsum hW hmo n).1 f args _ _ p E h w vs hb hs r hv) λe w' he=>?_;cases e with
 | returned v =>
  obtain⟨E',h',av,s,r',hv',hs'⟩:=he;exact⟨v,E',h',av,rfl,s,r',hv',hs'⟩
 | panicked c=>obtain⟨_,_,_,_,_,_,hf⟩:=he;exact hf.elim
 | outgrown=>exact he.elim
end
end Go.X
namespace Go.X
open Go Go.RowKit
def resB (r:Res):Bool:=Res.rec (motive:=λ_=>Bool) (λv=>Qe v (.bool true)) (λ_ _=>false) (λ_ _=>false) (λ_ _=>false) r
def qXw (o:Out):Bool:=Out.rec (motive:=λ_=>Bool) (λ_=>false) (λl _=>List.rec (motive:=λ_=>Bool) true (λx _ ih=>cnd (resB x.1) ih false) l) o
theorem resB_spec {r:Res} (h:resB r=true):r=.val (.bool true):=by
 cases r with
 | val v=>rw[qF7 v _ h]
 | _=>cases h
theorem qVt {o:Out} (h:qXw o=true):∃l g,o=.ok l g/\∀x,x∈l->x.1=.val (.bool true):=by
 cases o with
 | err n=>cases h
 | ok l g =>
  refine⟨l,g,rfl,?_⟩;have key:∀l:List (Res × Q2),(List.rec (motive:=λ_=>Bool) true (λx _ ih=>cnd (resB x.1) ih false) l:Bool)=true->∀x,x∈l->x.1=.val (.bool true):=by
   intro l
   induction l with
   | nil=>exact λ_ x hx=>absurd hx zM0
   | cons a t ih =>
    intro h x hx;have h2:cnd (resB a.1) (List.rec (motive:=λ_=>Bool) true (λx _ ih=>cnd (resB x.1) ih false) t) false=true:=h;rw[Qs] at h2;rcases List.mem_cons.1 hx with e | e
    .rw[e];exact resB_spec h2.1
    .exact ih h2.2 x e
  exact key l h
def qPt (G:Nat):Q2:=⟨Tr.empty,G,65536⟩
def startE (G:Nat):Env:=⟨λi=>if i<G then some i else none,λ_=>0,λ_=>0⟩
theorem qPs (G i:Nat):(qPt G).get i=none:=by show cnd (ltb i top) (Tr.getP (p4 i) Tr.empty) none=none;rw[Tr.get_empty];cases ltb i top <;> rfl
theorem qFv (G i:Nat):(qPt G).fn.get i=none:=qPs G i
section
variable {P:Program} {W:World} {G:Nat}
theorem start_rel (hG:P.globals.size=G) (hsz:G<=W.heap.size) (ht:G<=top):Rel P W (startE G) (qPt G).fn W:=by
 refine⟨λi ao hi=>?_,λi j x y b hi=>?_,λi h1 h2=>?_,λi b hb=>?_,Below.refl _ _,λi ao b hi=>?_,λg hg=>⟨if_pos (by omega),rfl⟩,.inr ⟨zN0 _,λi ao hi=>?_⟩,.inr ht⟩
 .rw[qFv] at hi;cases hi
 .rw[qFv] at hi;cases hi
 .exact if_neg (by have:G<=i:=h1;omega)
 .by_cases e:i<G
  .have:(startE G).blk i=some i:=if_pos e
   rw[this] at hb;cases hb;omega
  .have:(startE G).blk i=none:=if_neg e
   rw[this] at hb;cases hb
 .rw[qFv] at hi;cases hi
 .rw[qFv] at hi;cases hi
theorem start_WF (ht:G<=top):(qPt G).WF:=⟨ht,zN0 _,λi _ _=>qPs G i⟩
theorem qXj {H:Hints} {sums:Sums} {lf n:Nat} {f:FuncId} (hmo:P.follows .mixedOrders=true) (hG:P.globals.size=G) (hsz:G<=W.heap.size) (ht:G<=top) (hb:qC P f=true)
  (hsum:qk P W sums) (hW:0<W.heap.size∨∀f,H.join f<=1) (hrun:qXw ((xCall P H sums lf n f []).run 0 (qPt G) Log.nil)=true) :
  Calls P f #[] W λe W'=>e=.returned (.bool true)/\Below W.heap.size W W':=by
 obtain⟨l,g,e,hl⟩:=qVt hrun;have hs:=run_sat _ _ _ _ _ _ (λr _=>r=.val (.bool true)) e (start_WF ht) (zA1 _) hl;refine Calls.mono (qM3 hsum hW hmo hb hs (start_rel hG hsz ht) (vs:=#[]) .nil) λe w' ⟨v,E',h',av,e1,s,r,hv,hp⟩=>?_;subst e1;cases hp;cases hv;exact⟨rfl,r.below⟩
theorem qWf {g:Nat} (hsh:W.ShapedOpen P) (hg:g<P.globals.size) (h:(((begin P (λ_ _=>0) default).world.heap[g]?).bind Obj.row?).isSome=true):g+1<=W.heap.size:=by obtain⟨⟨zero,t⟩,hz⟩:=Option.isSome_iff_exists.1 h;obtain⟨cs,hc,_⟩:=hsh.1 g zero t hg hz;exact (Array.getElem?_eq_some_iff.1 hc).1
theorem noSums:qk P W λ_=>none:=λ_ _ h=>by cases h
end
end Go.X
