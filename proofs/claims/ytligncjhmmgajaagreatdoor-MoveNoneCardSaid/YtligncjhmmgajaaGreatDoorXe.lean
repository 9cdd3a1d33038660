/-
 PROVED: regions,code,loops,rounds,deferred calls and calls are sound;a closed law that runs to true over abstract values returns true. Condition: the program follows 'mixedOrders'.
-/
import Derived.Test.YtligncjhmmgajaaGreatDoorXd
import Derived.Orders
import Derived.OrdersIn
import Derived.LoopNIn
import Derived.RangeFuncIn
import Derived.Lib.LaidTab
set_option linter.unusedVariables false
set_option linter.unusedSimpArgs false
open List renaming mem_cons_of_mem -> zA0, mem_cons_self -> zB0, mem_of_getElem? -> zC0, getElem?_eq_getElem -> zD0, mem_append_left -> zG0, mem_append_right -> zH0, length_cons -> zJ0, not_mem_nil -> zK0
open Nat renaming lt_of_lt_of_le -> zE0, le_refl -> zL0, le_trans -> zM0, le_of_ble_eq_true -> zS0
noncomputable section
namespace Go.X
open Go Go.RowKit
theorem getD_set (a:Array Value) (s r:Nat) (v:Value) (hs:s<a.size):(a.setIfInBounds s v).getD r undef=if r=s then v else a.getD r undef:=by
 simp only[Array.getD_eq_getD_getElem?,Array.getElem?_setIfInBounds];by_cases h:s=r
 .subst h;simp[hs]
 .rw[if_neg h,if_neg (λe=>h e.symm)]
section
variable {E:Env} {N:Nat}
theorem j8.put {t:TT} {a:Array Value} (h:j8 E N t a) {s:Nat} (hs:s<N) {av:AV} {v:Value} (hv:VR E av v):j8 E N (TT.put s av t) (a.setIfInBounds s v):=by
 have hle:=h.le;refine⟨by rw[Array.size_setIfInBounds];exact h.size,h.le,λr hr=>?_⟩;rw[TT.at_put (by omega) hr,getD_set _ _ _ _ (by rw[h.size];exact hs)];by_cases e:r=s
 .rw[if_pos e,if_pos e];exact hv
 .rw[if_neg e,if_neg e];exact h.at' r hr
structure StR (E:Env) (N:Nat) (st:St) (a:Act):Prop where
 tmps:j8 E N st.tmps a.tmps
 defers:DRs E st.defers a.defers
theorem StR.mono {E E':Env} (le:E.Le E') {st:St} {a:Act} (h:StR E N st a):StR E' N st a:=⟨h.tmps.mono le,h.defers.mono le⟩
theorem jA {dst:Option Tmp} {av:AV} {st:St} {k:St->FM} {p:QF} {h:Q0} (hs:(putDst N dst av st k).sat p h) {a:Act} (hst:StR E N st a) {v:Value} (hv:VR E av v) :
  ∃st',StR E N st' (a.put dst v)/\(k st').sat p h:=by
 cases dst with
 | none=>exact⟨st,hst,hs⟩
 | some s =>obtain⟨hlt,hs2⟩:=Qi (m:=TT.putK s av st.tmps λt=>k ⟨t,st.defers,st.u⟩) hs;rw[TT.putK_eq] at hs2;exact⟨⟨TT.put s av st.tmps,st.defers,st.u⟩,⟨hst.tmps.put (Qo.1 hlt) hv,hst.defers⟩,hs2⟩
theorem getD_some {a:Array Value} {s:Nat} {v:Value} (h:a.getD s undef=v) (hv:v≠undef):a[s]?=some v:=by
 rw[Array.getD_eq_getD_getElem?] at h;cases ha:a[s]? with
 | none=>rw[ha] at h;exact absurd h.symm hv
 | some u=>rw[ha] at h;simp at h;rw[h]
theorem qGk {ops:Array Oper} {t:TT} {a:Array Value} (ht:j8 E N t a) {o:Oper} {k:Bool->FM} {p:QF} {h:Q0} (hs:(jf ops t o k).sat p h):(k (Region.wanted o (yielded ops a))).sat p h:=by
 have hs1:(Option.rec (motive:=λ_=>FM) (k true) (λg=>Option.rec (motive:=λ_=>FM) (k false) (λs=>cnd (ltb s 4096) (qOt g.2 (TT.at s t) k) (.fail 159)) g.1) (guardOf ops o)).sat p h:=hs;unfold guardOf at hs1;unfold Region.wanted;cases hg:o.guard with
 | none=>rw[hg] at hs1;exact hs1
 | some jw =>
  obtain⟨j,want⟩:=jw;rw[hg] at hs1;simp only at hs1 ⊢;cases ho:ops[j]? with
  | none =>
   rw[ho] at hs1
   have:yielded ops a j=none:=by simp[yielded,ho]
   rw[this];exact hs1
  | some x =>
   rw[ho] at hs1;simp only at hs1;cases hd:x.dst with
   | none =>
    rw[hd] at hs1
    have:yielded ops a j=none:=by simp[yielded,ho,hd]
    rw[this];exact hs1
   | some s =>
    rw[hd] at hs1;obtain⟨hlt,hs2⟩:=Qi hs1;have hv:=ht.at' s (Qo.1 hlt);generalize t.at s=av at hv hs2;generalize hgd:a.getD s undef=v at hv;cases hv with
    | bool b =>
     have hget:=getD_some hgd (by simp[undef])
     have:yielded ops a j=some b:=by simp[yielded,ho,hd,hget]
     rw[this];have hs3:(k (cnd b want (cnd want false true))).sat p h:=hs2
     have:(some b == some want)=cnd b want (cnd want false true):=by cases b <;> cases want <;> rfl
     rw[this];exact hs3
    | tuple cs x hx =>
     have:yielded ops a j=none:=by
      unfold yielded;rw[ho];simp only[Option.bind_some,hd];rw[Array.getD_eq_getD_getElem?] at hgd;cases hq:a[s]? with
      | none=>rfl
      | some u=>rw[hq] at hgd;simp at hgd;subst hgd;rfl
     rw[this];exact hs2
    | _=>exact False.elim hs2
end
section
variable (P:Program) (W0:World)
def FW (ro:Option Nat):Fence:={ Fence.wide with round:=ro }
def Jn (E:Env) (h:Q0) (k:KV) (kp:QD->FM) (p:QF):Ending->World->Prop
 | .returned v,w'=>∃E' h' av,Stp E h E' h'/\Rel P W0 E' h' w'/\VR E' av v/\(k av).sat p h'
 | .panicked chain,w'=>∃E' h' ach,Stp E h E' h'/\Rel P W0 E' h' w'/\ChR E' ach chain/\(kp ach).sat p h'
 | .outgrown,_=>False
def QJ (call:Qw):Prop:=∀f args (k:KV) (kp:QD->FM) p E h w vs,qn P f=true->(call f args k kp).sat p h->Rel P W0 E h w->VRs E args (Array.toList vs)->Calls P f vs w (Jn P W0 E h k kp p)
def qc (round:Qs):Prop:=qF9 round/\∀i args (k:KV) p E h w (vs:Array Value) l r,(round i args k).sat p h->Rel P W0 E h w->E.blk i=some l->VRs E args vs.toList->w.heap[l]?=some (.loop r)->vs.size=r.params.size ->
 ∀n,RoundIn (FW none) n P l r.fn ((r.params.zip vs).foldl (λtmps (t,a)=>tmps.setIfInBounds t a) r.tmps) r.assign r.body w (Jn P W0 E h k (λ_=>.fail 0) p)
inductive ExR (E:Env):qd->Exit->Prop
 | normal:ExR E .normal .normal
 | exit (i:Nat):ExR E (.exit i) (.exit i)
 | goto (l:Nat):ExR E (.goto l) (.goto l)
 | ret:ExR E .ret .ret
 | panic (c:QD) (d:List PanicEntry) (h:ChR E c d):ExR E (.panic c) (.panic d)
def QP (E0:Env) (h0:Q0) (N:Nat) (kk:KC) (p:QF) (e:Exit) (a:Act) (w:World):Prop :=
 ∃E' h' xe st',Stp E0 h0 E' h'/\Rel P W0 E' h' w/\StR E' N st' a/\ExR E' xe e/\(kk xe st').sat p h'
end
section
variable {P:Program} {W0:World} {E E0:Env} {h h0:Q0} {p:QF} {w:World} {k:KV} {call:Qw} {round:Qs} {N:Nat} {ro:Option Nat} {n:Nat} {kk:KC}
theorem qNy {f:FuncId} {args:Array Value} {R:Ending->World->Prop}:CallsIn (FW ro) n P f args w R↔Calls P f args w R:=by show CallsIn Fence.wide n P f args w R↔_;exact callsIn_wide
theorem jGc {l:Nat} {f:FuncId} {tmps:Array Value} {assign body:Code} {R:Ending->World->Prop}:RoundIn (FW ro) n P l f tmps assign body w R↔RoundIn (FW none) n P l f tmps assign body w R:=Iff.rfl
theorem QP.step {E1:Env} {h1:Q0} (s:Stp E0 h0 E1 h1) {e:Exit} {a:Act} {w:World} (q:QP P W0 E1 h1 N kk p e a w):QP P W0 E0 h0 N kk p e a w:=by obtain⟨E',h',xe,st',a1,a2,a3,a4,a5⟩:=q;exact⟨E',h',xe,st',s.trans a1,a2,a3,a4,a5⟩
theorem StR.put {st:St} {a:Act} (hst:StR E N st a) {d:Deferred} {ad:qk} (hd:DR E ad d):StR E N ⟨st.tmps,ad::st.defers,st.u⟩ { a with defers:=d::a.defers }:=⟨hst.tmps,.cons _ _ _ _ hd hst.defers⟩
theorem qPr (hc:QJ P W0 call) (hr:qc P W0 round) {o:Oper} {a:Act} {k:KV} {kd:qk->FM} {kp:QD->FM} {K:Act->World->Prop} {Q:Exit->Act->World->Prop}
  (back:∀E' h' w' av v,Stp E h E' h'->Rel P W0 E' h' w'->VR E' av v->(k av).sat p h'->K (a.put o.dst v) w')
  (skp:∀E' h' w',Stp E h E' h'->Rel P W0 E' h' w'->(k (.tuple [])).sat p h'->K (a.put o.dst undef) w')
  (dfr:∀E' h' w' ad d,Stp E h E' h'->Rel P W0 E' h' w'->DR E' ad d->(kd ad).sat p h'->K ({ a with defers:=d::a.defers }.put o.dst undef) w')
  (pan:∀E' h' w' ach chain,Stp E h E' h'->Rel P W0 E' h' w'->ChR E' ach chain->(kp ach).sat p h'->Q (.panic chain) a w')
  {res:Result Next} (hu:Upon P W0 E h k kd kp call round p res):o.uponIn (FW ro) n P a K Q res:=by
 have hnd:(FW ro).depth.isSome=true->1<=n:=λh=>by cases h
 cases res with
 | ok nx w' =>
  cases nx with
  | value v =>
   obtain⟨E',h',av,s,r,hv,hs⟩:=hu;exact back _ _ _ _ _ s r hv hs
  | skip =>
   obtain⟨E',h',s,r,hs⟩:=hu;exact skp _ _ _ s r hs
  | defer d =>
   obtain⟨E',h',ad,s,r,hd,hs⟩:=hu;exact dfr _ _ _ _ _ s r hd hs
  | enter f args =>
   obtain⟨E',h',as,s,r,hv,hb,hs⟩:=hu;refine⟨hnd,qNy.2 ((hc f as _ _ p E' h' w' args hb hs r hv).mono λe w'' he=>?_)⟩;cases e with
   | returned v =>
    obtain⟨E2,h2,av,s2,r2,hv2,hs2⟩:=he;exact back _ _ _ _ _ (s.trans s2) r2 hv2 hs2
   | panicked chain =>
    obtain⟨E2,h2,ach,s2,r2,hv2,hs2⟩:=he;exact pan _ _ _ _ _ (s.trans s2) r2 hv2 hs2
   | outgrown=>exact he.elim
  | round l f tmps assign body =>
   obtain⟨E',h',i,as,args,lp,rr,s,r,hi,hv,hg,hw,hsz,e1,e2,e3,e4,hs⟩:=hu;subst e1;subst e2;subst e3;subst e4;refine⟨hnd,jGc.2 ((hr.2 i as _ p E' h' w' args l rr hs r hi hv hw hsz (n-1)).mono λe w'' he=>?_)⟩;cases e with
   | returned v =>
    obtain⟨E2,h2,av,s2,r2,hv2,hs2⟩:=he;exact back _ _ _ _ _ (s.trans s2) r2 hv2 hs2
   | panicked chain =>
    obtain⟨E2,h2,ach,s2,r2,hv2,hs2⟩:=he;exact hs2.elim
   | outgrown=>exact he.elim
  | _=>exact hu.elim
 | halt hh w' =>
  cases hh with
  | panic v =>
   obtain⟨E',h',ach,s,r,hc2,hs⟩:=hu;exact pan _ _ _ _ _ s r hc2 hs
  | _=>exact hu.elim
theorem qWt (r:Rel P W0 E h w) (hfit:qF9 round) {c:OC} (hcr:c.round=round) {ρ:Operand->Value} (hev:∀x,VR E (c.ev x) (ρ x)) {o:Oper} {k:KV} {kd:qk->FM} {kp:QD->FM} (hkd:∀ad g,¬(kd ad).sat p g)
  (hs3:(opK P o.op c k kd kp).sat p h):∀cl,o.op≠.defer cl:=by
 intro cl hcl;subst hcr;have hu:=qHx (o:=o) r hfit hev hs3;have hrun:(execOp ρ o).run P w=((resolve ρ cl o.type).run P w).andThen λd w'=>.ok (.defer d) w':=by simp[execOp,hcl]
 rw[hrun] at hu;cases hres:(resolve ρ cl o.type).run P w with
 | ok d w' =>
  rw[hres] at hu;obtain⟨_,_,_,_,_,_,hf⟩:=hu;exact hkd _ _ hf
 | halt hh w' =>
  rw[hcl] at hs3;have h5:=qOh (call:=c.call) (round:=c.round) (ty:=o.type) (kp:=kp) (k:=k) r hev (show (jEt cl c k kd kp).sat p h from hs3);have e5:(do pure (.defer (<- resolve ρ cl o.type)):Sem Next).run P w=.halt hh w':=by simp[hres]
  rw[e5] at h5;cases hh with
  | panic v =>
   exfalso;unfold resolve at hres;cases hcal:cl.callee with
   | value f =>
    rw[hcal] at hres;simp only[Deferred.ofValue] at hres;cases hfe:ρ f <;> rw[hfe] at hres <;> simp at hres
   | invoke a b=>rw[hcal] at hres;simp at hres
   | builtin b=>rw[hcal] at hres;simp at hres
  | _=>exact h5.elim
theorem sem_eq (r:Rel P W0 E h w) (hfit:qF9 round) {c:OC} (hcr:c.round=round) {ρ:Operand->Value} (hev:∀x,VR E (c.ev x) (ρ x)) {o:Oper} {k:KV} {kd:qk->FM} {kp:QD->FM} (hkd:ro=none∨∀ad g,¬(kd ad).sat p g)
  (hs3:(opK P o.op c k kd kp).sat p h):o.semAt (FW ro).round ρ=execOp ρ o:=by
 rcases hkd with hro | hkd
 .subst hro;rfl
 .exact Oper.semAt_eq _ _ _ (qWt r hfit hcr hev hkd hs3)
theorem qNs (r:Rel P W0 E h w) {t:TT} {a:Act} (ht:j8 E N t a.tmps) (x:Operand):VR E (qSl P.globals.size t x) (a.eval x):=by
 cases x with
 | tmp s =>
  show VR E (cnd (ltb s 4096) (TT.at s t) .junk) _;cases hb:ltb s 4096
  .exact .junk _
  .exact ht.at' s (Qo.1 hb)
 | const v=>exact Jp E v
 | global g =>
  show VR E (cnd (ltb g P.globals.size) (.ptr g Nat.zero) .junk) _;cases hb:ltb g P.globals.size
  .exact .junk _
  .obtain⟨h1,h2⟩:=r.glob g (Qo.1 hb);exact .ptr _ _ _ _ h1 (by rw[h2])
 | func f=>exact .func _ _ _ _ _ _ (.plain _) .nil .nil
theorem qIv (hc:QJ P W0 call) (hr:qc P W0 round) {dok:Bool} (hdok:dok=true->ro=none) {ops:Array Oper}:∀(l:List Oper) (i:Nat),ops.toList.drop i=l->∀(st:St) (a:Act) (E:Env) (h:Q0) (w:World),
  (xOps P call round N dok ops l st (λst'=>kk .normal st') (λst' ch=>kk (.panic ch) st')).sat p h->Rel P W0 E h w->StR E N st a->Stp E0 h0 E h ->
  wpOpsIn (FW ro) n P ops (QP P W0 E0 h0 N kk p) (List.range' i l.length) a w
 | [],i,_,st,a,E,h,w,hs,r,hst,s0=>⟨E,h,.normal,st,s0,r,hst,.normal,hs⟩
 | o::l,i,hl,st,a,E,h,w,hs,r,hst,s0=>by
  have hget:ops[i]?=some o:=by
   rw[<- Array.getElem?_toList]
   have:(ops.toList.drop i)[0]?=some o:=by rw[hl];rfl
   rw[List.getElem?_drop] at this;simpa using this
  have hl2:ops.toList.drop (i+1)=l:=by
   have:(ops.toList.drop i).drop 1=l:=by rw[hl];rfl
   rw[List.drop_drop] at this;exact this
  have next:=λst' a' E' h' w' hs' r' hst' s'=>qIv hc hr hdok l (i+1) hl2 st' a' E' h' w' hs' r' hst' s'
  have hs1:(jf ops st.tmps o λb=>cnd b
   (opK P o.op ⟨call,round,st.tmps,P.globals.size⟩ (λv=>putDst N o.dst v st λst'=>xOps P call round N dok ops l st' (λst'=>kk .normal st') (λst' ch=>kk (.panic ch) st'))
    (λd=>cnd dok (putDst N o.dst (.tuple []) ⟨st.tmps,d::st.defers,st.u⟩ λst'=>xOps P call round N dok ops l st' (λst'=>kk .normal st') (λst' ch=>kk (.panic ch) st')) (.fail 157)) (λch=>kk (.panic ch) st))
   (putDst N o.dst (.tuple []) st λst'=>xOps P call round N dok ops l st' (λst'=>kk .normal st') (λst' ch=>kk (.panic ch) st'))).sat p h:=hs
  have hs2:=qGk hst.tmps hs1;rw[zJ0,List.range'_succ];simp only[wpOpsIn,hget];rcases Qr hs2 with ⟨hw,hs3⟩ | ⟨hw,hs3⟩
  .rw[if_pos hw];refine⟨λf _=>trivial,?_⟩;have hev:∀x,VR E ((⟨call,round,st.tmps,P.globals.size⟩:OC).ev x) (a.eval x):=λx=>qNs r hst.tmps x;have hu:=qHx (o:=o) r hr.1 hev hs3;rw[sem_eq (ro:=ro) r hr.1 (c:=⟨call,round,st.tmps,P.globals.size⟩) rfl hev (by
    cases hd:dok with
    | true=>exact .inl (hdok hd)
    | false=>exact .inr λad g hf=>hf) hs3]
   refine qPr hc hr (λE' h' w' av v s r' hv hs=>?_) (λE' h' w' s r' hs=>?_) (λE' h' w' ad d s r' hd hs=>?_) (λE' h' w' ach chain s r' hch hs=>?_) hu
   .obtain⟨st',h1,h2⟩:=jA hs (hst.mono s.le) hv;exact next _ _ _ _ _ h2 r' h1 (s0.trans s)
   .obtain⟨st',h1,h2⟩:=jA hs (hst.mono s.le) (v:=undef) (.tuple _ _ .nil);exact next _ _ _ _ _ h2 r' h1 (s0.trans s)
   .obtain⟨_,hs2⟩:=Qi hs;obtain⟨st',h1,h2⟩:=jA hs2 (a:={ a with defers:=d::a.defers }) ((hst.mono s.le).put hd) (v:=undef) (.tuple _ _ .nil);exact next _ _ _ _ _ h2 r' h1 (s0.trans s)
   .exact⟨E',h',.panic ach,st,s0.trans s,r',hst.mono s.le,.panic _ _ hch,hs⟩
  .rw[hw];simp only[Bool.false_eq_true,if_false];refine⟨λf _=>trivial,?_⟩;obtain⟨st',h1,h2⟩:=jA hs3 hst (v:=undef) (.tuple _ _ .nil);exact next _ _ _ _ _ h2 r h1 s0
theorem qQl (hc:QJ P W0 call) (hr:qc P W0 round) {dok:Bool} (hdok:dok=true->ro=none) {ops:Array Oper}:∀(L:List Nat),(∀i∈L,i<ops.size)->∀(st:St) (a:Act) (E:Env) (h:Q0) (w:World),
  (xOps P call round N dok ops (L.map (QU ops)) st (λst'=>kk .normal st') (λst' ch=>kk (.panic ch) st')).sat p h->Rel P W0 E h w->StR E N st a->Stp E0 h0 E h ->
  wpOpsIn (FW ro) n P ops (QP P W0 E0 h0 N kk p) L a w
 | [],_,st,a,E,h,w,hs,r,hst,s0=>⟨E,h,.normal,st,s0,r,hst,.normal,hs⟩
 | i::l,hl,st,a,E,h,w,hs,r,hst,s0=>by
  have hi:i<ops.size:=hl i zB0;obtain⟨o,hget⟩:∃o,ops[i]?=some o:=⟨ops[i],by simp[hi]⟩;have ho:QU ops i=o:=by unfold QU;rw[Array.getD_eq_getD_getElem?,hget];rfl
  have next:=λst' a' E' h' w' hs' r' hst' s'=>qQl hc hr hdok l (λj hj=>hl j (zA0 _ hj)) st' a' E' h' w' hs' r' hst' s'
  have hs1:(jf ops st.tmps o λb=>cnd b
   (opK P o.op ⟨call,round,st.tmps,P.globals.size⟩ (λv=>putDst N o.dst v st λst'=>xOps P call round N dok ops (l.map (QU ops)) st' (λst'=>kk .normal st') (λst' ch=>kk (.panic ch) st'))
    (λd=>cnd dok (putDst N o.dst (.tuple []) ⟨st.tmps,d::st.defers,st.u⟩ λst'=>xOps P call round N dok ops (l.map (QU ops)) st' (λst'=>kk .normal st') (λst' ch=>kk (.panic ch) st')) (.fail 157)) (λch=>kk (.panic ch) st))
   (putDst N o.dst (.tuple []) st λst'=>xOps P call round N dok ops (l.map (QU ops)) st' (λst'=>kk .normal st') (λst' ch=>kk (.panic ch) st'))).sat p h:=by
   rw[<- ho];exact hs
  have hs2:=qGk hst.tmps hs1;simp only[wpOpsIn,hget];rcases Qr hs2 with ⟨hw,hs3⟩ | ⟨hw,hs3⟩
  .rw[if_pos hw];refine⟨λf _=>trivial,?_⟩;have hev:∀x,VR E ((⟨call,round,st.tmps,P.globals.size⟩:OC).ev x) (a.eval x):=λx=>qNs r hst.tmps x;have hu:=qHx (o:=o) r hr.1 hev hs3;rw[sem_eq (ro:=ro) r hr.1 (c:=⟨call,round,st.tmps,P.globals.size⟩) rfl hev (by
    cases hd:dok with
    | true=>exact .inl (hdok hd)
    | false=>exact .inr λad g hf=>hf) hs3]
   refine qPr hc hr (λE' h' w' av v s r' hv hs=>?_) (λE' h' w' s r' hs=>?_) (λE' h' w' ad d s r' hd hs=>?_) (λE' h' w' ach chain s r' hch hs=>?_) hu
   .obtain⟨st',h1,h2⟩:=jA hs (hst.mono s.le) hv;exact next _ _ _ _ _ h2 r' h1 (s0.trans s)
   .obtain⟨st',h1,h2⟩:=jA hs (hst.mono s.le) (v:=undef) (.tuple _ _ .nil);exact next _ _ _ _ _ h2 r' h1 (s0.trans s)
   .obtain⟨_,hs2⟩:=Qi hs;obtain⟨st',h1,h2⟩:=jA hs2 (a:={ a with defers:=d::a.defers }) ((hst.mono s.le).put hd) (v:=undef) (.tuple _ _ .nil);exact next _ _ _ _ _ h2 r' h1 (s0.trans s)
   .exact⟨E',h',.panic ach,st,s0.trans s,r',hst.mono s.le,.panic _ _ hch,hs⟩
  .rw[hw];simp only[Bool.false_eq_true,if_false];refine⟨λf _=>trivial,?_⟩;obtain⟨st',h1,h2⟩:=jA hs3 hst (v:=undef) (.tuple _ _ .nil);exact next _ _ _ _ _ h2 r h1 s0
end
end Go.X
namespace Go.X
open Go Go.RowKit
theorem jAl {α:Type} {p q:α->Bool}:∀{l:List α} {x:α},(∀y∈l,q y=true->p y=true)->x∈l->p x=true->q x=false->l.countP q<l.countP p
 | [],_,_,hx,_,_=>absurd hx zK0
 | a::l,x,h,hx,hp,hq=>by
  have hle:l.countP q<=l.countP p:=List.countP_mono_left λy hy=>h y (zA0 _ hy);rw[List.countP_cons,List.countP_cons];rcases List.mem_cons.1 hx with e | e
  .subst e;rw[hp,hq];simp only[Bool.false_eq_true,if_false,if_true];omega
  .have:=jAl (λy hy=>h y (zA0 _ hy)) e hp hq
   by_cases hqa:q a=true
   .rw[if_pos hqa,if_pos (h a zB0 hqa)];omega
   .rw[if_neg hqa];by_cases hpa:p a=true
    .rw[if_pos hpa];omega
    .rw[if_neg hpa];omega
section
variable {ops:Array Oper} {md:Region.Mode} {ord:Nat->Nat->Bool}
structure EdgesOk (md:Region.Mode) (ops:Array Oper) (ord:Nat->Nat->Bool):Prop where
 lt:∀i o,ops[i]?=some o->∀e∈o.after,Region.binds md e=true->e.on<i
 ord:∀i o,ops[i]?=some o->∀j,j<ops.size->ord j i=true->∃e∈o.after,Region.binds md e=true/\(j=e.on∨ord j e.on=true)
structure GoOk (ops:Array Oper) (ord:Nat->Nat->Bool) (listed:Array Bool) (l:List Nat):Prop where
 nodup:l.Nodup
 mem:∀i,i∈l↔i<ops.size/\listed.getD i true=false
 ord:∀a i b,l=a++i::b->∀j,j<ops.size->ord j i=true->j∈a∨listed.getD j false=true
theorem qH8 {listed:Array Bool} {j:Nat} (hj:j<listed.size) (d d':Bool):listed.getD j d=listed.getD j d':=by simp[hj]
theorem go_ok (ek:EdgesOk md ops ord):∀(fuel t:Nat) (listed:Array Bool),listed.size=ops.size->(List.range ops.size).countP (λi=>!listed.getD i true)<=fuel ->
  (∀i,i<ops.size->listed.getD i true=true->∀j,j<ops.size->ord j i=true->listed.getD j true=true)->GoOk ops ord listed (Region.linearise.go md ops fuel t listed []):=by
 have stuck:∀listed:Array Bool,listed.size=ops.size->Region.ready md ops listed=[]->∀i,i<ops.size->listed.getD i true=true:=by
  intro listed hsz hr i
  induction i using Nat.strongRecOn with
  | _ i ih =>
   intro hi;cases hl:listed.getD i true with
   | true=>rfl
   | false =>
    exfalso;have hm:i∈Region.ready md ops listed:=mem_ready.2 ⟨hl,ops[i],by simp[hi],λe he hb=>by
     have hlt:=ek.lt i ops[i] (by simp[hi]) e he hb;rw[qH8 (by omega) false true];exact ih e.on hlt (by omega)⟩
    rw[hr] at hm;exact absurd hm zK0
 have done:∀listed:Array Bool,(∀i,i<ops.size->listed.getD i true=true)->GoOk ops ord listed []:=λlisted h =>
  ⟨List.nodup_nil,λi=>⟨λhm=>absurd hm zK0,λ⟨h1,h2⟩=>by rw[h i h1] at h2;cases h2⟩,λa i b e=>by simp at e⟩
 intro fuel
 induction fuel with
 | zero =>
  intro t listed hsz hc _;refine done listed λi hi=>?_;have h0:(List.range ops.size).countP (λi=>!listed.getD i true)=0:=by omega
  have:=List.countP_eq_zero.1 h0 i (List.mem_range.2 hi)
  simpa using this
 | succ fuel ih =>
  intro t listed hsz hc hd;simp only[Region.linearise.go]
  change GoOk ops ord listed (match (Region.ready md ops listed)[t % (Region.ready md ops listed).length]? with
   | some i=>Region.linearise.go md ops fuel (t / (Region.ready md ops listed).length) (listed.setIfInBounds i true) [i]
   | none=>[].reverse)
  cases hi:(Region.ready md ops listed)[t % (Region.ready md ops listed).length]? with
  | none =>
   have hnil:Region.ready md ops listed=[]:=by
    cases hr:Region.ready md ops listed with
    | nil=>rfl
    | cons x xs =>rw[hr] at hi;have hlt:t % (x::xs).length<(x::xs).length:=Nat.mod_lt _ (by simp);simp at hi;simp at hlt;omega
   exact done listed (stuck listed hsz hnil)
  | some i =>
   simp only[];rw[linearise_go_acc,List.reverse_singleton,List.singleton_append];obtain⟨hl,o,ho,hall⟩:=mem_ready.1 (zC0 hi);have hin:i<ops.size:=(Array.getElem?_eq_some_iff.1 ho).1;have hset:∀j d,(listed.setIfInBounds i true).getD j d=if j=i then true else listed.getD j d:=by
    intro j d;by_cases e:j=i
    .subst e;rw[if_pos rfl];simp[hsz,hin]
    .rw[if_neg e];exact getD_set_ne d (λh=>e h.symm)
   have g:=ih (t / (Region.ready md ops listed).length) (listed.setIfInBounds i true) (by simpa using hsz) (by
    have:=jAl (l:=List.range ops.size) (p:=λi=>!listed.getD i true) (q:=λj=>!(listed.setIfInBounds i true).getD j true) (x:=i) (λy _ hy=>by
     simp only[hset] at hy;by_cases e:y=i
     .rw[if_pos e] at hy;simp at hy
     .rw[if_neg e] at hy;exact hy) (List.mem_range.2 hin) (by simpa using hl) (by simp only[hset];simp)
    omega) (λk hk hkl j hj hjk=>by
     rw[hset] at hkl ⊢;by_cases e:j=i
     .rw[if_pos e]
     .rw[if_neg e];by_cases ek2:k=i
      .subst ek2;obtain⟨x,hx,hb,hor⟩:=ek.ord k o ho j hj hjk;have h1:=hall x hx hb;have hlt:=ek.lt k o ho x hx hb;rcases hor with hor | hor
       .rw[hor,qH8 (by omega) true false];exact h1
       .refine hd x.on (by omega) (by rw[qH8 (by omega) true false];exact h1) j hj hor
      .rw[if_neg ek2] at hkl;exact hd k hk hkl j hj hjk)
   refine⟨List.nodup_cons.2 ⟨λhm=>?_,g.nodup⟩,λj=>?_,λa j b e x hx hord=>?_⟩
   .have:=((g.mem i).1 hm).2
    rw[hset,if_pos rfl] at this;cases this
   .rw[List.mem_cons,g.mem,hset];constructor
    .rintro (e | ⟨h1,h2⟩)
     .subst e;exact⟨hin,hl⟩
     .by_cases e:j=i
      .rw[if_pos e] at h2;cases h2
      .rw[if_neg e] at h2;exact⟨h1,h2⟩
    .rintro ⟨h1,h2⟩;by_cases e:j=i
     .exact .inl e
     .exact .inr ⟨h1,by rw[if_neg e];exact h2⟩
   .cases a with
    | nil =>
     simp only[List.nil_append,List.cons.injEq] at e;obtain⟨e1,e2⟩:=e;subst e1;obtain⟨y,hy,hb,hor⟩:=ek.ord i o ho x hx hord;have h1:=hall y hy hb;have hlt:=ek.lt i o ho y hy hb;rcases hor with hor | hor
     .right;rw[hor];exact h1
     .right;rw[qH8 (by omega) false true];exact hd y.on (by omega) (by rw[qH8 (by omega) true false];exact h1) x hx hor
    | cons c a =>
     simp only[List.cons_append,List.cons.injEq] at e;obtain⟨e1,e2⟩:=e;subst e1;rcases g.ord a j b e2 x hx hord with h1 | h1
     .exact .inl (zA0 _ h1)
     .rw[hset] at h1;by_cases exi:x=i
      .exact .inl (by rw[exi];exact zB0)
      .rw[if_neg exi] at h1;exact .inr h1
theorem qH5 (ek:EdgesOk md ops ord) (t:Nat):LinExt ops.size ord (Region.linearise md ops t):=by
 have hz:∀i,i<ops.size->(Array.replicate ops.size false).getD i true=false:=λi hi=>by simp[hi]
 have g:=go_ok ek ops.size t (Array.replicate ops.size false) (by simp) (zM0 List.countP_le_length (by simp)) (λi hi h=>by rw[hz i hi] at h;cases h);refine⟨g.nodup,λi=>(g.mem i).trans ⟨λh=>h.1,λh=>⟨h,hz i h⟩⟩,λa i b e j hj ho=>(g.ord a i b e j hj ho).resolve_right λh=>?_⟩;simp[hj] at h
theorem qSz:∀(l:List Oper) (acc:List Nat),∃t,befL l acc=acc++t/\t.length=l.length
 | [],acc=>⟨[],by simp[befL],rfl⟩
 | o::r,acc=>by
  obtain⟨t,e,hl⟩:=qSz r (acc++[o.after.toList.foldl (λs e=>if Region.binds .any e then s ||| 2 ^ e.on ||| acc.getD e.on 0 else s) 0]);refine⟨o.after.toList.foldl (λs e=>if Region.binds .any e then s ||| 2 ^ e.on ||| acc.getD e.on 0 else s) 0::t,?_,?_⟩
  .rw[befL,e];simp
  .simp[hl]
theorem qZ9 (acc:List Nat) (j:Nat):∀(es:List Edge) (s:Nat),(es.foldl (λs e=>if Region.binds .any e then s ||| 2 ^ e.on ||| acc.getD e.on 0 else s) s).testBit j=true ->
  s.testBit j=true∨∃e∈es,Region.binds .any e=true/\(j=e.on∨(acc.getD e.on 0).testBit j=true)
 | [],s,h=>.inl h
 | e::es,s,h=>by
  rw[List.foldl_cons] at h;rcases qZ9 acc j es _ h with h1 | ⟨x,hx,h2⟩
  .by_cases hb:Region.binds .any e=true
   .rw[if_pos hb,Nat.testBit_or,Nat.testBit_or,Bool.or_eq_true,Bool.or_eq_true] at h1;rcases h1 with (h1 | h1) | h1
    .exact .inl h1
    .rw[Nat.testBit_two_pow] at h1;exact .inr ⟨e,zB0,hb,.inl ((by simpa using h1:e.on=j).symm)⟩
    .exact .inr ⟨e,zB0,hb,.inr h1⟩
   .rw[if_neg hb] at h1;exact .inl h1
  .exact .inr ⟨x,zA0 _ hx,h2⟩
theorem qZt:∀(l:List Oper) (acc:List Nat) (n:Nat),acc.length=n->(∀k o,l[k]?=some o->∀e∈o.after,Region.binds .any e=true->e.on<n+k)->∀k o,l[k]?=some o->∀j,((befL l acc).getD (n+k) 0).testBit j=true ->
  ∃e∈o.after,Region.binds .any e=true/\(j=e.on∨((befL l acc).getD e.on 0).testBit j=true)
 | [],_,_,_,_,k,o,hk,_,_=>by simp at hk
 | o::r,acc,n,hn,hlt,0,o',hk,j,hb=>by
  simp only[List.getElem?_cons_zero,Option.some.injEq] at hk;subst hk;rw[befL] at hb ⊢;obtain⟨t,e,hl⟩:=qSz r (acc++[o.after.toList.foldl (λs e=>if Region.binds .any e then s ||| 2 ^ e.on ||| acc.getD e.on 0 else s) 0]);rw[e] at hb ⊢;have h1:(acc++[o.after.toList.foldl (λs e=>if Region.binds .any e then s ||| 2 ^ e.on ||| acc.getD e.on 0 else s) 0]++t).getD (n+0) 0=o.after.toList.foldl (λs e=>if Region.binds .any e then s ||| 2 ^ e.on ||| acc.getD e.on 0 else s) 0:=by simp[List.getD_eq_getElem?_getD,hn]
  rw[h1] at hb;rcases qZ9 acc j _ _ hb with h2 | ⟨x,hx,hxb,h2⟩
  .simp at h2
  .refine⟨x,by simpa using hx,hxb,h2.imp id λh3=>?_⟩
   have:=hlt 0 o rfl x (by simpa using hx) hxb
   rw[List.append_assoc,List.getD_eq_getElem?_getD,List.getElem?_append_left (by omega),<- List.getD_eq_getElem?_getD];exact h3
 | o::r,acc,n,hn,hlt,k+1,o',hk,j,hb=>by
  rw[befL] at hb ⊢
  have:=qZt r (acc++[o.after.toList.foldl (λs e=>if Region.binds .any e then s ||| 2 ^ e.on ||| acc.getD e.on 0 else s) 0]) (n+1) (by simp[hn]) (λk o hk e he hb=>by
   have:=hlt (k+1) o hk e he hb
   omega) k o' hk j (by rw[show n+1+k=n+(k+1) by omega];exact hb)
  exact this
structure RegFit (N:Nat) (ops:Array Oper):Prop where
 lt:∀(i:Nat) (o:Oper),ops[i]?=some o->∀e∈o.after,Region.binds .any e=true->e.on<i
 dst:∀(i:Nat) (o:Oper) (s:Nat),ops[i]?=some o->o.dst=some s->s<N
 slots:∀i,i<ops.size->∀s∈slotsOf ops i,s<4096
theorem qJv {N:Nat} (h:qOd N ops=true):RegFit N ops:=by
 unfold qOd at h;rw[List.all_eq_true] at h;have key:∀i o,ops[i]?=some o->_:=λi o ho=>h (o,i) (by
  rw[List.mem_zipIdx_iff_getElem?];simpa using ho)
 refine⟨λi o ho e he hb=>?_,λi o s ho hd=>?_,λi hi s hs=>?_⟩
 .have:=key i o ho
  simp only[Bool.and_eq_true,List.all_eq_true] at this
  have:=this.1.1 e (by simpa using he)
  simpa [hb] using this
 .have:=key i o ho
  simp only[Bool.and_eq_true] at this
  have:=this.1.2
  rw[hd] at this;simpa using this
 .have:=key i ops[i] (by simp[hi])
  simp only[Bool.and_eq_true,List.all_eq_true] at this;simpa using this.2 s hs
theorem RegFit.edges {N:Nat} (f:RegFit N ops):EdgesOk .any ops (ordL (qPo ops)):=by
 refine⟨f.lt,λi o ho j hj hji=>?_⟩
 have:=qZt ops.toList [] 0 rfl (λk o hk e he hb=>by
  have:=f.lt k o (by simpa using hk) e he hb
  omega) i o (by simpa using ho) j (by rw[Nat.zero_add];exact hji)
 exact this
end
end Go.X
namespace Go.X
open Go Go.RowKit
section
variable {P:Program} {W0:World} {E E0:Env} {h h0:Q0} {p:QF} {w:World} {call:Qw} {round:Qs} {N:Nat} {ro:Option Nat} {n:Nat} {kk:KC} {ops:Array Oper}
def qHd (N:Nat) (sl:List Nat) (a:Array Value):Array Value:=((List.range N).map λs=>if s∈sl then a.getD s undef else undef).toArray
theorem qI0 (N:Nat) (sl:List Nat) (a:Array Value):(qHd N sl a).size=N:=by simp[qHd]
theorem qLk {N:Nat} {sl:List Nat} {a:Array Value} (ha:a.size=N) (s:Nat):(qHd N sl a).getD s undef=if s∈sl then a.getD s undef else undef:=by
 by_cases hs:s<N
 .simp[qHd,hs]
 .have h1:(qHd N sl a).getD s undef=undef:=by
   rw[Array.getD_eq_getD_getElem?,Array.getElem?_eq_none (by rw[qI0];omega)];rfl
  have h2:a.getD s undef=undef:=by rw[Array.getD_eq_getD_getElem?,Array.getElem?_eq_none (by omega)];rfl
  rw[h1,h2];simp
theorem jGk {N:Nat} {sl:List Nat} {a:Array Value} (ha:a.size=N) {s:Nat} (hs:s∈sl):(qHd N sl a)[s]?=a[s]?:=by
 by_cases hN:s<N
 .have h1:(qHd N sl a)[s]?=some (if s∈sl then a.getD s undef else undef):=by
   simp[qHd,hN]
  rw[h1,if_pos hs,Array.getD_eq_getD_getElem?,Array.getElem?_eq_getElem (by omega)];rfl
 .rw[Array.getElem?_eq_none (by rw[qI0];omega),Array.getElem?_eq_none (by omega)]
theorem TT.at_undef (s:Nat):TT.undef.at s=.tuple []:=by simp only[TT.at,TT.getP,TT.undef,p2,N16.get_all]
theorem qSh:∀(sl:List Nat),(∀s∈sl,s<4096)->∀(st:St) (t:TT) (k:TT->FM) (p:QF) (h:Q0),(fillT sl (st.sel sl) t k).sat p h ->
  ∃t',(k t').sat p h/\∀s,s<4096->t'.at s=if s∈sl then st.tmps.at s else t.at s
 | [],_,st,t,k,p,h,hs=>⟨t,hs,λs _=>by simp⟩
 | x::sl,hl,st,t,k,p,h,hs=>by
  have hs1:(TT.putK x (st.tmps.at x) t λt'=>fillT sl (st.sel sl) t' k).sat p h:=hs;rw[TT.putK_eq] at hs1;obtain⟨t',h1,h2⟩:=qSh sl (λs hm=>hl s (zA0 _ hm)) st _ k p h hs1;refine⟨t',h1,λs hlt=>?_⟩;rw[h2 s hlt,TT.at_put (hl x zB0) hlt];by_cases e:s=x
  .rw[if_pos (show s∈x::sl by rw[e];exact zB0),if_pos e];by_cases e2:s∈sl
   .rw[if_pos e2]
   .rw[if_neg e2,e]
  .by_cases e2:s∈sl
   .rw[if_pos e2,if_pos (zA0 _ e2)]
   .rw[if_neg e2,if_neg e,if_neg (λhm=>(List.mem_cons.1 hm).elim e e2)]
theorem qQ2 {i:Nat} {o:Oper} (ho:ops[i]?=some o):QU ops i=o:=by rw[QU,Array.getD_eq_getD_getElem?,ho];rfl
theorem qN6 {sl:List Nat} {a:Array Value} (ha:a.size=N) {o:Oper} (hsl:∀g w,guardOf ops o=some (some g,w)->g∈sl) :
  Region.wanted o (yielded ops (qHd N sl a))=Region.wanted o (yielded ops a):=by
 unfold Region.wanted;cases hg:o.guard with
 | none=>rfl
 | some jw =>
  obtain⟨j,want⟩:=jw;simp only
  have:yielded ops (qHd N sl a) j=yielded ops a j:=by
   unfold yielded;cases hoj:ops[j]? with
   | none=>rfl
   | some x =>
    cases hd:x.dst with
    | none=>simp[hd]
    | some s =>have hm:s∈sl:=hsl s want (by unfold guardOf;rw[hg];simp only;rw[hoj];simp only;rw[hd]);simp only[Option.bind_some,hd,jGk ha hm]
  rw[this]
theorem qK5 {i:Nat} {o:Oper} (ho:ops[i]?=some o):∀g w,guardOf ops o=some (some g,w)->g∈slotsOf ops i:=by intro g w hg;unfold slotsOf qSe;rw[qQ2 ho,hg];simp
theorem qQt {i:Nat} {o:Oper} (ho:ops[i]?=some o) {s:Nat} (hm:Operand.tmp s∈o.op.operands):s∈slotsOf ops i:=by unfold slotsOf;rw[qQ2 ho];refine zH0 _ (List.mem_filterMap.2 ⟨.tmp s,by simpa using hm,rfl⟩)
theorem St.put_eq {st:St} {i:Nat} {o:Oper} (ho:ops[i]?=some o) {a:Act} (hst:StR E N st a) (hd:∀s,o.dst=some s->s<N) {av:AV} {v:Value} (hv:VR E av v):StR E N (st.put (QL ops i) av) (a.put o.dst v):=by
 unfold QL;rw[qQ2 ho];cases hdst:o.dst with
 | none=>exact hst
 | some s=>exact⟨hst.tmps.put (hd s hdst) hv,hst.defers⟩
theorem qT7 {k0:St->FM} {tail:List Nat} (fin:∀(E':Env) (h':Q0) (st':St) (a':Act) (w':World),Stp E0 h0 E' h'->Rel P W0 E' h' w'->StR E' N st' a'->(k0 st').sat p h'->wpOpsIn (FW ro) n P ops (QP P W0 E0 h0 N kk p) tail a' w')
  (hc:QJ P W0 call) (hr:qc P W0 round) (hfit:RegFit N ops) {m:Nat} (hmm:m<=ops.size) {pos:Nat->Nat} (hp0:pos 0=h0.next) (hpm:∀i,i<m->pos i<=pos (i+1)) (hpl:pos m<=h0.lim) (hlim:h0.lim<=top) (hinf:h0.inf=false) (hfree:∀x,h0.next<=x->x<h0.lim->E0.blk x=none) :
  ∀(l done:List Nat),(done++l).Nodup->(∀i∈done++l,i<m)->∀(st:St) (a:Act) (E:Env) (h:Q0) (w:World),
  qY0 (slotsOf ops) (QL ops) (λi vs q g=>(qLi P call round ops i vs).sat q g) pos m h0.lim (λs g=>(k0 s).sat p g) l st h ->
  Rel P W0 E h w->StR E N st a->E0.Le E->h.inf=false->(∀x b,E.blk x=some b->E0.blk x=some b∨∃j∈done,pos j<=x/\x<pos (j+1)) ->
  wpOpsIn (FW ro) n P ops (QP P W0 E0 h0 N kk p) (l++tail) a w:=by
 have mono:∀j i,i<=j->j<=m->pos i<=pos j:=by
  intro j
  induction j with
  | zero =>
   intro i hi _
   have:i=0:=by omega
   subst this;exact zL0 _
  | succ j ih =>
   intro i hi hj;rcases Nat.lt_or_ge i (j+1) with hlt | hge
   .exact zM0 (ih i (by omega) (by omega)) (hpm j (by omega))
   .have:i=j+1:=by omega
    subst this;exact zL0 _
 intro l
 induction l with
 | nil =>
  intro done _ hin st a E h w hs r hst le hif hinv;have hs1:(k0 st).sat p (h.win (pos m) h0.lim):=hs;have hm0:=mono m 0 (Nat.zero_le _) (zL0 _);refine fin E (h.win (pos m) h0.lim) st a w ⟨le,λx b hx=>?_,by rw[hinf];rfl,?_⟩ (r.win hpl hlim (r.lim.resolve_left (by simp[hif])).2 λx h1 h2=>?_) hst hs1
  .rcases hinv x b hx with h1 | ⟨j,hj,h1,h2⟩
   .exact .inl h1
   .have hjl:=hin j (by simpa using hj)
    have:=mono j 0 (Nat.zero_le _) (by omega)
    have:=mono m (j+1) (by omega) (zL0 _)
    exact .inr ⟨by omega,.inr (by omega)⟩
  .show h0.next<=pos m
   omega
  .cases hx:E.blk x with
   | none=>rfl
   | some b =>
    exfalso;rcases hinv x b hx with h3 | ⟨j,hj,h3,h4⟩
    .rw[hfree x (by omega) h2] at h3;cases h3
    .have hjl:=hin j (by simpa using hj)
     have:=mono m (j+1) (by omega) (zL0 _)
     omega
 | cons i l ih =>
  intro done hnd hin st a E h w hs r hst le hif hinv;have hi1:i<m:=hin i (by simp);have hi:i<ops.size:=zE0 hi1 hmm;have ho:ops[i]?=some ops[i]:=by simp[hi]
  generalize ops[i]=o at ho;have hm1:=mono i 0 (Nat.zero_le _) (by omega);have hm2:=mono m (i+1) (by omega) (zL0 _);have hm3:=hpm i hi1;have hni:i ∉ done:=λhm=>by
   have:=(List.nodup_append.1 hnd).2.2 i hm i zB0
   exact this rfl
  have r1:Rel P W0 E (h.win (pos i) (pos (i+1))) w:=r.win hm3 (by omega) (r.lim.resolve_left (by simp[hif])).2 λx h1 h2=>by
   cases hx:E.blk x with
   | none=>rfl
   | some b =>
    exfalso;rcases hinv x b hx with h3 | ⟨j,hj,h3,h4⟩
    .rw[hfree x (by omega) (by omega)] at h3;cases h3
    .have hjl:=hin j (by simp[hj]);have hji:j≠i:=λe=>hni (e ▸ hj);rcases Nat.lt_or_gt_of_ne hji with hlt | hgt
     .have:=mono i (j+1) (by omega) (by omega)
      omega
     .have:=mono j (i+1) (by omega) (by omega)
      omega
  have next:∀E' h' w' av v,Stp E (h.win (pos i) (pos (i+1))) E' h'->Rel P W0 E' h' w'->VR E' av v ->
    (∃x,Res.val av=.val x/\qY0 (slotsOf ops) (QL ops) (λi vs q g=>(qLi P call round ops i vs).sat q g) pos m h0.lim (λs g=>(k0 s).sat p g) l (st.put (QL ops i) x) h') ->
    wpOpsIn (FW ro) n P ops (QP P W0 E0 h0 N kk p) (l++tail) (a.put o.dst v) w':=by
   intro E' h' w' av v s' r' hv ⟨x,e,hs'⟩;cases e;refine ih (done++[i]) (by simpa using hnd) (λj hj=>hin j (by simpa using hj)) _ _ _ _ _ hs' r' (St.put_eq ho (hst.mono s'.le) (λs=>hfit.dst i o s ho) hv) (le.trans s'.le) (by have:=s'.lim;simp only[Prod.mk.injEq,Q0.win_inf] at this;exact this.2) λx b hx=>?_;rcases s'.new x b hx with h1 | ⟨h1,h2⟩
   .rcases hinv x b h1 with h2 | ⟨j,hj,h2⟩
    .exact .inl h2
    .exact .inr ⟨j,by simp[hj],h2⟩
   .exact .inr ⟨i,by simp,h1,h2.resolve_left (by simp)⟩
  obtain⟨t,hs1,ht⟩:=qSh (slotsOf ops i) (hfit.slots i hi) st TT.undef _ _ _ hs;rw[qQ2 ho] at hs1;have htm:j8 E N t (qHd N (slotsOf ops i) a.tmps):=⟨qI0 _ _ _,hst.tmps.le,λs hlt=>by
   rw[ht s hlt,qLk hst.tmps.size];by_cases e:s∈slotsOf ops i
   .rw[if_pos e,if_pos e];exact hst.tmps.at' s hlt
   .rw[if_neg e,if_neg e,TT.at_undef];exact .tuple _ _ .nil⟩
  have hs2:=qGk htm hs1;rw[qN6 hst.tmps.size (qK5 ho)] at hs2;rw[List.cons_append];simp only[wpOpsIn,ho];rcases Qr hs2 with ⟨hw,hs3⟩ | ⟨hw,hs3⟩
  .rw[if_pos hw];refine⟨λf _=>trivial,?_⟩;have hev:∀x,VR E ((⟨call,round,t,P.globals.size⟩:OC).ev x) ((⟨qHd N (slotsOf ops i) a.tmps,a.defers⟩:Act).eval x):=λx=>qNs r1 htm x;have hu:=qHx (o:=o) r1 hr.1 hev hs3;have hsel:∀cs b,o.op≠.select cs b:=λcs b e=>by
    rw[e] at hs3;exact hs3
   have hcg:execOp (⟨qHd N (slotsOf ops i) a.tmps,a.defers⟩:Act).eval o=execOp a.eval o:=execOp_congr o hsel λx hx=>by
    cases x with
    | tmp s =>
     show (qHd N (slotsOf ops i) a.tmps).getD s undef=a.tmps.getD s undef;rw[qLk hst.tmps.size,if_pos (qQt ho hx)]
    | _=>rfl
   have hse:o.semAt (FW ro).round a.eval=execOp a.eval o :=
    Oper.semAt_eq _ _ _ (qWt r1 hr.1 (c:=⟨call,round,t,P.globals.size⟩) (kd:=λ_=>.fail 155) rfl hev (λad g (hf:False)=>hf) hs3)
   rw[hse,<- hcg];refine qPr hc hr (λE' h' w' av v s r' hv hs=>?_) (λE' h' w' s r' hs=>?_) (kd:=λ_=>.fail 155) (kp:=λ_=>.fail 156) (λE' h' w' ad d s r' hd hs=>False.elim hs) (λE' h' w' ach chain s r' hch hs=>False.elim hs) hu
   .exact next _ _ _ _ _ s r' hv hs
   .exact next _ _ _ _ _ s r' (.tuple _ _ .nil) hs
  .rw[hw];simp only[Bool.false_eq_true,if_false];refine⟨λf _=>trivial,?_⟩;exact next _ _ _ _ _ (.refl _ _) r1 (.tuple _ _ .nil) hs3
theorem qQz {k0:St->FM} {tail:List Nat} (fin:∀(E':Env) (h':Q0) (st':St) (a':Act) (w':World),Stp E0 h0 E' h'->Rel P W0 E' h' w'->StR E' N st' a'->(k0 st').sat p h'->wpOpsIn (FW ro) n P ops (QP P W0 E0 h0 N kk p) tail a' w')
  (hc:QJ P W0 call) (hr:qc P W0 round) (hfit:RegFit N ops) :
  ∀(l:List Nat),(∀i∈l,i<ops.size)->∀(st:St) (a:Act) (E:Env) (h:Q0) (w:World),
  qJu (slotsOf ops) (QL ops) (λi vs q g=>(qLi P call round ops i vs).sat q g) (λs g=>(k0 s).sat p g) l st h ->
  Rel P W0 E h w->StR E N st a->Stp E0 h0 E h->wpOpsIn (FW ro) n P ops (QP P W0 E0 h0 N kk p) (l++tail) a w:=by
 intro l
 induction l with
 | nil=>exact λ_ st a E h w hs r hst s0=>fin E h st a w s0 r hst hs
 | cons i l ih =>
  intro hin st a E h w hs r1 hst s0;have hi:i<ops.size:=hin i (by simp);have ho:ops[i]?=some ops[i]:=by simp[hi]
  generalize ops[i]=o at ho
  have next:∀E' h' w' av v,Stp E h E' h'->Rel P W0 E' h' w'->VR E' av v ->
    (∃x,Res.val av=.val x/\qJu (slotsOf ops) (QL ops) (λi vs q g=>(qLi P call round ops i vs).sat q g) (λs g=>(k0 s).sat p g) l (st.put (QL ops i) x) h') ->
    wpOpsIn (FW ro) n P ops (QP P W0 E0 h0 N kk p) (l++tail) (a.put o.dst v) w':=by
   intro E' h' w' av v s' r' hv ⟨x,e,hs'⟩;cases e;exact ih (λj hj=>hin j (zA0 _ hj)) _ _ _ _ _ hs' r' (St.put_eq ho (hst.mono s'.le) (λs=>hfit.dst i o s ho) hv) (s0.trans s')
  obtain⟨t,hs1,ht⟩:=qSh (slotsOf ops i) (hfit.slots i hi) st TT.undef _ _ _ hs;rw[qQ2 ho] at hs1;have htm:j8 E N t (qHd N (slotsOf ops i) a.tmps):=⟨qI0 _ _ _,hst.tmps.le,λs hlt=>by
   rw[ht s hlt,qLk hst.tmps.size];by_cases e:s∈slotsOf ops i
   .rw[if_pos e,if_pos e];exact hst.tmps.at' s hlt
   .rw[if_neg e,if_neg e,TT.at_undef];exact .tuple _ _ .nil⟩
  have hs2:=qGk htm hs1;rw[qN6 hst.tmps.size (qK5 ho)] at hs2;rw[List.cons_append];simp only[wpOpsIn,ho];rcases Qr hs2 with ⟨hw,hs3⟩ | ⟨hw,hs3⟩
  .rw[if_pos hw];refine⟨λf _=>trivial,?_⟩;have hev:∀x,VR E ((⟨call,round,t,P.globals.size⟩:OC).ev x) ((⟨qHd N (slotsOf ops i) a.tmps,a.defers⟩:Act).eval x):=λx=>qNs r1 htm x;have hu:=qHx (o:=o) r1 hr.1 hev hs3;have hsel:∀cs b,o.op≠.select cs b:=λcs b e=>by
    rw[e] at hs3;exact hs3
   have hcg:execOp (⟨qHd N (slotsOf ops i) a.tmps,a.defers⟩:Act).eval o=execOp a.eval o:=execOp_congr o hsel λx hx=>by
    cases x with
    | tmp s =>
     show (qHd N (slotsOf ops i) a.tmps).getD s undef=a.tmps.getD s undef;rw[qLk hst.tmps.size,if_pos (qQt ho hx)]
    | _=>rfl
   have hse:o.semAt (FW ro).round a.eval=execOp a.eval o :=
    Oper.semAt_eq _ _ _ (qWt r1 hr.1 (c:=⟨call,round,t,P.globals.size⟩) (kd:=λ_=>.fail 155) rfl hev (λad g (hf:False)=>hf) hs3)
   rw[hse,<- hcg];refine qPr hc hr (λE' h' w' av v s r' hv hs=>?_) (λE' h' w' s r' hs=>?_) (kd:=λ_=>.fail 155) (kp:=λ_=>.fail 156) (λE' h' w' ad d s r' hd hs=>False.elim hs) (λE' h' w' ach chain s r' hch hs=>False.elim hs) hu
   .exact next _ _ _ _ _ s r' hv hs
   .exact next _ _ _ _ _ s r' (.tuple _ _ .nil) hs
  .rw[hw];simp only[Bool.false_eq_true,if_false];refine⟨λf _=>trivial,?_⟩;exact next _ _ _ _ _ (.refl _ _) r1 (.tuple _ _ .nil) hs3
end
end Go.X
namespace Go.X
open Go Go.RowKit
section
variable {P:Program} {W0:World} {E E0:Env} {h h0:Q0} {p:QF} {w:World} {call:Qw} {round:Qs} {N:Nat} {ro:Option Nat} {n:Nat} {kk:KC} {H:qI} {fn:FuncId} {cur:Option Nat} {lf:Nat}
theorem Rel.drawn (r:Rel P W0 E h w) (d:Nat):Rel P W0 E h { w with drawn:=d }:=r.same rfl rfl rfl rfl
theorem qGi (hc:QJ P W0 call) (hr:qc P W0 round) (hm:P.follows .mixedOrders=true) {dok:Bool} (hdok:dok=true->ro=none) {id:Nat} {ops:Array Oper} {draw:Bool} {st:St} {a:Act}
  (hs:(qQk P call round N dok ops draw st (λst'=>kk .normal st') (λst' ch=>kk (.panic ch) st')).sat p h) (r:Rel P W0 E h w) (hst:StR E N st a) :
  (Code.region id ops draw).wpIn (FW ro) n P (QP P W0 E h N kk p) a w:=by
 cases draw with
 | false =>
  refine wpIn_region ?_
  have:=qIv (n:=n) (kk:=kk) (E0:=E) (h0:=h) hc hr hdok ops.toList 0 (by simp) st a E h w hs r hst (.refl _ _)
  rw[List.range_eq_range'];simpa using this
 | true =>
  obtain⟨hf,hs1⟩:=Qi (show (cnd (qOd N ops) (FM.regn ops.size (ordL (qPo ops)) (slotsOf ops) (QL ops) (qLi P call round ops) st (λst'=>kk .normal st')) (FM.fail 154)).sat p h from hs);have fit:=qJv hf;refine wpIn_region_draw λt=>?_;have hl:=qH5 fit.edges t;have hsch:Region.schedule (P.follows .mixedOrders) ops t=Region.linearise .any ops t:=by simp[Region.schedule,hm]
  rw[hsch];rw[<- List.append_nil (Region.linearise .any ops t)];have fin:∀(E':Env) (h':Q0) (st':St) (a':Act) (w':World),Stp E h E' h'->Rel P W0 E' h' w'->StR E' N st' a'->(kk .normal st').sat p h'->wpOpsIn (FW ro) n P ops (QP P W0 E h N kk p) [] a' w' :=
   λE' h' st' a' w' s r hst hs=>⟨E',h',.normal,st',s,r,hst,.normal,hs⟩
  rcases hs1 with ⟨hinf,pos,p0,p1,p2,hall⟩ | ⟨_,hall⟩
  .exact qT7 (E0:=E) (h0:=h) (k0:=λst'=>kk .normal st') (tail:=[]) fin hc hr fit (zL0 _) p0 p1 p2 (r.lim.resolve_left (by simp[hinf])).1 hinf (λx h1 h2=>r.free x h1 (.inr h2)) _ [] (by simpa using hl.nodup) (λi hi=>(hl.mem i).1 (by simpa using hi)) st a E h _ (hall _ hl) (r.drawn _) hst (.refl _) hinf (λx b hx=>.inl hx)
  .exact qQz (E0:=E) (h0:=h) (k0:=λst'=>kk .normal st') (tail:=[]) fin hc hr fit _ (λi hi=>(hl.mem i).1 hi) st a E h _ (hall _ hl) (r.drawn _) hst (.refl _ _)
theorem jC0 {m:Nat} {ord:Nat->Nat->Bool} {l:List Nat} (hl:LinExt (m+1) ord l) (hall:∀j,j<m->ord j m=true):∃a,l=a++[m]/\LinExt m ord a:=by
 obtain⟨a,b,e⟩:=List.append_of_mem ((hl.mem m).2 (Nat.lt_succ_self m));have hb:b=[]:=by
  cases b with
  | nil=>rfl
  | cons x b =>
   exfalso;have hx:x<m+1:=(hl.mem x).1 (by rw[e];simp);have hnd:=hl.nodup;rw[e] at hnd;have hd:=List.nodup_append.1 hnd;have hxm:x≠m:=λe2=>by
    have:=(List.nodup_cons.1 hd.2.1).1
    exact this (by rw[e2];simp)
   have hxa:x∈a:=hl.ord a m (x::b) e x (by omega) (hall x (by omega));exact hd.2.2 x hxa x (by simp) rfl
 subst hb;refine⟨a,e,?_,λi=>?_,λa1 i b1 e1 j hj ho=>?_⟩
 .have:=hl.nodup
  rw[e] at this;exact (List.nodup_append.1 this).1
 .have hm:=hl.mem i;have hnd:=hl.nodup;rw[e] at hm hnd;have hd:=List.nodup_append.1 hnd;constructor
  .intro hi;have h1:=hm.1 (zG0 _ hi)
   have:i≠m:=λe2=>hd.2.2 i hi m (by simp) e2
   omega
  .intro hi;have h1:=hm.2 (by omega);rcases List.mem_append.1 h1 with h2 | h2
   .exact h2
   .simp at h2;omega
 .exact hl.ord a1 i (b1++[m]) (by rw[e,e1];simp) j (by omega) ho
theorem qZw {ops:Array Oper} (hl:jC2 ops=true):∃m,ops.size=m+1/\∀j,j<m->ordL (qPo ops) j m=true:=by
 unfold jC2 at hl;cases hs:ops.size with
 | zero=>rw[hs] at hl;cases hl
 | succ m =>rw[hs] at hl;have h1:(qPo ops).getD m 0=2 ^ m-1:=Nat.eq_of_beq_eq_true hl;refine⟨m,rfl,λj hj=>?_⟩;unfold ordL;rw[h1,Nat.testBit_two_pow_sub_one];simp[hj]
theorem qS6 (hc:QJ P W0 call) (hr:qc P W0 round) (hm:P.follows .mixedOrders=true) {dok:Bool} (hdok:dok=true->ro=none) {id:Nat} {ops:Array Oper} {draw:Bool} {st:St} {a:Act}
  (hs:(jEc P call round N dok ops draw st (λst'=>kk .normal st') (λst' ch=>kk (.panic ch) st')).sat p h) (r:Rel P W0 E h w) (hst:StR E N st a) :
  (Code.region id ops draw).wpIn (FW ro) n P (QP P W0 E h N kk p) a w:=by
 rcases Qr hs with ⟨hb,hs1⟩ | ⟨_,hs1⟩
 .simp only[Qk] at hb;obtain⟨hd,hf,hla⟩:=hb;subst hd;obtain⟨m,hsz,hord⟩:=qZw hla;have hpm:Nat.pred ops.size=m:=by rw[hsz];rfl
  rw[hpm] at hs1;have fit:=qJv hf;refine wpIn_region_draw λt=>?_;have hl:=qH5 fit.edges t;have hsch:Region.schedule (P.follows .mixedOrders) ops t=Region.linearise .any ops t:=by simp[Region.schedule,hm]
  rw[hsch];rw[hsz] at hl;obtain⟨l,el,hl2⟩:=jC0 hl hord;rw[el];have fin:∀(E':Env) (h':Q0) (st':St) (a':Act) (w':World),Stp E h E' h'->Rel P W0 E' h' w'->StR E' N st' a'->(xOps P call round N dok ops (ops.toList.drop m) st' (λst'=>kk .normal st') (λst' ch=>kk (.panic ch) st')).sat p h'->wpOpsIn (FW ro) n P ops (QP P W0 E h N kk p) [m] a' w':=by
   intro E' h' st' a' w' s r' hst' hs'
   have:=qIv (n:=n) (kk:=kk) (E0:=E) (h0:=h) hc hr hdok (ops.toList.drop m) m (by simp) st' a' E' h' w' hs' r' hst' s
   have hlen:(ops.toList.drop m).length=1:=by simp[hsz]
   rw[hlen] at this;simpa using this
  rcases hs1 with ⟨hinf,pos,p0,p1,p2,hall⟩ | ⟨_,hall⟩
  .exact qT7 (E0:=E) (h0:=h) (k0:=λst'=>xOps P call round N dok ops (ops.toList.drop m) st' (λst'=>kk .normal st') (λst' ch=>kk (.panic ch) st')) (tail:=[m]) fin hc hr fit (by omega) p0 p1 p2 (r.lim.resolve_left (by simp[hinf])).1 hinf (λx h1 h2=>r.free x h1 (.inr h2)) _ [] (by simpa using hl2.nodup) (λi hi=>(hl2.mem i).1 (by simpa using hi)) st a E h _ (hall _ hl2) (r.drawn _) hst (.refl _) hinf (λx b hx=>.inl hx)
  .exact qQz (E0:=E) (h0:=h) (k0:=λst'=>xOps P call round N dok ops (ops.toList.drop m) st' (λst'=>kk .normal st') (λst' ch=>kk (.panic ch) st')) (tail:=[m]) fin hc hr fit _ (λi hi=>zE0 ((hl2.mem i).1 hi) (by omega)) st a E h _ (hall _ hl2) (r.drawn _) hst (.refl _ _)
 .exact qGi hc hr hm hdok hs1 r hst
theorem jAa {n:Nat} {ord:Nat->Nat->Bool}:∀(l done:List Nat),(done++l).Nodup->(∀i∈l,i<n)->(∀a i b,l=a++i::b->∀j,j<n->ord j i=true->j∈done++a)->l∈extsL n ord l.length done
 | [],_,_,_,_=>List.mem_singleton.2 rfl
 | x::l,done,hnd,hlt,ho=>by
  have hx:=hlt x zB0;show (x::l)∈(List.range n).flatMap λi=>cnd (done.contains i) [] (cnd ((List.range n).all λj=>!ord j i || done.contains j) ((extsL n ord l.length (done++[i])).map (i::·)) []);refine List.mem_flatMap.2 ⟨x,List.mem_range.2 hx,?_⟩;have h1:done.contains x=false:=by
   cases hc:done.contains x with
   | false=>rfl
   | true=>exact absurd rfl ((List.nodup_append.1 hnd).2.2 x (by simpa using hc) x zB0)
  have h2:((List.range n).all λj=>!ord j x || done.contains j)=true:=by
   refine List.all_eq_true.2 λj hj=>?_;cases hoj:ord j x with
   | false=>rfl
   | true =>
    have:=ho [] x l rfl j (List.mem_range.1 hj) hoj
    simpa using this
  rw[h1,h2,Q8,Q6];refine List.mem_map.2 ⟨l,jAa l (done++[x]) (by simpa using hnd) (λi hi=>hlt i (zA0 _ hi)) λa i b e j hj hoj=>?_,rfl⟩
  have:=ho (x::a) i b (by rw[e];rfl) j hj hoj
  simpa using this
theorem jGm {ops:Array Oper} {l:List Nat} (hl:LinExt ops.size (ordL (qPo ops)) l):l∈qY6 ops:=by
 have hlen:l.length=ops.size:=by
  refine Nat.le_antisymm ?_ ?_
  .have:=List.Nodup.length_le_of_subset hl.nodup (l₂:=List.range ops.size) λi hi=>List.mem_range.2 ((hl.mem i).1 hi)
   rwa [List.length_range] at this
  .have:=List.Nodup.length_le_of_subset (List.nodup_range (n:=ops.size)) (l₂:=l) λi hi=>(hl.mem i).2 (List.mem_range.1 hi)
   rwa [List.length_range] at this
 have:=jAa (n:=ops.size) (ord:=ordL (qPo ops)) l [] (by simpa using hl.nodup) (λi hi=>(hl.mem i).1 hi) λa i b e j hj hoj=>by simpa using hl.ord a i b e j hj hoj
 rw[hlen] at this;exact this
theorem qS7 (hc:QJ P W0 call) (hr:qc P W0 round) (hm:P.follows .mixedOrders=true) {dok:Bool} (hdok:dok=true->ro=none) {id:Nat} {ops:Array Oper} {draw:Bool} {st:St} {a:Act}
  (hs:(jEd P H call round N dok ops draw st (λst'=>kk .normal st') (λst' ch=>kk (.panic ch) st')).sat p h) (r:Rel P W0 E h w) (hst:StR E N st a) :
  (Code.region id ops draw).wpIn (FW ro) n P (QP P W0 E h N kk p) a w:=by
 rcases Qr hs with ⟨hb,hs1⟩ | ⟨_,hs1⟩
 .simp only[Qk] at hb;obtain⟨hd,hf,_⟩:=hb;subst hd;have fit:=qJv hf;refine wpIn_region_draw λt=>?_;have hl:=qH5 fit.edges t;have hsch:Region.schedule (P.follows .mixedOrders) ops t=Region.linearise .any ops t:=by simp[Region.schedule,hm]
  rw[hsch];obtain⟨i,hi,e⟩:=List.getElem_of_mem (jGm hl);have hs2:(xOps P call round N dok ops (((qY6 ops).getD i []).map (QU ops)) st (λst'=>kk .normal st') (λst' ch=>kk (.panic ch) st')).sat p h:=hs1 i hi;have e2:(qY6 ops).getD i []=Region.linearise .any ops t:=by rw[List.getD_eq_getElem?_getD,zD0 hi,e];rfl
  rw[e2] at hs2;exact qQl (n:=n) (kk:=kk) (E0:=E) (h0:=h) hc hr hdok _ (λi hi=>(hl.mem i).1 hi) st a E h _ hs2 (r.drawn _) hst (.refl _ _)
 .exact qGi hc hr hm hdok hs1 r hst
def CurR (E:Env) (cur ro:Option Nat):Prop:=(cur=none/\ro=none)∨∃l lb,cur=some l/\ro=some lb/\E.blk l=some lb
theorem CurR.mono {E E':Env} (le:E.Le E') {cur ro:Option Nat} (c:CurR E cur ro):CurR E' cur ro:=by
 rcases c with c | ⟨l,lb,h1,h2,h3⟩
 .exact .inl c
 .exact .inr ⟨l,lb,h1,h2,le.blk _ _ h3⟩
theorem CurR.dok {E:Env} {cur ro:Option Nat} (c:CurR E cur ro):(Option.rec (motive:=λ_=>Bool) true (λ_=>false) cur:Bool)=true->ro=none:=by
 intro h;rcases c with ⟨_,c⟩ | ⟨l,lb,h1,h2,h3⟩
 .exact c
 .subst h1;cases h
theorem qOu (hc:QJ P W0 call) (r:Rel P W0 E h w) {f:AFn} {fv:Fn} (hf:FnR E f fv) {first captured:List AV} {x y:Array Value} (h1:VRs E first x.toList) (h2:VRs E captured y.toList)
  {t:TT} {tmps:Array Value} (ht:j8 E N t tmps) {dblock db:Nat} (hd:E.blk dblock=some db) {params:Array Tmp} {assign body:Code} {st':St} {a':Act} (hst:StR E N st' a') (fn2:FuncId)
  (hs:(qZ8 P call round N fn f first captured params assign body t dblock st' kk).sat p h) :
  ∃g args w2,(invoke (.fn fv y) (x++#[.func (.yield w.heap.size) #[] #[]])).run P (w.alloc (.loop { state:=.ready,pending:=none,fn:=fn2,tmps,params,assign,body,defers:=db }))=.ok (.enter g args) w2 /\
   CallsIn (FW ro) (n-1) P g args w2 (rangePost (FW ro) n P w.heap.size (QP P W0 E h N kk p) a'):=by
 obtain⟨hn,hs0⟩:=hs;have hf0:=r.free h.next (zL0 _) hn
 obtain⟨E1,le,r1,s1,hnew⟩:∃E1,E.Le E1/\Rel P W0 E1 (h.newO (.loop ⟨.ready,.normal,fn,t,N::params.toList,assign,body,dblock⟩)) (w.alloc (.loop { state:=.ready,pending:=none,fn:=fn2,tmps,params,assign,body,defers:=db })) /\
   Stp E h E1 (h.newO (.loop ⟨.ready,.normal,fn,t,N::params.toList,assign,body,dblock⟩))/\E1.blk h.next=some w.heap.size :=
  have le:=Env.add_le hf0 w.heap.size 0 0
  ⟨_,le,r.new hn 0 0 (.loop _ _ rfl .none N (ht.mono le) rfl rfl rfl (le.blk _ _ hd)),Stp.add hf0 hn w.heap.size 0 0,Env.add_blk _ _ _ _ _⟩
 generalize w.alloc (.loop { state:=.ready,pending:=none,fn:=fn2,tmps,params,assign,body,defers:=db })=w1 at r1;generalize w.heap.size=lb at hnew;have hs1:(Jj first [.func (.yield h.next) [] []] λargs=>afnM f (λg=>Jj args captured λas=>cnd (qn P g) (call g as (λ_=>qMh h.next st' kk) (λ_=>.fail 204)) (.fail 204)) (λ_=>.fail 204) (λ_=>.fail 204) (.fail 204)).sat p (h.newO (.loop ⟨.ready,.normal,fn,t,N::params.toList,assign,body,dblock⟩)):=hs0;rw[qz] at hs1;cases hf with
 | yield=>exact False.elim hs1
 | plain =>
  cases fv with
  | func g =>
   have hs2:(Jj (first++[.func (.yield h.next) [] []]) captured λas=>cnd (qn P g) (call g as (λ_=>qMh h.next st' kk) (λ_=>.fail 204)) (.fail 204)).sat p (h.newO (.loop ⟨.ready,.normal,fn,t,N::params.toList,assign,body,dblock⟩)):=hs1;rw[qz] at hs2;obtain⟨hb,hs3⟩:=Qi hs2;have hargs:VRs E1 (first++[AV.func (.yield h.next) [] []]++captured) ((x++#[Value.func (.yield lb) #[] #[]])++y).toList:=by rw[Array.toList_append,Array.toList_append];refine ((h1.mono le).append (.cons _ _ _ _ (.func _ _ _ _ _ _ (.yield _ _ hnew) .nil .nil) .nil)).append (h2.mono le)
   have hb0:=hb;unfold qn at hb;have hcall:=hc g _ _ _ p _ _ _ _ hb0 hs3 r1 hargs;refine⟨g,(x++#[Value.func (.yield lb) #[] #[]])++y,w1,?_,qNy.2 (hcall.mono λe w' he=>?_)⟩
   .cases hfn:P.funcs[g]? with
    | none=>rw[hfn] at hb;cases hb
    | some gn =>
     rw[hfn] at hb;simp only[Bool.and_eq_true,Bool.not_eq_true'] at hb;have hh1:gn.name ≠ "runtime.NumGoroutine":=by simpa using hb.2
     cases hbo:gn.body with
     | none=>rw[hbo] at hb;simp at hb
     | some c=>simp[invoke,callFunc,hfn,hh1,hbo]
   .cases e with
    | outgrown=>exact he.elim
    | panicked chain=>obtain⟨_,_,_,_,_,_,hx⟩:=he;exact hx.elim
    | returned v =>
     obtain⟨E',h',av,s',r',hv,o,hg,hs4⟩:=he;obtain⟨lr,e,hs5⟩:=qEt hs4;subst e;have hbl:=s'.le.blk _ _ hnew;obtain⟨b,o,hb1,hw1,hor⟩:=r'.obj _ _ hg;rw[hbl] at hb1;cases hb1;cases hor with
     | loop _ rr hstt hpend N2 ht2 hps ha hbd hdd =>
      have fin:lr.state=.ready∨lr.state=.done->(FM.set h.next .tomb (kk lr.pending st')).sat p h'->rangePost (FW ro) n P lb (QP P W0 E h N kk p) a' (.returned v) w':=by
       intro hst2 hs6;have hnb:rr.state≠.busy:=by rw[hstt];rcases hst2 with e | e <;> rw[e] <;> simp[lsOf]
       have r2:=r'.set (a1:=.tomb) (o1:=.loop { rr with state:=.exhausted }) hg hbl (by rintro (e | ⟨c,e⟩) <;> cases e) (λes v e=>by cases e) (.tomb _);have s2:Stp E h E' (h'.put h.next (some .tomb)):=s1.trans (s'.trans ⟨.refl _,λ_ _ h=>.inl h,rfl,zL0 _⟩);have hst3:=hst.mono (le.trans s'.le);have hs7:(kk lr.pending st').sat p (h'.put h.next (some .tomb)):=hs6.2;refine⟨rr.pending,_,run_endLoop hw1 hnb,?_⟩;generalize w'.putObj lb (.loop { rr with state:=.exhausted })=w4 at r2;generalize lr.pending=pe at hpend hs7;generalize rr.pending=rp at hpend;cases hpend with
       | none=>exact⟨E',_,.normal,st',s2,r2,hst3,.normal,hs7⟩
       | exit i=>exact wpIn_exit ⟨E',_,.exit i,st',s2,r2,hst3,.exit i,hs7⟩
       | ret=>exact wpIn_ret ⟨E',_,.ret,st',s2,r2,hst3,.ret,hs7⟩
      cases hls:lr.state with
      | ready=>rw[hls] at hs5;exact fin (.inl hls) hs5
      | busy=>rw[hls] at hs5;exact False.elim hs5
      | done=>rw[hls] at hs5;exact fin (.inr hls) hs5
      | exhausted=>rw[hls] at hs5;exact False.elim hs5
  | _=>exact False.elim hs1
end
end Go.X
namespace Go.X
open Go Go.RowKit
section
variable {P:Program} {W0:World} {E E0:Env} {h h0:Q0} {p:QF} {w:World} {call:Qw} {round:Qs} {N:Nat} {ro:Option Nat} {n:Nat} {kk:KC} {H:qI} {fn:FuncId} {cur:Option Nat} {lf:Nat}
theorem qLf {a:Act} {g:Operand} {fv:Fn} {x y:Array Value} (hg:a.eval g=.func fv x y) (l:Nat) (w:World) :
  (resolve a.eval (rangeCall g l) 0).run P w=.ok { target:=.fn fv y,args:=x++#[.func (.yield l) #[] #[]] } w:=by
 have e:(#[.const (.func (.yield l) #[] #[])]:Array Operand).map a.eval=#[.func (.yield l) #[] #[]]:=by simp[Act.eval]
 simp only[resolve,rangeCall,hg,e,Deferred.ofValue,Sem.run_pure]
theorem qJs {l:Nat} {r:Loop} (hw:w.heap[l]?=some (.loop r)) (fn:FuncId) (tmps:Array Value) (ps:Array Tmp) (assign body:Code) :
  (Instr.enterLoop fn tmps ps assign body (some l)).run P w=.ok (w.heap.size,[]) (w.alloc (.loop { state:=.ready,pending:=none,fn,tmps,params:=ps,assign,body,defers:=r.defers })):=by
 unfold Instr.enterLoop;simp only[Sem.run_bind,run_getLoop hw,run_newObj_alloc,Result.andThen,Sem.run_pure]
theorem qYa (hc:QJ P W0 call) {g:Operand} {params:Array Tmp} {assign body:Code} {st:St} {a:Act} (hcur:CurR E cur ro)
  (hs:(xRange P call round N fn cur g params assign body st kk).sat p h) (r:Rel P W0 E h w) (hst:StR E N st a) :
  (Code.rangeFunc g params assign body).wpIn (FW ro) n P (QP P W0 E h N kk p) a w:=by
 refine wpIn_rangeFunc λfn2 _=>?_;have hev:=qNs r hst.tmps g;obtain⟨fa,fv,first,captured,x,y,e1,e2,hf,h1,h2,hs1⟩:=qNk hev hs;have hdep:(FW ro).depth.isSome=true->1<=n:=λh=>by cases h
 have hlead:∀(w':World) (d:Deferred) (f':FuncId),Target.leads P w' d.target d.args=some f'->(FW ro).fn f':=λ_ _ _ _=>trivial;rcases hcur with ⟨hc1,hc2⟩ | ⟨l,lb,hc1,hc2,hc3⟩
 .subst hc1;subst hc2;obtain⟨hn,hs2⟩:=hs1;have hf0:=r.free h.next (zL0 _) hn
  obtain⟨E1,le,r1,s1,hnew⟩:∃E1,E.Le E1/\Rel P W0 E1 (h.newO (.deferred (some []))) (w.alloc (.deferred (some [])))/\Stp E h E1 (h.newO (.deferred (some [])))/\E1.blk h.next=some w.heap.size :=
   ⟨_,Env.add_le hf0 w.heap.size 0 0,r.new hn 0 0 (.deferred _ _ .nil),Stp.add hf0 hn w.heap.size 0 0,Env.add_blk _ _ _ _ _⟩
  have hst':StR E1 N ⟨st.tmps,⟨.yield h.next,[]⟩::st.defers,st.u⟩ { a with defers:=[{ target:=.collected w.heap.size,args:=#[] }]++a.defers } :=
   ⟨hst.tmps.mono le,.cons _ _ _ _ (.mark _ _ hnew) (hst.defers.mono le)⟩
  obtain⟨g2,args,w2,hinv,hcalls⟩:=qOu (ro:=none) (n:=n) hc r1 (hf.mono le) (h1.mono le) (h2.mono le) (hst.tmps.mono le) hnew hst' fn2 hs2;have hsz:(w.alloc (.deferred (some []))).heap.size=w.heap.size+1:=by simp
  rw[hsz] at hinv hcalls;refine⟨w.heap.size+1,_,_,_,_,g2,args,w2,run_enterLoop_outer fn2 a.tmps params assign body,qLf e2 _ _,λf' hf'=>trivial,hinv,hdep,hcalls.mono λe w' he=>?_⟩;cases e with
  | returned v =>
   obtain⟨jump,w4,ha,hb⟩:=he;refine⟨jump,w4,ha,?_⟩;cases jump with
   | none=>exact QP.step s1 hb
   | some c=>exact wpIn_mono hb λ_ _ _ q=>q.step s1
  | panicked chain=>exact QP.step s1 he
  | outgrown=>obtain⟨a0,w0,q⟩:=he;exact⟨a0,w0,q.step s1⟩
 .subst hc1;subst hc2;obtain⟨o,hg,hs2⟩:=hs1;obtain⟨lr,e,hs3⟩:=qEt hs2;subst e;obtain⟨b,o,hb,hw,hor⟩:=r.obj _ _ hg;rw[hc3] at hb;cases hb;cases hor with
  | loop _ rr hstt hpend N2 ht2 hps ha hbd hdd =>obtain⟨g2,args,w2,hinv,hcalls⟩:=qOu (ro:=some lb) (n:=n) (a':=a) hc r hf h1 h2 hst.tmps hdd hst fn2 hs3;exact⟨w.heap.size,[],_,_,_,g2,args,w2,qJs hw fn2 a.tmps params assign body,qLf e2 _ _,λf' hf'=>trivial,hinv,hdep,hcalls⟩
theorem QP.thn {kn:St->FM} {k:KC} {K:Act->World->Prop} {e:Exit} {a:Act} {w:World} (q:QP P W0 E h N (λe st'=>jk e st' kn k) p e a w)
  (next:∀E' h' st',Stp E h E' h'->Rel P W0 E' h' w->StR E' N st' a->(kn st').sat p h'->K a w):Exit.then K (QP P W0 E h N k p) e a w:=by
 obtain⟨E',h',xe,st',s,r,hst,hex,hs⟩:=q;cases hex with
 | normal=>exact next E' h' st' s r hst hs
 | exit i=>exact⟨E',h',.exit i,st',s,r,hst,.exit i,hs⟩
 | goto l=>exact⟨E',h',.goto l,st',s,r,hst,.goto l,hs⟩
 | ret=>exact⟨E',h',.ret,st',s,r,hst,.ret,hs⟩
 | panic c d hcd=>exact⟨E',h',.panic c,st',s,r,hst,.panic c d hcd,hs⟩
def CodeS (P:Program) (W0:World) (N n:Nat) (cur ro:Option Nat) (X:qKo) (c:Code):Prop :=
 ∀st kk p E h a w,(X st kk).sat p h->Rel P W0 E h w->StR E N st a->CurR E cur ro->c.wpIn (FW ro) n P (QP P W0 E h N kk p) a w
theorem qQm {X:qKo} {c:Code} (hx:CodeS P W0 N n cur ro X c) {k:KC}:∀(m:Nat) (st:St) (E:Env) (h:Q0) (a:Act) (w:World),(jF2 X m st k).sat p h->Rel P W0 E h w->StR E N st a->CurR E cur ro->Stp E0 h0 E h ->
  Code.roundsIn (FW ro) n P c (QP P W0 E0 h0 N k p) m a w
 | 0,_,_,_,_,_,hs,_,_,_,_=>False.elim hs
 | m+1,st,E,h,a,w,hs,r,hst,hcur,s0=>by
  have hs1:(X st λe st'=>jk e st' (λst2=>jF2 X m st2 k) k).sat p h:=hs;rw[roundsIn_succ];refine wpIn_mono (hx st _ p E h a w hs1 r hst hcur) λe a' w' q=>?_;have q2:=q.thn (K:=Code.roundsIn (FW ro) n P c (QP P W0 E0 h0 N k p) m) λE' h' st' s r' hst' hs'=>qQm hx m st' E' h' a' w' hs' r' hst' (hcur.mono s.le) (s0.trans s);cases e with
  | normal=>exact q2
  | _=>exact QP.step s0 q2
theorem j8.junk {t:TT} {a:Array Value} (ht:j8 E N t a) {s:Nat} (hs:s<4096):j8 E N (TT.put s .junk t) a:=⟨ht.size,ht.le,λx hx=>by
 rw[TT.at_put hs hx];by_cases e:x=s
 .rw[if_pos e];exact .junk _
 .rw[if_neg e];exact ht.at' x hx⟩
theorem qZ1 {a:Array Value} {k:TT->FM}:∀(l:List Nat) (t:TT),j8 E N t a->(junkK l t k).sat p h->∃t',j8 E N t' a/\(k t').sat p h
 | [],t,ht,hs=>⟨t,ht,hs⟩
 | s::l,t,ht,hs=>by obtain⟨hlt,hs1⟩:=Qi (m:=TT.putK s .junk t λt'=>junkK l t' k) hs;rw[TT.putK_eq] at hs1;exact qZ1 l _ (ht.junk (Qo.1 hlt)) hs1
theorem onPtr_any {av:AV} {k:Nat->Nat->FM} {m:FM} (hs:(av.onPtr k m).sat p h):(∃i o,(k i o).sat p h)∨m.sat p h:=by
 cases av with
 | ptr i o=>exact .inl ⟨i,o,hs⟩
 | _=>exact .inr hs
theorem qWc {o:Q4} {k:Nat->Nat->List (AV × AV)->AV->FM} {m:FM} (hs:(o.onMapIter k m m).sat p h):(∃a b c d,o=.mapIter a b c d/\(k a b c d).sat p h)∨m.sat p h:=by
 cases o with
 | mapIter a b c d=>exact .inl ⟨a,b,c,d,rfl,hs⟩
 | _=>exact .inr hs
theorem qP4 {t:TT} {m:FM}:∀(l:List Nat) (h:Q0),Rel P W0 E h w->(curK t l m).sat p h->∃h',h'.next=h.next/\(h'.lim,h'.inf)=(h.lim,h.inf)/\Rel P W0 E h' w/\m.sat p h'
 | [],h,r,hs=>⟨h,rfl,rfl,r,hs⟩
 | s::l,h,r,hs=>by
  have hs1:((TT.at s t).onPtr (λi _=>.get i λo=>o.onMapIter (λm' ver left _=>.set i (.mapIter m' ver left .junk) (curK t l m)) (curK t l m) (curK t l m)) (curK t l m)).sat p h:=hs;rcases onPtr_any hs1 with ⟨i,o0,o,hg,hs2⟩ | hs2
  .rcases qWc hs2 with ⟨m',ver,left,cur,e,hs3⟩ | hs3
   .subst e;obtain⟨_,hs4⟩:=hs3;obtain⟨b,o,hb,hw,hor⟩:=r.obj _ _ hg;have r2:Rel P W0 E (h.put i (some (.mapIter m' ver left .junk))) w:=by
     have r3:=r.set (a1:=.mapIter m' ver left .junk) (o1:=o) hg hb (by rintro (e | ⟨c,e⟩) <;> cases e) (λes v e=>by cases e) (by
      rw[qJx hw];cases hor with
      | mapIter _ _ _ _ b' since stepped seen h0 hb' hh =>
       refine .mapIter _ _ _ _ _ _ _ _ h0 hb' λes v hv=>?_;have hne:m'≠i:=λe=>by rw[e,Q0.get_put _ (r.ltTop hg),if_pos rfl] at hv;cases hv
       rw[Q0.get_put _ (r.ltTop hg),if_neg hne] at hv;obtain⟨k1,k2⟩:=hh es v hv;refine⟨k1,λev=>?_⟩;obtain⟨xs,clock,c1,c2,c3,c4⟩:=k2 ev;exact⟨xs,clock,c1,c2,c3,⟨c4.nodup,c4.left,c4.right,c4.kind,.inl rfl⟩⟩)
     rw[qJx hw] at r3;exact r3
    obtain⟨h',e1,e2,r',hm⟩:=qP4 l _ r2 hs4;exact⟨h',e1,e2,r',hm⟩
   .exact qP4 l h r hs3
  .exact qP4 l h r hs2
theorem dropO_sat {a x:Nat} {m:FM} (r:Rel P W0 E h w) (hs:(dropO a x m).sat p h):∃h',Stp E h E h'/\Rel P W0 E h' w/\m.sat p h':=by
 rcases Qr hs with ⟨_,hs1⟩ | ⟨_,h0,h1,h2,h3,hs1⟩
 .exact⟨h,.refl _ _,r,hs1⟩
 .exact⟨(qKi a (h.next-a) h).win (a+x) h.lim,⟨.refl _,λ_ _ h=>.inl h,by rw[h0];rfl,h2⟩,r.drop h0 h1 h2 h3,hs1⟩
theorem qN7 {X:qKo} {c:Code} (hx:CodeS P W0 N n cur ro X c) {jw:LH} {k:KC}:∀(m:Nat) (st:St) (E:Env) (h:Q0) (a:Act) (w:World),
  qW2 (λs q g=>(FM.here λa=>X s λe s'=>curK s'.tmps jw.its (junkK jw.junk s'.tmps λt=>dropO a jw.win (.ret (.st e ⟨t,s'.defers,s'.u⟩)))).sat q g) (λe s g=>(k e s).sat p g) m st h ->
  Rel P W0 E h w->StR E N st a->CurR E cur ro->Stp E0 h0 E h->Code.roundsIn (FW ro) n P c (QP P W0 E0 h0 N k p) m a w
 | 0,_,_,_,_,_,hs,_,_,_,_=>False.elim hs
 | m+1,st,E,h,a,w,hs,r,hst,hcur,s0=>by
  rw[roundsIn_succ];refine wpIn_mono (hx st _ _ E h a w hs r hst hcur) λe a' w' q=>?_;obtain⟨E',h',xe,st',s,r',hst',hex,hs'⟩:=q;obtain⟨h1,e1,e2,r1,hs1⟩:=qP4 _ _ r' hs';obtain⟨t,ht,hs2⟩:=qZ1 _ _ hst'.tmps hs1;obtain⟨h2,s2,r2,hs3⟩:=dropO_sat r1 hs2;have s1:Stp E h E' h1:=⟨s.le,s.new,e2.trans s.lim,by rw[e1];exact s.next⟩;have s3:=s0.trans (s1.trans s2);have hst2:StR E' N ⟨t,st'.defers,st'.u⟩ a':=⟨ht,hst'.defers⟩;cases hex with
  | normal=>exact qN7 hx m _ E' h2 a' w' hs3 r2 hst2 (hcur.mono s.le) s3
  | exit i=>exact⟨E',h2,.exit i,_,s3,r2,hst2,.exit i,hs3⟩
  | goto l=>exact⟨E',h2,.goto l,_,s3,r2,hst2,.goto l,hs3⟩
  | ret=>exact⟨E',h2,.ret,_,s3,r2,hst2,.ret,hs3⟩
  | panic c d hcd=>exact⟨E',h2,.panic c,_,s3,r2,hst2,.panic c d hcd,hs3⟩
theorem qE0 (hc:QJ P W0 call) (hr:qc P W0 round) (hm:P.follows .mixedOrders=true) (c:Code):CodeS P W0 N n cur ro (qt P call round H fn N cur lf c) c:=by
 induction c with
 | skip=>exact λst kk p E h a w hs r hst hcur=>wpIn_skip ⟨E,h,.normal,st,.refl _ _,r,hst,.normal,hs⟩
 | region id ops draw =>
  intro st kk p E h a w hs r hst hcur;rcases Qr hs with ⟨_,hs⟩ | ⟨_,hs⟩
  .exact qS6 hc hr hm hcur.dok hs r hst
  .rcases Qr hs with ⟨_,hs⟩ | ⟨_,hs⟩
   .exact qS7 hc hr hm hcur.dok hs r hst
   .exact qGi hc hr hm hcur.dok hs r hst
 | seq x y ihx ihy =>
  intro st kk p E h a w hs r hst hcur;refine wpIn_seq (wpIn_mono (ihx st (λe st'=>jk e st' (λst2=>qt P call round H fn N cur lf y st2 kk) kk) p E h a w hs r hst hcur) λe a' w' q=>?_);exact q.thn λE' h' st' s r' hst' hs'=>wpIn_mono (ihy st' kk p E' h' a' w' hs' r' hst' (hcur.mono s.le)) λ_ _ _ q=>q.step s
 | cond x a b iha ihb =>
  intro st kk p E h ac w hs r hst hcur;have hs1:((qSl P.globals.size st.tmps x).onBool (λb'=>cnd b' (qt P call round H fn N cur lf a st kk) (qt P call round H fn N cur lf b st kk)) (.fail 206)).sat p h:=hs;have hev:=qNs r hst.tmps x;generalize qSl P.globals.size st.tmps x=av at hev hs1;generalize hv:ac.eval x=v at hev;cases hev with
  | bool t =>
   refine wpIn_cond hv ?_;cases t
   .exact ihb st kk p E h ac w hs1 r hst hcur
   .exact iha st kk p E h ac w hs1 r hst hcur
  | _=>exact False.elim hs1
 | block id b ih =>
  intro st kk p E h a w hs r hst hcur;refine wpIn_block (wpIn_mono (ih st (λe st'=>qP3 id e st' kk) p E h a w hs r hst hcur) λe a' w' q=>?_);obtain⟨E',h',xe,st',s,r',hst',hex,hs'⟩:=q;cases hex with
  | normal=>exact⟨E',h',.normal,st',s,r',hst',.normal,hs'⟩
  | exit i =>
   have hs2:(cnd (Nat.beq i id) (kk .normal st') (kk (.exit i) st')).sat p h':=hs';rcases Qr hs2 with ⟨hb,hs3⟩ | ⟨hb,hs3⟩
   .show (if i=id then QP P W0 E h N kk p .normal a' w' else QP P W0 E h N kk p (.exit i) a' w');rw[if_pos (beq_iff.1 hb)];exact⟨E',h',.normal,st',s,r',hst',.normal,hs3⟩
   .show (if i=id then QP P W0 E h N kk p .normal a' w' else QP P W0 E h N kk p (.exit i) a' w');rw[if_neg (λe=>by rw[beq_iff.2 e] at hb;cases hb)];exact⟨E',h',.exit i,st',s,r',hst',.exit i,hs3⟩
  | goto l=>exact⟨E',h',.goto l,st',s,r',hst',.goto l,hs'⟩
  | ret=>exact⟨E',h',.ret,st',s,r',hst',.ret,hs'⟩
  | panic c d hcd=>exact⟨E',h',.panic c,st',s,r',hst',.panic c d hcd,hs'⟩
 | loop b ih =>
  intro st kk p E h a w hs r hst hcur;have hs1:(xLoops H fn (qt P call round H fn N cur lf b) lf st kk).sat p h:=hs;unfold xLoops at hs1;refine wpIn_loop_rounds lf ?_;cases hl:H.loop fn with
  | none=>rw[hl] at hs1;exact qQm ih lf st E h a w hs1 r hst hcur (.refl _ _)
  | some jw=>rw[hl] at hs1;exact qN7 ih lf st E h a w hs1 r hst hcur (.refl _ _)
 | rangeFunc g params assign body _ _=>exact λst kk p E h a w hs r hst hcur=>qYa hc hcur hs r hst
 | exit id=>exact λst kk p E h a w hs r hst hcur=>wpIn_exit ⟨E,h,.exit id,st,.refl _ _,r,hst,.exit id,hs⟩
 | scope b _=>exact λst kk p E h a w hs r hst hcur=>False.elim hs
 | label l=>exact λst kk p E h a w hs r hst hcur=>wpIn_label ⟨E,h,.normal,st,.refl _ _,r,hst,.normal,hs⟩
 | goto l=>exact λst kk p E h a w hs r hst hcur=>wpIn_goto ⟨E,h,.goto l,st,.refl _ _,r,hst,.goto l,hs⟩
 | ret=>exact λst kk p E h a w hs r hst hcur=>wpIn_ret ⟨E,h,.ret,st,.refl _ _,r,hst,.ret,hs⟩
 | refuse why=>exact λst kk p E h a w hs r hst hcur=>False.elim hs
end
end Go.X
namespace Go.X
open Go Go.RowKit
section
variable {P:Program} {W0:World} {E E0:Env} {h h0:Q0} {p:QF} {w:World} {call:Qw} {round:Qs} {N:Nat} {ro:Option Nat} {n:Nat} {kk:KC} {H:qI} {fn:FuncId} {cur:Option Nat} {lf:Nat}
theorem jAr {k:TT->FM}:∀(ps:List Tmp) (args:List AV) (t:TT),(qTn N ps args t k).sat p h->ps.length=args.length
 | [],[],t,_=>rfl
 | [],_::_,t,hs=>False.elim hs
 | _::_,[],t,hs=>False.elim hs
 | q::ps,a::args,t,hs=>by
  obtain⟨_,hs1⟩:=Qi (m:=TT.putK q a t λt'=>qTn N ps args t' k) hs;rw[TT.putK_eq] at hs1
  have:=jAr ps args _ hs1
  simp[this]
theorem jAq {k:TT->FM}:∀(ps:List Tmp) (args:List AV) (vs:List Value) (t:TT) (tmps:Array Value),VRs E args vs->j8 E N t tmps->(qTn N ps args t k).sat p h ->
  ∃t',j8 E N t' ((ps.zip vs).foldl (λtmps x=>tmps.setIfInBounds x.1 x.2) tmps)/\(k t').sat p h
 | [],[],vs,t,tmps,hv,ht,hs=>⟨t,ht,hs⟩
 | [],_::_,vs,t,tmps,hv,ht,hs=>False.elim hs
 | _::_,[],vs,t,tmps,hv,ht,hs=>False.elim hs
 | q::ps,a::args,_,t,tmps,.cons _ v _ vs hv hvs,ht,hs=>by obtain⟨hlt,hs1⟩:=Qi (m:=TT.putK q a t λt'=>qTn N ps args t' k) hs;rw[TT.putK_eq] at hs1;exact jAq ps args vs _ _ hvs (ht.put (Qo.1 hlt) hv) hs1
theorem jHc (l:Nat):(FW none).inRound l=FW (some l):=rfl
theorem qSt {i l:Nat} {k:KV} (r:Rel P W0 E h w) (hi:E.blk i=some l) (s0:Stp E0 h0 E h) {xe:qd} {e:Exit} {a:Act} (hex:ExR E xe e) (hs:(Jy i k xe).sat p h) :
  roundPost P l (Jn P W0 E0 h0 k (λ_=>.fail 0) p) e a w:=by
 obtain⟨o,hg,hs1⟩:=hs;obtain⟨lr,eo,hs2⟩:=qEt hs1;subst eo;obtain⟨b,o,hb,hw,hor⟩:=r.obj _ _ hg;rw[hi] at hb;cases hb;cases hor with
 | loop _ rr hstt hpend N2 ht2 hps ha hbd hdd =>
  have fin:∀(jump:Option Code) (ls:LSt) (pe:qd),PendR pe jump->(if jump.isNone then LoopState.ready else LoopState.done)=lsOf ls->(FM.set i (lr.with ls pe) (k (.bool jump.isNone))).sat p h ->
    ∃v w',(Instr.endRound l jump).run P w=.ok v w'/\Jn P W0 E0 h0 k (λ_=>.fail 0) p (.returned v) w':=by
   intro jump ls pe hpe hls hs3
   have r2:=r.set (a1:=lr.with ls pe) (o1:=.loop { rr with state:=if jump.isNone then .ready else .done,pending:=jump }) hg hi (by rintro (e | ⟨c,e⟩) <;> cases e) (λes v e=>by cases e)
    (.loop ⟨ls,pe,lr.fn,lr.tmps,lr.params,lr.assign,lr.body,lr.defers⟩ _ hls hpe N2 ht2 hps ha hbd hdd)
   exact⟨_,_,run_endRound jump hw,E,h.put i (some (lr.with ls pe)),.bool jump.isNone,s0.trans ⟨.refl _,λ_ _ h=>.inl h,rfl,zL0 _⟩,r2,.bool _,hs3.2⟩
  cases hex with
  | normal=>exact fin none .ready .normal .none rfl hs2
  | exit j=>exact fin (some (.exit j)) .done (.exit j) (.exit j) rfl hs2
  | goto j=>exact False.elim hs2
  | ret=>exact fin (some .ret) .done .ret .ret rfl hs2
  | panic c d hcd=>exact False.elim hs2
theorem qX9 (hc:QJ P W0 call) (hr:qc P W0 round) (hm:P.follows .mixedOrders=true):qc P W0 (xRound P call round H lf):=by
 refine⟨λi args k p h hs=>?_,λi args k p E h w vs l r hs rel hi hv hw hsz n=>?_⟩
 .obtain⟨o,hg,hs1⟩:=hs;obtain⟨lr,eo,hs2⟩:=qEt hs1;subst eo;refine⟨lr,hg,?_⟩;cases hps:lr.params with
  | nil=>rw[hps] at hs2;exact False.elim hs2
  | cons N ps=>rw[hps] at hs2;simp[jAr ps args _ hs2]
 .obtain⟨o,hg,hs1⟩:=hs;obtain⟨lr,eo,hs2⟩:=qEt hs1;subst eo;obtain⟨b,o,hb,hw1,hor⟩:=rel.obj _ _ hg;rw[hi] at hb;cases hb;rw[hw] at hw1;cases hw1;cases hor with
  | loop _ _ hstt hpend N ht hps ha hbd hdd =>
   rw[hps] at hs2
   have hs3:(qTn N r.params.toList args lr.tmps λt=>qt P call (round) H lr.fn N (some i) lf lr.assign ⟨t,[],.na⟩ λe st=>jk e st
    (λst'=>.get i λo'=>o'.onLoop (λr'=>LSt.rec (motive:=λ_=>FM)
     (.set i (r'.with .busy r'.pending) (qt P call round H lr.fn N (some i) lf lr.body st' λe2 _=>Jy i k e2)) (.fail 170) (.fail 170) (.fail 170) r'.state) (.fail 171)) (λ_ _=>.fail 172)).sat p h:=hs2
   obtain⟨t,ht2,hs4⟩:=jAq r.params.toList args vs.toList lr.tmps r.tmps hv ht hs3;have hfold:(r.params.zip vs).foldl (λtmps (t,a)=>tmps.setIfInBounds t a) r.tmps=(r.params.toList.zip vs.toList).foldl (λtmps x=>tmps.setIfInBounds x.1 x.2) r.tmps:=by rw[<- Array.foldl_toList,Array.toList_zip]
   rw[hfold,ha,hbd];refine roundIn_of_wpIn trivial ?_;rw[jHc];have hst:StR E N ⟨t,[],.na⟩ { tmps:=(r.params.toList.zip vs.toList).foldl (λtmps x=>tmps.setIfInBounds x.1 x.2) r.tmps,defers:=[] }:=⟨ht2,.nil⟩;refine wpIn_mono (qE0 (n:=n) hc hr hm lr.assign _ _ p E h _ w hs4 rel hst (.inr ⟨i,l,rfl,rfl,hi⟩)) λe a1 w1 q=>?_;have q2:=q.thn (K:=λa1 w1=>∃w2,(Instr.beginRound l).run P w1=.ok () w2/\lr.body.wpIn (FW (some l)) n P (roundPost P l (Jn P W0 E h k (λ_=>.fail 0) p)) a1 w2) λE' h' st' s rel' hst' hs'=>?_
   .cases e with
    | normal=>exact q2
    | _=>obtain⟨_,_,_,_,_,_,_,_,hf⟩:=q2;exact hf.elim
   .obtain⟨o',hg',hs5⟩:=hs';obtain⟨lr',eo',hs6⟩:=qEt hs5;subst eo';have hi':=s.le.blk _ _ hi;obtain⟨b,o,hb,hw2,hor⟩:=rel'.obj _ _ hg';rw[hi'] at hb;cases hb;cases hor with
    | loop _ rr' hstt' hpend' N' ht' hps' ha' hbd' hdd' =>
     cases hls:lr'.state with
     | ready =>
      rw[hls] at hs6 hstt'
      have r2:=rel'.set (a1:=lr'.with .busy lr'.pending) (o1:=.loop { rr' with state:=.busy }) hg' hi' (by rintro (e | ⟨c,e⟩) <;> cases e) (λes v e=>by cases e)
       (.loop ⟨.busy,lr'.pending,lr'.fn,lr'.tmps,lr'.params,lr'.assign,lr'.body,lr'.defers⟩ _ rfl hpend' N' ht' hps' ha' hbd' hdd')
      refine⟨_,run_beginRound hw2 hstt',?_⟩;have s2:Stp E h E' (h'.put i (some (lr'.with .busy lr'.pending))):=s.trans ⟨.refl _,λ_ _ h=>.inl h,rfl,zL0 _⟩;refine wpIn_mono (qE0 (n:=n) hc hr hm lr.body st' _ p E' _ _ _ hs6.2 r2 hst' (.inr ⟨i,l,rfl,rfl,hi'⟩)) λe2 a2 w3 q3=>?_;obtain⟨E3,h3,xe,st3,s3,rel3,hst3,hex,hs7⟩:=q3;exact qSt rel3 (s3.le.blk _ _ hi') (s2.trans s3) hex hs7
     | busy=>rw[hls] at hs6;exact False.elim hs6
     | done=>rw[hls] at hs6;exact False.elim hs6
     | exhausted=>rw[hls] at hs6;exact False.elim hs6
end
end Go.X
namespace Go.X
open Go Go.RowKit
section
variable {P:Program} {W0:World} {E E0:Env} {h h0:Q0} {p:QF} {w:World} {call:Qw} {round:Qs} {N:Nat} {n:Nat} {kk:KC} {H:qI} {lf:Nat}
def qYw (tmps:Array Value):ResultVar->Sem Value
 | .tmp t=>pure (tmps.getD t undef)
 | .cell a t=>do loadVar t (<- asAddr (tmps.getD a undef))
theorem qT6 (fn:Func) (tmps:Array Value):results fn tmps=(do
  let vs <- fn.results.toList.mapM (qYw tmps)
  pure (if h:vs.toArray.size=1 then vs.toArray[0] else .tuple vs.toArray)):=by
 have e:results fn tmps=(do
  let vs <- fn.results.mapM (qYw tmps)
  pure (if h:vs.size=1 then vs[0] else .tuple vs)):=rfl
 rw[e,Array.mapM_eq_mapM_toList];simp only[map_eq_pure_bind,bind_assoc,pure_bind]
theorem qV1 (r:Rel P W0 E h w) {t:TT} {a:Array Value} (ht:j8 E N t a) {x:ResultVar} {k:KV} (hs:(jB1 P t x k).sat p h):∃v av,(qYw a x).run P w=.ok v w/\VR E av v/\(k av).sat p h:=by
 cases x with
 | tmp s =>
  obtain⟨hlt,hs1⟩:=Qi (show (cnd (ltb s 4096) (k (TT.at s t)) (.fail 208)).sat p h from hs);exact⟨_,_,rfl,ht.at' s (Qo.1 hlt),hs1⟩
 | cell s ty =>
  obtain⟨hlt,hs1⟩:=Qi (show (cnd (ltb s 4096) ((TT.at s t).onPtr (λi o=>qPp P ty i o k) (.fail 209)) (.fail 208)).sat p h from hs);have hv:=ht.at' s (Qo.1 hlt);generalize t.at s=av at hv hs1;generalize hav:a.getD s undef=v at hv;cases hv with
  | ptr i o b x hb hx =>
   obtain⟨v,av,h1,h2,h3⟩:=qJ9 r hb (show (qPp P ty i o k).sat p h from hs1);subst hx;exact⟨v,av,by simp only[qYw,hav,asAddr,Sem.run_bind,Sem.run_pure,Result.andThen_ok];exact h1,h2,h3⟩
  | _=>exact False.elim hs1
theorem qFu (r:Rel P W0 E h w) {t:TT} {a:Array Value} (ht:j8 E N t a):∀(l:List ResultVar) (k:List AV->FM),(qR P t l k).sat p h ->
  ∃vs avs,(l.mapM (qYw a)).run P w=.ok vs w/\VRs E avs vs/\(k avs).sat p h
 | [],k,hs=>⟨[],[],by simp,.nil,hs⟩
 | x::l,k,hs=>by have hs1:(jB1 P t x λv=>qR P t l λvs=>k (v::vs)).sat p h:=hs;obtain⟨v,av,h1,h2,h3⟩:=qV1 r ht hs1;obtain⟨vs,avs,h4,h5,h6⟩:=qFu r ht l _ h3;exact⟨v::vs,av::avs,by simp[List.mapM_cons,h1,h4],.cons _ _ _ _ h2 h5,h6⟩
theorem qV0 (r:Rel P W0 E h w) {t:TT} {a:Array Value} (ht:j8 E N t a) {fn:Func} {k:KV} (hs:(qR P t fn.results.toList λvs=>results1 vs k).sat p h) :
  ∃v av,(results fn a).run P w=.ok v w/\VR E av v/\(k av).sat p h:=by
 obtain⟨vs,avs,h1,h2,h3⟩:=qFu r ht _ _ hs;rw[qT6];simp only[Sem.run_bind,h1,Result.andThen_ok,Sem.run_pure];cases h2 with
 | nil=>exact⟨_,_,rfl,.tuple _ _ .nil,h3⟩
 | cons x y l m hx hl =>
  cases hl with
  | nil=>exact⟨y,x,rfl,hx,h3⟩
  | cons x2 y2 l2 m2 hx2 hl2=>exact⟨.tuple (y::y2::m2).toArray,.tuple (x::x2::l2),rfl,.tuple _ _ (.cons _ _ _ _ hx (.cons _ _ _ _ hx2 hl2)),h3⟩
theorem qQy (r:Rel P W0 E h w) {t:TT} {a:Array Value} (ht:j8 E N t a) {fn:Func} {m:FM} (hs:(qR P t fn.results.toList λ_=>m).sat p h) :
  ∃v,(results fn a).run P w=.ok v w/\m.sat p h:=by
 obtain⟨vs,avs,h1,h2,h3⟩:=qFu r ht _ _ hs;rw[qT6];simp only[Sem.run_bind,h1,Result.andThen_ok,Sem.run_pure];exact⟨_,rfl,h3⟩
theorem qYj {k:TT->FM}:∀(args:List AV) (vs:List Value) (i:Nat) (t:TT) (a:Array Value),VRs E args vs->j8 E N t a->i+args.length<=N->(TT.args args i t k).sat p h ->
  ∃t' a',j8 E N t' a'/\(k t').sat p h/\a'.size=a.size/\(∀j,j<i->a'[j]?=a[j]?)/\(∀j v,vs[j]?=some v->a'[i+j]?=some v)/\∀j,i+args.length<=j->a'[j]?=a[j]?
 | [],_,i,t,a,.nil,ht,_,hs=>⟨t,a,ht,hs,rfl,λ_ _=>rfl,λ_ _ e=>by simp at e,λ_ _=>rfl⟩
 | x::args,_,i,t,a,.cons _ v _ vs hv hvs,ht,hlen,hs=>by
  have hs1:(TT.putK i x t λt'=>TT.args args (i+1) t' k).sat p h:=hs;rw[TT.putK_eq] at hs1;simp only[zJ0] at hlen;have hsz:=ht.size;obtain⟨t',a',h1,h2,h3,h4,h5,h6⟩:=qYj args vs (i+1) _ _ hvs (ht.put (s:=i) (by omega) hv) (by omega) hs1;refine⟨t',a',h1,h2,by rw[h3,Array.size_setIfInBounds],λj hj=>?_,λj u hu=>?_,λj hj=>?_⟩
  .rw[h4 j (by omega),Array.getElem?_setIfInBounds_ne (by omega)]
  .cases j with
   | zero =>
    simp only[List.getElem?_cons_zero,Option.some.injEq] at hu;subst hu;rw[Nat.add_zero,h4 i (by omega),Array.getElem?_setIfInBounds_self_of_lt (by omega)]
   | succ j =>
    rw[List.getElem?_cons_succ] at hu
    have:=h5 j u hu
    rw[show i+(j+1)=i+1+j by omega];exact this
  .simp only[zJ0] at hj;rw[h6 j (by omega),Array.getElem?_setIfInBounds_ne (by omega)]
theorem qYg (hN:N<=4096):j8 E N TT.undef (Array.replicate N undef):=⟨by simp,hN,λs _=>by
 rw[TT.at_undef]
 have:(Array.replicate N undef).getD s undef=undef:=by rw[Array.getD_eq_getD_getElem?,Array.getElem?_replicate];by_cases e:s<N <;> simp[e]
 rw[this];exact .tuple _ _ .nil⟩
theorem jAs {args:List AV} {vs:Array Value} {k:TT->FM} (hv:VRs E args vs.toList) (hs:(qXo N args k).sat p h):∃t,j8 E N t (vs++Array.replicate (N-vs.size) undef)/\(k t).sat p h:=by
 obtain⟨hN,hs1⟩:=Qi (show (cnd (Nat.ble N 4096) (Jf args Nat.zero λn=>cnd (Nat.ble n N) (TT.args args Nat.zero TT.undef k) (.fail 165)) (.fail 164)).sat p h from hs);rw[qKa] at hs1;obtain⟨hl,hs2⟩:=Qi hs1;have hN2:=zS0 hN;have hl2:=zS0 hl;have hlen:=hv.length;obtain⟨t',a',h1,h2,h3,_,h5,h6⟩:=qYj args vs.toList 0 TT.undef (Array.replicate N undef) hv (qYg hN2) (by omega) hs2;refine⟨t',?_,h2⟩;have hvs:vs.size=args.length:=by rw[<- hlen];simp
 have e:a'=vs++Array.replicate (N-vs.size) undef:=by
  apply Array.ext_getElem?;intro j;rcases Nat.lt_or_ge j vs.size with hj | hj
  .rw[Array.getElem?_append_left hj]
   have:=h5 j vs[j] (by rw[Array.getElem?_toList];simp[hj])
   rw[Nat.zero_add] at this;rw[this];simp[hj]
  .rw[h6 j (by omega),Array.getElem?_append_right hj,Array.getElem?_replicate,Array.getElem?_replicate];by_cases e:j<N
   .rw[if_pos e,if_pos (by omega)]
   .rw[if_neg e,if_neg (by omega)]
 rw[<- e];exact h1
end
end Go.X
namespace Go.X
open Go Go.RowKit
section
variable {P:Program} {W0:World} {E E0:Env} {h h0:Q0} {p:QF} {w:World} {call:Qw} {round:Qs} {N:Nat} {n:Nat} {kk:KC} {H:qI} {lf:Nat}
inductive MR (E:Env):QY->FrameMode->Prop
 | returning:MR E .returning .returning
 | panicking (ch:QD) (d:List PanicEntry) (h:ChR E ch d):MR E (.panicking ch) (.panicking d)
theorem MR.mono {E':Env} (le:E.Le E') {u:QY} {m:FrameMode} (h:MR E u m):MR E' u m:=by
 cases h with
 | returning=>exact .returning
 | panicking ch d hc=>exact .panicking _ _ (hc.mono le)
theorem MR.run {u:QY} {m:FrameMode} (h:MR E u m):m≠.run:=by cases h <;> simp
theorem ChR.append {a b:QD} {c d:List PanicEntry} (h:ChR E a c) (k:ChR E b d):ChR E (a++b) (c++d):=by
 induction h with
 | nil=>exact k
 | cons a b v l m h _ ih=>exact .cons _ _ _ _ _ h ih
theorem ChR.drop {a:QD} {d:List PanicEntry} (h:ChR E a d):d.dropWhile (λe=>!e.goexit)=[]:=by
 induction h with
 | nil=>rfl
 | cons a b v l m h _ ih=>rw[List.dropWhile_cons];simpa using ih
theorem MR.settle {u:QY} {m:FrameMode} (h:MR E u m):MR E (qQs u) (Go.settle m):=by
 cases h with
 | returning=>exact .returning
 | panicking ch d hc =>
  cases hc with
  | nil=>exact .panicking _ _ .nil
  | cons a b v l m hv ht =>
   cases b with
   | false=>exact .panicking _ _ (.cons _ _ _ _ _ hv ht)
   | true =>
    have e:Go.settle (.panicking ({ v:=v,recovered:=true }::m))=.returning:=by simp only[Go.settle,ht.drop]
    rw[e];exact .returning
theorem MR.raised {u:QY} {m:FrameMode} (h:MR E u m) {ch:QD} {d:List PanicEntry} (hc:ChR E ch d):MR E (raisedA u ch) (Go.raised m d):=by
 cases h with
 | returning=>exact .panicking _ _ hc
 | panicking c2 d2 hc2=>exact .panicking _ _ (hc.append hc2)
theorem qOj {l:List qk} {m:FM} (hs:(qL6 l m).sat p h):l=[]/\m.sat p h:=by
 cases l with
 | nil=>exact⟨rfl,hs⟩
 | cons a l=>exact False.elim hs
def DPost (K:FrameMode->World->Prop):Ending->FrameMode->World->Prop
 | .returned _,u',w'=>K (Go.settle u') w'
 | .panicked chain,u',w'=>K (Go.raised u' chain) w'
 | .outgrown,_,_=>False
theorem qKk {fn:Func} {u:QY} {k:QY->FM} {K:FrameMode->World->Prop} {e:Exit} {a:Act} {c0:Frame} {cs:List Frame} {m:FrameMode} (hm:MR E u m)
  (hK:∀E' h' au m' w',Stp E h E' h'->Rel P W0 E' h' w'->MR E' au m'->(k au).sat p h'->K m' w') (q:QP P W0 E h N (qNw P fn u k) p e a w):bodyPostS P fn c0 cs (DPost K) e a ({ c0 with mode:=m }::cs) w:=by
 obtain⟨E',h',xe,st',s,r,hst,hex,hs⟩:=q;obtain⟨hd,hs1⟩:=qOj hs;have hdef:a.defers=[]:=by
  have:=hst.defers
  rw[hd] at this;generalize a.defers=dd at this;cases this with
  | nil=>rfl
 have hm':=hm.mono s.le;cases hex with
 | normal =>
  obtain⟨v,h1,h2⟩:=qQy r hst.tmps (show (qR P st'.tmps fn.results.toList λ_=>k (qQs u)).sat p h' from hs1);exact⟨hdef,m,rfl,v,h1,hK _ _ _ _ _ s r hm'.settle h2⟩
 | exit i=>exact False.elim hs1
 | goto l=>exact False.elim hs1
 | ret =>
  obtain⟨v,h1,h2⟩:=qQy r hst.tmps (show (qR P st'.tmps fn.results.toList λ_=>k (qQs u)).sat p h' from hs1);exact⟨hdef,m,rfl,v,h1,hK _ _ _ _ _ s r hm'.settle h2⟩
 | panic c d hcd=>exact⟨hdef,m,rfl,hK _ _ _ _ _ s r (hm'.raised hcd) hs1⟩
theorem jGh {o:Oper} {d:Option Tmp} (hd:recOp o=some d):o.guard=none/\(∃cl,o.op=.call cl/\cl.callee=.builtin .recover)/\o.dst=d:=by
 unfold recOp at hd;split at hd
 .rename_i hg ho2;split at hd
  .rename_i hcl;cases hd;exact⟨hg,⟨_,ho2,hcl⟩,rfl⟩
  .cases hd
 .cases hd
theorem jGi {c:Code} {dst:Option Tmp} {ops:Array Oper} {os:List Oper} {rest:Code} (h:recOf c=some (dst,ops,os,rest)) :
  ∃id o,c=.seq (.region id ops false) rest/\recOp o=some dst/\ops.toList=o::os:=by
 unfold recOf at h;split at h
 .rename_i id ops r;split at h
  .rename_i o os' ho;split at h
   .rename_i d hd;simp only[Option.some.injEq,Prod.mk.injEq] at h;obtain⟨e1,e2,e3,e4⟩:=h;subst e1;subst e2;subst e3;subst e4;exact⟨id,o,rfl,hd,ho⟩
   .cases h
  .cases h
 .cases h
theorem qVr {F:Fence} {id:Nat} {ops:Array Oper} {o:Oper} {l:List Nat} {a:Act} {cs:List Frame} {w:World} {Q:Exit->Act->List Frame->World->Prop} (hro:F.round=none) (hl:List.range ops.size=0::l) (h0:ops[0]?=some o)
  (hw:Region.wanted o (yielded ops a.tmps)=true) (hex:(execOp a.eval o).run P w=.ok .recover w) (habout:∀f,o.about P w a.eval=some f->F.fn f)
  (h:∃v cs',(recoverD cs=some (v,cs')∨(recoverD cs=none/\v=.nilIface/\cs'=cs))/\∃Q1,wpOpsIn F n P ops Q1 l (a.put o.dst v) w/\∀e a' w',Q1 e a' w'->Q e a' cs' w'):(Code.region id ops false).wpSIn F n P Q a cs w:=by
 intro b k hb hr hF hroom;have hk:(b.atR a (.inRegion ops (0::l)::k)).kind=.deferred:=hb;have h1:(lone (b.atR a (.inRegion ops (0::l)::k)) cs w).fenced P F:=fenced_oper hF hroom h0 habout;have hg:=stepGR_op (P:=P) (b:=b) (k:=k) (cs:=cs) (w:=w) (rest:=l) h0 hw;rw[hr,Oper.semAt_none] at hg;have hfin:∀v,(b.atR a (.inRegion ops (0::l)::k)).finish v=b.atR (a.put o.dst v) (.inRegion ops l::k):=by intro v;rw[Frame.finish_atR,h0];rfl
 have htr:=tryRecover_deferred hk cs;obtain⟨v,cs',hrec,Q1,hw1,hq1⟩:=h;have hlen:cs'.length=cs.length:=by
  rcases hrec with hrec | ⟨_,_,e⟩
  .exact recoverD_length hrec
  .rw[e]
 obtain⟨e,a',w',hq,harr⟩:=wp_opsIn _ _ _ hw1 b k cs' (hr.trans hro.symm) hF (hlen ▸ hroom);refine⟨e,a',cs',w',hlen,hq1 _ _ _ hq,.of_steps (.one (fenced_calm hF hroom rfl) stepR_region) ?_⟩;rw[hl];refine .of_steps (.one h1 (step_lone_go ?_)) harr;rcases hrec with hrec | ⟨hrec,e1,e2⟩
 .rw[hg,<- hfin];simp only[Frame.atR,hr] at htr ⊢;simp[stepG.apply,hex,htr,hrec]
 .subst e1;subst e2;rw[hg,<- hfin];simp only[Frame.atR,hr] at htr ⊢;simp[stepG.apply,hex,htr,hrec]
theorem qTe {u:QY} {m:FrameMode} (hm:MR E u m) {k:AV->QY->FM} (hs:(qV4 u k).sat p h) (c0:Frame) (cs:List Frame) (hc0:c0.mode=m) :
  ∃v av u' m',VR E av v/\MR E u' m'/\(k av u').sat p h/\(recoverD (c0::cs)=some (v,{ c0 with mode:=m' }::cs)∨(recoverD (c0::cs)=none/\v=.nilIface/\m'=m)):=by
 cases hm with
 | returning=>exact⟨.nilIface,.nilIface,.returning,.returning,.nilIface,.returning,hs,.inr ⟨by simp[recoverD,hc0],rfl,rfl⟩⟩
 | panicking ch d hc =>
  cases hc with
  | nil=>exact⟨.nilIface,.nilIface,.panicking [],.panicking [],.nilIface,.panicking _ _ .nil,hs,.inr ⟨by simp[recoverD,hc0],rfl,rfl⟩⟩
  | cons a b v l m hv ht =>
   cases b with
   | true=>exact⟨.nilIface,.nilIface,_,_,.nilIface,.panicking _ _ (.cons _ _ _ _ _ hv ht),hs,.inr ⟨by simp[recoverD,hc0],rfl,rfl⟩⟩
   | false=>exact⟨v,a,_,.panicking ({ v:=v,recovered:=true }::m),hv,.panicking _ _ (.cons _ true _ _ _ hv ht),hs,.inl (by simp[recoverD,hc0])⟩
theorem qYc (hc:QJ P W0 call) (hr:qc P W0 round) (hmo:P.follows .mixedOrders=true) {f:FuncId} {args:List AV} {vs:Array Value} {u:QY} {m:FrameMode} {k:QY->FM} {K:FrameMode->World->Prop}
  (hs:(xDefer P call round H lf f args u k).sat p h) (r:Rel P W0 E h w) (hv:VRs E args vs.toList) (hm:MR E u m)
  (hK:∀E' h' au m' w',Stp E h E' h'->Rel P W0 E' h' w'->MR E' au m'->(k au).sat p h'->K m' w'):qn P f=true/\CallsDIn (FW none) n P f vs m w (DPost K):=by
 obtain⟨hb,hs1⟩:=Qi (show (cnd (qn P f) (Qj P.funcs[f]? (.fail 160) λfn=>Qj fn.body (.fail 160) λc=>qXo fn.ntmps args λt =>
  Option.rec (motive:=λ_=>FM) (qt P call round H f fn.ntmps none lf c ⟨t,[],.na⟩ (qNw P fn u k))
   (λdr=>qV4 u λv u'=>putDst fn.ntmps dr.1 v ⟨t,[],.na⟩ λst=>xOps P call round fn.ntmps true dr.2.1 dr.2.2.1 st (λst'=>qt P call round H f fn.ntmps none lf dr.2.2.2 st' (qNw P fn u' k)) (λst' ch=>qNw P fn u' k (.panic ch) st')) (recOf c)) (.fail 193)).sat p h from hs)
 refine⟨hb,?_⟩;obtain⟨fn,hf,hs2⟩:=Qe hs1;obtain⟨c,hbo,hs3⟩:=Qe hs2;obtain⟨t,ht,hs4⟩:=jAs hv hs3;have hst:StR E fn.ntmps ⟨t,[],.na⟩ { tmps:=vs++Array.replicate (fn.ntmps-vs.size) undef,defers:=[] }:=⟨ht,.nil⟩;refine callsDIn_of_wpSIn hf hbo trivial λc0 cs hc0=>?_;have hself:({ c0 with mode:=m }:Frame)=c0:=by subst hc0;rfl
 cases hrec:recOf c with
 | none =>
  rw[hrec] at hs4;refine wpSIn_of_wpIn rfl (wpIn_mono (qE0 (n:=n) hc hr hmo c _ _ p E h _ w hs4 r hst (.inl ⟨rfl,rfl⟩)) λe a w' q=>?_)
  have:=qKk (c0:=c0) (cs:=cs) hm hK q
  rw[hself] at this;exact this
 | some dr =>
  obtain⟨dst,ops,os,rest⟩:=dr;rw[hrec] at hs4;obtain⟨id,o,ec,hro,hops⟩:=jGi hrec;obtain⟨hg,⟨cl,hop,hcl⟩,hdst⟩:=jGh hro;subst ec;obtain⟨v,av,u',m',hv',hm',hs5,hrd⟩:=qTe hm hs4 c0 cs hc0;obtain⟨st',hst',hs6⟩:=jA hs5 hst hv';have hs6:(xOps P call round fn.ntmps true ops os st' (λst2=>qt P call round H f fn.ntmps none lf rest st2 (qNw P fn u' k)) (λst2 ch=>qNw P fn u' k (.panic ch) st2)).sat p h:=hs6;refine wpSIn_seq (qVr (o:=o) (l:=List.range' 1 os.length) rfl ?_ ?_ ?_ ?_ (λ_ _=>trivial) ⟨v,({ c0 with mode:=m' }:Frame)::cs,?_,?_⟩)
  .rw[<- Array.length_toList,hops,zJ0,List.range_eq_range',List.range'_succ]
  .rw[<- Array.getElem?_toList,hops];rfl
  .simp[Region.wanted,hg]
  .simp[execOp,hop,resolve,hcl,invoke,builtin]
  .rcases hrd with hrd | ⟨hrd,e1,e2⟩
   .exact .inl hrd
   .subst e2;rw[hself];exact .inr ⟨hrd,e1,rfl⟩
  .have hx:=qIv (kk:=λe st=>jk e st (λst2=>qt P call round H f fn.ntmps none lf rest st2 (qNw P fn u' k)) (qNw P fn u' k)) (n:=n) (ro:=none) hc hr (dok:=true) (λ_=>rfl) os 1 (by rw[hops];rfl) st' _ E h w hs6 r hst' (Stp.refl _ _);rw[hdst];refine⟨_,hx,λe a' w' q=>?_⟩;obtain⟨E',h',xe,st2,s,r2,hst2,hex,hsat⟩:=q;have tail:∀e,(qNw P fn u' k xe st2).sat p h'->ExR E' xe e->bodyPostS P fn c0 cs (DPost K) e a' ({ c0 with mode:=m' }::cs) w':=λe hd hx=>qKk (c0:=c0) (cs:=cs) hm' hK ⟨E',h',xe,st2,s,r2,hst2,hx,hd⟩;cases hex with
   | normal =>
    have hs7:(qt P call round H f fn.ntmps none lf rest st2 (qNw P fn u' k)).sat p h':=hsat;exact wpSIn_of_wpIn rfl (wpIn_mono (qE0 (n:=n) hc hr hmo rest _ _ p E' h' _ w' hs7 r2 hst2 (.inl ⟨rfl,rfl⟩)) λe a w' q=>qKk (c0:=c0) (cs:=cs) (hm'.mono s.le) (λE2 h2 au m2 w2 s2 r3 hm2 hk2=>hK E2 h2 au m2 w2 (s.trans s2) r3 hm2 hk2) q)
   | exit i=>exact tail _ hsat (.exit i)
   | goto l=>exact tail _ hsat (.goto l)
   | ret=>exact tail _ hsat .ret
   | panic c d hcd=>exact tail _ hsat (.panic c d hcd)
end
end Go.X
namespace Go.X
open Go Go.RowKit
section
variable {P:Program} {W0:World} {E E0:Env} {h h0:Q0} {p:QF} {w:World} {call:Qw} {round:Qs} {N:Nat} {n:Nat} {kk:KC} {H:qI} {lf:Nat}
theorem qJt {f:FuncId} (hb:qn P f=true) (vs:Array Value) (w:World):(callFunc f vs).run P w=.ok (.enter f vs) w:=by
 unfold qn at hb;cases hfn:P.funcs[f]? with
 | none=>rw[hfn] at hb;cases hb
 | some gn =>
  rw[hfn] at hb;simp only[Bool.and_eq_true,Bool.not_eq_true'] at hb;have hh1:gn.name ≠ "runtime.NumGoroutine":=by simpa using hb.2
  cases hbo:gn.body with
  | none=>rw[hbo] at hb;simp at hb
  | some c=>simp[callFunc,hfn,hh1,hbo]
theorem Jc (hc:QJ P W0 call) (hr:qc P W0 round) (hmo:P.follows .mixedOrders=true) {fn:Func} {tmps:Array Value} {t:TT} {k:KV} {kp:QD->FM} :
  ∀(ds:List qk) (cs:List Deferred) (u:QY) (m:FrameMode) (E:Env) (h:Q0) (w:World),DRs E ds cs->MR E u m->Rel P W0 E h w->j8 E N t tmps->Stp E0 h0 E h ->
  (qFt P call round H lf ds u (endK P fn t k kp)).sat p h->LeavesInM (FW none) n P fn tmps (Jn P W0 E0 h0 k kp p) cs m w
 | [],_,u,m,E,h,w,.nil,hm,r,ht,s0,hs=>by
  have hs1:(endK P fn t k kp u).sat p h:=hs;cases hm with
  | returning =>
   obtain⟨v,av,h1,h2,h3⟩:=qV0 r ht (show (qR P t fn.results.toList λvs=>results1 vs k).sat p h from hs1);exact⟨v,h1,E,h,av,s0,r,h2,h3⟩
  | panicking ch d hcd=>exact⟨E,h,ch,s0,r,hcd,hs1⟩
 | a::ds,_,u,m,E,h,w,.cons _ d _ cs hd hds,hm,r,ht,s0,hs=>by
  refine⟨hm.run,?_⟩;cases hd with
  | mark i b hb =>
   left;have hs1:(FM.get i λo=>o.onDeferred (λl=>qL6 l (.set i .tomb (qFt P call round H lf ds u (endK P fn t k kp)))) (.fail 192)).sat p h:=hs;obtain⟨o,hg,hs2⟩:=hs1;obtain⟨b',ob,hb',hw,hor⟩:=r.obj _ _ hg;rw[hb] at hb';cases hb';cases hor with
   | deferred l cs2 hl =>
    obtain⟨e,hs3⟩:=qOj (show (qL6 l (.set i .tomb (qFt P call round H lf ds u (endK P fn t k kp)))).sat p h from hs2);subst e;cases hl with
    | nil =>
     have r2:=r.set (a1:=.tomb) (o1:=.deferred none) hg hb (by rintro (e | ⟨c,e⟩) <;> cases e) (λes v e=>by cases e) (.tomb _);have s2:Stp E h E (h.put i (some .tomb)):=⟨.refl _,λ_ _ h=>.inl h,rfl,zL0 _⟩;exact⟨b,_,rfl,run_takeDeferred hw,Jc hc hr hmo ds cs u m E _ _ hds hm r2 ht (s0.trans s2) hs3.2⟩
   | _=>exact False.elim hs2
  | fn f l cap args hl =>
   right;have hs1:(xDefer P call round H lf f l u λu'=>qFt P call round H lf ds u' (endK P fn t k kp)).sat p h:=hs;obtain⟨hb,hcd⟩:=qYc (n:=n-1) hc hr hmo hs1 r hl hm (K:=λm' w'=>LeavesInM (FW none) n P fn tmps (Jn P W0 E0 h0 k kp p) cs m' w') λE' h' au m' w' s r' hm' hs' =>
    Jc hc hr hmo ds cs au m' E' h' w' (hds.mono s.le) hm' r' (ht.mono s.le) (s0.trans s) hs'
   have hdep:(FW none).depth.isSome=true->1<=n:=λh=>by cases h
   refine⟨hdep,.func f,cap,f,args++cap,rfl,?_,λ_ _=>trivial,hcd.mono λe u' w' he=>?_⟩
   .show (invoke (.fn (.func f) cap) args).run P w=_;simp only[invoke];exact qJt hb _ _
   .cases e with
    | returned v=>exact he
    | panicked c=>exact he
    | outgrown=>exact he.elim
theorem jBt (hc:QJ P W0 call) (hr:qc P W0 round) (hmo:P.follows .mixedOrders=true):QJ P W0 (qS8 P H lf call round):=by
 intro f args k kp p E h w vs hb hs r hv;obtain⟨fn,hf,hs2⟩:=Qe (show (Qj P.funcs[f]? (.fail 160) λfn=>Qj fn.body (.fail 160) λc=>qXo fn.ntmps args λt=>qt P call round H f fn.ntmps none lf c ⟨t,[],.na⟩ (qG9 P call round H lf fn k kp)).sat p h from hs);obtain⟨c,hbo,hs3⟩:=Qe hs2;obtain⟨t,ht,hs4⟩:=jAs hv hs3;have hst:StR E fn.ntmps ⟨t,[],.na⟩ { tmps:=vs++Array.replicate (fn.ntmps-vs.size) undef,defers:=[] }:=⟨ht,.nil⟩;have key:CallsIn (FW none) 0 P f vs w (Jn P W0 E h k kp p):=by
  refine callsIn_of_wp_marks hf hbo trivial (wpIn_mono (qE0 (n:=0) hc hr hmo c _ _ p E h _ w hs4 r hst (.inl ⟨rfl,rfl⟩)) λe a w' q=>?_);obtain⟨E',h',xe,st',s,r',hst',hex,hs'⟩:=q;cases hex with
  | normal=>exact Jc hc hr hmo _ _ .returning .returning E' h' w' hst'.defers .returning r' hst'.tmps s hs'
  | exit i=>exact False.elim hs'
  | goto l=>exact False.elim hs'
  | ret=>exact Jc hc hr hmo _ _ .returning .returning E' h' w' hst'.defers .returning r' hst'.tmps s hs'
  | panic c d hcd=>exact Jc hc hr hmo _ _ (.panicking c) (.panicking d) E' h' w' hst'.defers (.panicking _ _ hcd) r' hst'.tmps s hs'
 exact qNy.1 key
theorem Calls.imp {f:FuncId} {vs:Array Value} {R R':Ending->World->Prop} (h:Calls P f vs w R) (hr:∀e w',R e w'->R' e w'):Calls P f vs w R':=Calls.mono h hr
theorem qZ2 (hc:QJ P W0 call):QJ P W0 (jEz call):=by
 intro f args k kp p E h w vs hb hs r hv;refine Calls.mono (hc f args (λv=>.ret (.val v)) (λch=>.ret (.pan ch .na)) _ E h w vs hb hs r hv) λe w' he=>?_;cases e with
 | returned v=>exact he
 | panicked c=>exact he
 | outgrown=>exact he
theorem qGl {av:AV} {m:FM} (hw:0<w.heap.size):∀(c:Nat) (E:Env) (h:Q0),Stp E0 h0 E h->Rel P W0 E h w->(gcK h0.next av c m).sat p h->∃E' h',Stp E0 h0 E' h'/\E.Le E'/\Rel P W0 E' h' w/\m.sat p h'
 | 0,E,h,s0,r,hs=>⟨E,h,s0,.refl _,r,hs⟩
 | c+1,E,h,s0,r,hs=>by
  have hs1:(cnd (ownOf av (Nat.add h0.next c)) (gcK h0.next av c m) (Qc (Nat.add h0.next c) λi=>.set i .tomb (gcK h0.next av c m))).sat p h:=hs;rcases Qr hs1 with ⟨_,hs2⟩ | ⟨_,hs2⟩
  .exact qGl hw c E h s0 r hs2
  .rw[Qb] at hs2;obtain⟨hlt,hs3⟩:=hs2;have hi:h0.next+c<h.next:=hlt
   have ht:h.inf=true∨h0.next+c<top:=r.lim.elim .inl λl=>r.room.imp id λq=>by omega
   have hl:h0.fr (h0.next+c):=(fr_iff s0.lim _).1 (r.room.imp id λhr=>by omega);cases hb:E.blk (h0.next+c) with
   | some b=>exact qGl hw c E (h.put (h0.next+c) (some .tomb)) ⟨s0.le,s0.new,s0.lim,s0.next⟩ (r.tombB ht hb) hs3
   | none =>have le:=Env.add_le hb 0 0 0;have s1:Stp E0 h0 (E.add (h0.next+c) 0 0 0) (h.put (h0.next+c) (some .tomb)):=⟨s0.le.trans le,λi b hib=>(Env.add_inv hib).elim (λe=>.inr ⟨by omega,by rw[e.1];exact hl⟩) (λe=>s0.new i b e.2),s0.lim,s0.next⟩;obtain⟨E',h',a1,a2,a3,a4⟩:=qGl hw c _ _ s1 (r.tombs hi hb hw) hs3;exact⟨E',h',a1,le.trans a2,a3,a4⟩
theorem qW8 (hW:0<W0.heap.size) (hc:QJ P W0 call):QJ P W0 (jC4 call):=by
 intro f args k kp p E h w vs hb hs r hv;refine Calls.mono (hc f args (λv=>.here λb=>gcK h.next v (Nat.sub b h.next) (.ret (.val v))) (λch=>.ret (.pan ch .na)) _ E h w vs hb hs r hv) λe w' he=>?_;cases e with
 | returned v =>
  obtain⟨E',h',av,s,r',hv',hs'⟩:=he;have hw:0<w'.heap.size:=zE0 hW r'.below.size;obtain⟨E2,h2,s2,le,r2,hs2⟩:=qGl hw _ E' h' s r' hs';exact⟨E2,h2,av,s2,r2,hv'.mono le,hs2⟩
 | panicked c=>exact he
 | outgrown=>exact he
def Q7 (P:Program) (W0:World) (sums:qm):Prop:=∀f s,sums f=some s->∀args (k:KV) (kp:QD->FM) p E h w (vs:Array Value),qn P f=true->(s args k kp).sat p h->Rel P W0 E h w->VRs E args vs.toList->Calls P f vs w (Jn P W0 E h k kp p)
theorem qYb {sums:qm} (hsum:Q7 P W0 sums) (hW:0<W0.heap.size∨∀f,H.join f<=1) (hc:QJ P W0 call) (hr:qc P W0 round) (hmo:P.follows .mixedOrders=true):QJ P W0 (jEe P H sums lf call round):=by
 intro f args k kp p E h w vs hb hs r hv;have hbody:=jBt (H:=H) (lf:=lf) hc hr hmo;have hs1:(Option.rec (motive:=λ_=>FM) (cnd (cnd (Nat.beq (H.join f) 3) true (cnd (Nat.beq (H.join f) 4) true (Nat.beq (H.join f) 0))) (qS8 P H lf call round f args k kp) (cnd (Nat.beq (H.join f) 1) (jEz (qS8 P H lf call round) f args k kp) (jC4 (qS8 P H lf call round) f args k kp))) (λs=>s args k kp) (sums f)).sat p h:=hs;cases hsf:sums f with
 | some s =>
  rw[hsf] at hs1;exact hsum f s hsf args k kp p E h w vs hb hs1 r hv
 | none =>
  rw[hsf] at hs1;rcases Qr hs1 with ⟨_,hs2⟩ | ⟨h0',hs2⟩
  .exact hbody f args k kp p E h w vs hb hs2 r hv
  .rcases Qr hs2 with ⟨_,hs3⟩ | ⟨h1',hs3⟩
   .exact qZ2 hbody f args k kp p E h w vs hb hs3 r hv
   .refine qW8 ?_ hbody f args k kp p E h w vs hb hs3 r hv;rcases hW with hW | hW
    .exact hW
    .exfalso
     have:=hW f
     have n0:H.join f≠0:=λe=>by rw[e] at h0';exact absurd h0' (by decide)
     have n1:H.join f≠1:=λe=>by rw[e] at h1';cases h1'
     omega
theorem qKx {sums:qm} (hsum:Q7 P W0 sums) (hW:0<W0.heap.size∨∀f,H.join f<=1) (hmo:P.follows .mixedOrders=true):∀n,QJ P W0 (xCR P H sums lf n).call/\qc P W0 (xCR P H sums lf n).round
 | 0=>⟨λf args k kp p E h w vs hb hs r hv=>False.elim hs,λi args k p h hs=>False.elim hs,λi args k p E h w vs l r hs=>False.elim hs⟩
 | n+1 =>
  have ih:=qKx hsum hW hmo n
  ⟨qYb hsum hW ih.1 ih.2 hmo,qX9 ih.1 ih.2 hmo⟩
theorem qE1 {sums:qm} (hsum:Q7 P W0 sums) (hW:0<W0.heap.size∨∀f,H.join f<=1) (hmo:P.follows .mixedOrders=true) {n:Nat} {f:FuncId} {args:List AV} {vs:Array Value} (hb:qn P f=true)
  (hs:(qVo P H sums lf n f args).sat p h) (r:Rel P W0 E h w) (hv:VRs E args vs.toList) :
  Calls P f vs w λe w'=>∃v E' h' av,e=.returned v/\Stp E h E' h'/\Rel P W0 E' h' w'/\VR E' av v/\p (.val av) h':=by
 refine Calls.mono ((qKx hsum hW hmo n).1 f args _ _ p E h w vs hb hs r hv) λe w' he=>?_;cases e with
 | returned v =>
  obtain⟨E',h',av,s,r',hv',hs'⟩:=he;exact⟨v,E',h',av,rfl,s,r',hv',hs'⟩
 | panicked c=>obtain⟨_,_,_,_,_,_,hf⟩:=he;exact hf.elim
 | outgrown=>exact he.elim
end
end Go.X
namespace Go.X
open Go Go.RowKit
def resB (r:Res):Bool:=Res.rec (motive:=λ_=>Bool) (λv=>qx v (.bool true)) (λ_ _=>false) (λ_ _=>false) (λ_ _=>false) r
def jD0 (o:Out):Bool:=Out.rec (motive:=λ_=>Bool) (λ_=>false) (λl _=>List.rec (motive:=λ_=>Bool) true (λx _ ih=>cnd (resB x.1) ih false) l) o
theorem resB_spec {r:Res} (h:resB r=true):r=.val (.bool true):=by
 cases r with
 | val v=>rw[qG1 v _ h]
 | _=>cases h
theorem jAv {o:Out} (h:jD0 o=true):∃l g,o=.ok l g/\∀x,x∈l->x.1=.val (.bool true):=by
 cases o with
 | err n=>cases h
 | ok l g =>
  refine⟨l,g,rfl,?_⟩;have key:∀l:List (Res × Q5),(List.rec (motive:=λ_=>Bool) true (λx _ ih=>cnd (resB x.1) ih false) l:Bool)=true->∀x,x∈l->x.1=.val (.bool true):=by
   intro l
   induction l with
   | nil=>exact λ_ x hx=>absurd hx zK0
   | cons a t ih =>
    intro h x hx;have h2:cnd (resB a.1) (List.rec (motive:=λ_=>Bool) true (λx _ ih=>cnd (resB x.1) ih false) t) false=true:=h;rw[Qk] at h2;rcases List.mem_cons.1 hx with e | e
    .rw[e];exact resB_spec h2.1
    .exact ih h2.2 x e
  exact key l h
def qOa (G:Nat):Q5:=⟨Tr.empty,G,65536⟩
def qHl (G:Nat):Env:=⟨λi=>if i<G then some i else none,λ_=>0,λ_=>0⟩
theorem qIx (G i:Nat):(qOa G).get i=none:=by show cnd (ltb i top) (Tr.getP (p4 i) Tr.empty) none=none;rw[Tr.get_empty];cases ltb i top <;> rfl
theorem qGn (G i:Nat):(qOa G).fn.get i=none:=qIx G i
section
variable {P:Program} {W:World} {G:Nat}
theorem qYn (hG:P.globals.size=G) (hsz:G<=W.heap.size) (ht:G<=top):Rel P W (qHl G) (qOa G).fn W:=by
 refine⟨λi ao hi=>?_,λi j x y b hi=>?_,λi h1 h2=>?_,λi b hb=>?_,Below.refl _ _,λi ao b hi=>?_,λg hg=>⟨if_pos (by omega),rfl⟩,.inr ⟨zL0 _,λi ao hi=>?_⟩,.inr ht⟩
 .rw[qGn] at hi;cases hi
 .rw[qGn] at hi;cases hi
 .exact if_neg (by have:G<=i:=h1;omega)
 .by_cases e:i<G
  .have:(qHl G).blk i=some i:=if_pos e
   rw[this] at hb;cases hb;omega
  .have:(qHl G).blk i=none:=if_neg e
   rw[this] at hb;cases hb
 .rw[qGn] at hi;cases hi
 .rw[qGn] at hi;cases hi
theorem jEj (ht:G<=top):(qOa G).WF:=⟨ht,zL0 _,λi _ _=>qIx G i⟩
theorem jBw {g:Nat} (hsh:W.ShapedOpen P) (hg:g<P.globals.size) (h:(((begin P (λ_ _=>0) default).world.heap[g]?).bind Obj.row?).isSome=true):g+1<=W.heap.size:=by obtain⟨⟨zero,t⟩,hz⟩:=Option.isSome_iff_exists.1 h;obtain⟨cs,hc,_⟩:=hsh.1 g zero t hg hz;exact (Array.getElem?_eq_some_iff.1 hc).1
theorem qT9:Q7 P W λ_=>none:=λ_ _ h=>by cases h
end
end Go.X
namespace Go.X
open Go Go.RowKit
def jR (G g:Nat) (cs:List AV):Q5:=Tr.setP (p4 g) (some (.ro cs)) Tr.empty λt=>⟨t,G,65536⟩
theorem qIw (G g:Nat) (cs:List AV):jR G g cs=(qOa G).put g (some (.ro cs)):=by unfold jR qOa Q5.put;rw[Tr.setP_put]
section
variable {P:Program} {W:World} {G g:Nat} {cs:List AV}
theorem qP7 {E:Env} (k:IntKind):∀zs:List Int,VRs E (zs.map λz=>AV.int k z) (zs.map λz=>Value.int k z)
 | []=>.nil
 | z::zs=>.cons _ _ _ _ (.int k z) (qP7 k zs)
theorem qNa (hg:g<top) (i:Nat):(jR G g cs).get i=if i=g then some (.ro cs) else none:=by
 rw[qIw,Q5.get_put _ hg];by_cases e:i=g
 .rw[if_pos e,if_pos e]
 .rw[if_neg e,if_neg e];exact qIx G i
theorem qT3 (hG:P.globals.size=G) (hg:g<G) (hsz:G<=W.heap.size) (ht:G<=top) {arr:Array Value} {t:TypeId} {fr:Nat × Nat} (hw:W.heap[g]?=some (.cells arr t fr)) (hv:VRs (qHl G) cs arr.toList):Rel P W (qHl G) (jR G g cs).fn W:=by
 have hgt:g<top:=zE0 hg ht;have r:=qYn (W:=W) hG hsz ht;have hget:∀{i ao},(jR G g cs).fn.get i=some ao->i=g/\ao=.ro cs:=by
  intro i ao h;replace h:(jR G g cs).get i=some ao:=h;rw[qNa hgt] at h;by_cases e:i=g
  .rw[if_pos e] at h;cases h;exact⟨e,rfl⟩
  .rw[if_neg e] at h;cases h
 have hn:(jR G g cs).next=G:=by rw[qIw];rfl
 have hl:(jR G g cs).lim=65536:=by rw[qIw];rfl
 refine⟨λi ao hi=>?_,λi j x y b hi hj _ _ _ _=>(hget hi).1.trans (hget hj).1.symm,λi h1 h2=>?_,r.bound,Below.refl _ _,λi ao b hi _ _=>.inr ⟨cs,(hget hi).2⟩,r.glob,.inr ⟨Nat.le_of_eq hl,λi ao hi=>by rw[(hget hi).1];exact hgt⟩,.inr (by show (jR G g cs).next<=(jR G g cs).lim;rw[hn,hl];exact ht)⟩
 .obtain⟨e1,e2⟩:=hget hi;subst e1;subst e2;exact⟨i,_,if_pos hg,hw,.ro _ _ _ _ [] arr.toList [] (by simp) rfl hv⟩
 .replace h1:(jR G g cs).next<=i:=h1
  rw[hn] at h1;exact if_neg (by omega)
theorem startT_WF (hg:g<G) (ht:G<=top):(jR G g cs).WF:=by rw[qIw];exact (jEj ht).put hg _
theorem qSw {H:qI} {sums:qm} {lf n:Nat} {f:FuncId} (hmo:P.follows .mixedOrders=true) (hG:P.globals.size=G) (hg:g<G) (hsz:G<=W.heap.size) (ht:G<=top) (hb:qn P f=true)
  {name:String} {k:IntKind} {zs:List Int} (hgl:P.globalNamed name=some g) (htab:Lib.TabIs P W name k zs) (hcs:cs=zs.map λz=>AV.int k z)
  (hsum:Q7 P W sums) (hrun:jD0 ((qVo P H sums lf n f []).run 0 (jR G g cs) Log.nil)=true) :
  Calls P f #[] W λe W'=>e=.returned (.bool true)/\Below W.heap.size W W':=by
 obtain⟨l,lg,e,hl⟩:=jAv hrun;have hs:=jBy _ _ _ _ _ _ (λr _=>r=.val (.bool true)) e (startT_WF hg ht) (Nat.zero_le _) hl;have hrow:∃t fr,W.heap[g]?=some (.cells (zs.map λz=>Value.int k z).toArray t fr):=by
  unfold Lib.TabIs World.var? at htab;rw[hgl,Option.bind_some] at htab;split at htab
  .rename_i cs t fr hw;exact⟨t,fr,by rw[hw,Option.some.inj htab]⟩
  .cases htab
 obtain⟨t,fr,hw⟩:=hrow;have r:=qT3 (cs:=cs) hG hg hsz ht hw (by rw[hcs];exact qP7 k zs);refine Calls.mono (qE1 hsum (.inl (by omega)) hmo hb hs r (vs:=#[]) .nil) λe w' ⟨v,E',h',av,e1,s,r,hv,hp⟩=>?_;subst e1;cases hp;cases hv;exact⟨rfl,r.below⟩
end
end Go.X
namespace Go.X
open Go Go.RowKit
theorem Q5.same {a b:Q5} (hn:a.next=b.next) (hl:a.lim=b.lim) (h:∀i,i<top->a.get i=b.get i):a=b:=by
 obtain⟨t,n,l⟩:=a;obtain⟨t',n',l'⟩:=b;simp only at hn hl;subst hn;subst hl
 have:t=t':=Tr.ext λp=>by
  obtain⟨x,y,z,u⟩:=p;have h1:=Jg x;have h2:=Jg y;have h3:=Jg z;have h4:=Jg u;have hi:dN x+16*dN y+256*dN z+4096*dN u<top:=by rw[qYh];omega
  have e:=h _ hi;rw[Q5.get_of_lt hi,Q5.get_of_lt hi] at e;have ep:p4 (dN x+16*dN y+256*dN z+4096*dN u)=⟨x,y,z,u⟩:=by simp only[p4,qK3,P4.mk.injEq];refine⟨qHb ?_,qHb ?_,qHb ?_,qHb ?_⟩ <;> rw[Jh] <;> omega
  rw[ep] at e;exact e
 rw[this]
structure Ent where
 next:Nat
 args:List AV
 rd:List (Nat × Q4)
 wr:List (Nat × Q4)
 new:List Q4
 v:AV
def b8 (n:Nat):Nat->List AV:=Nat.rec (motive:=λ_=>Nat->List AV) (λ_=>[]) (λ_ ih x=>Qc (Nat.land x 255) λb=>Qc (Nat.shiftRight x 8) λy=>(.int .u8 (.ofNat b))::ih y) n
def qi (n:Nat) (v:AV) (l:List AV):List AV:=Nat.rec (motive:=λ_=>List AV) l (λ_ ih=>v::ih) n
def jDn (l:List (Nat × Q4)) (no m:FM):FM:=List.rec (motive:=λ_=>FM) m (λx _ ih=>.get x.1 λo=>cnd (eqObj o x.2) ih no) l
def qJw (l:List (Nat × Q4)) (m:FM):FM:=List.rec (motive:=λ_=>FM) m (λx _ ih=>.set x.1 x.2 ih) l
def jB (l:List Q4) (m:FM):FM:=List.rec (motive:=λ_=>FM) m (λo _ ih=>.new o λ_=>ih) l
def replay (tab:List Ent):List AV->KV->(QD->FM)->FM:=λargs k _=>.here λa=>.drop a Nat.zero (
 List.rec (motive:=λ_=>FM) (.fail 221) (λe _ ih=>cnd (cnd (Nat.beq e.next a) (eqL qx e.args args) false) (jDn e.rd ih (qJw e.wr (jB e.new (k e.v)))) ih) tab)
def qMc (l:List (Nat × Q4)) (n:Nat):Q5:=⟨List.rec (motive:=λ_=>Tr) Tr.empty (λx _ ih=>Tr.put (p4 x.1) (some x.2) ih) l,n,65536⟩
def j0 (l:List (Nat × Q4)) (i:Nat):Bool:=List.rec (motive:=λ_=>Bool) false (λx _ ih=>cnd (Nat.beq i x.1) true ih) l
def jW (l:List (Nat × Q4)) (n:Nat):Bool:=List.rec (motive:=λ_=>Bool) true (λx _ ih=>cnd (ltb x.1 n) ih false) l
def hasAll (h:Q5) (l:List (Nat × Q4)):Bool:=List.rec (motive:=λ_=>Bool) true (λx _ ih=>cnd (qHa (h.get x.1) (some x.2)) ih false) l
def qUm (o:Q4):Bool:=Q4.rec (motive:=λ_=>Bool) (λ_ _ _ _=>false) (λ_ _=>false) (λ_ _ _ _=>false) false true (λ_ _=>false) (λ_=>false) (λ_=>false) (λ_=>false) o
def isO (o:Option Q4):Bool:=Option.rec (motive:=λ_=>Bool) false (λ_=>true) o
def qZ6 (h:Q5) (l:List Q4):Nat->Bool:=List.rec (motive:=λ_=>Nat->Bool) (λa=>Nat.beq h.next a) (λo _ ih a=>cnd (cnd (qUm o) (isO (h.get a)) (qHa (h.get a) (some o))) (ih (Nat.succ a)) false) l
def entOk1 (e:Ent) (o:Out):Bool :=
 Out.rec (motive:=λ_=>Bool) (λ_=>false) (λl g=>List.rec (motive:=λ_=>Bool) false (λx t _=>List.rec (motive:=λ_=>Bool)
  (cnd (jAc x.1 (.val e.v)) (cnd (allL (j0 e.rd) g.rd) (cnd (allL (j0 e.wr) g.wr) (cnd (hasAll x.2 e.wr) (qZ6 x.2 e.new e.next) false) false) false) false) (λ_ _ _=>false) t) l) o
def jDj (P:Program) (H:qI) (sums:qm) (lf n:Nat) (f:FuncId) (e:Ent):Bool :=
 cnd (cnd (jW e.rd e.next) (cnd (allL (λx=>j0 e.rd x.1) e.wr) (Nat.ble e.next 65536) false) false)
  (entOk1 e ((qVo P H sums lf n f e.args).run e.next (qMc e.rd e.next) Log.nil)) false
section
variable {P:Program} {W0:World} {p:QF} {h:Q0} {m:FM}
theorem jAn {no:FM}:∀(l:List (Nat × Q4)),(jDn l no m).sat p h->((∀x,x∈l->h.get x.1=some x.2)/\m.sat p h)∨no.sat p h
 | [],hs=>.inl ⟨λ_ hx=>absurd hx zK0,hs⟩
 | x::l,hs=>by
  have hs1:(FM.get x.1 λo=>cnd (eqObj o x.2) (jDn l no m) no).sat p h:=hs;obtain⟨o,hg,hs2⟩:=hs1;rcases Qr hs2 with ⟨he,hs3⟩ | ⟨_,hs3⟩
  .rcases jAn l hs3 with ⟨h1,h2⟩ | h2
   .refine .inl ⟨λy hy=>?_,h2⟩;rcases List.mem_cons.1 hy with e | e
    .subst e;rw[hg,jE8 he]
    .exact h1 y e
   .exact .inr h2
  .exact .inr hs3
theorem qH6 {i:Nat}:∀{l:List (Nat × Q4)},j0 l i=true↔∃x,x∈l/\x.1=i
 | []=>⟨λh=>(by cases h),λ⟨x,h,_⟩=>absurd h zK0⟩
 | y::l=>by
  show cnd (Nat.beq i y.1) true (j0 l i)=true↔_;cases hb:Nat.beq i y.1
  .rw[Q8,qH6];have hne:i≠y.1:=λe=>by rw[beq_iff.2 e] at hb;cases hb
   exact⟨λ⟨x,h,e⟩=>⟨x,zA0 _ h,e⟩,λ⟨x,h,e⟩=>by
    rcases List.mem_cons.1 h with h | h
    .subst h;exact absurd e.symm hne
    .exact⟨x,h,e⟩⟩
  .rw[Q6];exact⟨λ_=>⟨y,zB0,(beq_iff.1 hb).symm⟩,λ_=>rfl⟩
theorem Jr {n:Nat}:∀{l:List (Nat × Q4)},jW l n=true->∀x,x∈l->x.1<n
 | [],_,_,hx=>absurd hx zK0
 | y::l,h,x,hx=>by
  have h1:cnd (ltb y.1 n) (jW l n) false=true:=h;rw[Qk] at h1;rcases List.mem_cons.1 hx with e | e
  .subst e;exact Qo.1 h1.1
  .exact Jr h1.2 x e
theorem qUr {h:Q5}:∀{l:List (Nat × Q4)},hasAll h l=true->∀x,x∈l->h.get x.1=some x.2
 | [],_,_,hx=>absurd hx zK0
 | y::l,hh,x,hx=>by
  have h1:cnd (qHa (h.get y.1) (some y.2)) (hasAll h l) false=true:=hh;rw[Qk] at h1;rcases List.mem_cons.1 hx with e | e
  .subst e;exact qMg h1.1
  .exact qUr h1.2 x e
theorem qUl {o:Q4}:qUm o=true↔o=.tomb:=by cases o <;> simp[qUm]
theorem qZ3 {o:Q4} (h:o≠.tomb):qUm o=false:=by
 cases hb:qUm o with
 | false=>rfl
 | true=>exact absurd (qUl.1 hb) h
def fits (x:Option Q4) (o:Q4):Prop:=(o=.tomb/\∃y,x=some y)∨(o≠.tomb/\x=some o)
theorem qUq {h:Q5}:∀{l:List Q4} {a:Nat},qZ6 h l a=true->h.next=a+l.length/\∀j o,l[j]?=some o->fits (h.get (a+j)) o
 | [],a,hh=>⟨beq_iff.1 hh,λj o e=>by simp at e⟩
 | x::l,a,hh=>by
  have h1:cnd (cnd (qUm x) (isO (h.get a)) (qHa (h.get a) (some x))) (qZ6 h l (a+1)) false=true:=hh;rw[Qk] at h1;obtain⟨h2,h3⟩:=qUq h1.2;refine⟨by rw[h2];simp only[zJ0];omega,λj o e=>?_⟩;cases j with
  | zero =>
   simp only[List.getElem?_cons_zero,Option.some.injEq] at e;subst e;have h4:=h1.1;by_cases ht:x=.tomb
   .rw[qUl.2 ht,Q6] at h4;refine .inl ⟨ht,?_⟩;rw[Nat.add_zero];cases hg:h.get a with
    | none=>rw[hg] at h4;cases h4
    | some y=>exact⟨y,rfl⟩
   .rw[qZ3 ht,Q8] at h4;exact .inr ⟨ht,qMg h4⟩
  | succ j =>rw[List.getElem?_cons_succ] at e;rw[show a+(j+1)=a+1+j by omega];exact h3 j o e
theorem qUo (n:Nat) (ht:n<=top):∀{l:List (Nat × Q4)},jW l n=true->∀i,(j0 l i=true->∃x,x∈l/\x.1=i/\(qMc l n).get i=some x.2)/\(j0 l i=false->(qMc l n).get i=none)
 | [],_,i=>⟨λh=>(by cases h),λ_=>qIx n i⟩
 | y::l,hk,i=>by
  have h1:cnd (ltb y.1 n) (jW l n) false=true:=hk;rw[Qk] at h1;have hy:y.1<top:=zE0 (Qo.1 h1.1) ht;have e:qMc (y::l) n=(qMc l n).put y.1 (some y.2):=rfl;rw[e,Q5.get_put _ hy];obtain⟨a1,a2⟩:=qUo n ht h1.2 i;have hki:j0 (y::l) i=cnd (Nat.beq i y.1) true (j0 l i):=rfl;rw[hki];cases hb:Nat.beq i y.1
  .have hne:i≠y.1:=λe=>by rw[beq_iff.2 e] at hb;cases hb
   rw[if_neg hne];simp only[Q8];exact⟨λh=>let ⟨x,h1,h2⟩:=a1 h;⟨x,zA0 _ h1,h2⟩,a2⟩
  .rw[if_pos (beq_iff.1 hb)];simp only[Q6];exact⟨λ_=>⟨y,zB0,(beq_iff.1 hb).symm,rfl⟩,λh=>by cases h⟩
theorem qY2:∀(l:List (Nat × Q4)) (h:Q0),(qJw l m).sat p h->∃h',m.sat p h'/\h'.next=h.next/\h'.lim=h.lim/\h'.inf=h.inf/\∀i,(j0 l i=true->∃x,x∈l/\x.1=i/\h'.get i=some x.2)/\(j0 l i=false->h'.get i=h.get i)
 | [],h,hs=>⟨h,hs,rfl,rfl,rfl,λi=>⟨λh=>(by cases h),λ_=>rfl⟩⟩
 | y::l,h,hs=>by
  have hs1:(FM.set y.1 y.2 (qJw l m)).sat p h:=hs;obtain⟨hlt,hs2⟩:=hs1;obtain⟨h',a1,a2,a3,a5,a4⟩:=qY2 l (h.put y.1 (some y.2)) hs2;refine⟨h',a1,a2,a3,a5,λi=>?_⟩;obtain⟨b1,b2⟩:=a4 i;have hki:j0 (y::l) i=cnd (Nat.beq i y.1) true (j0 l i):=rfl;rw[hki];have hy:True:=trivial;cases hk:j0 l i
  .have e:=b2 hk;rw[Q0.get_put _ hy] at e;cases hb:Nat.beq i y.1
   .have hne:i≠y.1:=λe=>by rw[beq_iff.2 e] at hb;cases hb
    rw[if_neg hne] at e;simp only[Q8];exact⟨λh=>(by cases h),λ_=>e⟩
   .rw[if_pos (beq_iff.1 hb)] at e;simp only[Q6];exact⟨λ_=>⟨y,zB0,(beq_iff.1 hb).symm,e⟩,λh=>by cases h⟩
  .obtain⟨x,c1,c2,c3⟩:=b1 hk;refine⟨λ_=>⟨x,zA0 _ c1,c2,c3⟩,λh=>?_⟩;cases hb:Nat.beq i y.1 <;> rw[hb] at h <;> cases h
theorem qUb:∀(l:List Q4) (h:Q0),h.inf=false->h.next<=h.lim->(jB l m).sat p h->∃h',m.sat p h'/\h'.next=h.next+l.length/\h'.lim=h.lim/\h'.inf=h.inf/\h'.next<=h.lim/\(∀j o,l[j]?=some o->h'.get (h.next+j)=some o)/\∀i,i<h.next∨h.next+l.length<=i->h'.get i=h.get i
 | [],h,_,hr,hs=>⟨h,hs,rfl,rfl,rfl,hr,λj o e=>by simp at e,λ_ _=>rfl⟩
 | x::l,h,ht,hr,hs=>by
  have hs1:(FM.new x λ_=>jB l m).sat p h:=hs;obtain⟨hlt0,hs2⟩:=hs1;have hlt:h.next<h.lim:=hlt0.resolve_left (by simp[ht])
  obtain⟨h',a1,a2,a3,a7,a4,a5,a6⟩:=qUb l (h.newO x) ht hlt hs2;have hnt:True:=trivial;have hn:(h.newO x).next=h.next+1:=rfl
  rw[hn] at a2 a5 a6;refine⟨h',a1,by rw[a2];simp only[zJ0];omega,a3,a7,a4,λj o e=>?_,λi hi=>?_⟩
  .cases j with
   | zero =>
    simp only[List.getElem?_cons_zero,Option.some.injEq] at e;subst e;rw[Nat.add_zero,a6 h.next (.inl (by omega)),Q0.newO_get _ hnt,if_pos rfl]
   | succ j =>rw[List.getElem?_cons_succ] at e;rw[show h.next+(j+1)=h.next+1+j by omega];exact a5 j o e
  .simp only[zJ0] at hi;rw[a6 i (by omega),Q0.newO_get _ hnt,if_neg (by omega)]
def N16.of {α:Type} (f:D16->α):N16 α:=⟨f .d0,f .d1,f .d2,f .d3,f .d4,f .d5,f .d6,f .d7,f .d8,f .d9,f .d10,f .d11,f .d12,f .d13,f .d14,f .d15⟩
theorem N16.get_of {α:Type} (f:D16->α) (d:D16):N16.get d (N16.of f)=f d:=by cases d <;> rfl
def Q0.tr (h:Q0):Q5:=⟨N16.of λd=>N16.of λc=>N16.of λb=>N16.of λa=>h.get (dN a+16*dN b+256*dN c+4096*dN d),h.next,h.lim⟩
theorem Q0.tr_get (h:Q0) {i:Nat} (hi:i<top):h.tr.get i=h.get i:=by rw[Q5.get_of_lt hi];unfold Q0.tr Tr.getP p4;simp only[N16.get_of,Jh,qK3];congr 1;rw[qYh] at hi;omega
theorem Q0.tr_fn {h:Q0} (hi:h.inf=false) (hl:h.LimOk):h.tr.fn=h :=
 Q0.ext (λi=>by
  show h.tr.get i=h.get i;by_cases hlt:i<top
  .exact h.tr_get hlt
  .rw[Q5.get_big (Nat.le_of_not_lt hlt)];cases hg:h.get i with
   | none=>rfl
   | some ao=>exact absurd ((hl.resolve_left (by simp[hi])).2 i ao hg) hlt) rfl rfl hi.symm
theorem Rel.wf {E:Env} {w:World} (hi:h.inf=false) (r:Rel P W0 E h w):h.tr.WF:=⟨r.room.resolve_left (by simp[hi]),(r.lim.resolve_left (by simp[hi])).1,λi h1 h2=>by
 have h2':i<h.lim:=h2;have ht:=(r.lim.resolve_left (by simp[hi])).1;rw[h.tr_get (by omega)];cases hg:h.get i with
 | none=>rfl
 | some ao =>
  obtain⟨b,_,hb,_⟩:=r.obj i ao hg;rw[r.free i h1 (.inr h2)] at hb;cases hb⟩
theorem jDi {e:Ent} {o:Out} (h:entOk1 e o=true):∃h1 g,o=.ok [(.val e.v,h1)] g/\(∀i,i∈g.rd->j0 e.rd i=true)/\(∀i,i∈g.wr->j0 e.wr i=true)/\hasAll h1 e.wr=true/\qZ6 h1 e.new e.next=true:=by
 cases o with
 | err n=>cases h
 | ok l g =>
  cases l with
  | nil=>cases h
  | cons x t =>
   cases t with
   | cons y t=>cases h
   | nil =>obtain⟨r,h1⟩:=x;have h2:cnd (jAc r (.val e.v)) (cnd (allL (j0 e.rd) g.rd) (cnd (allL (j0 e.wr) g.wr) (cnd (hasAll h1 e.wr) (qZ6 h1 e.new e.next) false) false) false) false=true:=h;simp only[Qk] at h2;obtain⟨a,b,c,d,e2⟩:=h2;rw[qXd a];exact⟨h1,g,rfl,jo.1 b,jo.1 c,d,e2⟩
def dropped (a:Nat) (l:List Q4) (i:Nat):Prop:=a<=i/\l[i-a]?=some .tomb
instance (a:Nat) (l:List Q4) (i:Nat):Decidable (dropped a l i):=Classical.propDecidable _
def qKf (a:Nat) (l:List Q4) (h:Q0):Q0:=⟨λi=>if dropped a l i then (h.get i).map λ_=>.tomb else h.get i,h.next,h.lim,h.inf⟩
theorem Rel.forget {E:Env} {w:World} {h:Q0} (r:Rel P W0 E h w) (a:Nat) (l:List Q4):Rel P W0 E (qKf a l h) w:=by
 have key:∀{j ao},(qKf a l h).get j=some ao->h.get j=some ao∨(ao=.tomb/\∃y,h.get j=some y):=by
  intro j ao hj;have hj:(if dropped a l j then (h.get j).map λ_=>Q4.tomb else h.get j)=some ao:=hj;by_cases e:dropped a l j
  .rw[if_pos e] at hj;cases hg:h.get j with
   | none=>rw[hg] at hj;cases hj
   | some y=>rw[hg] at hj;cases hj;exact .inr ⟨rfl,y,rfl⟩
  .rw[if_neg e] at hj;exact .inl hj
 refine⟨λj ao hj=>?_,λj k x y c hj hk hx hy=>r.inj j k x y c ((key hj).resolve_right λh=>hx h.1) ((key hk).resolve_right λh=>hy h.1) hx hy,r.free,r.bound,r.below,λj ao c hj hc hlt=>?_,r.glob,?_,r.room⟩
 .rcases key hj with h1 | ⟨rfl,y,h1⟩
  .obtain⟨b,o,hb,ho,hor⟩:=r.obj j ao h1;refine⟨b,o,hb,ho,hor.mono (.refl _) hb λm d es v hd hv=>?_⟩;rcases key hv with h2 | ⟨h2,_⟩
   .exact⟨v,es,h2,zL0 _,λ_=>rfl⟩
   .cases h2
  .obtain⟨b,o,hb,ho,_⟩:=r.obj j y h1;exact⟨b,o,hb,ho,.tomb _⟩
 .rcases key hj with h1 | ⟨rfl,y,h1⟩
  .exact r.old j ao c h1 hc hlt
  .exact .inl rfl
 .refine r.lim.imp id λ⟨l1,l2⟩=>⟨l1,λi ao hi=>?_⟩;rcases key hi with h1 | ⟨_,y,h1⟩
  .exact l2 i ao h1
  .exact l2 i y h1
theorem qSs {H:qI} {sums0:qm} {lf n:Nat} {f:FuncId} {e:Ent} (hok:jDj P H sums0 lf n f e=true) (hsum:Q7 P W0 sums0) (hW:0<W0.heap.size∨∀f,H.join f<=1) (hmo:P.follows .mixedOrders=true)
  (args:List AV) (k:KV) (kp:QD->FM) (p:QF) (E:Env) (h:Q0) (w:World) (vs:Array Value) (hb:qn P f=true) (hinf:h.inf=false) (hnext:e.next=h.next) (hargs:e.args=args) (hchk:∀x,x∈e.rd->h.get x.1=some x.2)
  (hs2:(qJw e.wr (jB e.new (k e.v))).sat p h) (r:Rel P W0 E h w) (hv:VRs E args vs.toList):Calls P f vs w (Jn P W0 E h k kp p):=by
 unfold jDj at hok;simp only[Qk] at hok;obtain⟨⟨hlt,hsub,hle⟩,hok1⟩:=hok;obtain⟨h1,g,hrun,hrd,hwr,hall,hnew⟩:=jDi hok1;have hle2:e.next<=top:=zS0 hle
 have hg0:=qUo e.next hle2 hlt
 have hn0:(qMc e.rd e.next).next=e.next:=rfl
 have hl0:(qMc e.rd e.next).lim=top:=rfl;have wf0:(qMc e.rd e.next).WF:=⟨hle2,zL0 _,λi hi _=>by
  refine (hg0 i).2 ?_;cases hk:j0 e.rd i with
  | false=>rfl
  | true =>
   obtain⟨x,hx,ex⟩:=qH6.1 hk
   have:=Jr hlt x hx
   rw[hn0] at hi;omega⟩
 have rroom:=r.room.resolve_left (by simp[hinf]);have rlim:=(r.lim.resolve_left (by simp[hinf])).1;have rcap:=(r.lim.resolve_left (by simp[hinf])).2;have rwf:=r.wf hinf;have rfn:=Q0.tr_fn hinf r.lim;have rget:∀i,h.tr.get i=h.get i:=λi=>congrArg (λq:Q0=>q.get i) rfn;obtain⟨h2,hs3,n2,l2,i2,g2⟩:=qY2 _ h hs2;obtain⟨h3,hs4,n3,l3,i3,le3,new3,off3⟩:=qUb _ h2 (by rw[i2];exact hinf) (by rw[n2,l2];exact rroom) hs3;rw[n2] at n3 new3 off3;rw[l2] at l3 le3;obtain⟨hn1,hnew1⟩:=qUq hnew;have fr:=(jS _ _ _ _ _ _ hrun wf0 (zL0 _)).outs _ zB0;have hwrsub:∀i,j0 e.wr i=true->j0 e.rd i=true:=λi hi=>by obtain⟨x,hx,ex⟩:=qH6.1 hi;rw[<- ex];exact jo.1 hsub x hx
 have hAg:∀i,(j0 e.rd i=true∨(e.next<=i/\i<h.lim))->h.tr.get i=(qMc e.rd e.next).get i:=by
  intro i hi;rw[rget];rcases hi with hi | ⟨hi1,hi2⟩
  .obtain⟨x,hx,ex,hg⟩:=(hg0 i).1 hi;rw[hg,<- ex];exact hchk x hx
  .rw[<- rget,rwf.none i (by show h.next<=i;omega) hi2];exact (wf0.none i hi1 (zE0 hi2 rlim)).symm
 obtain⟨outs2,hrun2,hag⟩:=qYu _ _ _ _ _ _ hrun wf0 (zL0 _) h.tr (λi=>j0 e.rd i=true∨(e.next<=i/\i<h.lim)) hnext.symm (λo ho=>by
   have:o=(.val e.v,h1):=by simpa using ho
   subst this;show h1.next<=h.lim
   rw[hn1];omega) rlim (λi hi=>.inl (hrd i hi)) (λi hi=>.inl (hwrsub i (hwr i hi))) (λi h1 h2=>.inr ⟨h1,h2⟩) hAg
 cases hag with
 | @cons rr hh hx ll ll2 ag t =>
  cases t;have hD:∀i,i<h.next∨h.next+e.new.length<=i->(qKf h.next e.new hx.fn).get i=hx.get i:=λi hi=>if_neg λhc=>by
   obtain⟨c1,c2⟩:=hc
   have:=(List.getElem?_eq_some_iff.1 c2).1
   omega
  have heq:qKf h.next e.new hx.fn=h3:=by
   refine Q0.ext (λi=>?_) (by show hx.next=_;rw[ag.next,hn1,n3];omega) (by show hx.lim=_;rw[ag.lim,l3];rfl) (by rw[i3,i2,hinf];rfl);by_cases hA:j0 e.rd i=true∨(e.next<=i/\i<h.lim)
   .by_cases hin:i<e.next
    .have hkr:j0 e.rd i=true:=hA.resolve_right λh=>by omega
     rw[hD i (.inl (by omega)),ag.on i hA];rw[off3 i (.inl (by omega))];obtain⟨c1,c2⟩:=g2 i;cases hk:j0 e.wr i with
     | true =>
      obtain⟨x,hx,ex,hg⟩:=c1 hk;rw[hg,<- ex];exact qUr hall x hx
     | false =>rw[c2 hk,fr.same i hin λhm=>by rw[hwr i hm] at hk;cases hk];rw[<- hAg i hA,rget]
    .rcases Nat.lt_or_ge i (h.next+e.new.length) with hlt2 | hge
     .have hj:e.new[i-h.next]?=some (e.new[i-h.next]'(by omega)):=zD0 (by omega);have a:=new3 _ _ hj;have b:=hnew1 _ _ hj;rw[show h.next+(i-h.next)=i by omega] at a;rw[show e.next+(i-h.next)=i by omega] at b;rw[a];show (if dropped h.next e.new i then (hx.get i).map λ_=>Q4.tomb else hx.get i)=_;rw[ag.on i hA];rcases b with ⟨b1,y,b2⟩ | ⟨b1,b2⟩
      .rw[if_pos ⟨by omega,by rw[hj,b1]⟩,b2,b1];rfl
      .rw[if_neg (λhc=>b1 (Option.some.inj (hj.symm.trans hc.2))),b2]
     .rw[hD i (.inr hge),ag.on i hA,off3 i (.inr hge)];have hil:i<h.lim:=(hA.resolve_left λhk=>by
       obtain⟨x,hx,ex⟩:=qH6.1 hk
       have:=Jr hlt x hx
       omega).2
      obtain⟨_,c2⟩:=g2 i;rw[c2 (by
       cases hk:j0 e.wr i with
       | false=>rfl
       | true =>
        obtain⟨x,hx,ex⟩:=qH6.1 (hwrsub i hk)
        have:=Jr hlt x hx
        omega),<- rget,rwf.none i (by show h.next<=i;omega) hil]
      have hl1:=fr.lim;exact fr.wf.none i (by rw[hn1];omega) (by rw[hl1,hl0];exact zE0 hil rlim)
   .have hDi:(qKf h.next e.new hx.fn).get i=hx.get i:=if_neg λhc=>by
     obtain⟨c1,c2⟩:=hc
     have:=(List.getElem?_eq_some_iff.1 c2).1
     exact hA (.inr ⟨by omega,by omega⟩)
    rw[hDi,ag.off i hA,rget];have hA1:j0 e.rd i=false:=by
     cases hk:j0 e.rd i with
     | false=>rfl
     | true=>exact absurd (.inl hk) hA
    have hnot:i<e.next∨h.lim<=i:=by
     rcases Nat.lt_or_ge i e.next with h1 | h1
     .exact .inl h1
     .exact .inr (Nat.le_of_not_lt λh2=>hA (.inr ⟨h1,h2⟩))
    rw[off3 i (by
     rcases hnot with h1 | h1
     .exact .inl (by omega)
     .exact .inr (by omega))]
    obtain⟨_,c2⟩:=g2 i;rw[c2 (by
     cases hk:j0 e.wr i with
     | false=>rfl
     | true=>rw[hwrsub i hk] at hA1;cases hA1)]
  have hsat:=jBy _ _ _ _ _ _ (λres h'=>∃v,res=.val v/\(k v).sat p (qKf h.next e.new h')) hrun2 rwf (by show e.next<=h.next;omega) (λo ho=>by
   have:o=(.val e.v,hx):=by simpa using ho
   subst this;exact⟨e.v,rfl,by rw[heq];exact hs4⟩)
  rw[hargs,rfn] at hsat;refine Calls.mono ((qKx hsum hW hmo n).1 f args _ _ _ E h w vs hb hsat r hv) λe2 w' he=>?_;cases e2 with
  | returned v =>
   obtain⟨E',h',av,s,r',hv',hs'⟩:=he;obtain⟨v2,e3,hs5⟩:=hs';cases e3;exact⟨E',qKf h.next e.new h',av,⟨s.le,s.new,s.lim,s.next⟩,r'.forget _ _,hv',hs5⟩
  | panicked c=>obtain⟨_,_,_,_,_,_,hf⟩:=he;exact hf.elim
  | outgrown=>exact he.elim
theorem qYx {H:qI} {sums0:qm} {lf n:Nat} {f:FuncId} {tab:List Ent} (hent:∀e,e∈tab->jDj P H sums0 lf n f e=true) (hsum:Q7 P W0 sums0) (hW:0<W0.heap.size∨∀f,H.join f<=1) (hmo:P.follows .mixedOrders=true)
  (args:List AV) (k:KV) (kp:QD->FM) (p:QF) (E:Env) (h:Q0) (w:World) (vs:Array Value) (hb:qn P f=true) (hs:(replay tab args k kp).sat p h) (r:Rel P W0 E h w) (hv:VRs E args vs.toList):Calls P f vs w (Jn P W0 E h k kp p):=by
 have pick:∀tab:List Ent,(List.rec (motive:=λ_=>FM) (.fail 221) (λe _ ih=>cnd (cnd (Nat.beq e.next h.next) (eqL qx e.args args) false) (jDn e.rd ih (qJw e.wr (jB e.new (k e.v)))) ih) tab:FM).sat p h->∃e,e∈tab/\e.next=h.next/\e.args=args/\(∀x,x∈e.rd->h.get x.1=some x.2)/\(qJw e.wr (jB e.new (k e.v))).sat p h:=by
  intro tab
  induction tab with
  | nil=>exact λhs=>False.elim hs
  | cons e t ih =>
   intro hs;have hs1:(cnd (cnd (Nat.beq e.next h.next) (eqL qx e.args args) false) (jDn e.rd (List.rec (motive:=λ_=>FM) (.fail 221) (λe _ ih=>cnd (cnd (Nat.beq e.next h.next) (eqL qx e.args args) false) (jDn e.rd ih (qJw e.wr (jB e.new (k e.v)))) ih) t) (qJw e.wr (jB e.new (k e.v)))) (List.rec (motive:=λ_=>FM) (.fail 221) (λe _ ih=>cnd (cnd (Nat.beq e.next h.next) (eqL qx e.args args) false) (jDn e.rd ih (qJw e.wr (jB e.new (k e.v)))) ih) t)).sat p h:=hs;rcases Qr hs1 with ⟨hc,hs2⟩ | ⟨_,hs2⟩
   .rw[Qk] at hc;rcases jAn _ hs2 with ⟨h1,h2⟩ | hs3
    .exact⟨e,zB0,beq_iff.1 hc.1,qI4 hc.2,h1,h2⟩
    .obtain⟨e',h1,h2⟩:=ih hs3;exact⟨e',zA0 _ h1,h2⟩
   .obtain⟨e',h1,h2⟩:=ih hs2;exact⟨e',zA0 _ h1,h2⟩
 obtain⟨hinf,_,_,_,hs0⟩:=hs;have hwin:(qKi h.next (h.next-h.next) h).win (h.next+0) h.lim=h:=Q0.ext (λi=>by
  rw[Q0.win_get,qSu _ _ _ trivial,if_neg (by omega)]) rfl rfl hinf.symm
 obtain⟨e,hmem,hnext,hargs,hchk,hs2⟩:=pick tab (by rw[<- hwin];exact hs0);exact qSs (hent e hmem) hsum hW hmo args k kp p E h w vs hb hinf hnext hargs hchk hs2 r hv
theorem Q7.add {H:qI} {sums:qm} (hs:Q7 P W0 sums) {lf n:Nat} {g:FuncId} {tab:List Ent} (hW:0<W0.heap.size∨∀f,H.join f<=1) (hmo:P.follows .mixedOrders=true) (hent:∀e,e∈tab->jDj P H sums lf n g e=true) :
  Q7 P W0 (λf=>cnd (Nat.beq f g) (some (replay tab)) (sums f)):=by
 intro f s hf args k kp p E h w vs hb hsat r hv;have hf1:cnd (Nat.beq f g) (some (replay tab)) (sums f)=some s:=hf;cases hfg:Nat.beq f g with
 | false =>
  rw[hfg,Q8] at hf1;exact hs f s hf1 args k kp p E h w vs hb hsat r hv
 | true =>rw[hfg,Q6] at hf1;cases hf1;have e:=beq_iff.1 hfg;subst e;exact qYx hent hs hW hmo args k kp p E h w vs hb hsat r hv
end
end Go.X
namespace Go.X
open Go Go.RowKit
section
variable {P:Program} {W:World} {G g:Nat} {cs:List AV}
end
end Go.X
namespace Go.X
open Go Go.RowKit
def asM (hit:TypeId->TypeId->Nat) (args:List AV) (k:KV):FM :=
 match args with
 | [.nilIface,_]=>k (.bool false)
 | [.iface te (.ptr a x),.iface tp (.ptr i o)]=>match hit te tp with | 1=>qGs i o [.ptr a x] (k (.bool true)) | _=>.fail 171
 | [.iface te (.int q n),.iface tp (.ptr i o)]=>match q,hit te tp with | .i64,3=>qGs i o [.int .i64 n] (k (.bool true)) | .i64,2=>k (.bool false) | _,_=>.fail 171
 | _=>.fail 171
def asX (f:FuncId) (hit:TypeId->TypeId->Nat) (sums:qm):qm:=λg=>match Nat.beq g f with | true=>some (λargs k _=>asM hit args k) | false=>sums g
structure AsFacts (P:Program) (W0:World) (f:FuncId) (hit:TypeId->TypeId->Nat):Prop where
 nil:∀(w:World) (t:Value),Below W0.heap.size W0 w->Calls P f #[.nilIface,t] w λe w'=>e=.returned (.bool false)/\Below w.heap.size w w'
 ptr:∀(te tp:TypeId) (w:World) (a t:Addr) (old:Value),hit te tp=1->Below W0.heap.size W0 w->w.cell? t=some old->w.frozen? t=false ->
  Calls P f #[.iface te (.pointer (some a)),.iface tp (.pointer (some t))] w λe w'=>e=.returned (.bool true)/\∃w1,Below w.heap.size w w1/\w'=w1.setCell t (.pointer (some a))
 int:∀(te tp:TypeId) (w:World) (n:Int) (t:Addr) (old:Value),hit te tp=3->Below W0.heap.size W0 w->w.cell? t=some old->w.frozen? t=false ->
  Calls P f #[.iface te (.int .i64 n),.iface tp (.pointer (some t))] w λe w'=>e=.returned (.bool true)/\∃w1,Below w.heap.size w w1/\w'=w1.setCell t (.int .i64 n)
 miss:∀(te tp:TypeId) (w:World) (n:Int) (t:Addr),hit te tp=2->Below W0.heap.size W0 w ->
  Calls P f #[.iface te (.int .i64 n),.iface tp (.pointer (some t))] w λe w'=>e=.returned (.bool false)/\Below w.heap.size w w'
section
variable {P:Program} {W0:World}
theorem jBv {E:Env} {a b:AV} {vs:Array Value} (hv:VRs E [a,b] vs.toList):∃x y,vs=#[x,y]/\VR E a x/\VR E b y:=by
 obtain⟨l⟩:=vs;have hv:VRs E [a,b] l:=hv;cases hv with
 | cons _ x _ m h t =>
  cases t with
  | cons _ y _ m h2 t =>cases t;exact⟨x,y,rfl,h,h2⟩
theorem Rel.grow {E:Env} {h:Q0} {w w':World} (r:Rel P W0 E h w) (b:Below w.heap.size w w'):Rel P W0 E h w':=by
 refine⟨λi ao hi=>?_,r.inj,r.free,λi x hx=>zE0 (r.bound i x hx) b.size,r.below.trans (b.mono r.below.size),r.old,r.glob,r.lim,r.room⟩;obtain⟨x,o,hx,ho,hr⟩:=r.obj i ao hi;refine⟨x,o,hx,(b.block x (r.bound i x hx)).trans ho,?_⟩;cases hr with
 | cells c esz grown mark cs e fr pre c1 rest h1 h2 h3 h4 h5=>exact .cells c esz grown mark cs e fr pre c1 rest h1 h2 h3 h4 h5
 | ro c cs e fr pre c1 rest h1 h2 h3=>exact .ro c cs e fr pre c1 rest h1 h2 h3
 | map es ver xs clock h=>exact .map es ver xs clock h
 | mapIter m ver left cur y since stepped seen h0 hb h =>
  refine .mapIter m ver left cur y since stepped seen h0 hb λes v hm=>?_;obtain⟨h1,h2⟩:=h es v hm;refine⟨h1,λe=>?_⟩;obtain⟨xs,clock,h3,h4⟩:=h2 e;exact⟨xs,clock,(b.block y (r.bound m y hb)).trans h3,h4⟩
 | nilIter since stepped seen h0=>exact .nilIter since stepped seen h0
 | tomb o=>exact .tomb o
 | strIter s pos b h0 h=>exact .strIter s pos b h0 h
 | loop l r hs hp N ht hps ha hb hd=>exact .loop l r hs hp N ht hps ha hb hd
 | deferred ds cs h=>exact .deferred ds cs h
theorem jFl {E:Env} {h:Q0} {w:World} (r:Rel P W0 E h w) {i o b:Nat} (hi:E.blk i=some b) {a:AV} {v:Value} (hv:VR E a v) {m:FM} {p:QF} (hs:(qGs i o [a] m).sat p h) :
  ∃vz,w.cell? ⟨b,E.base i+o,none⟩=some vz/\w.frozen? ⟨b,E.base i+o,none⟩=false/\∃h',Rel P W0 E h' (w.setCell ⟨b,E.base i+o,none⟩ v)/\Stp E h E h'/\m.sat p h':=by
 obtain⟨hp,hs⟩:=Qi hs;obtain⟨ao,hg,hs⟩:=hs;obtain⟨c,esz,g,mk,rfl,hs⟩:=jt hs;have hs0:=hs;obtain⟨hle,_⟩:=qPv [a] o c _ hs;have hlt:o<c.length:=hle;obtain⟨z,hz⟩:∃z,c[o]?=some z:=⟨_,zD0 hlt⟩;have hpa:a.plainC=true:=qIg.1 hp a (by simp);obtain⟨vz,h1,_,h2,_,h',h3,h4,h5⟩:=qXl r hg hi hz hv hpa hs0;exact⟨vz,h1,h2,h',h3,h4,h5⟩
theorem qP6 {f:FuncId} {hit:TypeId->TypeId->Nat} {sums:qm} (hsum:Q7 P W0 sums) (F:AsFacts P W0 f hit):Q7 P W0 (asX f hit sums):=by
 intro g s hg args k kp p E h w vs hb hs r hv;unfold asX at hg;cases hbq:Nat.beq g f with
 | false=>rw[hbq] at hg;exact hsum g s hg args k kp p E h w vs hb hs r hv
 | true =>
  rw[hbq] at hg
  have:=Nat.eq_of_beq_eq_true hbq
  subst this;cases hg;have hs:(asM hit args k).sat p h:=hs;unfold asM at hs;split at hs
  .obtain⟨x,y,rfl,hx,hy⟩:=jBv hv;cases hx;refine (F.nil w y r.below).mono λe w' ⟨he,hb⟩=>?_;subst he;exact⟨E,h,_,Stp.refl _ _,r.grow hb,.bool false,hs⟩
  .rename_i te a x tp i o _;obtain⟨u,y,rfl,hu,hy⟩:=jBv hv;cases hu with
   | iface _ _ v1 hv1 =>
   cases hy with
   | iface _ _ v2 hv2 =>
   cases hv2 with
   | ptr _ _ b z hi hz =>
   subst hz;split at hs
   .rename_i hh;have hv1':=hv1;obtain⟨vz,hz1,hz2,_⟩:=jFl r hi hv1 hs;cases hv1 with
    | ptr _ _ b1 z1 hi1 hz1' =>
    refine (F.ptr te tp w _ _ vz hh r.below hz1 hz2).mono λe w' ⟨he,w1,hb1,hw⟩=>?_;subst he;subst hw;obtain⟨_,_,_,h',g3,g4,g5⟩:=jFl (r.grow hb1) hi hv1' hs;exact⟨E,h',_,g4,g3,.bool true,g5⟩
   .exact (show False from hs).elim
  .rename_i te q n tp i o _;obtain⟨u,y,rfl,hu,hy⟩:=jBv hv;cases hu with
   | iface _ _ v1 hv1 =>
   cases hy with
   | iface _ _ v2 hv2 =>
   cases hv2 with
   | ptr _ _ b z hi hz =>
   subst hz;cases hv1;split at hs
   .rename_i hh _;obtain⟨vz,hz1,hz2,_⟩:=jFl r hi (.int .i64 n) hs;refine (F.int te tp w _ _ vz hh r.below hz1 hz2).mono λe w' ⟨he,w1,hb1,hw⟩=>?_;subst he;subst hw;obtain⟨_,_,_,h',g3,g4,g5⟩:=jFl (r.grow hb1) hi (.int .i64 n) hs;exact⟨E,h',_,g4,g3,.bool true,g5⟩
   .rename_i hh _;refine (F.miss te tp w _ _ hh r.below).mono λe w' ⟨he,hb⟩=>?_;subst he;exact⟨E,h,_,Stp.refl _ _,r.grow hb,.bool false,hs⟩
   .exact (show False from hs).elim
  .exact (show False from hs).elim
end
end Go.X
