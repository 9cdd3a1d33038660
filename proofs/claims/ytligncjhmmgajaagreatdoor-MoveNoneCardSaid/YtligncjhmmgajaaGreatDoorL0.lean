/-
 PROVED: the law MoveNone answers true,whatever the size. Conditions: the world has the program's variables,the table,the handle of errors.As;the arguments are read.
-/
import Derived.Test.YtligncjhmmgajaaGreatDoorV0
set_option linter.unusedVariables false
set_option linter.unusedSimpArgs false
set_option maxRecDepth 1000000
open List renaming mem_cons_self -> zB0, getElem?_eq_getElem -> zD0, length_map -> zI0, getElem?_map -> zP0, length_drop -> zR0
open Nat renaming lt_of_lt_of_le -> zE0, le_refl -> zL0, le_trans -> zM0
noncomputable section
namespace MnN
open Go Go.X Go.Proofs Go.RowKit
def intV (v:Value):AV:=match v with | .int q n=>.int q n | _=>.junk
theorem intV_VR (E:Env) (v:Value):VR E (intV v) v:=by
 unfold intV;split
 .exact .int _ _
 .exact .junk _
theorem intVs (E:Env):∀l:List Value,VRs E (l.map intV) l
 | []=>.nil
 | v::l=>.cons _ _ _ _ (intV_VR E v) (intVs E l)
theorem absV_intV {n:Nat} {v:Value} {q:IntKind} {m:Int} (h:Ja n v=.int q m):intV v=.int q m:=by
 unfold Ja at h
 repeat' (split at h)
 all_goals first | (cases h;done) | (injection h with h1 h2;subst h1;subst h2;rfl)
inductive Src (W:World) (v:Value) (q:IntKind) (ns:List Int):Prop where
 | none (e:v=.slice none 0 0) (hn:ns=[])
 | emp (a:Addr) (c:Nat) (e:v=.slice (some a) 0 c) (hn:ns=[])
 | full (b o cap:Nat) (arr:Array Value) (t:TypeId) (fr:Nat × Nat) (e:v=.slice (some ⟨b,o,Option.none⟩) ns.length cap) (hb:W.heap[b]?=some (.cells arr t fr)) (h0:0<ns.length)
   (hc:((arr.toList.map intV).drop o).take ns.length=ns.map (AV.int q)) (hl:ns.length<=((arr.toList.map intV).drop o).length)
theorem src_of {W:World} {v:Value} {q:IntKind} {ns:List Int} {s:SL} (hv:Ja W.heap.size v=s.av) (hn:s.n=ns.length) (hlt:s.nil=false->s.i<W.heap.size)
  (hsrc:s.nil=false->∃c,QS (absH W) s.i=some c/\(c.drop s.o).take s.len=ns.map (AV.int q)/\s.len<=(c.drop s.o).length):Src W v q ns:=by
 have r:=absV_VR W.heap.size v;rw[hv] at r;obtain⟨nil,i,o,len,cap,ext⟩:=s;cases nil with
 | true =>
  have h0:ns=[]:=List.eq_nil_of_length_eq_zero hn.symm;cases ext with
  | true =>
   have r:VR (absE W.heap.size) .emp v:=r;cases r with
   | emp a c=>exact .emp a c rfl h0
  | false =>
   have r:VR (absE W.heap.size) .nils v:=r;cases r;exact .none rfl h0
 | false =>
  have hlt:i<W.heap.size:=hlt rfl;have hn:len=ns.length:=hn;obtain⟨c,h1,h2,h3⟩:=hsrc rfl;have h1:QS (absH W) i=some c:=h1;have h2:(c.drop o).take len=ns.map (AV.int q):=h2;have h3:len<=(c.drop o).length:=h3;have key:∃c,v=.slice (some ⟨i,o,Option.none⟩) len c:=by
   have go:∀ext,VR (absE W.heap.size) (.slice i o len cap ext) v->∃c,v=.slice (some ⟨i,o,Option.none⟩) len c:=by
    intro ext r;cases r with
    | slice _ _ _ _ _ b x c hb hx hc =>have hb:(if i<W.heap.size then some i else Option.none)=some b:=hb;rw[if_pos hlt] at hb;cases hb;have hx:x=0+o:=hx;rw[Nat.zero_add] at hx;exact⟨c,by rw[hx]⟩
   cases ext with
   | true=>exact go true r
   | false=>exact go false r
  obtain⟨cc,rfl⟩:=key;by_cases hz:ns=[]
  .subst hz;have hn:len=0:=hn;subst hn;exact .emp _ _ rfl rfl
  .have hp:0<ns.length:=List.length_pos_iff.2 hz;unfold QS at h1;cases hw:W.heap[i]? with
   | none =>
    have:(absH W).get i=Option.none:=by show (match W.heap[i]? with | some (.cells cs _ _)=>some (Q4.ro (cs.toList.map (Ja W.heap.size))) | _=>Option.none)=_;rw[hw]
    rw[this] at h1;cases h1
   | some ob =>
    have hg:(absH W).get i=(match W.heap[i]? with | some (.cells cs _ _)=>some (Q4.ro (cs.toList.map (Ja W.heap.size))) | _=>Option.none):=rfl;rw[hw] at hg;cases ob with
    | cells arr t fr =>
     have hg:(absH W).get i=some (.ro (arr.toList.map (Ja W.heap.size))):=hg;rw[hg] at h1;have h1:some (arr.toList.map (Ja W.heap.size))=some c:=h1;cases h1;subst hn;refine .full i o cc arr t fr rfl hw hp ?_ (by rw[zR0,zI0] at h3 ⊢;exact h3);refine List.ext_getElem? λj=>?_;have hj:=congrArg (λl:List AV=>l[j]?) h2;simp only[List.getElem?_take,List.getElem?_drop,zP0] at hj ⊢;by_cases hjl:j<ns.length
     .rw[if_pos hjl] at hj ⊢;obtain⟨m,hm⟩:∃m,ns[j]?=some m:=⟨_,zD0 hjl⟩;rw[hm] at hj ⊢;cases ha:arr.toList[o+j]? with
      | none=>rw[ha] at hj;cases hj
      | some u =>
       rw[ha] at hj;have hj:some (Ja W.heap.size u)=some (AV.int q m):=hj;injection hj with hj
       show some (intV u)=some (AV.int q m);rw[absV_intV hj]
     .rw[if_neg hjl] at hj ⊢;exact hj
    | _ =>have hg:(absH W).get i=Option.none:=hg;rw[hg] at h1;cases h1
theorem jE0 (g:Q0) (ext:Bool):J5 g ⟨true,0,0,0,0,ext⟩ []:=⟨rfl,λe=>Bool.noConfusion e,λe=>Bool.noConfusion e⟩
theorem take_ro {g:Q0} {i:Nat} {c:List AV} (h:g.get i=some (.ro c)):QS g i=some c:=by unfold QS;rw[h]
theorem lt_of_get {g:Q0} {i n:Nat} (h1:i<n) (h2:n<=g.next):i<g.next:=zE0 h1 h2
theorem ints_ro {g:Q0} {i o cap:Nat} {ns:List Int} {c:List AV} (hi:i<g.next) (h:g.get i=some (.ro c)) (hc:(c.drop o).take ns.length=ns.map (AV.int .i64)) (hl:ns.length<=(c.drop o).length):J5 g ⟨false,i,o,ns.length,cap,false⟩ ns :=
 ⟨rfl,λ_=>hi,λ_=>⟨c,take_ro h,hc,hl⟩⟩
theorem jDo {g:Q0} {i o cap:Nat} {k:List Nat} {c:List AV} (hb:∀x,x∈k->x<256) (hi:i<g.next) (h:g.get i=some (.ro c)) (hc:(c.drop o).take k.length=(k.map Int.ofNat).map (AV.int .u8)) (hl:k.length<=(c.drop o).length):qP g ⟨false,i,o,k.length,cap,false⟩ k:=by
 have e:ofBytes k=(k.map Int.ofNat).map (AV.int .u8):=by rw[qS,List.map_map];rfl
 refine⟨⟨by rw[QE];show k.length=k.length*1;omega,λ_=>hi,λ_=>⟨c,take_ro h,?_,?_⟩⟩,hb⟩
 .rw[Nat.mul_one,e];exact hc
 .rw[Nat.mul_one];exact hl
theorem qK0 {W:World} (hG:Tryz.prog.globals.size=3) (hsz:3<=W.heap.size) {t:TypeId} {fr:Nat × Nat} (hw:W.heap[1]?=some (.cells (tabL.map λz=>Value.int .u8 z).toArray t fr))
  {b1 b2:Nat} {o1 o2:Option (List AV)} (l1:b1<W.heap.size) (l2:b2<W.heap.size)
  (h1:∀c,o1=some c->b1≠1/\∃arr t fr,W.heap[b1]?=some (.cells arr t fr)/\c=arr.toList.map intV)
  (h2:∀c,o2=some c->b2≠1/\(∀c',o1=some c'->b2≠b1)/\∃arr t fr,W.heap[b2]?=some (.cells arr t fr)/\c=arr.toList.map intV) :
  ∃E,Rel Tryz.prog W E (qHk 3 1 (tabL.map λz=>AV.int .u8 z) o1 o2) W/\E.blk 1=some 1/\E.base 1=0/\E.blk 3=some b1/\(∀c,o1=some c->E.base 3=0)/\E.blk 4=some b2/\(∀c,o2=some c->E.base 4=0):=by
 have r:=jF9 (P:=Tryz.prog) (G:=3) (g:=1) (cs:=tabL.map λz=>AV.int .u8 z) hG (by decide) hsz (by decide) hw (qP7 .u8 tabL);have hget:∀i x,(qN9 3 1 (tabL.map λz=>AV.int .u8 z)).get i=some x->i=1:=λi x h=>by
  have:=qNa (G:=3) (g:=1) (cs:=tabL.map λz=>AV.int .u8 z) (by decide) i
  have h:(jR 3 1 (tabL.map λz=>AV.int .u8 z)).get i=some x:=h;rw[this] at h;by_cases e:i=1
  .exact e
  .rw[if_neg e] at h;cases h
 obtain⟨x1,r1,e1⟩:=Rel.roT r rfl (b:=b1) (off:=0) (o:=o1) ⟨l1,λc hc i x hi hx hbk=>by
   have:=hget i x hi;subst this
   have hbk:(if 1<3 then some 1 else Option.none)=some b1:=hbk;rw[if_pos (by decide)] at hbk;exact (h1 c hc).1 (Option.some.inj hbk).symm,λc hc=>by
   obtain⟨_,arr,t,fr,q1,q2⟩:=h1 c hc;exact⟨arr,t,fr,[],arr.toList,[],q1,by simp,rfl,by rw[q2];exact intVs _ _⟩⟩
 have n1:(qN9 3 1 (tabL.map λz=>AV.int .u8 z)).next=3:=rfl
 have E1:∀i,i≠3->((qHl 3).add 3 b1 x1 0).blk i=(qHl 3).blk i:=λi hi=>if_neg hi;obtain⟨x2,r2,e2⟩:=Rel.roT r1 rfl (b:=b2) (off:=0) (o:=o2) ⟨l2,λc hc i x hi hx hbk=>by
   obtain⟨q1,q2,_⟩:=h2 c hc;rw[Q0.newO_get _ trivial] at hi;have hbk:((qHl 3).add 3 b1 x1 0).blk i=some b2:=hbk;by_cases e:i=3
   .subst e;rw[if_pos n1.symm] at hi;have hbk:(if (3:Nat)=3 then some b1 else (qHl 3).blk 3)=some b2:=hbk;rw[if_pos rfl] at hbk;cases ho:o1 with
    | none=>rw[ho] at hi;cases hi;exact hx rfl
    | some c'=>exact q2 c' ho (Option.some.inj hbk).symm
   .rw[if_neg (by rw[n1];exact e)] at hi
    have:=hget i x hi;subst this
    rw[E1 1 (by decide)] at hbk;have hbk:(if 1<3 then some 1 else Option.none)=some b2:=hbk;rw[if_pos (by decide)] at hbk;exact q1 (Option.some.inj hbk).symm,λc hc=>by
   obtain⟨_,_,arr,t,fr,q1,q2⟩:=h2 c hc;exact⟨arr,t,fr,[],arr.toList,[],q1,by simp,rfl,by rw[q2];exact intVs _ _⟩⟩
 refine⟨_,r2,rfl,rfl,rfl,λc hc=>?_,rfl,λc hc=>?_⟩
 .exact e1 c hc
 .exact e2 c hc
theorem tab_intV:((tabL.map λz=>Value.int .u8 z).toArray.toList.map intV)=tabL.map λz=>AV.int .u8 z:=rfl
theorem vr_sl {E:Env} {i o len cap b:Nat} (hb:E.blk i=some b) (h0:E.base i=0):VR E (SL.av ⟨false,i,o,len,cap,false⟩) (.slice (some ⟨b,o,Option.none⟩) len cap) :=
 .slice _ _ _ _ _ b o cap hb (by rw[h0,Nat.zero_add]) rfl
theorem qP1 {S:QC} {sums:qm} {W:World} (hsz:3<=W.heap.size) (hG:Tryz.prog.globals.size=3) (hmo:Tryz.prog.follows .mixedOrders=true) (gTab:Tryz.prog.globalNamed "math/bits.deBruijn64tab"=some 1) (htab:Lib.TabIs Tryz.prog W "math/bits.deBruijn64tab" .u8 tabL)
  (hsum:Q7 Tryz.prog W sums) (hS:jH S sums) (w:jq S) (w2:j7 S) {v0 to pk st:Int} {u v:Value} {l:List Int} {k:List Nat} (h1:-9223372036854775808<=v0) (h2:v0<=9223372036854775807)
  (R:∀(o1 o2:Q4) (pl:SL),SzA S 5000 (szOf (qZ v0 4)) pk pl o1 o2 (obsL (obA o1 o2 pk pl [])))
  (pu:Src W u .i64 l) (pv:Src W v .u8 (k.map Int.ofNat)) (hk:∀x,x∈k->x<256) (hcap:∀a n c,v=.slice (some a) n c->n<=c) :
  Calls Tryz.prog 3 #[.int .i64 v0,.int .i64 to,.agg #[.int .i64 pk,u],.int .u64 st,v] W λe W'=>e=.returned (.bool true)/\Below W.heap.size W W':=by
 have hrow:∃t fr,W.heap[1]?=some (.cells (tabL.map λz=>Value.int .u8 z).toArray t fr):=by
  have h:=htab;unfold Lib.TabIs World.var? at h;rw[gTab,Option.bind_some] at h;split at h
  .rename_i cs t fr hw;exact⟨t,fr,by rw[hw,Option.some.inj h]⟩
  .cases h
 obtain⟨tt,tfr,hw⟩:=hrow
 have fin:∀(E:Env) (o1 o2:Option (List AV)) (p v4:SL),Rel Tryz.prog W E (qHk 3 1 (tabL.map λz=>AV.int .u8 z) o1 o2) W->VR E p.av u->VR E v4.av v->Args pk p v4 l k (roT o1) (roT o2) ->
   Calls Tryz.prog 3 #[.int .i64 v0,.int .i64 to,.agg #[.int .i64 pk,u],.int .u64 st,v] W λe W'=>e=.returned (.bool true)/\Below W.heap.size W W':=by
  intro E o1 o2 p v4 r vp vv a;have x:=start_has (G:=3) (g:=1) (cs:=tabL.map λz=>AV.int .u8 z) (o1:=o1) (o2:=o2) (by decide) (by decide);refine lawR_true hsum hS hmo (lf:=5000) (n:=0+7) (by kernel_rfl) rfl r (args:=[.int .i64 v0,.int .i64 to,.agg [.int .i64 pk,.sl p],.int .u64 st,.sl v4]) ?_ ?_
  .rw[qBz,qBz,qBz,qBz,qBz,qKn,qEp,qBz,qBz,qKn,qAz,qAz,qAz,qAz,qFi,qFi];exact .cons _ _ _ _ (.int _ _) (.cons _ _ _ _ (.int _ _) (.cons _ _ _ _ (.agg _ _ (.cons _ _ _ _ (.int _ _) (.cons _ _ _ _ vp .nil))) (.cons _ _ _ _ (.int _ _) (.cons _ _ _ _ vv .nil))))
  .have g0:(qHk 3 1 (tabL.map λz=>AV.int .u8 z) o1 o2).get 3=some (roT o1):=x.get 3 _ rfl;have g1:(qHk 3 1 (tabL.map λz=>AV.int .u8 z) o1 o2).get 4=some (roT o2):=x.get 4 _ rfl;have g2:(qHk 3 1 (tabL.map λz=>AV.int .u8 z) o1 o2).get 1=some tabO:=x.get 1 _ rfl;refine law_ok (n:=0) w w2 a h1 h2 (λhp=>?_) (λi o hi=>?_) (R _ _ _) x (by decide) λh'=>by rw[qBr]
   .have q:=a.hP ((qHk 3 1 (tabL.map λz=>AV.int .u8 z) o1 o2).newO .tomb) ⟨(Jw (by show (1:Nat)≠5;decide)).trans g2,(Jw (by show (3:Nat)≠5;decide)).trans g0,(Jw (by show (4:Nat)≠5;decide)).trans g1⟩ (zL0 6)
    have:=q.len
    unfold qG at hp;simp only[Bool.and_eq_true,decide_eq_true_eq] at hp;omega
   .have hi:(match Nat.beq i 1 with | true=>some tabO | false=>match Nat.beq i 3 with | true=>some (roT o1) | false=>match Nat.beq i 4 with | true=>some (roT o2) | false=>match Nat.beq i 5 with | true=>some (Q4.cells [.int .i64 pk,p.av] 0 false false) | false=>Option.none)=some o:=hi;by_cases e1:i=1
    .subst e1;exact .inr hi
    rw[qY e1] at hi;by_cases e3:i=3
    .subst e3;exact .inr hi
    rw[qY e3] at hi;by_cases e4:i=4
    .subst e4;exact .inr hi
    rw[qY e4] at hi;by_cases e5:i=5
    .subst e5;have hi:some (Q4.cells [.int .i64 pk,p.av] 0 false false)=some o:=hi;cases hi;exact .inl ⟨rfl,rfl⟩
    rw[qY e5] at hi;cases hi
 have step:∀(b1:Nat) (o1:Option (List AV)) (p:SL),b1<W.heap.size->(∀c,o1=some c->b1≠1/\∃arr t fr,W.heap[b1]?=some (.cells arr t fr)/\c=arr.toList.map intV) ->
   (∀E:Env,E.blk 3=some b1->(∀c,o1=some c->E.base 3=0)->VR E p.av u)->(∀(o2:Q4) (g:Q0),stO (roT o1) o2 g.get->6<=g.next->J5 g p l)->(p.nil=false->p.i=3) ->
   Calls Tryz.prog 3 #[.int .i64 v0,.int .i64 to,.agg #[.int .i64 pk,u],.int .u64 st,v] W λe W'=>e=.returned (.bool true)/\Below W.heap.size W W':=by
  intro b1 o1 p hb1 ho1 hvp hP hpi;have hz:¬ 13<=(0:Nat):=by decide
  cases pv with
  | none e hn =>
   have hk0:k=[]:=List.map_eq_nil_iff.1 hn;subst hk0;obtain⟨E,r,_,_,q3,q4,_,_⟩:=qK0 hG hsz hw (b1:=b1) (b2:=0) (o1:=o1) (o2:=Option.none) hb1 (by omega) ho1 (λc h=>by cases h);exact fin E o1 Option.none p ⟨true,0,0,0,0,false⟩ r (hvp E q3 q4) (by rw[e];exact .nils) ⟨hP _,λg _ _=>qP.nil _ _,hpi,λh=>absurd h hz,λe=>(by cases e),λe=>(by cases e),λe=>(by cases e)⟩
  | emp a c e hn =>
   have hk0:k=[]:=List.map_eq_nil_iff.1 hn;subst hk0;obtain⟨E,r,_,_,q3,q4,_,_⟩:=qK0 hG hsz hw (b1:=b1) (b2:=0) (o1:=o1) (o2:=Option.none) hb1 (by omega) ho1 (λc h=>by cases h);exact fin E o1 Option.none p ⟨true,0,0,0,0,true⟩ r (hvp E q3 q4) (by rw[e];exact .emp _ _) ⟨hP _,λg _ _=>qP.nil _ _,hpi,λh=>absurd h hz,λe=>(by cases e),λe=>(by cases e),λe=>(by cases e)⟩
  | full b o cap arr t fr e hb h0 hc hl =>
   rw[zI0] at e h0 hc hl;have hcp:k.length<=cap:=hcap _ _ _ e;have hbs:b<W.heap.size:=by
    rcases Nat.lt_or_ge b W.heap.size with h | h
    .exact h
    .rw[Array.getElem?_eq_none h] at hb;cases hb
   by_cases e1:b=1
   .subst e1;rw[hw] at hb;cases hb;obtain⟨E,r,q1,q2,q3,q4,_,_⟩:=qK0 hG hsz hw (b1:=b1) (b2:=0) (o1:=o1) (o2:=Option.none) hb1 (by omega) ho1 (λc h=>by cases h);exact fin E o1 Option.none p ⟨false,1,o,k.length,cap,false⟩ r (hvp E q3 q4) (by rw[e];exact vr_sl q1 q2) ⟨hP _,λg s hn=>jDo hk (by omega) s.k1 hc hl,hpi,λ_=>rfl,λ_=>rfl,λ_=>hcp,λ_=>by show (1:Nat)<6;decide⟩
   .by_cases e2:b=b1/\∃c,o1=some c
    .obtain⟨e2,c,hoc⟩:=e2;subst e2;obtain⟨_,arr',t',fr',w1,w2⟩:=ho1 c hoc;rw[hb] at w1;cases w1;obtain⟨E,r,q1,q2,q3,q4,_,_⟩:=qK0 hG hsz hw (b1:=b) (b2:=0) (o1:=o1) (o2:=Option.none) hb1 (by omega) ho1 (λc h=>by cases h);refine fin E o1 Option.none p ⟨false,3,o,k.length,cap,false⟩ r (hvp E q3 q4) (by rw[e];exact vr_sl q3 (q4 c hoc)) ⟨hP _,λg s hn=>jDo (c:=c) hk (by omega) (by have:=s.k3;rw[hoc] at this;exact this) (by rw[w2];exact hc) (by rw[w2];exact hl),hpi,λ_=>rfl,λ_=>rfl,λ_=>hcp,λ_=>by show (3:Nat)<6;decide⟩
    .obtain⟨E,r,q1,q2,q3,q4,q5,q6⟩:=qK0 hG hsz hw (b1:=b1) (b2:=b) (o1:=o1) (o2:=some (arr.toList.map intV)) hb1 hbs ho1 (λc h=>⟨e1,λc' hc' eb=>e2 ⟨eb,c',hc'⟩,arr,t,fr,hb,(Option.some.inj h).symm⟩);exact fin E o1 (some (arr.toList.map intV)) p ⟨false,4,o,k.length,cap,false⟩ r (hvp E q3 q4) (by rw[e];exact vr_sl q5 (q6 _ rfl)) ⟨hP _,λg s hn=>jDo hk (by omega) s.k4 hc hl,hpi,λ_=>rfl,λ_=>rfl,λ_=>hcp,λ_=>by show (4:Nat)<6;decide⟩
 cases pu with
 | none e hn=>exact step 0 Option.none ⟨true,0,0,0,0,false⟩ (by omega) (λc h=>by cases h) (λE _ _=>by rw[e];exact .nils) (λ_ g _ _=>by rw[hn];exact jE0 g _) (λe=>by cases e)
 | emp a c e hn=>exact step 0 Option.none ⟨true,0,0,0,0,true⟩ (by omega) (λc h=>by cases h) (λE _ _=>by rw[e];exact .emp _ _) (λ_ g _ _=>by rw[hn];exact jE0 g _) (λe=>by cases e)
 | full b o cap arr t fr e hb h0 hc hl =>
  have hbs:b<W.heap.size:=by
   rcases Nat.lt_or_ge b W.heap.size with h | h
   .exact h
   .rw[Array.getElem?_eq_none h] at hb;cases hb
  refine step b (some (arr.toList.map intV)) ⟨false,3,o,l.length,cap,false⟩ hbs (λc h=>⟨λeb=>?_,arr,t,fr,hb,(Option.some.inj h).symm⟩) (λE q1 q2=>by rw[e];exact vr_sl q1 (q2 _ rfl)) (λo2 g s hn=>ints_ro (by omega) s.k3 hc hl) (λ_=>rfl);subst eb;rw[hw] at hb;cases hb
  match l,h0 with
  | m::l,_ =>
   have h5:AV.int .i64 m∈(((tabL.map λz=>Value.int .u8 z).toArray.toList.map intV).drop o).take (m::l).length:=by rw[hc];exact zB0
   have h6:=List.mem_of_mem_drop (List.mem_of_mem_take h5);rw[tab_intV] at h6;obtain⟨z,_,h8⟩:=List.mem_map.1 h6;cases h8
end MnN
namespace MnN
open Go Go.X Go.Proofs Go.RowKit Cm
theorem jGw:Tryz.prog.globalNamed "math/bits.deBruijn64tab"=some 1:=by kernel_rfl
theorem hG3:Tryz.prog.globals.size=3:=by kernel_rfl
theorem jDx (W:World) (h3:3<=W.heap.size) (hT:Lib.TabIs Tryz.prog W "math/bits.deBruijn64tab" .u8 tabL) (hg:Hg W):Calls Tryz.prog 4 #[] W λe W'=>e=.returned (.bool true)/\Below W.heap.size W W' :=
 qSw (G:=3) (g:=1) (by kernel_rfl) hG3 (by decide) h3 (by decide) (by kernel_rfl) jGw hT (by rfl) (Ca.last ⟨h3,hg⟩) Ca.runs
theorem jG9 {W:World} (h3:3<=W.heap.size) (hT:Lib.TabIs Tryz.prog W "math/bits.deBruijn64tab" .u8 tabL) (hg:Hg W):Q7 Tryz.prog W (qPi 4) :=
 jF6 λw hb=>jDx w (zM0 h3 hb.size)
  (by
   have:=hT
   unfold Lib.TabIs World.var? at this ⊢;rw[jGw,Option.bind_some] at this ⊢;rw[hb.block 1 (by omega)];exact this)
  (by
   have:=hg
   unfold Hg World.cell? at this ⊢;rw[hb.block 0 (by omega)];exact this)
theorem law_all {W:World} (hsz:3<=W.heap.size) (hT:Lib.TabIs Tryz.prog W "math/bits.deBruijn64tab" .u8 tabL) (hg:Hg W) {v0 to pk st:Int} {u v:Value} {l:List Int} {k:List Nat} (h1:-9223372036854775808<=v0) (h2:v0<=9223372036854775807)
  (pu:Src W u .i64 l) (pv:Src W v .u8 (k.map Int.ofNat)) (hk:∀x,x∈k->x<256) (hcap:∀a n c,v=.slice (some a) n c->n<=c) :
  Calls Tryz.prog 3 #[.int .i64 v0,.int .i64 to,.agg #[.int .i64 pk,u],.int .u64 st,v] W λe W'=>e=.returned (.bool true)/\Below W.heap.size W W':=by
 have ht:=jG9 hsz hT hg;have hm:qZ v0 4<4:=qWa (by decide);have key:qZ v0 4=0∨qZ v0 4=1∨qZ v0 4=2∨qZ v0 4=3:=by omega
 rcases key with e | e | e | e
 .exact qP1 hsz hG3 hmo jGw hT (C0.sSx ⟨hsz,hg⟩ ht) C0.fit C0.walked C0.walked2 h1 h2 (λo1 o2 pl=>by rw[e];exact C0.rec o1 o2 pk pl) pu pv hk hcap
 .exact qP1 hsz hG3 hmo jGw hT (C1.sSx ⟨hsz,hg⟩ ht) C1.fit C1.walked C1.walked2 h1 h2 (λo1 o2 pl=>by rw[e];exact C1.rec o1 o2 pk pl) pu pv hk hcap
 .exact qP1 hsz hG3 hmo jGw hT (C2.sSx ⟨hsz,hg⟩ ht) C2.fit C2.walked C2.walked2 h1 h2 (λo1 o2 pl=>by rw[e];exact C2.rec o1 o2 pk pl) pu pv hk hcap
 .exact qP1 hsz hG3 hmo jGw hT (C3.sSx ⟨hsz,hg⟩ ht) C3.fit C3.walked C3.walked2 h1 h2 (λo1 o2 pl=>by rw[e];exact C3.rec o1 o2 pk pl) pu pv hk hcap
end MnN
