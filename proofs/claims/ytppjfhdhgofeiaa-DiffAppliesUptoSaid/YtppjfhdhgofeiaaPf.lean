/-
 PROVED: the book: what it keeps,its ends (contracts over heaps). Condition: each contract's own.
-/
import Derived.Test.YtppjfhdhgofeiaaPe
set_option linter.unusedSectionVars false
set_option linter.unusedVariables false
set_option linter.unusedSimpArgs false
set_option maxRecDepth 100000
open List renaming length_append -> zC0, mem_of_getElem? -> zD0, getElem?_eq_getElem -> zE0, mem_append_left -> zH0, length_map -> zJ0, length_cons -> zK0, mem_cons -> zL0, not_mem_nil -> zM0, append_nil -> zS0, flatMap_append -> zT0, flatMap_cons -> zU0, getElem?_map -> zV0, map_append -> zW0, append_assoc -> zX0, length_take -> zY0, length_replicate -> zZ0, getElem?_append_right -> zD1
open Nat renaming lt_of_lt_of_le -> zF0, ble_eq_true_of_le -> zG0, le_refl -> zN0, lt_succ_self -> zO0, le_of_ble_eq_true -> zB1, mul_one -> zC1
noncomputable section
namespace DfN
open Go Go.X Go.X.Df Go.Proofs
def CR.Rd (h:Q0) (x:CR):Prop:=qz h x.ks x.c.k/\qz h x.os x.c.old/\qz h x.ns x.c.new
theorem CR.Rd.fr {h h':Q0} {x:CR} (a:x.Rd h) (f:Q5 Qa h h'):x.Rd h':=⟨a.1.fr f λ_=>id,a.2.1.fr f λ_=>id,a.2.2.fr f λ_=>id⟩
theorem CR.Ok.rd {h0 h:Q0} {x:CR} (a:x.Ok h0 h):x.Rd h:=⟨a.1.byts,a.2.1.byts,a.2.2.byts⟩
abbrev Chgs (h:Q0) (s:SL) (l:List CR):Prop:=Rws 5 CR.row (λh x=>CR.Rd h x) h s l
theorem Chgs.fr {h h':Q0} {s:SL} {l:List CR} (a:Chgs h s l) (f:Q5 Qa h h'):Chgs h' s l:=Rws.fr a f (λ_=>id) λ_ _ q=>q.fr f
theorem CR.plain (x:CR):QL x.row=true:=qH.2 λv hv=>by
 simp only[CR.row,zL0,zM0,or_false] at hv;rcases hv with rfl | rfl | rfl | rfl | rfl
 .exact jB _
 .rfl
 .rfl
 .exact jB _
 .exact jB _
section
variable {S:QW} [GoodS S] {lf n:Nat} {h:Q0} {K:ZK}
def mkB (i:Nat):Nat:=1+i % 251
theorem mkB_lt (i:Nat):mkB i<256:=by unfold mkB;omega
theorem qF3 {i:Nat} (k:K (.int .u8 (.ofNat (mkB i))) h):Qq Try.prog S lf (n+1) 31 [.int .i64 (i:Int)] K h:=by
 refine QJ (hSD (by decide) (by decide)) (by kernel_rfl) ?_;rw[mark_nf];have e:Int.tmod (i:Int) 251=((i % 251:Nat):Int):=by rw[Int.tmod_eq_emod_of_nonneg (by omega)];omega
 have hlt:i % 251<251:=Nat.mod_lt _ (by decide);refine⟨by decide,qAy.2 ?_⟩;rw[e,QD (by omega) (by omega)];refine qAy.2 ?_
 have:IntKind.u8.wrap (1+((i % 251:Nat):Int))=((mkB i:Nat):Int):=by unfold IntKind.wrap mkB;show (if (false && _)=true then _ else (1+((i % 251:Nat):Int)) % (2 ^ 8:Int))=_;rw[Bool.false_and,if_neg (by decide)];omega
 rw[this];exact k
def qYb (b:Bool) (H:Q0) (i:Nat):Q0:=match b with | true=>H.put i (some .tomb) | false=>H
theorem qW3 {s:SL} {c m:Nat} (hb:qz h s (List.replicate c m)) (hlen:c<8589934592) (hlf:c<lf) (k:K (.bool true) h) :
  Qq Try.prog S lf (n+1) 32 [.sl s,.int .u8 (.ofNat m)] K h:=by
 refine QJ (hSD (by decide) (by decide)) (by kernel_rfl) ?_;rw[full_nf];have ls:=hb.len;rw[zZ0] at ls;have es:(Int.ofNat s.n:Int)=s.n:=rfl;refine Qy.inv (λq z h'=>∃j:Nat,ZAt 18 [(0,.sl s),(1,.int .u8 (.ofNat m)),(5,.int .i64 (j:Int))] z/\h'=h/\j+q=c) (n:=c) hlf ⟨0,⟨rfl,rfl,rfl,rfl,trivial⟩,rfl,by omega⟩ ?_;rintro q z h' kk hq ⟨j,hz,rfl,hj⟩ ih;refine Qr _ hz λd=>(qW4 _ _ _ _ _ _ _ _ _ _ _).mpr ?_;rw[q9];refine⟨λe=>?_,λe=>?_⟩
 .have hjc:j<c:=by omega
  have hn:s.nil=false:=by
   cases e0:s.nil with
   | false=>rfl
   | true=>rw[SL.n_nil e0] at ls;omega
  have hl:s.len=c:=by rw[<- SL.n_of hn];exact ls
  refine⟨hn,qAe.2 ⟨by omega,rfl,qL9.2 ⟨(.ofNat m),?_,?_⟩⟩⟩
  .rw[zC1];exact hb.at' hn (List.getElem?_replicate_of_lt hjc)
  .rw[decide_eq_true rfl,Bool.not_true,qAz];refine qAy.2 ?_;rw[QD (e:=(j:Int)+1) (by omega) (by omega)];exact ih (q-1) _ _ (by omega) ⟨j+1,⟨rfl,rfl,rfl,rfl,trivial⟩,rfl,by omega⟩
 .exact Qr (n:=18) [] ⟨rfl,trivial⟩ λd'=>(full_a11 _ _ _ _ _).mpr k
theorem j6 {s:SL} {k:Ky} (hb:qz h s k) (hl:k.length<=4294967296) (hk:∀h' s',Q5 Qa h h'->Cln h h' s' k->s'.nil=false->K (.sl s') h') :
  Qq Try.prog S lf (n+1) 29 [.sl s] K h:=by
 refine QJ (hSD (by decide) (by decide)) (by kernel_rfl) ?_;rw[rbytes_nf];exact (hb.seg.fr (Q5.newO Qa h _) λ_=>id).zsrc (qSx hb (qWi hl) (Q:=λh' s'=>K (.sl s') h') hk)
structure Marked (h0 h:Q0) (s:SL) (k:Ky):Prop where
 is:∃i,s=⟨false,i,0,k.length+2,k.length+2,true⟩/\h0.next<=i/\i<h.next/\h.get i=some (.cells (ofBytes (k++[167,168])) 1 true false)
 byte:∀x,x∈k->x<256
theorem qUq {s:SL} {k:Ky} (hb:qz h s k) (hl:k.length<=2147483648) (hk:∀h' s',Q5 Qa h h'->Marked h h' s' k->K (.sl s') h') :
  Qq Try.prog S lf (n+1) 27 [.sl s] K h:=by
 refine QJ (hSD (by decide) (by decide)) (by kernel_rfl) ?_;rw[marked_nf];refine (hb.seg.fr (Q5.newO Qa h _) λ_=>id).zsrc (qSx hb (qWi (by omega)) (Q:=λh' s'=>jY (h'.newO (.cells [.int .u8 167,.int .u8 168] 1 false false)) ⟨false,h'.next,0,2,2,false⟩ 1 λds=>jz Try.prog (h'.newO (.cells [.int .u8 167,.int .u8 168] 1 false false)) s' 5 1 2 ds (K (.sl (s'.app (h'.newO (.cells [.int .u8 167,.int .u8 168] 1 false false)).next 2)) (Qx (h'.newO (.cells [.int .u8 167,.int .u8 168] 1 false false)) s' 1 2 ds))) λh1 s1 f1 w1 n1=>?_);have f2:Q5 Qa h1 (h1.newO (.cells [.int .u8 167,.int .u8 168] 1 false false)):=Q5.newO _ _ _;have sg:Seg (h1.newO (.cells [.int .u8 167,.int .u8 168] 1 false false)) ⟨false,h1.next,0,2,2,false⟩ 1 [.int .u8 167,.int .u8 168]:=Seg.own (more:=[]) rfl (zO0 _) (by rw[zS0];exact Ql _ _);refine sg.zsrc ?_;obtain⟨nil,i,o,len,cap,ext⟩:=s1;have n1:nil=false:=n1;subst n1;obtain⟨h2,h3,h4,h5⟩:=w1.own rfl;have h3:o=0:=h3;have h4:cap=k.length:=h4;have hlen:len=k.length:=w1.byts.len;subst h3;subst h4;subst hlen;have lt:i<h1.next:=w1.byts.seg.lt rfl
 have h5:h1.get i=some (.cells (ofBytes k) 1 ext false):=h5;have g2:(h1.newO (.cells [.int .u8 167,.int .u8 168] 1 false false)).get i=some (.cells (ofBytes k) 1 ext false):=by rw[qm (Nat.ne_of_lt lt)];exact h5
 have hb2:Nat.ble (k.length+2) k.length=false:=by
  cases hq:Nat.ble (k.length+2) k.length with
  | false=>rfl
  | true=>exact absurd (zB1 hq) (by omega)
 have hn2:(h1.newO (.cells [.int .u8 167,.int .u8 168] 1 false false)).next=h1.next+1:=rfl
 have hfn:=f1.next
 generalize h1.newO (.cells [.int .u8 167,.int .u8 168] 1 false false)=H at f2 g2 hn2 ⊢;have ec:ofBytes k++[AV.int .u8 167,AV.int .u8 168]=ofBytes (k++[167,168]):=by rw[qDy];rfl
 have et:(ofBytes k).take (k.length*1)=ofBytes k:=by rw[zC1,<- Qt k,List.take_length]
 have ea:SL.app ⟨false,i,0,k.length,k.length,ext⟩ H.next 2=⟨false,H.next,0,k.length+2,k.length+2,true⟩:=by unfold SL.app;rw[show Nat.beq 2 0=false from rfl];simp only;rw[hb2]
 refine⟨⟨λ_=>zN0 _,λ_ e=>(by cases e),λ_ _ hc=>?_,λ_ _=>?_,λ_ _ _ he=>?_,λ_ _ _ he=>?_⟩,rfl,?_⟩
 .exact absurd hc (by show ¬k.length+2<=k.length;omega)
 .exact qWi (by show k.length+2<=_;omega)
 .have he:ext=true:=he;subst he;refine⟨by show i<H.next;omega,_,_,g2,?_,?_⟩
  .show 0+k.length*1=(ofBytes k).length;rw[Qt];omega
  .show k.length*1<=((ofBytes k).drop 0).length;rw[List.drop_zero,Qt];omega
 .refine⟨ofBytes k,qEg g2,?_⟩;show k.length*1<=((ofBytes k).drop 0).length;rw[List.drop_zero,Qt];omega
 .rw[ea];have eh:Qx H ⟨false,i,0,k.length,k.length,ext⟩ 1 2 [AV.int .u8 167,AV.int .u8 168]=(qYb ext H i).newO (.cells (ofBytes (k++[167,168])) 1 true false):=by
   unfold Qx;rw[show Nat.beq 2 0=false from rfl];simp only;rw[hb2,g2];simp only[List.drop_zero];rw[et,ec];cases ext <;> rfl
  rw[eh];have F:Q5 Qa h (qYb ext H i):=by
   cases ext with
   | true=>exact (f1.trans f2).back (Q5.put (S:=λj=>j=i) H _ λ_=>rfl) λj hj e=>by have h2:h.next<=i:=h2;omega
   | false=>exact f1.trans f2
  have hnx:(qYb ext H i).next=H.next:=by cases ext <;> rfl
  generalize (qYb ext H i)=G at F hnx ⊢;refine hk _ _ (F.trans (Q5.newO _ _ _)) ⟨⟨H.next,rfl,by omega,by show H.next<G.next+1;omega,?_⟩,hb.byte⟩;rw[<- hnx];exact Ql _ _
theorem qJ5 {a b:SL} {Y Z:List CR} (ha:Chgs h a Y) (hb:Chgs h b Z) (he:Y.map CR.c=Z.map CR.c) (hlen:Y.length<8589934592) (hlf:Y.length<lf) (k:K (.bool true) h) :
  Qq Try.prog S lf (n+1) 14 [.sl a,.sl b] K h:=by
 refine QJ (hSD (by decide) (by decide)) (by kernel_rfl) ?_;rw[alike_nf];have la:=ha.len (by decide);have lb:=hb.len (by decide);have hYZ:Y.length=Z.length:=by have:=congrArg List.length he;simpa using this
 have ea:(Int.ofNat a.n:Int)=a.n:=rfl;have eb:(Int.ofNat b.n:Int)=b.n:=rfl;rw[decide_eq_true (show (Int.ofNat a.n:Int)=Int.ofNat b.n by omega),Bool.not_true,qAz];refine Qy.inv (λq z h'=>∃j:Nat,ZAt 86 [(0,.sl a),(1,.sl b),(5,.int .i64 (j:Int))] z/\h'=h/\j+q=Y.length) (n:=Y.length) hlf ⟨0,⟨rfl,rfl,rfl,rfl,trivial⟩,rfl,by omega⟩ ?_;rintro q z h' kk hq ⟨j,hz,rfl,hj⟩ ih;refine Qr _ hz λd=>(qSy _ _ _ _ _ _ _ _ _ _ _).mpr ?_;rw[q9];refine⟨λe=>?_,λe=>?_⟩
 .have hjx:j<Y.length:=by omega
  have hjy:j<Z.length:=by omega
  have na:=ha.nil_of (by decide) hjx;have nb:=hb.nil_of (by decide) hjy;have a1:=ha.len' (by decide) na;have b1:=hb.len' (by decide) nb;obtain⟨x,hx⟩:∃x,Y[j]?=some x:=⟨_,zE0 hjx⟩;obtain⟨y,hy⟩:∃y,Z[j]?=some y:=⟨_,zE0 hjy⟩;have hxy:x.c=y.c:=by
   have:=congrArg (·[j]?) he
   simp only[zV0,hx,hy,Option.map_some,Option.some.injEq] at this;exact this
  obtain⟨x1,x2,x3⟩:=ha.ok x (zD0 hx);obtain⟨y1,y2,y3⟩:=hb.ok y (zD0 hy);rw[hxy] at x1 x2 x3;have xa:∀(q:Nat) (v:AV),x.row[q]?=some v->q<5->cellAt h' a.i (Nat.add (a.o+j*5) q)=some v:=λq v hv hq=>ha.at' na hx hq hv;have yb:∀(q:Nat) (v:AV),y.row[q]?=some v->q<5->cellAt h' b.i (Nat.add (b.o+j*5) q)=some v:=λq v hv hq=>hb.at' nb hy hq hv;refine⟨na,qAe.2 ⟨by omega,rfl,rfl,Qh (xa 0 _ rfl (by decide)) (x1.zbytes ⟨nb,qAe.2 ⟨by omega,rfl,rfl,Qh (yb 0 _ rfl (by decide)) (y1.zbytes ?_)⟩⟩)⟩⟩;rw[decide_eq_true rfl,Bool.not_true,qAz];refine⟨na,qAe.2 ⟨by omega,rfl,rfl,qMa.2 ⟨x.c.had,xa 1 _ rfl (by decide),nb,qAe.2 ⟨by omega,rfl,rfl,qMa.2 ⟨y.c.had,yb 1 _ rfl (by decide),?_⟩⟩⟩⟩⟩;rw[hxy,decide_eq_true rfl,Bool.not_true,qHv,qAz];refine⟨na,qAe.2 ⟨by omega,rfl,rfl,qMa.2 ⟨x.c.has,xa 2 _ rfl (by decide),nb,qAe.2 ⟨by omega,rfl,rfl,qMa.2 ⟨y.c.has,yb 2 _ rfl (by decide),?_⟩⟩⟩⟩⟩;rw[hxy,decide_eq_true rfl,Bool.not_true,qHv,qAz];refine⟨na,qAe.2 ⟨by omega,rfl,rfl,Qh (xa 3 _ rfl (by decide)) (x2.zbytes ⟨nb,qAe.2 ⟨by omega,rfl,rfl,Qh (yb 3 _ rfl (by decide)) (y2.zbytes ?_)⟩⟩)⟩⟩;rw[decide_eq_true rfl,Bool.not_true,qHv,qAz];refine⟨na,qAe.2 ⟨by omega,rfl,rfl,Qh (xa 4 _ rfl (by decide)) (x3.zbytes ⟨nb,qAe.2 ⟨by omega,rfl,rfl,Qh (yb 4 _ rfl (by decide)) (y3.zbytes ?_)⟩⟩)⟩⟩;rw[decide_eq_true rfl,Bool.not_true,qHv,qAz];refine qAy.2 ?_;rw[QD (e:=(j:Int)+1) (by omega) (by omega)];exact ih (q-1) _ _ (by omega) ⟨j+1,⟨rfl,rfl,rfl,rfl,trivial⟩,rfl,by omega⟩
 .exact Qr (n:=86) [] ⟨rfl,trivial⟩ λd'=>(jA2 _ _ _ _ _).mpr k
end
end DfN
namespace DfN
open Go Go.X Go.X.Df Go.Proofs
abbrev Arr (g0 h:Q0) (s:SL) (l:List SL):Prop:=Grown g0 h s 1 l.length (l.map SL.av)
def AB (h:Q0) (i:Nat):Prop:=∃l:List SL,l≠[]/\h.get i=some (.cells (l.map SL.av) 1 true false)
abbrev KFr (kb:Nat) (h h':Q0):Prop:=Q5 (λi=>i=kb∨AB h i) h h'
theorem KFr.refl (kb:Nat) (h:Q0):KFr kb h h:=Q5.refl _ h
theorem KFr.trans {kb:Nat} {a b c:Q0} (x:KFr kb a b) (y:KFr kb b c):KFr kb a c :=
 x.back y λi hi e=>by
  by_cases hk:i=kb
  .exact .inl hk
  .by_cases ha:AB a i
   .exact .inr ha
   .obtain⟨l,h1,h2⟩:=e.resolve_left hk;exact .inr ⟨l,h1,by rw[<- x.same i hi λe=>e.elim hk ha];exact h2⟩
theorem KFr.of {kb:Nat} {a b:Q0} (x:Q5 Qa a b):KFr kb a b:=x.mono λ_ _ e=>e.elim
theorem sl_av_ne {s:SL} {q:IntKind} {n:Int}:s.av≠.int q n:=by
 unfold SL.av;cases s.nil with
 | true=>cases s.ext <;> simp
 | false=>simp
theorem qMo {h:Q0} {i:Nat} {k:List Nat} {e:Nat} {b m:Bool} (hg:h.get i=some (.cells (ofBytes k) e b m)):¬AB h i:=by
 rintro ⟨l,h1,h2⟩;rw[hg] at h2;cases l with
 | nil=>exact h1 rfl
 | cons s l =>
  simp only[Option.some.injEq,QB.cells.injEq] at h2;have h3:=h2.1;rw[qi] at h3;cases k with
  | nil=>cases h3
  | cons x k =>simp only[List.map_cons,List.cons.injEq] at h3;exact sl_av_ne h3.1.symm
theorem qMe {h0 h:Q0} {s:SL} {k:Ky} (w:qy h0 h s k) (e:s.nil=false):¬AB h s.i:=by rintro ⟨l,h1,h2⟩;obtain⟨_,_,_,c,_,hg,_⟩:=w.own e;rw[hg] at h2;cases h2
theorem qNe {h:Q0} {i:Nat} {c:List AV} {e:Nat} {m:Bool} (hg:h.get i=some (.cells c e false m)):¬AB h i:=by rintro ⟨l,h1,h2⟩;rw[hg] at h2;cases h2
structure BR where
 s:SL
 w:SL
 k:Ky
structure WOk (h:Q0) (w:SL) (k:Ky):Prop where
 byts:qz h w k
 own:w.nil=false->∃e,h.get w.i=some (.cells (ofBytes k) 1 e false)
theorem WOk.fr {h h':Q0} {w:SL} {k:Ky} {S:Nat->Prop} (x:WOk h w k) (f:Q5 S h h') (hs:w.nil=false->¬S w.i):WOk h' w k :=
 ⟨x.byts.fr f hs,λe=>by
  obtain⟨b,hb⟩:=x.own e;exact⟨b,(f.same _ (x.byts.seg.lt e) (hs e)).trans hb⟩⟩
theorem WOk.kfr {kb:Nat} {h h':Q0} {w:SL} {k:Ky} (x:WOk h w k) (f:KFr kb h h') (hk:w.nil=false->w.i≠kb):WOk h' w k :=
 x.fr f λe=>by
  obtain⟨b,hb⟩:=x.own e;rintro (e1 | e1)
  .exact hk e e1
  .exact qMo hb e1
theorem _root_.Go.X.qy.kfr {kb:Nat} {h0 h h':Q0} {s:SL} {k:Ky} (x:qy h0 h s k) (f:KFr kb h h') (hk:s.nil=false->s.i≠kb):qy h0 h' s k :=
 x.fr f λe=>by
  rintro (e1 | e1)
  .exact hk e e1
  .exact qMe x e e1
structure Book (g0 h:Q0) (kb:Nat) (L:List BR) (cs:List SL):Prop where
 lt:kb<g0.next
 at':∃l w c,Var h kb [l.av,w.av,.nils,c.av]/\Arr g0 h l (L.map BR.s)/\Arr g0 h w (L.map BR.w)/\Arr g0 h c cs/\(l.nil=false->L≠[])/\(w.nil=false->L≠[])/\(c.nil=false->cs≠[]) /\
  (l.nil=false->w.nil=false->l.i≠w.i)/\(l.nil=false->c.nil=false->l.i≠c.i)/\(w.nil=false->c.nil=false->w.i≠c.i)
 recs:∀r,r∈L->qy g0 h r.s r.k/\WOk h r.w r.k/\(r.w.nil=false->g0.next<=r.w.i)
theorem Arr.ab {g0 h:Q0} {s:SL} {l:List SL} (a:Arr g0 h s l) (hl:l≠[]) (e:s.nil=false):AB h s.i/\g0.next<=s.i/\s.i<h.next:=by
 rcases a.2 with ⟨_,rfl⟩ | ⟨_,_,_,_,_,h6,h7,h8⟩
 .cases e
 .exact⟨⟨l,hl,h8⟩,h6,h7⟩
theorem Book.fr {g0 h h':Q0} {kb:Nat} {L:List BR} {cs:List SL} (b:Book g0 h kb L cs) {S:Nat->Prop} (f:Q5 S h h') (hs:∀i,S i->i≠kb/\¬AB h i/\∀r,r∈L->(r.s.nil=false->i≠r.s.i)/\(r.w.nil=false->i≠r.w.i)):Book g0 h' kb L cs:=by
 obtain⟨l,w,c,v,a1,a2,a3,n1,n2,n3,d⟩:=b.at';refine⟨b.lt,⟨l,w,c,v.fr f λe=>(hs _ e).1 rfl,?_,?_,?_,n1,n2,n3,d⟩,λr hr=>?_⟩
 .exact a1.fr f λe e'=>(hs _ e').2.1 (Arr.ab a1 (by simpa using n1 e) e).1
 .exact a2.fr f λe e'=>(hs _ e').2.1 (Arr.ab a2 (by simpa using n2 e) e).1
 .exact a3.fr f λe e'=>(hs _ e').2.1 (Arr.ab a3 (n3 e) e).1
 .obtain⟨o,wo,hw⟩:=b.recs r hr;exact⟨o.fr f λe e'=>((hs _ e').2.2 r hr).1 e rfl,wo.fr f λe e'=>((hs _ e').2.2 r hr).2 e rfl,hw⟩
theorem Book.fr0 {g0 h h':Q0} {kb:Nat} {L:List BR} {cs:List SL} (b:Book g0 h kb L cs) (f:Q5 Qa h h'):Book g0 h' kb L cs:=b.fr f λ_ e=>e.elim
section
variable {S:QW} [GoodS S] {lf n:Nat} {h g0:Q0} {K:ZK} {kb:Nat} {L:List BR} {cs:List SL}
theorem qYf {k:Nat} (h:k<=8589934592):jy Try.prog 49 k=true:=by
 have e0:qJ4 Try.prog 49=some 24:=by kernel_rfl
 unfold jy;rw[e0];show cnd (Nat.ble (Nat.mul k 24) jX) (Nat.ble k jX) false=true;have e1:Nat.ble (Nat.mul k 24) jX=true:=zG0 (by show k*24<=1099511627776;omega);have e2:Nat.ble k jX=true:=zG0 (by show k<=1099511627776;omega);rw[e1,e2];rfl
theorem Arr.app1 {P:Program} {e:Nat} {s x:SL} {l:List SL} {A:Prop} (a:Arr g0 h s l) (hl:s.nil=false->l≠[]) (hg:g0.next<=h.next) (hr:jy P e (l.length+1)=true)
  (hA:∀h',Q5 (λi=>s.nil=false/\i=s.i) h h'->∀s',Arr g0 h' s' (l++[x])->s'.nil=false->h.next<=s'.i->s'.i<h'.next->s'=s.app h.next 1->h'=Qx h s 1 1 [x.av]->A):jz P h s e 1 1 [x.av] A:=by
 refine Grown.append1 a hg (by decide) rfl ?_ hr λg f hi=>?_
 .exact qH.2 λv hv=>by rw[List.mem_singleton.1 hv];exact jB _
 .have g':Arr g0 (Qx h s 1 1 [x.av]) (s.app h.next 1) (l++[x]):=by
   show Grown _ _ _ 1 (l++[x]).length _;rw[zC0,zW0];exact g
  have hn:(s.app h.next 1).nil=false:=by
   unfold SL.app;rw[show Nat.beq 1 0=false from rfl];simp only;cases s.nil with
   | true=>rfl
   | false=>cases Nat.ble (s.len+1) s.cap <;> rfl
  exact hA _ f _ g' hn hi (Arr.ab g' (by simp) hn).2.2 rfl rfl
end
end DfN
namespace DfN
open Go Go.X Go.X.Df Go.Proofs
structure Out (h0 h:Q0) (s:SL) (ys:List CR):Prop where
 seg:Seg h s 5 (ys.flatMap CR.row)
 own:s.nil=false->h0.next<=s.i/\s.o=0/\s.ext=false/\Head h s.i s.cap 5 (ys.flatMap CR.row)
 ok:∀y,y∈ys->y.Ok h0 h
 ap:s.nil=false->∀t,t∈ys.flatMap CR.sls->t.nil=false->t.i≠s.i
theorem Out.fr {h0 h h':Q0} {s:SL} {ys:List CR} {S:Nat->Prop} (x:Out h0 h s ys) (f:Q5 S h h') (hs:s.nil=false->¬S s.i) (ht:∀t,t∈ys.flatMap CR.sls->t.nil=false->¬S t.i):Out h0 h' s ys :=
 ⟨x.seg.fr f hs,λe=>by
  obtain⟨h1,h2,h3,h4⟩:=x.own e;exact⟨h1,h2,h3,h4.fr f (x.seg.lt e) (hs e)⟩,λy hy=>by
  obtain⟨o1,o2,o3⟩:=x.ok y hy;have m:∀t,t∈y.sls->t∈ys.flatMap CR.sls:=λt ht=>List.mem_flatMap.2 ⟨y,hy,ht⟩;exact⟨o1.fr f (ht _ (m _ (by simp[CR.sls]))),o2.fr f (ht _ (m _ (by simp[CR.sls]))),o3.fr f (ht _ (m _ (by simp[CR.sls])))⟩,x.ap⟩
theorem Out.mem {h0 h:Q0} {s:SL} {ys:List CR} (x:Out h0 h s ys) {t:SL} (ht:t∈ys.flatMap CR.sls):∃k,qy h0 h t k:=by
 obtain⟨y,hy,ht⟩:=List.mem_flatMap.1 ht;obtain⟨o1,o2,o3⟩:=x.ok y hy;simp only[CR.sls,zL0,zM0,or_false] at ht;rcases ht with rfl | rfl | rfl
 .exact⟨_,o1⟩
 .exact⟨_,o2⟩
 .exact⟨_,o3⟩
theorem Out.fr0 {h0 h h':Q0} {s:SL} {ys:List CR} (x:Out h0 h s ys) (f:Q5 Qa h h'):Out h0 h' s ys:=x.fr f (λ_=>id) λ_ _ _=>id
def CR.kvs (x:CR):List (SL × Ky):=[(x.ks,x.c.k),(x.os,x.c.old),(x.ns,x.c.new)]
theorem qWz:∀l:List CR,(l.flatMap CR.kvs).length=l.length*3
 | []=>rfl
 | x::l=>by rw[zU0,zC0,qWz l,zK0];show 3+_=_;omega
def qDh (c:Ch):Prop:=c.k.length<=4294967296/\c.old.length<=4294967296/\c.new.length<=4294967296
section
variable {S:QW} [GoodS S] {lf n:Nat} {h g0 h0:Q0} {K:ZK} {kb:Nat} {L:List BR} {cs:List SL} {Y:List CR}
theorem room34 {k:Nat} (h:k<=8589934592):jy Try.prog 34 k=true:=by
 have e0:qJ4 Try.prog 34=some 24:=by kernel_rfl
 unfold jy;rw[e0];show cnd (Nat.ble (Nat.mul k 24) jX) (Nat.ble k jX) false=true;have e1:Nat.ble (Nat.mul k 24) jX=true:=zG0 (by show k*24<=1099511627776;omega);have e2:Nat.ble k jX=true:=zG0 (by show k<=1099511627776;omega);rw[e1,e2];rfl
end
end DfN
namespace DfN
open Go Go.X Go.X.Df Go.Proofs
theorem _root_.Go.X.Head.take {h:Q0} {i cap sz:Nat} {cs:List AV} (x:Head h i cap sz cs) (m:Nat):Head h i cap sz (cs.take m):=by obtain⟨c,m',h1,h2,h3⟩:=x;refine⟨c,m',h1,h2,?_⟩;have e:=List.take_take (i:=m) (j:=cs.length) (l:=c);rw[h3] at e;rw[zY0];exact e.symm
theorem _root_.Go.X.qy.put {h0 h:Q0} {s:SL} {k:Ky} (x:qy h0 h s k) (e:s.nil=false) {v b:Nat} (hv:v<k.length) (hb:b<256):qy h0 (hput h s.i (s.o+v*1) [.int .u8 (.ofNat b)]) s (k.set v b):=by
 obtain⟨h1,h2,h3,c,mk,h4,h5,h6⟩:=x.own e;have hl:=x.byts.len;have hlt:=x.byts.seg.lt e;rw[Qt] at h6;have hkc:k.length<=c.length:=by
  have:=congrArg List.length h6
  rw[zY0,Qt] at this;omega
 rw[h2,Nat.zero_add,zC1];have g:=qEy (o:=v) (vs:=[AV.int .u8 (.ofNat b)]) h4;have hc':(c.take v++([AV.int .u8 (.ofNat b)]++c.drop (v+1))).take (k.set v b).length=ofBytes (k.set v b):=by
  rw[List.length_set];apply List.ext_getElem?;intro j;have hx:∀j,j<k.length->c[j]?=(ofBytes k)[j]?:=λj hj=>by rw[<- h6,List.getElem?_take,if_pos hj]
  rw[qi,zV0];by_cases hj:j<k.length
  .rw[List.getElem?_take,if_pos hj];rcases Nat.lt_trichotomy j v with e1 | e1 | e1
   .rw[List.getElem?_append_left (by rw[zY0];omega),List.getElem?_take,if_pos e1,hx j hj,List.getElem?_set_ne (by omega),qi,zV0]
   .subst e1;rw[zD1 (by rw[zY0];omega),zY0,show j-min j c.length=0 by omega,List.getElem?_set_self hj];rfl
   .rw[zD1 (by rw[zY0];omega),zY0,show j-min v c.length=(j-v-1)+1 by omega];show (c.drop (v+1))[j-v-1]?=_;rw[List.getElem?_drop,show v+1+(j-v-1)=j by omega,hx j hj,List.getElem?_set_ne (by omega),qi,zV0]
  .rw[List.getElem?_take,if_neg hj,List.getElem?_eq_none (by rw[List.length_set];omega)];rfl
 have hlen:(c.take v++([AV.int .u8 (.ofNat b)]++c.drop (v+1))).length=s.cap*1:=by simp only[zC0,zY0,List.length_drop,zK0,List.length_nil];omega
 have hd:Head (hput h s.i v [.int .u8 (.ofNat b)]) s.i s.cap 1 (ofBytes (k.set v b)):=⟨_,_,g,hlen,by rw[Qt];exact hc'⟩;have hse:s=⟨false,s.i,0,(k.set v b).length,s.cap,false⟩:=by obtain⟨nil,i,o,len,cap,ext⟩:=s;rw[List.length_set];simp only[SL.mk.injEq];rw[SL.n_of e] at hl;exact⟨e,trivial,h2,hl,trivial,h3⟩
 refine⟨⟨?_,λy hy=>?_⟩,λ_=>⟨h1,h2,h3,hd⟩,x.nils⟩
 .have:=hd.seg (n:=(k.set v b).length) (by rw[qg];exact hlt) (by rw[Qt,zC1]) false
  rw[hse];exact this
 .rcases List.mem_or_eq_of_mem_set hy with h | h
  .exact x.byts.byte y h
  .rw[h];exact hb
abbrev marks (m c:Nat):Ky:=List.replicate c m
theorem qYp {m c:Nat} (h:m<256):∀x,x∈marks m c->x<256:=λx hx=>by rw[(List.mem_replicate.1 hx).2];exact h
structure EB (g0 h:Q0) (kb:Nat) (l:SL) (ss:List SL) (cont:Nat->Ky):Prop where
 lt:kb<g0.next
 var:∃w e c,Var h kb [l.av,w,e,c]
 arr:Arr g0 h l ss
 nn:l.nil=false->ss≠[]
 own:∀j s,ss[j]?=some s->qy g0 h s (cont j)
 ap:ss.Pairwise λs t=>s.nil=false->t.nil=false->s.i≠t.i
section
variable {S:QW} [GoodS S] {lf n:Nat} {h g0:Q0} {K:ZK} {kb:Nat} {l:SL} {ss:List SL} {cont:Nat->Ky}
theorem EB.len (b:EB g0 h kb l ss cont):l.n=ss.length:=Grown.n_eq b.arr
theorem EB.at' (b:EB g0 h kb l ss cont) {j:Nat} {s:SL} (hj:ss[j]?=some s):l.nil=false/\j<l.len/\cellAt h l.i (l.o+j*1)=some s.av:=by
 have hlt:j<ss.length:=(List.getElem?_eq_some_iff.1 hj).1;have hl:=b.len;have hn:l.nil=false:=by
  cases e:l.nil with
  | false=>rfl
  | true=>rw[SL.n_nil e] at hl;omega
 refine⟨hn,by rw[SL.n_of hn] at hl;omega,?_⟩;exact (Grown.seg b.arr).at' hn (q:=j*1) (by rw[zC1,zV0,hj];rfl)
theorem EB.ne {i j:Nat} {s t:SL} (b:EB g0 h kb l ss cont) (hi:ss[i]?=some s) (hj:ss[j]?=some t) (hij:i≠j) (e1:s.nil=false) (e2:t.nil=false):s.i≠t.i:=by
 have hp:=List.pairwise_iff_getElem.1 b.ap;obtain⟨hi1,hi2⟩:=List.getElem?_eq_some_iff.1 hi;obtain⟨hj1,hj2⟩:=List.getElem?_eq_some_iff.1 hj;rcases Nat.lt_or_gt_of_ne hij with h | h
 .have:=hp i j hi1 hj1 h
  rw[hi2,hj2] at this;exact this e1 e2
 .have:=hp j i hj1 hi1 h
  rw[hi2,hj2] at this;exact λe=>this e2 e1 e.symm
theorem EB.fr (b:EB g0 h kb l ss cont) {h':Q0} {T:Nat->Prop} (f:Q5 T h h') (hT:∀i,T i->i≠kb/\¬(l.nil=false/\i=l.i)) {cont':Nat->Ky} (ho:∀j s,ss[j]?=some s->qy g0 h' s (cont' j)):EB g0 h' kb l ss cont':=by obtain⟨w,we,c,v⟩:=b.var;exact⟨b.lt,⟨w,we,c,v.fr f λe=>(hT _ e).1 rfl⟩,b.arr.fr f λe e'=>(hT _ e').2 ⟨e,rfl⟩,b.nn,ho,b.ap⟩
theorem EB.one (b:EB g0 h kb l ss cont) {i:Nat} {s:SL} (hi:ss[i]?=some s) (e:s.nil=false) {h':Q0} (f:Q5 (λj=>j=s.i) h h') {k:Ky} (ho:qy g0 h' s k):EB g0 h' kb l ss (λj=>if j=i then k else cont j):=by
 have hs:=b.own i s hi;refine b.fr f (λj hj=>?_) λj t ht=>?_
 .have hj:j=s.i:=hj
  have:=(hs.own e).1
  have:=b.lt
  refine⟨by omega,λ⟨e1,e2⟩=>?_⟩;have ha:=Arr.ab b.arr (b.nn e1) e1;rw[<- e2,hj] at ha;exact qMe hs e ha.1
 .by_cases hji:j=i
  .subst hji;rw[hi] at ht;cases ht;rw[if_pos rfl];exact ho
  .rw[if_neg hji];exact (b.own j t ht).fr f λe2 e3=>b.ne ht hi hji e2 e e3
theorem EB.cong {cont':Nat->Ky} (b:EB g0 h kb l ss cont) (hc:∀j,j<ss.length->cont j=cont' j):EB g0 h kb l ss cont' :=
 ⟨b.lt,b.var,b.arr,b.nn,λj s hj=>by rw[<- hc j (List.getElem?_eq_some_iff.1 hj).1];exact b.own j s hj,b.ap⟩
theorem EB.fr0 (b:EB g0 h kb l ss cont) {h':Q0} (f:Q5 Qa h h'):EB g0 h' kb l ss cont :=
 b.fr f (λ_ e=>e.elim) λj s hj=>(b.own j s hj).fr f λ_=>id
theorem fill_ok {z:ZT} {k X2:ZT->Q0->Prop} {E:List (Nat × (ZT->Q0->Prop))} {i:Nat} {s:SL} (b:EB g0 h kb l ss cont) (hi:ss[i]?=some s) (hz:ZAt 176 [(0,.pv false kb 0),(4,.int .i64 (i:Int))] z) (hlen:(cont i).length<1000000000) (hss:ss.length<1000000000) (hlf:(cont i).length<lf)
  (hk:∀z h',ZAt 176 [(0,.pv false kb 0),(4,.int .i64 ((i+1:Nat):Int))] z->Q5 (λj=>s.nil=false/\j=s.i) h h'->EB g0 h' kb l ss (λj=>if j=i then marks (mkB i) (cont i).length else cont j)->k z h') :
  zAt Try.prog (Qq Try.prog S lf (n+1)) lf 18 [1,1,0,1,0,0] z k ⟨(2,X2)::E,Q3 Try.prog 18 K⟩ h:=by
 refine Qr _ hz λd=>(qLx _ _ _ _ _ _ _ _ _ _).mpr ?_;obtain⟨w,we,c,v⟩:=b.var;obtain⟨hn,hil,hcell⟩:=b.at' hi;have el:(Int.ofNat l.n:Int)=l.n:=rfl;have hln:=b.len;refine⟨rfl,rfl,rfl,v.ldL l rfl ?_⟩;rw[decide_eq_true (show (i:Int)<Int.ofNat l.n by rw[SL.n_of hn] at el;rw[SL.n_of hn,el];omega),qBi];have hs:=b.own i s hi;have hsl:=hs.byts.len
 refine Qy.inv (λq z h'=>∃j:Nat,ZAt 176 [(0,.pv false kb 0),(4,.int .i64 (i:Int)),(5,.int .i64 (j:Int))] z/\Q5 (λj=>s.nil=false/\j=s.i) h h'/\j+q=(cont i).length/\EB g0 h' kb l ss (λx=>if x=i then marks (mkB i) j++(cont i).drop j else cont x)) (n:=(cont i).length) hlf
  ⟨0,⟨rfl,rfl,rfl,rfl,trivial⟩,Q5.refl _ _,by omega,b.cong λj _=>by
   by_cases hj:j=i
   .subst hj;rw[if_pos rfl];rfl
   .rw[if_neg hj]⟩ ?_
 rintro q z h1 kk hq ⟨j,hz,f1,hj,b1⟩ ih;refine Qr _ hz λd=>(qJ1 _ _ _ _ _ _ _ _ _ _ _ _ _).mpr ?_;obtain⟨w1,w1e,c1,v1⟩:=b1.var;obtain⟨_,_,hcell1⟩:=b1.at' hi;have hs1:=b1.own i s hi;have hs1:qy g0 h1 s (marks (mkB i) j++(cont i).drop j):=by simp only[if_true] at hs1;exact hs1
 have es:(Int.ofNat s.n:Int)=s.n:=rfl;refine⟨rfl,rfl,rfl,v1.ldL l rfl ⟨hn,qAe.2 ⟨hil,rfl,Qh hcell1 ?_⟩⟩⟩;rw[q9];refine⟨λe=>?_,λe=>?_⟩
 .have hjc:j<(cont i).length:=by omega
  have sn:s.nil=false:=by
   cases e0:s.nil with
   | false=>rfl
   | true=>rw[SL.n_nil e0] at hsl;omega
  have sl:=SL.n_of sn;refine⟨rfl,rfl,rfl,v1.ldL l rfl ⟨hn,qAe.2 ⟨hil,rfl,Qh hcell1 (qF3 ?_)⟩⟩⟩;rw[qA0];refine qFa.2 ⟨⟨rfl,Qh hcell1 rfl⟩,⟨rfl,v1.ldL l rfl rfl⟩,sn,qAe.2 ⟨by omega,rfl,?_⟩⟩;have hlen1:(marks (mkB i) j++(cont i).drop j).length=(cont i).length:=by rw[zC0,zZ0,List.length_drop];omega
  have hp:=hs1.put sn (v:=j) (b:=mkB i) (by omega) (mkB_lt i);have hf:Q5 (λx=>x=s.i) h1 (hput h1 s.i (s.o+j*1) [.int .u8 (.ofNat (mkB i))]):=Q5.hput h1 _ _ λ_=>rfl;refine qAv ?_ ?_
  .obtain⟨_,p2,p3,cc,mk,p4,p5,p6⟩:=hs1.own sn;refine⟨hs1.byts.seg.lt sn,cc,1,false,mk,p4,?_⟩
   have:=congrArg List.length p6
   rw[zY0,Qt] at this;rw[p2];omega
  .refine qAy.2 ?_;rw[QD (e:=(j:Int)+1) (by omega) (by omega)];refine ih (q-1) _ _ (by omega) ⟨j+1,⟨rfl,rfl,rfl,rfl,trivial⟩,f1.trans (hf.mono λ_ _ e=>⟨sn,e⟩),by omega,(b1.one hi sn hf hp).cong λx _=>?_⟩;by_cases hx:x=i
   .subst hx;rw[if_pos rfl,if_pos rfl];apply List.ext_getElem?;intro y;rcases Nat.lt_trichotomy y j with e1 | e1 | e1
    .rw[List.getElem?_set_ne (by omega),List.getElem?_append_left (by rw[zZ0];omega),List.getElem?_append_left (by rw[zZ0];omega),List.getElem?_replicate_of_lt e1,List.getElem?_replicate_of_lt (by omega)]
    .subst e1;rw[List.getElem?_set_self (by omega),List.getElem?_append_left (by rw[zZ0];omega),List.getElem?_replicate_of_lt (by omega)]
    .rw[List.getElem?_set_ne (by omega),zD1 (by rw[zZ0];omega),zD1 (by rw[zZ0];omega),zZ0,zZ0,List.getElem?_drop,List.getElem?_drop];congr 1;omega
   .rw[if_neg hx,if_neg hx,if_neg hx]
 .refine Qr (n:=176) [(0,.pv false kb 0),(4,.int .i64 (i:Int))] ⟨rfl,rfl,rfl,trivial⟩ λd'=>(qO9 _ _ _ _ _ _ _ _ _ _).mpr ?_;have hje:j=(cont i).length:=by omega
  have hil2:i<ss.length:=(List.getElem?_eq_some_iff.1 hi).1;refine qAy.2 ?_;rw[QD (e:=(i:Int)+1) (by omega) (by omega)];refine hk _ _ ⟨rfl,rfl,rfl,trivial⟩ f1 (b1.cong λx _=>?_);by_cases hx:x=i
  .rw[if_pos hx,if_pos hx,hje,List.drop_length,zS0]
  .rw[if_neg hx,if_neg hx]
end
end DfN
namespace DfN
open Go Go.X Go.X.Df Go.Proofs
theorem qP1 {m c d:Nat} (h:c<=d):(ofBytes (marks m d)).take c=ofBytes (marks m c):=by rw[qi,qi,<- List.map_take,List.take_replicate,Nat.min_eq_left h]
theorem qUp (m c:Nat):ofBytes (marks m c)++[AV.int .u8 (.ofNat m)]=ofBytes (marks m (c+1)):=by rw[show [AV.int .u8 (.ofNat m)]=ofBytes [m] from rfl,<- qDy];show ofBytes (List.replicate c m++List.replicate 1 m)=_;rw[List.replicate_append_replicate]
theorem qFg (m c:Nat):(ofBytes (marks m c)).length=c:=by rw[Qt,zZ0]
section
variable {h0 h h1 h2:Q0} {s g:SL} {m c:Nat}
theorem qU8 {g0:Q0} (w:qy g0 h s (marks m c)):Ext h h s s 1 c (ofBytes (marks m c)):=by
 have hl:=w.byts.len;rw[zZ0] at hl;cases e:s.nil with
 | true =>
  have hs:=w.nils e;have hc:c=0:=by rw[SL.n_nil e] at hl;omega
  subst hs;subst hc;exact⟨.inl ⟨rfl,Grown.start _ _ _⟩⟩
 | false =>
  obtain⟨h1,h2,h3,h4⟩:=w.own e;have hlt:=w.byts.seg.lt e;have hle:=h4.len;rw[qFg,zC1] at hle;have hse:s=⟨false,s.i,0,c,s.cap,false⟩:=by obtain⟨nil,i,o,len,cap,ext⟩:=s;simp only[SL.mk.injEq];rw[SL.n_of e] at hl;exact⟨e,trivial,h2,hl,trivial,h3⟩
  refine⟨.inr ⟨e,hlt,?_⟩⟩
  have:=More.start (h0:=h) h4 (by rw[qFg,zC1]) hlt hle
  rw[<- hse] at this;exact this
theorem qYv (x:Ext h0 h s g 1 c (ofBytes (marks m c))) (hm:m<256):qz h g (marks m c):=⟨x.seg,qYp hm⟩
theorem ext_nn (x:Ext h0 h s g 1 c (ofBytes (marks m c))) (hc:0<c):g.nil=false:=by
 cases e:g.nil with
 | false=>rfl
 | true=>have:=x.seg.nil_cs e;have:=congrArg List.length this;rw[qFg] at this;simp at this;omega
theorem ext_ab (x:Ext h0 h s g 1 c (ofBytes (marks m c))) (e:g.nil=false):¬AB h g.i:=by
 rcases x.is with ⟨_,h1⟩ | ⟨_,_,h1⟩
 .rcases h1.2 with ⟨_,rfl⟩ | ⟨_,_,_,_,_,_,_,h8⟩
  .cases e
  .exact qMo h8
 .rcases h1.is with ⟨_,rfl,h3,_,_⟩ | ⟨_,h3,_,_,_⟩
  .obtain⟨c,_,h4,_⟩:=h3;exact qNe h4
  .rcases h3.2 with ⟨_,rfl⟩ | ⟨_,_,_,_,_,_,_,h8⟩
   .cases e
   .exact qMo h8
theorem ext_keep {hh:SL} {d:Nat} (xa:Ext h h1 s g 1 c (ofBytes (marks m c))) (xb:Ext h1 h2 s hh 1 d (ofBytes (marks m d))) (hcd:c<=d) (hc:0<c) (hm:m<256) (f:Q5 (λj=>s.nil=false/\j=s.i) h1 h2) :
  qz h2 g (marks m c)/\¬AB h2 g.i:=by
 have e:=ext_nn xa hc;have hab:=ext_ab xa e;have hb:=qYv xa hm;by_cases hin:s.nil=false/\g.i=s.i
 .obtain⟨sn,gi⟩:=hin;rcases xa.is with ⟨e1,_⟩ | ⟨_,y1,y2⟩
  .rw[e1] at sn;cases sn
  .rcases y2.is with ⟨z1,rfl,z3,z4,z5⟩ | ⟨_,z2,_,_,_⟩
   .rcases xb.is with ⟨e1,_⟩ | ⟨_,y3,y4⟩
    .rw[e1] at sn;cases sn
    .have hd:=(y4.head).take c;rw[List.take_take,zC1,Nat.min_eq_left z1,qP1 hcd] at hd;have hlt:s.i<h2.next:=zF0 z5 f.next
     refine⟨⟨hd.seg hlt (by rw[qFg,zC1]) _,qYp hm⟩,?_⟩;obtain⟨cc,_,hg,_⟩:=hd;exact qNe hg
   .rcases z2.2 with ⟨_,rfl⟩ | ⟨_,_,_,_,_,h6,_⟩
    .cases e
    .omega
 .have hnt:¬(s.nil=false/\g.i=s.i):=hin;refine⟨hb.fr f λ_=>hnt,?_⟩;rintro ⟨l,h3,h4⟩;exact hab ⟨l,h3,by rw[<- f.same _ (hb.seg.lt e) hnt];exact h4⟩
theorem qYu {g0:Q0} (w:qy g0 h s (marks m c)) {d:Nat} (x:Ext h h1 s g 1 d (ofBytes (marks m d))) (hcd:c<=d) (f:Q5 (λj=>s.nil=false/\j=s.i) h h1):qy g0 h1 s (marks m c):=by
 cases e:s.nil with
 | true=>exact w.fr f λe1=>by rw[e] at e1;cases e1
 | false =>
  obtain⟨w1,w2,w3,w4⟩:=w.own e;have hle:=w4.len;rw[qFg,zC1] at hle;have hl:=w.byts.len;rw[zZ0,SL.n_of e] at hl;rcases x.is with ⟨e1,_⟩ | ⟨_,y1,y2⟩
  .rw[e1] at e;cases e
  .have hd:=(y2.head).take c;rw[List.take_take,zC1,Nat.min_eq_left hle,qP1 hcd] at hd;have hlt:s.i<h1.next:=zF0 (w.byts.seg.lt e) f.next
   have hse:s=⟨false,s.i,0,c,s.cap,false⟩:=by obtain⟨nil,i,o,len,cap,ext⟩:=s;simp only[SL.mk.injEq];exact⟨e,trivial,w2,hl,trivial,w3⟩
   refine⟨⟨?_,w.byts.byte⟩,λ_=>⟨w1,w2,w3,hd⟩,w.nils⟩;rw[hse];exact hd.seg hlt (by rw[qFg,zC1]) _
end
section
variable {S:QW} [GoodS S] {lf n:Nat} {h g0:Q0} {K:ZK} {kb:Nat}
theorem growA_ok {z:ZT} {X8 X7 X6:ZT->Q0->Prop} {E:List (Nat × (ZT->Q0->Prop))} {i c:Nat} {s v6:SL} (x:Ext h h s s 1 c (ofBytes (marks (mkB i) c))) (hc:c<1000000000) (hlf:20<lf)
  (hz:ZAt 176 [(0,.pv false kb 0),(6,.sl v6),(7,.int .i64 (i:Int)),(8,.sl s),(9,.int .i64 0)] z)
  (hk:∀z h1 g,ZAt 176 [(0,.pv false kb 0),(6,.sl v6),(7,.int .i64 (i:Int)),(8,.sl g)] z->Ext h h1 s g 1 (c+20) (ofBytes (marks (mkB i) (c+20)))->Q5 (λj=>s.nil=false/\j=s.i) h h1->X8 z h1) :
  Qy lf (zAt Try.prog (Qq Try.prog S lf (n+1)) lf 18 [1,1,1,1,0,1,0,0,1,0,0,1,0,1,0,0]) z ⟨(8,X8)::(7,X7)::(6,X6)::E,Q3 Try.prog 18 K⟩ h:=by
 refine Qy.inv (λq z h'=>∃(j:Nat) (g:SL),ZAt 176 [(0,.pv false kb 0),(6,.sl v6),(7,.int .i64 (i:Int)),(8,.sl g),(9,.int .i64 (j:Int))] z/\Q5 (λj=>s.nil=false/\j=s.i) h h'/\j+q=20/\Ext h h' s g 1 (c+j) (ofBytes (marks (mkB i) (c+j)))) (n:=20) hlf
  ⟨0,s,hz,Q5.refl _ _,by omega,x⟩ ?_
 rintro q z h1 kk hq ⟨j,g,hz,f1,hj,x1⟩ ih;refine Qr _ hz λd=>(qGn _ _ _ _ _ _ _ _ _ _ _ _ _ _ _).mpr ?_;rw[q9];refine⟨λe=>qF3 ?_,λe=>?_⟩
 .rw[qA0];refine qFa.2 ?_;have f2:Q5 Qa h1 (h1.newO (.cells [.int .u8 (.ofNat (mkB i))] 1 false false)):=Q5.newO _ _ _;have sg:Seg (h1.newO (.cells [.int .u8 (.ofNat (mkB i))] 1 false false)) ⟨false,h1.next,0,1,1,false⟩ 1 [.int .u8 (.ofNat (mkB i))]:=Seg.own (more:=[]) rfl (zO0 _) (by rw[zS0];exact Ql _ _);have hn1:=f1.next
  have x2:Ext h (h1.newO (.cells [.int .u8 (.ofNat (mkB i))] 1 false false)) s g 1 (c+j) (ofBytes (marks (mkB i) (c+j))):=x1.fr f2 (λ_=>id) (λ_ _ _ _=>id) hn1;refine sg.zsrc ?_;have f12:Q5 (λj=>s.nil=false/\j=s.i) h (h1.newO (.cells [.int .u8 (.ofNat (mkB i))] 1 false false)):=f1.trans (f2.mono λ_ _ e=>e.elim);have hn2:(h1.newO (.cells [.int .u8 (.ofNat (mkB i))] 1 false false)).next=h1.next+1:=rfl
  generalize h1.newO (.cells [.int .u8 (.ofNat (mkB i))] 1 false false)=H at x2 f12 hn2 ⊢;refine x2.append rfl (by rfl) (qWi (by omega)) (by omega) λx3 f3=>?_;refine qAy.2 ?_;rw[QD (e:=(j:Int)+1) (by omega) (by omega)];rw[qUp] at x3;exact ih (q-1) _ _ (by omega) ⟨j+1,_,⟨rfl,rfl,rfl,rfl,rfl,rfl,trivial⟩,f12.back f3 λy hy e=>e.elim id λe=>by omega,by omega,x3⟩
 .have hje:j=20:=by omega
  subst hje;exact hk _ _ g ⟨rfl,rfl,rfl,rfl,rfl,trivial⟩ x1 f1
theorem growB_ok {z:ZT} {X10 X7 X6:ZT->Q0->Prop} {E:List (Nat × (ZT->Q0->Prop))} {i c:Nat} {s v6:SL} {v8:SL} (x:Ext h h s s 1 c (ofBytes (marks (mkB i) c))) (hc:c<1000000000) (hlf:90<lf)
  (hz:ZAt 176 [(0,.pv false kb 0),(6,.sl v6),(7,.int .i64 (i:Int)),(8,.sl v8),(10,.sl s),(11,.int .i64 0)] z)
  (hk:∀z h1 g,ZAt 176 [(0,.pv false kb 0),(6,.sl v6),(7,.int .i64 (i:Int)),(8,.sl v8),(10,.sl g)] z->Ext h h1 s g 1 (c+90) (ofBytes (marks (mkB i) (c+90)))->Q5 (λj=>s.nil=false/\j=s.i) h h1->X10 z h1) :
  Qy lf (zAt Try.prog (Qq Try.prog S lf (n+1)) lf 18 [1,1,1,1,0,1,0,0,1,0,0,1,1,1,0,1,0,0]) z ⟨(10,X10)::(7,X7)::(6,X6)::E,Q3 Try.prog 18 K⟩ h:=by
 refine Qy.inv (λq z h'=>∃(j:Nat) (g:SL),ZAt 176 [(0,.pv false kb 0),(6,.sl v6),(7,.int .i64 (i:Int)),(8,.sl v8),(10,.sl g),(11,.int .i64 (j:Int))] z/\Q5 (λj=>s.nil=false/\j=s.i) h h'/\j+q=90/\Ext h h' s g 1 (c+j) (ofBytes (marks (mkB i) (c+j)))) (n:=90) hlf
  ⟨0,s,hz,Q5.refl _ _,by omega,x⟩ ?_
 rintro q z h1 kk hq ⟨j,g,hz,f1,hj,x1⟩ ih;refine Qr _ hz λd=>(qFi _ _ _ _ _ _ _ _ _ _ _ _ _ _ _ _).mpr ?_;rw[q9];refine⟨λe=>qF3 ?_,λe=>?_⟩
 .rw[qA0];refine qFa.2 ?_;have f2:Q5 Qa h1 (h1.newO (.cells [.int .u8 (.ofNat (mkB i))] 1 false false)):=Q5.newO _ _ _;have sg:Seg (h1.newO (.cells [.int .u8 (.ofNat (mkB i))] 1 false false)) ⟨false,h1.next,0,1,1,false⟩ 1 [.int .u8 (.ofNat (mkB i))]:=Seg.own (more:=[]) rfl (zO0 _) (by rw[zS0];exact Ql _ _);have hn1:=f1.next
  have x2:Ext h (h1.newO (.cells [.int .u8 (.ofNat (mkB i))] 1 false false)) s g 1 (c+j) (ofBytes (marks (mkB i) (c+j))):=x1.fr f2 (λ_=>id) (λ_ _ _ _=>id) hn1;refine sg.zsrc ?_;have f12:Q5 (λj=>s.nil=false/\j=s.i) h (h1.newO (.cells [.int .u8 (.ofNat (mkB i))] 1 false false)):=f1.trans (f2.mono λ_ _ e=>e.elim);have hn2:(h1.newO (.cells [.int .u8 (.ofNat (mkB i))] 1 false false)).next=h1.next+1:=rfl
  generalize h1.newO (.cells [.int .u8 (.ofNat (mkB i))] 1 false false)=H at x2 f12 hn2 ⊢;refine x2.append rfl (by rfl) (qWi (by omega)) (by omega) λx3 f3=>?_;refine qAy.2 ?_;rw[QD (e:=(j:Int)+1) (by omega) (by omega)];rw[qUp] at x3;exact ih (q-1) _ _ (by omega) ⟨j+1,_,⟨rfl,rfl,rfl,rfl,rfl,rfl,rfl,trivial⟩,f12.back f3 λy hy e=>e.elim id λe=>by omega,by omega,x3⟩
 .have hje:j=90:=by omega
  subst hje;exact hk _ _ g ⟨rfl,rfl,rfl,rfl,rfl,rfl,trivial⟩ x1 f1
end
end DfN
namespace DfN
open Go Go.X Go.X.Df Go.Proofs
structure GOk (hB h:Q0) (s g:SL) (k:Ky):Prop where
 byts:qz h g k
 nn:g.nil=false
 ab:¬AB h g.i
 own:(s.nil=false/\g.i=s.i)∨hB.next<=g.i
theorem GOk.fr {hB h h':Q0} {s g:SL} {k:Ky} {T:Nat->Prop} (x:GOk hB h s g k) (f:Q5 T h h') (hT:¬T g.i):GOk hB h' s g k :=
 ⟨x.byts.fr f λ_=>hT,x.nn,by
  rintro ⟨l,h3,h4⟩;exact x.ab ⟨l,h3,by rw[<- f.same _ (x.byts.seg.lt x.nn) hT];exact h4⟩,x.own⟩
def two2 (p:SL × SL):List SL:=[p.1,p.2]
structure P3 (g0 hB h:Q0) (kb:Nat) (l:SL) (ss:List SL) (nl:Nat->Nat) (v6:SL) (G:List (SL × SL)):Prop where
 eb:EB g0 h kb l ss (λj=>marks (mkB j) (nl j))
 arr:Arr hB h v6 (G.flatMap two2)
 nn:v6.nil=false->G≠[]
 le:hB.next<=h.next
 old:∀s,s∈ss->s.nil=false->s.i<hB.next
 lk:kb<hB.next/\(l.nil=false->l.i<hB.next)
 gs:∀(j:Nat) s p,ss[j]?=some s->G[j]?=some p->GOk hB h s p.1 (marks (mkB j) (nl j+20))/\GOk hB h s p.2 (marks (mkB j) (nl j+90))
section
variable {S:QW} [GoodS S] {lf n:Nat} {h g0 hB:Q0} {K:ZK} {kb:Nat} {l:SL} {ss:List SL} {cont:Nat->Ky}
theorem EB.keep (b:EB g0 h kb l ss cont) {i:Nat} {s:SL} (hi:ss[i]?=some s) {h':Q0} (f:Q5 (λj=>s.nil=false/\j=s.i) h h') (ho:qy g0 h' s (cont i)):EB g0 h' kb l ss cont:=by
 cases e:s.nil with
 | true=>exact b.fr0 (f.mono λ_ _ e1=>by rw[e] at e1;cases e1.1)
 | false =>
  refine (b.one hi e (f.mono λ_ _ e1=>e1.2) ho).cong λj _=>?_;by_cases hj:j=i
  .subst hj;rw[if_pos rfl]
  .rw[if_neg hj]
theorem qFs:∀G:List (SL × SL),(G.flatMap two2).length=G.length*2
 | []=>rfl
 | x::l=>by rw[zU0,zC0,qFs l,zK0];show 2+_=_;omega
theorem qWb:∀(G:List (SL × SL)) (j:Nat) (p:SL × SL),G[j]?=some p->(G.flatMap two2)[2*j]?=some p.1/\(G.flatMap two2)[2*j+1]?=some p.2
 | [],j,p,h=>by cases h
 | x::G,0,p,h=>by cases h;exact⟨rfl,rfl⟩
 | x::G,j+1,p,h=>qWb G j p (by simpa using h)
theorem p3_ok {nl:Nat->Nat} {v6:SL} {G:List (SL × SL)} {z:ZT} {k X6:ZT->Q0->Prop} {E:List (Nat × (ZT->Q0->Prop))} {i:Nat} {s:SL} (p:P3 g0 hB h kb l ss nl v6 G) (hi:ss[i]?=some s) (hG:G.length=i) (hz:ZAt 176 [(0,.pv false kb 0),(6,.sl v6),(7,.int .i64 (i:Int))] z)
  (hnl:nl i<1000000000) (hss:ss.length<1000000000) (hlf:90<lf)
  (hk:∀z h' v6' q,ZAt 176 [(0,.pv false kb 0),(6,.sl v6'),(7,.int .i64 ((i+1:Nat):Int))] z->P3 g0 hB h' kb l ss nl v6' (G++[q])->Q5 (λx=>(∃s,s∈ss/\s.nil=false/\x=s.i)∨hB.next<=x) h h'->k z h') :
  zAt Try.prog (Qq Try.prog S lf (n+1)) lf 18 [1,1,1,1,0,1,0,0] z k ⟨(6,X6)::E,Q3 Try.prog 18 K⟩ h:=by
 refine Qr _ hz λd=>(qHz _ _ _ _ _ _ _ _ _ _ _).mpr ?_;have b:=p.eb;obtain⟨w,we,c,v⟩:=b.var;obtain⟨hn,hil,hcell⟩:=b.at' hi;have hln:=b.len;have hmem:=zD0 hi;refine⟨rfl,rfl,rfl,v.ldL l rfl ?_⟩;rw[decide_eq_true (show (i:Int)<Int.ofNat l.n by rw[SL.n_of hn];show (i:Int)<(l.len:Int);omega),qBi];refine⟨rfl,rfl,rfl,v.ldL l rfl ⟨hn,qAe.2 ⟨hil,rfl,Qh hcell ?_⟩⟩⟩;have hs:qy g0 h s (marks (mkB i) (nl i)):=b.own i s hi;have hm:=mkB_lt i;refine growA_ok (qU8 hs) hnl (by omega) ⟨rfl,rfl,rfl,rfl,rfl,rfl,trivial⟩ λz1 h1 g hz1 xa f1=>?_;have hs1:=qYu hs xa (by omega) f1;have b1:EB g0 h1 kb l ss (λj=>marks (mkB j) (nl j)):=b.keep hi f1 hs1;obtain⟨w1,w1e,c1,v1⟩:=b1.var;obtain⟨_,_,hcell1⟩:=b1.at' hi;have ga:=ext_nn xa (by omega);refine Qr _ hz1 λd1=>(qIs _ _ _ _ _ _ _ _ _ _ _ _ _).mpr ?_;refine⟨rfl,rfl,rfl,v1.ldL l rfl ⟨hn,qAe.2 ⟨hil,rfl,Qh hcell1 ?_⟩⟩⟩;refine growB_ok (qU8 hs1) hnl hlf ⟨rfl,rfl,rfl,rfl,rfl,rfl,rfl,trivial⟩ λz2 h2 hh hz2 xb f2=>?_;have hs2:=qYu hs1 xb (by omega) f2;have b2:EB g0 h2 kb l ss (λj=>marks (mkB j) (nl j)):=b1.keep hi f2 hs2;have gb:=ext_nn xb (by omega);obtain⟨ka1,ka2⟩:=ext_keep xa xb (by omega) (by omega) hm f2;have kb1:=qYv xb hm;have kb2:=ext_ab xb gb;have hle:=p.le;have hsold:=p.old s hmem;have hn1:=f1.next
 have hn2:=f2.next
 refine Qr _ hz2 λd2=>(qG8 _ _ _ _ _ _ _ _ _ _ _ _ _ _).mpr ?_;have f3:Q5 Qa h2 (h2.newO (.cells [g.av,hh.av] 1 false false)):=Q5.newO _ _ _;have sg:Seg (h2.newO (.cells [g.av,hh.av] 1 false false)) ⟨false,h2.next,0,2,2,false⟩ 1 [g.av,hh.av]:=Seg.own (more:=[]) rfl (zO0 _) (by rw[zS0];exact Ql _ _);refine sg.zsrc ?_;have f12:Q5 (λj=>s.nil=false/\j=s.i) h h2:=f1.trans f2;have f13:Q5 (λj=>s.nil=false/\j=s.i) h (h2.newO (.cells [g.av,hh.av] 1 false false)):=f12.trans (f3.mono λ_ _ e=>e.elim);have b3:=b2.fr0 f3;have ka1':=ka1.fr f3 λ_=>id;have kb1':=kb1.fr f3 λ_=>id;have ab3:∀i,i<h2.next->¬AB h2 i->¬AB (h2.newO (.cells [g.av,hh.av] 1 false false)) i:=λi hi hx ⟨l,h3,h4⟩=>hx ⟨l,h3,by rw[<- f3.same i hi id];exact h4⟩
 have ka2':=ab3 _ (ka1.seg.lt ga) ka2;have kb2':=ab3 _ (kb1.seg.lt gb) kb2;have hn3:(h2.newO (.cells [g.av,hh.av] 1 false false)).next=h2.next+1:=rfl
 have v6lt:v6.nil=false->hB.next<=v6.i/\v6.i<h.next/\AB h v6.i:=λe=>by
  obtain⟨a1,a2,a3⟩:=Arr.ab p.arr (by
   intro e0
   have:=p.nn e
   have h2:=congrArg List.length e0;rw[qFs] at h2;cases G with
   | nil=>exact this rfl
   | cons x G=>simp at h2) e
  exact⟨a2,a3,a1⟩
 have arr3:Arr hB (h2.newO (.cells [g.av,hh.av] 1 false false)) v6 (G.flatMap two2):=Grown.fr p.arr f13 λe ⟨e1,e2⟩=>by have:=v6lt e;have:=hsold e1;omega
 generalize h2.newO (.cells [g.av,hh.av] 1 false false)=H at f3 f13 b3 ka1' kb1' ka2' kb2' hn3 arr3 ⊢;have hGl:G.length<ss.length:=by rw[hG];exact (List.getElem?_eq_some_iff.1 hi).1
 refine Grown.append1 arr3 (by omega) (by decide) rfl ?_ (qYf (by rw[qFs];omega)) λg4 f4 hi4=>?_
 .exact qH.2 λv hv=>by simp only[zL0,zM0,or_false] at hv;rcases hv with rfl | rfl <;> exact jB _
 have hn4:=f4.next
 generalize hv6:v6.app H.next 2=v6' at g4 hi4 ⊢
 generalize Qx H v6 1 2 [g.av,hh.av]=H4 at g4 f4 hn4 ⊢;refine Qr (n:=176) [(0,.pv false kb 0),(6,.sl v6'),(7,.int .i64 (i:Int))] ⟨rfl,rfl,rfl,rfl,trivial⟩ λd4=>(qL8 _ _ _ _ _ _ _ _ _ _ _).mpr ?_;refine qAy.2 ?_;have hilt:i<ss.length:=(List.getElem?_eq_some_iff.1 hi).1;rw[QD (e:=(i:Int)+1) (by omega) (by omega)];have lk:=p.lk;have gown:∀{x:SL},((s.nil=false/\x.i=s.i)∨h.next<=x.i)->(s.nil=false/\x.i=s.i)∨hB.next<=x.i:=λo=>o.imp id λe=>by omega
 have oa:=xa.own ga;have ob:(s.nil=false/\hh.i=s.i)∨h1.next<=hh.i:=xb.own gb
 have f4n:∀i:Nat,(hB.next<=i->v6.nil=false->i≠v6.i)->¬(v6.nil=false/\i=v6.i):=λi hne ⟨e1,e2⟩=>hne (by have:=v6lt e1;omega) e1 e2;have nv6:∀x:SL,qz H x (marks 0 0)∨True->¬AB H x.i->¬(v6.nil=false/\x.i=v6.i):=λx _ hx ⟨e1,e2⟩=>by
  obtain⟨a1,a2,a3⟩:=Arr.ab arr3 (by
   intro e0
   have:=p.nn e1
   have h2:=congrArg List.length e0;rw[qFs] at h2;cases G with
   | nil=>exact this rfl
   | cons x G=>simp at h2) e1
  exact hx (by rw[e2];exact a1)
 have Gg:GOk hB H s g (marks (mkB i) (nl i+20)):=⟨ka1',ga,ka2',gown oa⟩;have Gh:GOk hB H s hh (marks (mkB i) (nl i+90)):=⟨kb1',gb,kb2',gown (ob.imp id λe=>by omega)⟩;have Gg4:=Gg.fr f4 (nv6 g (.inr trivial) ka2');have Gh4:=Gh.fr f4 (nv6 hh (.inr trivial) kb2');refine hk _ H4 v6' (g,hh) ⟨rfl,rfl,rfl,rfl,trivial⟩ ⟨?_,?_,λ_=>by simp,by omega,p.old,lk,λj t q ht hq=>?_⟩ ?_
 .refine b3.fr f4 (λx ⟨e1,e2⟩=>?_) λj t ht=>(b3.own j t ht).fr f4 λe ⟨e1,e2⟩=>?_
  .have:=v6lt e1
   refine⟨by omega,λ⟨e3,e4⟩=>?_⟩
   have:=lk.2 e3
   omega
  .have:=v6lt e1
   have:=p.old t (zD0 ht) e
   omega
 .show Grown _ _ _ 1 ((G++[(g,hh)]).flatMap two2).length _;rw[zT0,zW0,zC0];exact g4
 .by_cases hj:j<G.length
  .rw[List.getElem?_append_left hj] at hq;obtain⟨q1,q2⟩:=p.gs j t q ht hq;have ne:∀{x:SL} {k:Ky},GOk hB h t x k->¬(s.nil=false/\x.i=s.i):=λ{x k} gx ⟨e1,e2⟩=>by
    rcases gx.own with ⟨e3,e4⟩ | e3
    .exact b.ne ht hi (by omega) e3 e1 (by rw[<- e4,e2])
    .have:=hsold e1;omega
   have mv:∀{x:SL} {k:Ky},GOk hB h t x k->GOk hB H4 t x k:=λ{x k} gx=>by have g1:=gx.fr f13 (ne gx);exact g1.fr f4 (nv6 x (.inr trivial) g1.ab)
   exact⟨mv q1,mv q2⟩
  .have hjl:j=G.length:=by
    have:=(List.getElem?_eq_some_iff.1 hq).1
    rw[zC0] at this;simp at this;omega
   subst hjl;rw[zD1 (zN0 _),Nat.sub_self] at hq;cases hq;subst hG;rw[hi] at ht;cases ht;exact⟨Gg4,Gh4⟩
 .refine Q5.trans (f13.mono λx _ ⟨e1,e2⟩=>.inl ⟨s,hmem,e1,e2⟩) (f4.mono λx _ ⟨e1,e2⟩=>.inr ?_)
  have:=v6lt e1
  omega
end
end DfN
namespace DfN
open Go Go.X Go.X.Df Go.Proofs
section
variable {S:QW} [GoodS S] {lf n:Nat} {h g0 hB:Q0} {K:ZK} {kb:Nat} {L:List BR} {cs:List SL} {l:SL} {ss:List SL}
end
end DfN
namespace DfN
open Go Go.X Go.X.Df Go.Proofs
section
variable {S:QW} [GoodS S] {lf n:Nat} {h g0 hB:Q0} {K:ZK} {kb:Nat} {L:List BR} {cs:List SL} {l:SL} {ss:List SL}
theorem Arr.at' {s:SL} {l:List SL} (a:Arr g0 h s l) {j:Nat} {x:SL} (hj:l[j]?=some x):s.nil=false/\j<s.len/\cellAt h s.i (s.o+j*1)=some x.av:=by
 have hlt:j<l.length:=(List.getElem?_eq_some_iff.1 hj).1;have hl:=Grown.n_eq a;have hn:s.nil=false:=by
  cases e:s.nil with
  | false=>rfl
  | true=>rw[SL.n_nil e] at hl;omega
 refine⟨hn,by rw[SL.n_of hn] at hl;omega,?_⟩;exact (Grown.seg a).at' hn (q:=j*1) (by rw[zC1,zV0,hj];rfl)
end
end DfN
namespace DfN
open Go Go.X Go.X.Df Go.Proofs
def qD (k:Nat):List AV:=[.slice k 0 1 1 false,.bool false,.bool false,.nils,.nils]
theorem qRh (k:Nat):(qD k).length=5:=rfl
theorem qFc:∀ks:List Nat,(ks.flatMap qD).length=ks.length*5
 | []=>rfl
 | x::l=>by rw[zU0,zC0,qFc l,zK0,qRh];omega
theorem qZz (k:Nat):QL (qD k)=true:=rfl
def KBk (h:Q0) (m k:Nat):Prop:=k<h.next/\h.get k=some (.cells [.int .u8 (.ofNat m)] 1 false false)
theorem KBk.fr {h h':Q0} {m k:Nat} {T:Nat->Prop} (x:KBk h m k) (f:Q5 T h h') (hT:¬T k):KBk h' m k:=⟨zF0 x.1 f.next,(f.same _ x.1 hT).trans x.2⟩
theorem KBk.ab {h:Q0} {m k:Nat} (x:KBk h m k):¬AB h k:=qNe x.2
structure LO (h0 h:Q0) (s:SL) (cells:List AV):Prop where
 seg:Seg h s 5 cells
 own:s.nil=false->h0.next<=s.i/\s.o=0/\s.ext=false/\Head h s.i s.cap 5 cells
 nils:s.nil=true->s=QE
theorem LO.fr {h0 h h':Q0} {s:SL} {cells:List AV} {T:Nat->Prop} (x:LO h0 h s cells) (f:Q5 T h h') (hs:s.nil=false->¬T s.i):LO h0 h' s cells :=
 ⟨x.seg.fr f hs,λe=>by
  obtain⟨h1,h2,h3,h4⟩:=x.own e;exact⟨h1,h2,h3,h4.fr f (x.seg.lt e) (hs e)⟩,x.nils⟩
theorem LO.ab {h0 h:Q0} {s:SL} {cells:List AV} (x:LO h0 h s cells) (e:s.nil=false):¬AB h s.i:=by obtain⟨_,_,_,c,_,hg,_⟩:=x.own e;exact qNe hg
theorem LO.key {h0 h:Q0} {s:SL} {cells:List AV} {m k:Nat} (x:LO h0 h s cells) (e:s.nil=false) (y:KBk h m k):k≠s.i:=by
 obtain⟨_,_,_,c,_,hg,_⟩:=x.own e;intro e1
 have:=y.2
 rw[e1,hg] at this;cases this
theorem LO.put {h0 h:Q0} {s:SL} {a r:List AV} {b:List AV} {v:Nat} (x:LO h0 h s (a++(r++b))) (e:s.nil=false) (ha:a.length=v*5) (hr:r.length=5) {r':List AV} (hr':r'.length=5) :
  LO h0 (hput h s.i (s.o+v*5) r') s (a++(r'++b))/\qVm h s.i (s.o+v*5+5):=by
 obtain⟨h1,h2,h3,c,mk,h4,h5,h6⟩:=x.own e;have hlen:=x.seg.len;have hlt:=x.seg.lt e;rw[h2,Nat.zero_add];have hc:c=(a++(r++b))++c.drop (a++(r++b)).length:=by
  have:=List.take_append_drop (a++(r++b)).length c
  rw[h6] at this;exact this.symm
 have hle:(a++(r++b)).length<=c.length:=by
  have:=congrArg List.length h6
  rw[zY0] at this;omega
 have g:=qEy (o:=v*5) (vs:=r') h4;have e1:c.take (v*5)++(r'++c.drop (v*5+r'.length))=(a++(r'++b))++c.drop (a++(r++b)).length:=by
  have t1:c.take (v*5)=a:=by rw[hc,zX0,<- ha,List.take_left]
  have t2:c.drop (v*5+r'.length)=b++c.drop (a++(r++b)).length:=by
   conv=>lhs;rw[hc]
   rw[zX0,hr',show v*5+5=a.length+5 by omega,<- List.drop_drop,List.drop_left,zX0,show (5:Nat)=r.length from hr.symm,List.drop_left]
  rw[t1,t2];simp
 rw[e1] at g;have hl2:((a++(r'++b))++c.drop (a++(r++b)).length).length=s.cap*5:=by rw[zC0,List.length_drop,<- h5];simp only[zC0] at hle ⊢;omega
 have hd:Head (hput h s.i (v*5) r') s.i s.cap 5 (a++(r'++b)):=⟨_,_,g,hl2,List.take_left⟩;have hse:s=⟨false,s.i,0,s.n,s.cap,false⟩:=by obtain⟨nil,i,o,len,cap,ext⟩:=s;simp only[SL.mk.injEq];rw[SL.n_of e];exact⟨e,trivial,h2,rfl,trivial,h3⟩
 have hl3:(a++(r'++b)).length=s.n*5:=by rw[<- hlen];simp only[zC0];omega
 refine⟨⟨?_,λ_=>⟨h1,h2,h3,hd⟩,x.nils⟩,hlt,c,5,false,_,h4,?_⟩
 .have:=hd.seg (n:=s.n) (by rw[qg];exact hlt) hl3 false
  rw[hse];exact this
 .simp only[zC0] at hle;omega
structure EC (g0 h:Q0) (kb:Nat) (l:SL) (ss:List SL) (cont:Nat->List AV):Prop where
 lt:kb<g0.next
 var:∃a w e,Var h kb [a,w,e,l.av]
 arr:Arr g0 h l ss
 nn:l.nil=false->ss≠[]
 own:∀j s,ss[j]?=some s->LO g0 h s (cont j)
 ap:ss.Pairwise λs t=>s.nil=false->t.nil=false->s.i≠t.i
section
variable {S:QW} [GoodS S] {lf n:Nat} {h g0:Q0} {K:ZK} {kb:Nat} {l:SL} {ss:List SL} {cont:Nat->List AV}
theorem EC.len (b:EC g0 h kb l ss cont):l.n=ss.length:=Grown.n_eq b.arr
theorem EC.at' (b:EC g0 h kb l ss cont) {j:Nat} {s:SL} (hj:ss[j]?=some s):l.nil=false/\j<l.len/\cellAt h l.i (l.o+j*1)=some s.av:=Arr.at' b.arr hj
theorem EC.ne {i j:Nat} {s t:SL} (b:EC g0 h kb l ss cont) (hi:ss[i]?=some s) (hj:ss[j]?=some t) (hij:i≠j) (e1:s.nil=false) (e2:t.nil=false):s.i≠t.i:=by
 have hp:=List.pairwise_iff_getElem.1 b.ap;obtain⟨hi1,hi2⟩:=List.getElem?_eq_some_iff.1 hi;obtain⟨hj1,hj2⟩:=List.getElem?_eq_some_iff.1 hj;rcases Nat.lt_or_gt_of_ne hij with h | h
 .have:=hp i j hi1 hj1 h
  rw[hi2,hj2] at this;exact this e1 e2
 .have:=hp j i hj1 hi1 h
  rw[hi2,hj2] at this;exact λe=>this e2 e1 e.symm
theorem EC.fr (b:EC g0 h kb l ss cont) {h':Q0} {T:Nat->Prop} (f:Q5 T h h') (hT:∀i,T i->i≠kb/\¬(l.nil=false/\i=l.i)) {cont':Nat->List AV} (ho:∀j s,ss[j]?=some s->LO g0 h' s (cont' j)):EC g0 h' kb l ss cont':=by obtain⟨w,we,c,v⟩:=b.var;exact⟨b.lt,⟨w,we,c,v.fr f λe=>(hT _ e).1 rfl⟩,b.arr.fr f λe e'=>(hT _ e').2 ⟨e,rfl⟩,b.nn,ho,b.ap⟩
theorem EC.one (b:EC g0 h kb l ss cont) {i:Nat} {s:SL} (hi:ss[i]?=some s) (e:s.nil=false) {h':Q0} (f:Q5 (λj=>j=s.i) h h') {k:List AV} (ho:LO g0 h' s k):EC g0 h' kb l ss (λj=>if j=i then k else cont j):=by
 have hs:=b.own i s hi;refine b.fr f (λj hj=>?_) λj t ht=>?_
 .have hj:j=s.i:=hj
  have:=(hs.own e).1
  have:=b.lt
  refine⟨by omega,λ⟨e1,e2⟩=>?_⟩;have ha:=Arr.ab b.arr (b.nn e1) e1;rw[<- e2,hj] at ha;exact hs.ab e ha.1
 .by_cases hji:j=i
  .subst hji;rw[hi] at ht;cases ht;rw[if_pos rfl];exact ho
  .rw[if_neg hji];exact (b.own j t ht).fr f λe2 e3=>b.ne ht hi hji e2 e e3
theorem EC.cong {cont':Nat->List AV} (b:EC g0 h kb l ss cont) (hc:∀j,j<ss.length->cont j=cont' j):EC g0 h kb l ss cont' :=
 ⟨b.lt,b.var,b.arr,b.nn,λj s hj=>by rw[<- hc j (List.getElem?_eq_some_iff.1 hj).1];exact b.own j s hj,b.ap⟩
theorem EC.fr0 (b:EC g0 h kb l ss cont) {h':Q0} (f:Q5 Qa h h'):EC g0 h' kb l ss cont :=
 b.fr f (λ_ e=>e.elim) λj s hj=>(b.own j s hj).fr f λ_=>id
theorem EC.keep (b:EC g0 h kb l ss cont) {i:Nat} {s:SL} (hi:ss[i]?=some s) {h':Q0} (f:Q5 (λj=>s.nil=false/\j=s.i) h h') (ho:LO g0 h' s (cont i)):EC g0 h' kb l ss cont:=by
 cases e:s.nil with
 | true=>exact b.fr0 (f.mono λ_ _ e1=>by rw[e] at e1;cases e1.1)
 | false =>
  refine (b.one hi e (f.mono λ_ _ e1=>e1.2) ho).cong λj _=>?_;by_cases hj:j=i
  .subst hj;rw[if_pos rfl]
  .rw[if_neg hj]
theorem fillc_ok {z:ZT} {k X0:ZT->Q0->Prop} {E:List (Nat × (ZT->Q0->Prop))} {i c:Nat} {s:SL} (b:EC g0 h kb l ss cont) (hi:ss[i]?=some s) (hz:ZAt 124 [(0,.pv false kb 0),(3,.int .i64 (i:Int))] z) (hcl:(cont i).length=c*5) (hc:c<1000000000) (hss:ss.length<1000000000) (hlf:c<lf)
  (hk:∀z h' (ks:List Nat),ZAt 124 [(0,.pv false kb 0),(3,.int .i64 ((i+1:Nat):Int))] z->Q5 (λj=>s.nil=false/\j=s.i) h h'->ks.length=c->(∀y,y∈ks->KBk h' (mkB i) y)->EC g0 h' kb l ss (λj=>if j=i then ks.flatMap qD else cont j)->k z h') :
  zAt Try.prog (Qq Try.prog S lf (n+1)) lf 34 [1,0,1,0,0] z k ⟨(0,X0)::E,Q3 Try.prog 34 K⟩ h:=by
 refine Qr _ hz λd=>(qJo _ _ _ _ _ _ _ _ _ _).mpr ?_;obtain⟨w,we,cc,v⟩:=b.var;obtain⟨hn,hil,hcell⟩:=b.at' hi;have el:(Int.ofNat l.n:Int)=l.n:=rfl;have hln:=b.len;have hilt:i<ss.length:=(List.getElem?_eq_some_iff.1 hi).1;refine⟨rfl,rfl,rfl,v.ldL l rfl ?_⟩;rw[decide_eq_true (show (i:Int)<Int.ofNat l.n by rw[SL.n_of hn] at el;rw[SL.n_of hn,el];omega),qBi];have hs:=b.own i s hi;have hsl:s.n=c:=by have:=hs.seg.len;omega
 refine Qy.inv (λq z h'=>∃(ks:List Nat),ZAt 124 [(0,.pv false kb 0),(3,.int .i64 (i:Int)),(4,.int .i64 ((ks.length:Nat):Int))] z/\Q5 (λj=>s.nil=false/\j=s.i) h h'/\ks.length+q=c/\(∀y,y∈ks->KBk h' (mkB i) y)/\EC g0 h' kb l ss (λx=>if x=i then ks.flatMap qD++(cont i).drop (ks.length*5) else cont x)) (n:=c) hlf
  ⟨[],⟨rfl,rfl,rfl,rfl,trivial⟩,Q5.refl _ _,by simp,λy hy=>(by cases hy),b.cong λj _=>by
   by_cases hj:j=i
   .subst hj;rw[if_pos rfl];simp
   .rw[if_neg hj]⟩ ?_
 rintro q z h1 kk hq ⟨ks,hz,f1,hj,hks,b1⟩ ih;refine Qr _ hz λd=>(qIg _ _ _ _ _ _ _ _ _ _ _ _ _).mpr ?_;obtain⟨w1,w1e,c1,v1⟩:=b1.var;obtain⟨_,_,hcell1⟩:=b1.at' hi;have hs1:=b1.own i s hi;have hs1:LO g0 h1 s (ks.flatMap qD++(cont i).drop (ks.length*5)):=by simp only[if_true] at hs1;exact hs1
 have es:(Int.ofNat s.n:Int)=s.n:=rfl;refine⟨rfl,rfl,rfl,v1.ldL l rfl ⟨hn,qAe.2 ⟨hil,rfl,Qh hcell1 ?_⟩⟩⟩;rw[q9];refine⟨λe=>?_,λe=>?_⟩
 .have hjc:ks.length<c:=by omega
  have sn:s.nil=false:=by
   cases e0:s.nil with
   | false=>rfl
   | true=>rw[SL.n_nil e0] at hsl;omega
  have sl:=SL.n_of sn;refine⟨rfl,rfl,rfl,v1.ldL l rfl ⟨hn,qAe.2 ⟨hil,rfl,Qh hcell1 (qF3 ?_)⟩⟩⟩;rw[qA0];have f2:Q5 Qa h1 (h1.newO (.cells [.int .u8 (.ofNat (mkB i))] 1 false false)):=Q5.newO _ _ _;have b2:=b1.fr0 f2;have kN:KBk (h1.newO (.cells [.int .u8 (.ofNat (mkB i))] 1 false false)) (mkB i) h1.next:=⟨zO0 _,Ql _ _⟩
  have hks2:∀y,y∈ks->KBk (h1.newO (.cells [.int .u8 (.ofNat (mkB i))] 1 false false)) (mkB i) y:=λy hy=>(hks y hy).fr f2 id;obtain⟨w2,w2e,c2,v2⟩:=b2.var;obtain⟨_,_,hcell2⟩:=b2.at' hi;have hs2:=hs1.fr f2 λ_=>id;have hN:(h1.newO (.cells [.int .u8 (.ofNat (mkB i))] 1 false false)).next=h1.next+1:=rfl
  refine qFa.2 ⟨⟨rfl,Qh hcell1 rfl⟩,⟨rfl,v1.ldL l rfl rfl⟩,⟨rfl,Qh hcell2 rfl⟩,⟨rfl,v2.ldL l rfl rfl⟩,sn,qAe.2 ⟨by omega,rfl,?_⟩⟩;show jb (h1.newO (.cells [.int .u8 (.ofNat (mkB i))] 1 false false)) s.i (s.o+ks.length*5) 5 (ZW .i64 (((ks.length:Nat):Int)+1) λr_1=>kk _ (hput (h1.newO (.cells [.int .u8 (.ofNat (mkB i))] 1 false false)) s.i (s.o+ks.length*5) (qD h1.next)));generalize h1.newO (.cells [.int .u8 (.ofNat (mkB i))] 1 false false)=H at f2 b2 kN hks2 hs2 hN ⊢;have hsplit:(cont i).drop (ks.length*5)=((cont i).drop (ks.length*5)).take 5++(cont i).drop ((ks.length+1)*5):=by
   have:=List.take_append_drop 5 ((cont i).drop (ks.length*5))
   rw[List.drop_drop,show ks.length*5+5=(ks.length+1)*5 by omega] at this;exact this.symm
  rw[hsplit] at hs2;have hr5:(((cont i).drop (ks.length*5)).take 5).length=5:=by rw[zY0,List.length_drop,hcl];omega
  obtain⟨hs3,cp⟩:=hs2.put sn (qFc ks) hr5 (qRh h1.next);have f3:Q5 (λx=>x=s.i) H (hput H s.i (s.o+ks.length*5) (qD h1.next)):=Q5.hput H _ _ λ_=>rfl;refine qAv cp (qAy.2 ?_);rw[QD (e:=((ks.length:Nat):Int)+1) (by omega) (by omega)];refine ih (q-1) _ _ (by omega) ⟨ks++[h1.next],?_,(f1.trans (f2.mono λ_ _ e=>e.elim)).trans (f3.mono λ_ _ e=>⟨sn,e⟩),by rw[zC0];show ks.length+1+_=_;omega,λy hy=>?_,(b2.one hi sn f3 hs3).cong λx _=>?_⟩
  .rw[zC0];exact⟨rfl,rfl,rfl,rfl,trivial⟩
  .have hy2:KBk H (mkB i) y:=by
    rcases List.mem_append.1 hy with hy | hy
    .exact hks2 y hy
    .rw[List.mem_singleton.1 hy];exact kN
   exact hy2.fr f3 λe1=>hs2.key sn hy2 e1
  .by_cases hx:x=i
   .subst hx;rw[if_pos rfl,if_pos rfl,zT0,zC0];show _=_++(qD h1.next++[])++_;rw[zS0,zX0];rfl
   .rw[if_neg hx,if_neg hx,if_neg hx]
 .refine Qr (n:=124) [(0,.pv false kb 0),(3,.int .i64 (i:Int))] ⟨rfl,rfl,rfl,trivial⟩ λd'=>(qNk _ _ _ _ _ _ _ _ _ _).mpr ?_;have hje:ks.length=c:=by omega
  refine qAy.2 ?_;rw[QD (e:=(i:Int)+1) (by omega) (by omega)];refine hk _ _ ks ⟨rfl,rfl,rfl,trivial⟩ f1 hje hks (b1.cong λx _=>?_);by_cases hx:x=i
  .rw[if_pos hx,if_pos hx,hje,<- hcl,List.drop_length,zS0]
  .rw[if_neg hx,if_neg hx]
end
end DfN
namespace DfN
open Go Go.X Go.X.Df Go.Proofs
section
variable {h0 h h1 h2:Q0} {s g:SL} {c:Nat} {cells more:List AV}
theorem jAk {g0:Q0} (w:LO g0 h s cells) (hl:cells.length=c*5):Ext h h s s 5 c cells:=by
 have hn:=w.seg.len;cases e:s.nil with
 | true =>
  have hs:=w.nils e;have hc:c=0:=by rw[SL.n_nil e] at hn;omega
  subst hs;subst hc
  have:cells=[]:=List.eq_nil_of_length_eq_zero (by omega)
  subst this;exact⟨.inl ⟨rfl,Grown.start _ _ _⟩⟩
 | false =>
  obtain⟨h1,h2,h3,h4⟩:=w.own e;have hlt:=w.seg.lt e;have hle:=h4.len;have hse:s=⟨false,s.i,0,c,s.cap,false⟩:=by obtain⟨nil,i,o,len,cap,ext⟩:=s;simp only[SL.mk.injEq];rw[SL.n_of e] at hn;have hn:cells.length=len*5:=hn;exact⟨e,trivial,h2,by omega,trivial,h3⟩
  refine⟨.inr ⟨e,hlt,?_⟩⟩
  have:=More.start (h0:=h) h4 hl hlt (by omega)
  rw[<- hse] at this;exact this
theorem extc_list {g0:Q0} {d:Nat} (w:LO g0 h s cells) (x:Ext h h1 s g 5 d (cells++more)) (f:Q5 (λj=>s.nil=false/\j=s.i) h h1):LO g0 h1 s cells:=by
 cases e:s.nil with
 | true=>exact w.fr f λe1=>by rw[e] at e1;cases e1
 | false =>
  obtain⟨w1,w2,w3,w4⟩:=w.own e;have hle:=w4.len;have hn:=w.seg.len;rw[SL.n_of e] at hn;rcases x.is with ⟨e1,_⟩ | ⟨_,y1,y2⟩
  .rw[e1] at e;cases e
  .have hd:=(y2.head).take cells.length;rw[List.take_take,Nat.min_eq_left hle,List.take_left] at hd;have hlt:s.i<h1.next:=zF0 (w.seg.lt e) f.next
   have hse:s=⟨false,s.i,0,s.len,s.cap,false⟩:=by obtain⟨nil,i,o,len,cap,ext⟩:=s;simp only[SL.mk.injEq];exact⟨e,trivial,w2,trivial,trivial,w3⟩
   refine⟨?_,λ_=>⟨w1,w2,w3,hd⟩,w.nils⟩;rw[hse];exact hd.seg hlt hn _
theorem extc_nn {d:Nat} (x:Ext h0 h s g 5 d cells) (hd:0<d):g.nil=false:=by
 cases e:g.nil with
 | false=>rfl
 | true=>have:=x.seg.nil_cs e;have h2:=x.len;rw[this] at h2;simp at h2;omega
theorem extc_ab {d:Nat} (x:Ext h0 h s g 5 d cells) (e:g.nil=false):¬AB h g.i:=by
 have key:∀{c:List AV} {b m:Bool},h.get g.i=some (.cells c 5 b m)->¬AB h g.i:=λhg ⟨l,_,h2⟩=>by rw[hg] at h2;cases h2
 rcases x.is with ⟨_,h1⟩ | ⟨_,_,h1⟩
 .rcases h1.2 with ⟨_,rfl⟩ | ⟨_,_,_,_,_,_,_,h8⟩
  .cases e
  .exact key h8
 .rcases h1.is with ⟨_,rfl,h3,_,_⟩ | ⟨_,h3,_,_,_⟩
  .obtain⟨c,_,h4,_⟩:=h3;exact key h4
  .rcases h3.2 with ⟨_,rfl⟩ | ⟨_,_,_,_,_,_,_,h8⟩
   .cases e
   .exact key h8
theorem extc_key {d m k:Nat} (x:Ext h0 h s g 5 d cells) (e:g.nil=false) (y:KBk h m k):k≠g.i:=by
 have key:∀{c:List AV} {b m:Bool},h.get g.i=some (.cells c 5 b m)->k≠g.i:=λhg e1=>by
  have:=y.2
  rw[e1,hg] at this;cases this
 rcases x.is with ⟨_,h1⟩ | ⟨_,_,h1⟩
 .rcases h1.2 with ⟨_,rfl⟩ | ⟨_,_,_,_,_,_,_,h8⟩
  .cases e
  .exact key h8
 .rcases h1.is with ⟨_,rfl,h3,_,_⟩ | ⟨_,h3,_,_,_⟩
  .obtain⟨c,_,h4,_⟩:=h3;exact key h4
  .rcases h3.2 with ⟨_,rfl⟩ | ⟨_,_,_,_,_,_,_,h8⟩
   .cases e
   .exact key h8
end
section
variable {S:QW} [GoodS S] {lf n:Nat} {h g0 hB:Q0} {K:ZK} {kb:Nat} {l:SL} {ss:List SL} {cont:Nat->List AV}
theorem growc_ok {z:ZT} {X6 X5 X4:ZT->Q0->Prop} {E:List (Nat × (ZT->Q0->Prop))} {i c:Nat} {s v5:SL} {ks0:List Nat} (x:Ext h h s s 5 c (ks0.flatMap qD)) (hc:c<1000000000) (hlf:40<lf) (hks0:∀y,y∈ks0->KBk h (mkB i) y)
  (hz:ZAt 124 [(0,.pv false kb 0),(5,.sl v5),(6,.int .i64 (i:Int)),(7,.sl s),(8,.int .i64 0)] z)
  (hk:∀z h1 g (ks:List Nat),ZAt 124 [(0,.pv false kb 0),(5,.sl v5),(6,.int .i64 (i:Int)),(7,.sl g)] z->Ext h h1 s g 5 (c+40) (ks0.flatMap qD++ks.flatMap qD)->(∀y,y∈ks0++ks->KBk h1 (mkB i) y)->Q5 (λj=>s.nil=false/\j=s.i) h h1->X6 z h1) :
  Qy lf (zAt Try.prog (Qq Try.prog S lf (n+1)) lf 34 [1,1,1,0,1,0,0,1,0,0,1,0,1,0,0]) z ⟨(6,X6)::(5,X5)::(4,X4)::E,Q3 Try.prog 34 K⟩ h:=by
 refine Qy.inv (λq z h'=>∃(g:SL) (ks:List Nat),ZAt 124 [(0,.pv false kb 0),(5,.sl v5),(6,.int .i64 (i:Int)),(7,.sl g),(8,.int .i64 ((ks.length:Nat):Int))] z/\Q5 (λj=>s.nil=false/\j=s.i) h h'/\ks.length+q=40/\Ext h h' s g 5 (c+ks.length) (ks0.flatMap qD++ks.flatMap qD)/\(∀y,y∈ks0++ks->KBk h' (mkB i) y)) (n:=40) hlf
  ⟨s,[],hz,Q5.refl _ _,by simp,by rw[List.flatMap_nil,zS0];exact x,λy hy=>hks0 y (by simpa using hy)⟩ ?_
 rintro q z h1 kk hq ⟨g,ks,hz,f1,hj,x1,hks⟩ ih;refine Qr _ hz λd=>(qF2 _ _ _ _ _ _ _ _ _ _ _ _ _ _ _).mpr ?_;rw[q9];refine⟨λe=>qF3 ?_,λe=>?_⟩
 .rw[qA0];refine qFa.2 ?_;have f2:Q5 Qa h1 (h1.newO (.cells [.int .u8 (.ofNat (mkB i))] 1 false false)):=Q5.newO _ _ _;have kN:KBk (h1.newO (.cells [.int .u8 (.ofNat (mkB i))] 1 false false)) (mkB i) h1.next:=⟨zO0 _,Ql _ _⟩
  have hN:(h1.newO (.cells [.int .u8 (.ofNat (mkB i))] 1 false false)).next=h1.next+1:=rfl
  have hn1:=f1.next
  dsimp only;rw[show [AV.slice h1.next 0 1 1 false,AV.bool false,AV.bool false,AV.nils,AV.nils]=qD h1.next from rfl];generalize h1.newO (.cells [.int .u8 (.ofNat (mkB i))] 1 false false)=H3 at f2 kN hN ⊢;have f3:Q5 Qa H3 (H3.newO (.cells (qD h1.next) 5 false false)):=Q5.newO _ _ _;have sg:Seg (H3.newO (.cells (qD h1.next) 5 false false)) ⟨false,H3.next,0,1,1,false⟩ 5 (qD h1.next):=Seg.own (more:=[]) rfl (zO0 _) (by rw[zS0];exact Ql _ _);refine sg.zsrc ?_;have f23:=f2.trans f3;have x2:Ext h (H3.newO (.cells (qD h1.next) 5 false false)) s g 5 (c+ks.length) (ks0.flatMap qD++ks.flatMap qD):=x1.fr f23 (λ_=>id) (λ_ _ _ _=>id) hn1;have kN2:=kN.fr f3 id;have hks2:∀y,y∈ks0++ks->KBk (H3.newO (.cells (qD h1.next) 5 false false)) (mkB i) y:=λy hy=>(hks y hy).fr f23 id;have f12:Q5 (λj=>s.nil=false/\j=s.i) h (H3.newO (.cells (qD h1.next) 5 false false)):=f1.trans (f23.mono λ_ _ e=>e.elim);have hn2:(H3.newO (.cells (qD h1.next) 5 false false)).next=H3.next+1:=rfl
  generalize H3.newO (.cells (qD h1.next) 5 false false)=H at x2 kN2 hks2 f12 hn2 ⊢;have keyne:∀y,KBk H (mkB i) y->¬(s.nil=false/\y=s.i):=λy hy ⟨e1,e2⟩=>by
   rcases x2.is with ⟨e3,_⟩ | ⟨_,_,m⟩
   .rw[e3] at e1;cases e1
   .obtain⟨cc,_,hg,_⟩:=m.head
    have:=hy.2
    rw[e2,hg] at this;cases this
  have keyng:∀y,KBk H (mkB i) y->¬(g.nil=false/\y=g.i):=λy hy ⟨e1,e2⟩=>extc_key x2 e1 hy e2;have hrow:(ks++[h1.next]).flatMap qD=ks.flatMap qD++qD h1.next:=by rw[zT0];show _++(qD h1.next++[])=_;rw[zS0]
  have hcore:∀y,KBk H (mkB i) y->∀H',Q5 (λj=>(s.nil=false/\j=s.i)∨h.next<=j) H H'->(∀z,H'.get z≠H.get z->z<H.next->(s.nil=false/\z=s.i)∨(g.nil=false/\z=g.i))->KBk H' (mkB i) y:=λy hy H' f hd=>by
   refine⟨zF0 hy.1 f.next,?_⟩;by_cases e:H'.get y=H.get y
   .rw[e];exact hy.2
   .rcases hd y e hy.1 with e1 | e1
    .exact absurd e1 (keyne y hy)
    .exact absurd e1 (keyng y hy)
  have hdiff:∀z,(Qx H g 5 1 (qD h1.next)).get z≠H.get z->z<H.next->(s.nil=false/\z=s.i)∨(g.nil=false/\z=g.i):=λz hz hlt=>by
   refine .inr ?_;unfold Qx at hz;rw[show Nat.beq 1 0=false from rfl] at hz;simp only at hz;cases hgn:g.nil with
   | true =>
    rw[hgn] at hz;simp only at hz;rw[qm (Nat.ne_of_lt hlt)] at hz;exact absurd rfl hz
   | false =>
    refine⟨rfl,?_⟩;rw[hgn] at hz;simp only at hz;by_cases hzg:z=g.i
    .exact hzg
    .exfalso;revert hz;have hput_ne:∀(o:Nat) (vs:List AV),(hput H g.i o vs).get z=H.get z:=λo vs=>(Q5.hput (S:=λj=>j=g.i) H o vs λ_=>rfl).same z hlt hzg;split
     .intro hz;exact hz (hput_ne _ _)
     .split
      .split
       .intro hz;rw[qm (by show z≠H.next;omega),qZ8 hzg] at hz;exact hz rfl
       .intro hz;rw[qm (Nat.ne_of_lt hlt)] at hz;exact hz rfl
      .intro hz;rw[qm (Nat.ne_of_lt hlt)] at hz;exact hz rfl
      .intro hz;exact hz rfl
  refine x2.append rfl (qZz _) (qYe (by omega)) (by omega) λx3 f3'=>?_;refine qAy.2 ?_;rw[QD (e:=((ks.length:Nat):Int)+1) (by omega) (by omega)];refine ih (q-1) _ _ (by omega) ⟨g.app H.next 1,ks++[h1.next],?_,f12.back f3' λy hy e=>e.elim id λe=>by omega,by rw[zC0];show ks.length+1+_=_;omega,?_,λy hy=>?_⟩
  .rw[zC0];exact⟨rfl,rfl,rfl,rfl,rfl,rfl,trivial⟩
  .rw[hrow,<- zX0,zC0];exact x3
  .have hy2:KBk H (mkB i) y:=by
    rw[<- zX0] at hy;rcases List.mem_append.1 hy with hy | hy
    .exact hks2 y hy
    .rw[List.mem_singleton.1 hy];exact kN2
   exact hcore y hy2 _ f3' hdiff
 .have hje:ks.length=40:=by omega
  rw[hje] at x1;exact hk _ _ g ks ⟨rfl,rfl,rfl,rfl,rfl,trivial⟩ x1 hks f1
end
end DfN
namespace DfN
open Go Go.X Go.X.Df Go.Proofs
structure GC (hB h:Q0) (s g:SL) (m:Nat):Prop where
 rows:∃ks:List Nat,Seg h g 5 (ks.flatMap qD)/\(∀y,y∈ks->KBk h m y)/\ks.length<2000000000
 nn:g.nil=false
 ab:¬AB h g.i
 own:(s.nil=false/\g.i=s.i)∨hB.next<=g.i
theorem GC.lt {hB h:Q0} {s g:SL} {m:Nat} (x:GC hB h s g m):g.i<h.next:=by obtain⟨ks,h1,_,_⟩:=x.rows;exact h1.lt x.nn
theorem GC.fr {hB h h':Q0} {s g:SL} {m:Nat} {T:Nat->Prop} (x:GC hB h s g m) (f:Q5 T h h') (hT:¬T g.i) (hK:∀y,KBk h m y->¬T y):GC hB h' s g m :=
 ⟨by
  obtain⟨ks,h1,h2,h3⟩:=x.rows;exact⟨ks,h1.fr f λ_=>hT,λy hy=>(h2 y hy).fr f (hK y (h2 y hy)),h3⟩,x.nn,by
  rintro ⟨l,h3,h4⟩;exact x.ab ⟨l,h3,by rw[<- f.same _ x.lt hT];exact h4⟩,x.own⟩
structure P4 (g0 hB h:Q0) (kb:Nat) (l:SL) (ss:List SL) (kss:Nat->List Nat) (v5:SL) (G:List (SL × SL)):Prop where
 eb:EC g0 h kb l ss (λj=>(kss j).flatMap qD)
 keys:∀j,j<ss.length->∀y,y∈kss j->KBk h (mkB j) y
 arr:Arr hB h v5 (G.flatMap two2)
 nn:v5.nil=false->G≠[]
 le:hB.next<=h.next
 old:∀s,s∈ss->s.nil=false->s.i<hB.next
 lk:kb<hB.next/\(l.nil=false->l.i<hB.next)
 gs:∀(j:Nat) s p,ss[j]?=some s->G[j]?=some p->p.1=s/\GC hB h s p.2 (mkB j)
section
variable {S:QW} [GoodS S] {lf n:Nat} {h g0 hB:Q0} {K:ZK} {kb:Nat} {l:SL} {ss:List SL} {kss:Nat->List Nat}
theorem p4_ok {v5:SL} {G:List (SL × SL)} {z:ZT} {k X4:ZT->Q0->Prop} {E:List (Nat × (ZT->Q0->Prop))} {i:Nat} {s:SL} (p:P4 g0 hB h kb l ss kss v5 G) (hi:ss[i]?=some s) (hG:G.length=i) (hz:ZAt 124 [(0,.pv false kb 0),(5,.sl v5),(6,.int .i64 (i:Int))] z)
  (hnl:(kss i).length<1000000000) (hss:ss.length<1000000000) (hlf:40<lf)
  (hk:∀z h' v5' q,ZAt 124 [(0,.pv false kb 0),(5,.sl v5'),(6,.int .i64 ((i+1:Nat):Int))] z->P4 g0 hB h' kb l ss kss v5' (G++[q])->Q5 (λj=>(s.nil=false/\j=s.i)∨hB.next<=j) h h'->k z h') :
  zAt Try.prog (Qq Try.prog S lf (n+1)) lf 34 [1,1,1,0,1,0,0] z k ⟨(4,X4)::E,Q3 Try.prog 34 K⟩ h:=by
 refine Qr _ hz λd=>(qG1 _ _ _ _ _ _ _ _ _ _ _).mpr ?_;have b:=p.eb;obtain⟨w,we,c,v⟩:=b.var;obtain⟨hn,hil,hcell⟩:=b.at' hi;have hln:=b.len;have hmem:=zD0 hi;have hilt:i<ss.length:=(List.getElem?_eq_some_iff.1 hi).1;refine⟨rfl,rfl,rfl,v.ldL l rfl ?_⟩;rw[decide_eq_true (show (i:Int)<Int.ofNat l.n by rw[SL.n_of hn];show (i:Int)<(l.len:Int);omega),qBi];refine⟨rfl,rfl,rfl,v.ldL l rfl ⟨hn,qAe.2 ⟨hil,rfl,Qh hcell ?_⟩⟩⟩;have hs:LO g0 h s ((kss i).flatMap qD):=b.own i s hi;refine growc_ok (ks0:=kss i) (jAk hs (qFc _)) hnl hlf (p.keys i hilt) ⟨rfl,rfl,rfl,rfl,rfl,rfl,trivial⟩ λz1 h1 g ks hz1 xa hks f1=>?_;have hs1:=extc_list hs xa f1;have b1:EC g0 h1 kb l ss (λj=>(kss j).flatMap qD):=b.keep hi f1 hs1;obtain⟨w1,w1e,c1,v1⟩:=b1.var;obtain⟨_,_,hcell1⟩:=b1.at' hi;have ga:=extc_nn xa (by omega);have kb2:=extc_ab xa ga;have hle:=p.le;have hsold:=p.old s hmem;have hn1:=f1.next
 refine Qr _ hz1 λd1=>(qHt _ _ _ _ _ _ _ _ _ _ _ _ _).mpr ?_;refine⟨rfl,rfl,rfl,v1.ldL l rfl ⟨hn,qAe.2 ⟨hil,rfl,Qh hcell1 ?_⟩⟩⟩;have f3:Q5 Qa h1 (h1.newO (.cells [s.av,g.av] 1 false false)):=Q5.newO _ _ _;have sg:Seg (h1.newO (.cells [s.av,g.av] 1 false false)) ⟨false,h1.next,0,2,2,false⟩ 1 [s.av,g.av]:=Seg.own (more:=[]) rfl (zO0 _) (by rw[zS0];exact Ql _ _);refine sg.zsrc ?_;have f13:Q5 (λj=>s.nil=false/\j=s.i) h (h1.newO (.cells [s.av,g.av] 1 false false)):=f1.trans (f3.mono λ_ _ e=>e.elim);have b3:=b1.fr0 f3;have sgr:=xa.seg.fr f3 λ_=>id;have hks3:∀y,y∈kss i++ks->KBk (h1.newO (.cells [s.av,g.av] 1 false false)) (mkB i) y:=λy hy=>(hks y hy).fr f3 id;have kb2':¬AB (h1.newO (.cells [s.av,g.av] 1 false false)) g.i:=λ⟨l,h3,h4⟩=>kb2 ⟨l,h3,by rw[<- f3.same _ (xa.seg.lt ga) id];exact h4⟩;have hn3:(h1.newO (.cells [s.av,g.av] 1 false false)).next=h1.next+1:=rfl
 have hGne:v5.nil=false->G.flatMap two2≠[]:=λe e0=>by
  have:=p.nn e
  have h2:=congrArg List.length e0;rw[qFs] at h2;cases G with
  | nil=>exact this rfl
  | cons x G=>simp at h2
 have v5lt:v5.nil=false->hB.next<=v5.i/\v5.i<h.next/\AB h v5.i:=λe=>by obtain⟨a1,a2,a3⟩:=Arr.ab p.arr (hGne e) e;exact⟨a2,a3,a1⟩
 have arr3:Arr hB (h1.newO (.cells [s.av,g.av] 1 false false)) v5 (G.flatMap two2):=Grown.fr p.arr f13 λe ⟨e1,e2⟩=>by have:=v5lt e;have:=hsold e1;omega
 have keyT:∀m y,KBk h m y->¬(s.nil=false/\y=s.i):=λm y hy ⟨e1,e2⟩=>hs.key e1 hy e2;have keys3:∀j,j<ss.length->∀y,y∈kss j->KBk (h1.newO (.cells [s.av,g.av] 1 false false)) (mkB j) y:=λj hj y hy=>(p.keys j hj y hy).fr f13 (keyT _ y (p.keys j hj y hy));generalize h1.newO (.cells [s.av,g.av] 1 false false)=H at f3 f13 b3 sgr hks3 kb2' hn3 arr3 keys3 ⊢;have hGl:G.length<ss.length:=by rw[hG];exact hilt
 refine Grown.append1 arr3 (by omega) (by decide) rfl ?_ (room34 (by rw[qFs];omega)) λg4 f4 hi4=>?_
 .exact qH.2 λv hv=>by simp only[zL0,zM0,or_false] at hv;rcases hv with rfl | rfl <;> exact jB _
 have hn4:=f4.next
 generalize hv5:v5.app H.next 2=v5' at g4 hi4 ⊢
 generalize Qx H v5 1 2 [s.av,g.av]=H4 at g4 f4 hn4 ⊢;refine Qr (n:=124) [(0,.pv false kb 0),(5,.sl v5'),(6,.int .i64 (i:Int))] ⟨rfl,rfl,rfl,rfl,trivial⟩ λd4=>(qKl _ _ _ _ _ _ _ _ _ _ _).mpr ?_;refine qAy.2 ?_;rw[QD (e:=(i:Int)+1) (by omega) (by omega)];have lk:=p.lk;have oa:=xa.own ga;have nv:∀i:Nat,¬AB H i->¬(v5.nil=false/\i=v5.i):=λi hx ⟨e1,e2⟩=>by obtain⟨a1,_,_⟩:=Arr.ab arr3 (hGne e1) e1;exact hx (by rw[e2];exact a1)
 have hkl:(kss i++ks).length<2000000000:=by
  have:=xa.len
  rw[zC0,qFc,qFc] at this;rw[zC0];omega
 have Gg:GC hB H s g (mkB i):=⟨⟨kss i++ks,by rw[zT0];exact sgr,hks3,hkl⟩,ga,kb2',oa.imp id λe=>by omega⟩;have Gg4:=Gg.fr f4 (nv _ kb2') λy hy=>nv y hy.ab;refine hk _ H4 v5' (s,g) ⟨rfl,rfl,rfl,rfl,trivial⟩ ⟨?_,λj hj y hy=>(keys3 j hj y hy).fr f4 (nv y (keys3 j hj y hy).ab),?_,λ_=>by simp,by omega,p.old,lk,λj t q ht hq=>?_⟩ ((f13.mono λ_ _ e=>.inl e).trans (f4.mono λi _ ⟨e1,e2⟩=>.inr (by have:=v5lt e1;omega)))
 .refine b3.fr f4 (λx ⟨e1,e2⟩=>?_) λj t ht=>(b3.own j t ht).fr f4 λe ⟨e1,e2⟩=>?_
  .have:=v5lt e1
   refine⟨by omega,λ⟨e3,e4⟩=>?_⟩
   have:=lk.2 e3
   omega
  .have:=v5lt e1
   have:=p.old t (zD0 ht) e
   omega
 .show Grown _ _ _ 1 ((G++[(s,g)]).flatMap two2).length _;rw[zT0,zW0,zC0];exact g4
 .by_cases hj:j<G.length
  .rw[List.getElem?_append_left hj] at hq;obtain⟨q1,q2⟩:=p.gs j t q ht hq;have ne:¬(s.nil=false/\q.2.i=s.i):=λ⟨e1,e2⟩=>by
    rcases q2.own with ⟨e3,e4⟩ | e3
    .exact b.ne ht hi (by omega) e3 e1 (by rw[<- e4,e2])
    .have:=hsold e1;omega
   have g1:=q2.fr f13 ne (keyT _);exact⟨q1,g1.fr f4 (nv _ g1.ab) λy hy=>nv y hy.ab⟩
  .have hjl:j=G.length:=by
    have:=(List.getElem?_eq_some_iff.1 hq).1
    rw[zC0] at this;simp at this;omega
   subst hjl;rw[zD1 (zN0 _),Nat.sub_self] at hq;cases hq;subst hG;rw[hi] at ht;cases ht;exact⟨rfl,Gg4⟩
theorem qYh {z:ZT} {k X8:ZT->Q0->Prop} {E:List (Nat × (ZT->Q0->Prop))} {v:Nat} {v5 t:SL} {LL:List SL} {ks:List Nat} (ha:Arr hB h v5 LL) (hv:LL[v]?=some t) (hs:Seg h t 5 (ks.flatMap qD)) (hks:∀y,y∈ks->KBk h (mkB (v / 2)) y) (hz:ZAt 124 [(5,.sl v5),(9,.int .i64 (v:Int))] z)
  (hc:ks.length<2000000000) (hLL:LL.length<1000000000) (hlf:ks.length<lf) (hk:∀z,ZAt 124 [(5,.sl v5),(9,.int .i64 ((v+1:Nat):Int))] z->k z h) :
  zAt Try.prog (Qq Try.prog S lf (n+1)) lf 34 [1,1,1,1,0,1,0,0] z k ⟨(8,X8)::E,Q3 Try.prog 34 K⟩ h:=by
 refine Qr _ hz λd=>(qGf _ _ _ _ _ _ _ _ _ _).mpr ?_;obtain⟨hn,hil,hcell⟩:=Arr.at' ha hv;have hal:=Grown.n_eq ha;have hvl:v<LL.length:=(List.getElem?_eq_some_iff.1 hv).1;rw[decide_eq_true (show (v:Int)<Int.ofNat v5.n by show (v:Int)<(v5.n:Int);omega),qBi];have htn:t.n=ks.length:=by have:=hs.len;rw[qFc] at this;omega
 have et:(Int.ofNat t.n:Int)=t.n:=rfl;refine Qy.inv (λq z h'=>∃j:Nat,ZAt 124 [(5,.sl v5),(9,.int .i64 (v:Int)),(10,.int .i64 (j:Int))] z/\h'=h/\j+q=ks.length) (n:=ks.length) hlf ⟨0,⟨rfl,rfl,rfl,rfl,trivial⟩,rfl,by omega⟩ ?_;rintro q z h' kk hq ⟨j,hz,rfl,hj⟩ ih;refine Qr _ hz λd=>(qGm _ _ _ _ _ _ _ _ _ _ _ _ _).mpr ?_;refine⟨hn,qAe.2 ⟨hil,rfl,Qh hcell ?_⟩⟩;rw[q9];refine⟨λe=>?_,λe=>?_⟩
 .have hjl:j<ks.length:=by omega
  obtain⟨y,hy⟩:∃y,ks[j]?=some y:=⟨_,zE0 hjl⟩;have tn:t.nil=false:=by
   cases e0:t.nil with
   | false=>rfl
   | true=>rw[SL.n_nil e0] at htn;omega
  have tl:t.len=ks.length:=by rw[<- SL.n_of tn];exact htn
  have hkey:=hks y (zD0 hy);have hrow:cellAt h' t.i (Nat.add (t.o+j*5) 0)=some (SL.mk false y 0 1 1 false).av:=by
   have h1:(ks.flatMap qD)[j*5+0]?=(qD y)[0]?:=qW5 (λx _=>qRh x) hy (by decide)
   have:=hs.at' tn (q:=j*5+0) (v:=.slice y 0 1 1 false) (by rw[h1];rfl)
   rw[<- Nat.add_assoc] at this;exact this
  have hbyte:cellAt h' y (0+0*1)=some (.int .u8 (.ofNat (mkB (v / 2)))):=by rw[qHc hkey.2];rfl
  refine⟨hn,qAe.2 ⟨hil,rfl,Qh hcell ⟨tn,qAe.2 ⟨by omega,rfl,rfl,Qh hrow ?_⟩⟩⟩⟩;rw[show (!decide (Int.ofNat (SL.mk false y 0 1 1 false).n=1))=false from rfl,qAz];refine⟨hn,qAe.2 ⟨hil,rfl,Qh hcell ⟨tn,qAe.2 ⟨by omega,rfl,rfl,Qh hrow ⟨rfl,qTb.2 ⟨Nat.one_pos,rfl,qL9.2 ⟨_,hbyte,by decide,?_⟩⟩⟩⟩⟩⟩⟩;have hdiv:Int.tdiv (v:Int) 2=((v / 2:Nat):Int):=by rw[Int.tdiv_eq_ediv_of_nonneg (by omega)];omega
  refine qAy.2 ?_;rw[hdiv,QD (by omega) (by omega)];refine qF3 ?_;rw[qA0];refine qFa.2 ⟨⟨rfl,qL9.2 ⟨_,hbyte,rfl⟩⟩,⟨rfl,Qh hrow rfl⟩,⟨rfl,Qh hcell rfl⟩,?_⟩;rw[decide_eq_true rfl,Bool.not_true,qHv,qAz];refine qAy.2 ?_;rw[QD (e:=(j:Int)+1) (by omega) (by omega)];exact ih (q-1) _ _ (by omega) ⟨j+1,⟨rfl,rfl,rfl,rfl,trivial⟩,rfl,by omega⟩
 .refine Qr (n:=124) [(5,.sl v5),(9,.int .i64 (v:Int))] ⟨rfl,rfl,rfl,trivial⟩ λd'=>(qJp _ _ _ _ _ _ _ _ _ _).mpr ?_;refine qAy.2 ?_;rw[QD (e:=(v:Int)+1) (by omega) (by omega)];exact hk _ ⟨rfl,rfl,rfl,trivial⟩
theorem outerc_ok {a w:AV} {cont:Nat->List AV} {cl:Nat->Nat} (b:EC g0 h kb l ss cont) (hcl:∀j,j<ss.length->(cont j).length=cl j*5) (hc:∀j,cl j<1000000000) (hss:ss.length<100000000) (hg:g0.next<=h.next) (hlf:4000000000<lf) (hk:∀h',Q5 (λi=>∃s,s∈ss/\s.nil=false/\i=s.i) h h'->K (.bool true) h') :
  Qq Try.prog S lf (n+2) 34 [.pv false kb 0] K h:=by
 refine QJ (hSD (by decide) (by decide)) (by kernel_rfl) ?_;rw[outerc_nf];have hln:=b.len
 refine Qy.inv (λq z h'=>∃(j:Nat) (kss:Nat->List Nat),ZAt 124 [(0,.pv false kb 0),(3,.int .i64 (j:Int))] z/\j+q=ss.length/\Q5 (λi=>∃s,s∈ss/\s.nil=false/\i=s.i) h h'/\EC g0 h' kb l ss (λx=>if x<j then (kss x).flatMap qD else cont x)/\∀x,x<j->(kss x).length=cl x/\∀y,y∈kss x->KBk h' (mkB x) y) (n:=ss.length) (by omega)
  ⟨0,λ_=>[],⟨rfl,rfl,rfl,trivial⟩,by omega,Q5.refl _ _,b.cong λx _=>by rw[if_neg (by omega)],λx hx=>absurd hx (Nat.not_lt_zero _)⟩ ?_
 rintro q z h1 kk hq ⟨j,kss,hz,hj,F1,b1,hks⟩ ih;have hn1:=F1.next
 by_cases hjl:j<ss.length
 .obtain⟨s,hs⟩:∃s,ss[j]?=some s:=⟨_,zE0 hjl⟩;have hcj:=hc j;refine fillc_ok (n:=n) b1 hs hz (c:=cl j) (by rw[if_neg (Nat.lt_irrefl j)];exact hcl j hjl) hcj (by omega) (by omega) λz h2 ks hz2 f2 hl2 hk2 b2=>?_;have hn2:=f2.next
  refine ih (q-1) _ _ (by omega) ⟨j+1,λx=>if x=j then ks else kss x,hz2,by omega,F1.trans (f2.mono λi _ ⟨e1,e2⟩=>⟨s,zD0 hs,e1,e2⟩),b2.cong λx _=>?_,λx hx=>?_⟩
  .by_cases hx:x=j
   .subst hx;rw[if_pos rfl,if_pos (by omega)];simp only[if_true]
   .rw[if_neg hx];by_cases hx2:x<j
    .rw[if_pos hx2,if_pos (by omega)];simp only[if_neg hx]
    .rw[if_neg hx2,if_neg (by omega)]
  .by_cases hxj:x=j
   .subst hxj;simp only[if_true];exact⟨hl2,hk2⟩
   .simp only[if_neg hxj];obtain⟨e1,e2⟩:=hks x (by omega);exact⟨e1,λy hy=>(e2 y hy).fr f2 λ⟨e3,e4⟩=>(b1.own j s hs).key e3 (e2 y hy) e4⟩
 have hje:j=ss.length:=by omega
 subst hje;refine Qr _ hz λd=>(qJo _ _ _ _ _ _ _ _ _ _).mpr ?_;obtain⟨w1,w1e,c1,v1⟩:=b1.var;refine⟨rfl,rfl,rfl,v1.ldL l rfl ?_⟩;rw[decide_eq_false (show ¬((ss.length:Int)<Int.ofNat l.n) by show ¬((ss.length:Int)<(l.n:Int));omega),qAz];clear ih hz;refine Qr (n:=124) [(0,.pv false kb 0)] ⟨rfl,rfl,trivial⟩ λd=>(jAc _ _ _ _ _ _).mpr ?_;have b1:EC g0 h1 kb l ss (λx=>(kss x).flatMap qD):=b1.cong λx hx=>by rw[if_pos hx]
 have hlt1:l.nil=false->l.i<h1.next:=λe=>(Arr.ab b1.arr (b1.nn e) e).2.2
 have hold:∀s,s∈ss->s.nil=false->s.i<h1.next:=λs hs e=>by obtain⟨j,hj⟩:=List.getElem?_of_mem hs;exact (b1.own j s hj).seg.lt e
 have hkb:=b.lt;have p0:P4 g0 h1 h1 kb l ss kss QE []:=⟨b1,λj hj y hy=>(hks j hj).2 y hy,Grown.start _ _ _,λe=>(by cases e),zN0 _,hold,⟨by omega,hlt1⟩,λj s p _ hp=>by simp at hp⟩
 refine Qy.inv (λq z h3=>∃(v5:SL) (G:List (SL × SL)),ZAt 124 [(0,.pv false kb 0),(5,.sl v5),(6,.int .i64 ((G.length:Nat):Int))] z/\G.length+q=ss.length/\P4 g0 h1 h3 kb l ss kss v5 G/\Q5 (λi=>∃s,s∈ss/\s.nil=false/\i=s.i) h h3) (n:=ss.length) (by omega)
  ⟨QE,[],⟨rfl,rfl,rfl,rfl,trivial⟩,by simp,p0,F1⟩ ?_
 rintro q z h3 kk hq ⟨v5,G,hz,hG,p3,F3⟩ ih;by_cases hjl:G.length<ss.length
 .obtain⟨s,hs⟩:∃s,ss[G.length]?=some s:=⟨_,zE0 hjl⟩;have hcj:=hc G.length;refine p4_ok (n:=n) p3 hs rfl hz (by rw[(hks _ hjl).1];exact hcj) (by omega) (by omega) λz h4 v5' qq hz4 p4 f4=>?_;refine ih (q-1) _ _ (by omega) ⟨v5',G++[qq],?_,by rw[zC0];show G.length+1+_=_;omega,p4,F3.back f4 λi hi e=>e.elim (λ⟨e1,e2⟩=>⟨s,zD0 hs,e1,e2⟩) λe=>absurd e (by omega)⟩;rw[zC0];exact hz4
 have hGe:G.length=ss.length:=by omega
 refine Qr _ hz λd=>(qG1 _ _ _ _ _ _ _ _ _ _ _).mpr ?_;have b3:=p3.eb;obtain⟨w3,w3e,c3,v3⟩:=b3.var;refine⟨rfl,rfl,rfl,v3.ldL l rfl ?_⟩;rw[decide_eq_false (show ¬((G.length:Int)<Int.ofNat l.n) by show ¬((G.length:Int)<(l.n:Int));omega),qAz];clear ih hz;refine Qr (n:=124) [(5,.sl v5)] ⟨rfl,rfl,trivial⟩ λd=>(qT6 _ _ _ _ _ _).mpr ?_;have hlen:=qFs G;have hvn:=Grown.n_eq p3.arr;refine Qy.inv (λq z h4=>∃v:Nat,ZAt 124 [(5,.sl v5),(9,.int .i64 (v:Int))] z/\h4=h3/\v+q=(G.flatMap two2).length) (n:=(G.flatMap two2).length) (by omega) ⟨0,⟨rfl,rfl,rfl,trivial⟩,rfl,by omega⟩ ?_;rintro q z h4 kk hq ⟨v,hz,rfl,hv⟩ ih;by_cases hvl:v<(G.flatMap two2).length
 .have hj2:v / 2<G.length:=by omega
  obtain⟨p,hp⟩:∃p,G[v / 2]?=some p:=⟨_,zE0 hj2⟩;obtain⟨s,hs⟩:∃s,ss[v / 2]?=some s:=⟨_,zE0 (by omega)⟩;obtain⟨e1,gc⟩:=p3.gs _ s p hs hp;obtain⟨t1,t2⟩:=qWb G _ p hp;have hcj:=hc (v / 2);have hnext:∀z,ZAt 124 [(5,.sl v5),(9,.int .i64 ((v+1:Nat):Int))] z->kk z h4:=λz hz=>ih (q-1) _ _ (by omega) ⟨v+1,hz,rfl,by omega⟩;by_cases hev:v=2*(v / 2)
  .have so:=b3.own _ s hs;have hkl:=(hks (v / 2) (by omega)).1;exact qYh (n:=n) p3.arr (v:=v) (t:=p.1) (by rw[<- t1,<- hev]) (ks:=kss (v / 2)) (by rw[e1];exact so.seg) (p3.keys _ (by omega)) hz (by omega) (by omega) (by omega) hnext
  .obtain⟨ks,r1,r2,r3⟩:=gc.rows;exact qYh (n:=n) p3.arr (v:=v) (t:=p.2) (by rw[<- t2];congr 1;omega) (ks:=ks) r1 r2 hz r3 (by omega) (by omega) hnext
 .refine Qr _ hz λd=>(qGf _ _ _ _ _ _ _ _ _ _).mpr ?_;rw[decide_eq_false (show ¬((v:Int)<Int.ofNat v5.n) by show ¬((v:Int)<(v5.n:Int));omega),qAz];exact Qr (n:=124) [] ⟨rfl,trivial⟩ λd=>(qRt _ _ _ _ _).mpr (hk _ F3)
end
end DfN
namespace DfN
open Go Go.X Go.X.Df Go.Proofs
structure LR where
 ki:Nat
 vi:Nat
 k:Ky
 v:Ky
 vt:Ky
def LR.ks (x:LR):SL:=⟨false,x.ki,0,x.k.length,x.k.length+2,true⟩
def LR.vs (x:LR):SL:=⟨false,x.vi,0,x.v.length,x.v.length+2,true⟩
def LR.fk (x:LR):SL:=⟨false,x.ki,0,x.k.length+2,x.k.length+2,true⟩
def LR.fv (x:LR):SL:=⟨false,x.vi,0,x.v.length+2,x.v.length+2,true⟩
def LR.er (x:LR):ER:=⟨x.ks,x.vs,(x.k,x.v)⟩
def LR.all (x:LR):List SL:=[x.fk,x.fv]
def LR.ids (x:LR):List Nat:=[x.ki,x.vi]
def LR.row (x:LR):List AV:=x.er.row
structure LR.Ok (h0 h:Q0) (x:LR):Prop where
 kl:h0.next<=x.ki
 kn:x.ki<h.next
 kg:h.get x.ki=some (.cells (ofBytes (x.k++[167,168])) 1 true false)
 vl:h0.next<=x.vi
 vn:x.vi<h.next
 vg:h.get x.vi=some (.cells (ofBytes (x.v++x.vt)) 1 true false)
 kb:∀b,b∈x.k->b<256
 vb:∀b,b∈x.v++x.vt->b<256
 vt:x.vt.length=2
theorem LR.Ok.fr {h0 h h':Q0} {x:LR} {T:Nat->Prop} (a:x.Ok h0 h) (f:Q5 T h h') (h1:¬T x.ki) (h2:¬T x.vi):x.Ok h0 h' :=
 ⟨a.kl,zF0 a.kn f.next,(f.same _ a.kn h1).trans a.kg,a.vl,zF0 a.vn f.next,(f.same _ a.vn h2).trans a.vg,a.kb,a.vb,a.vt⟩
theorem LR.Ok.er {h0 h:Q0} {x:LR} (a:x.Ok h0 h):ER.Ok h x.er :=
 ⟨⟨Seg.own (more:=ofBytes [167,168]) (by rw[Qt,zC1];rfl) a.kn (by rw[<- qDy];exact a.kg),a.kb⟩,
  ⟨Seg.own (more:=ofBytes x.vt) (by rw[Qt,zC1];rfl) a.vn (by rw[<- qDy];exact a.vg),λb hb=>a.vb b (zH0 _ hb)⟩⟩
def qSz (h0 h:Q0) (m:Nat):Prop:=h0.next<=m/\m<h.next/\h.get m=some (.cells (ofBytes [109,97,114,107]) 1 false true)
theorem qSz.fr {h0 h h':Q0} {m:Nat} {T:Nat->Prop} (a:qSz h0 h m) (f:Q5 T h h') (hT:¬T m):qSz h0 h' m:=⟨a.1,zF0 a.2.1 f.next,(f.same _ a.2.1 hT).trans a.2.2⟩
theorem qSz.byts {h0 h:Q0} {m:Nat} (a:qSz h0 h m):qz h ⟨false,m,0,4,4,false⟩ [109,97,114,107] :=
 ⟨Seg.own (more:=[]) rfl a.2.1 (by rw[zS0];exact a.2.2),by decide⟩
structure Lent (h0 h:Q0) (l c all:SL) (rs:List LR):Prop where
 ls:∃i m,l=⟨false,i,0,rs.length+1,rs.length+1,false⟩/\h0.next<=i/\i<h.next/\h.get i=some (.cells (rs.flatMap LR.row++[.slice m 0 4 4 false,.nils]) 2 false false)/\qSz h0 h m
 cs:∃i m,c=⟨false,i,0,1,1,false⟩/\h0.next<=i/\i<h.next/\h.get i=some (.cells [.slice m 0 4 4 false,.bool false,.bool false,.nils,.nils] 5 false false)/\qSz h0 h m
 arr:Arr h0 h all (rs.flatMap LR.all)
 ok:∀r,r∈rs->r.Ok h0 h
 asc:(rs.flatMap LR.ids).Pairwise (·<·)
theorem Arr.low {h0 h:Q0} {s:SL} {l:List SL} (a:Arr h0 h s l) (e:s.nil=false):h0.next<=s.i:=by
 rcases a.2 with ⟨_,rfl⟩ | ⟨_,_,_,_,_,h6,_⟩
 .cases e
 .exact h6
theorem Lent.fr {h0 h h':Q0} {l c all:SL} {rs:List LR} {T:Nat->Prop} (a:Lent h0 h l c all rs) (f:Q5 T h h') (hT:∀i,h0.next<=i->¬T i):Lent h0 h' l c all rs:=by
 obtain⟨⟨i,m,e1,e2,e3,e4,e5⟩,⟨i',m',d1,d2,d3,d4,d5⟩,ar,ok,asc⟩:=a;exact⟨⟨i,m,e1,e2,zF0 e3 f.next,(f.same _ e3 (hT _ e2)).trans e4,e5.fr f (hT _ e5.1)⟩,
  ⟨i',m',d1,d2,zF0 d3 f.next,(f.same _ d3 (hT _ d2)).trans d4,d5.fr f (hT _ d5.1)⟩,
  ar.fr f λe=>hT _ (Arr.low ar e),λr hr=>(ok r hr).fr f (hT _ (ok r hr).kl) (hT _ (ok r hr).vl),asc⟩
theorem row_len (x:LR):x.row.length=2:=rfl
theorem qFx:∀l:List LR,(l.flatMap LR.row).length=l.length*2
 | []=>rfl
 | x::l=>by rw[zU0,zC0,qFx l,zK0,row_len];omega
theorem Arr.ne2 {h0 h:Q0} {s:SL} {l:List SL} (a:Arr h0 h s l) (e:s.nil=false) {i:Nat} {cs:List AV} {sz:Nat} {mk:Bool} (hg:h.get i=some (.cells cs sz false mk)):i≠s.i:=by
 rcases a.2 with ⟨_,rfl⟩ | ⟨_,_,_,_,_,_,_,h8⟩
 .cases e
 .intro e';rw[e',h8] at hg;cases hg
theorem Arr.ne_b {h0 h:Q0} {s:SL} {l:List SL} (a:Arr h0 h s l) (e:s.nil=false) {i:Nat} {k:Ky} {sz:Nat} {g mk:Bool} (hl:l≠[]) (hg:h.get i=some (.cells (ofBytes k) sz g mk)):i≠s.i:=by intro e';exact qMo hg (e' ▸ (Arr.ab a hl e).1)
section
variable {S:QW} [GoodS S] {lf n:Nat} {h g0 h0:Q0} {K:ZK} {X:List ER}
end
end DfN
namespace DfN
open Go Go.X Go.X.Df Go.Proofs
theorem qUr (h:Q0) (c:List AV) (e:Nat) (g m m':Bool):Q5 Qa h ((h.newO (.cells c e g m)).put h.next (some (.cells c e g m')))/\((h.newO (.cells c e g m)).put h.next (some (.cells c e g m'))).get h.next=some (.cells c e g m')/\((h.newO (.cells c e g m)).put h.next (some (.cells c e g m'))).next=h.next+1 :=
 ⟨(Q5.newO Qa h (.cells c e g m)).back (Q5.put (S:=λi=>i=h.next) _ _ λ_=>rfl) λi hi e=>by omega,if_pos rfl,rfl⟩
section
variable {S:QW} [GoodS S] {lf n:Nat} {h g0 h0:Q0} {K:ZK} {X:List ER}
theorem zRoom_iff {P:Program} {e:TypeId} {m:Nat} {A:Prop}:ZRoom P e m A↔jy P e m=true/\A:=⟨λ⟨a,b⟩=>⟨a,b⟩,λ⟨a,b⟩=>⟨a,b⟩⟩
end
end DfN
namespace DfN
open Go Go.X Go.X.Df Go.Proofs
section
variable {S:QW} [GoodS S] {lf n:Nat} {h g0 h0:Q0} {K:ZK} {X:List ER}
theorem new4 (h:Q0) (o0 o1 o2 o3:QB):((((h.newO o0).newO o1).newO o2).newO o3).get h.next=some o0/\((((h.newO o0).newO o1).newO o2).newO o3).get (h.next+1)=some o1/\((((h.newO o0).newO o1).newO o2).newO o3).get (h.next+2)=some o2/\((((h.newO o0).newO o1).newO o2).newO o3).get (h.next+3)=some o3/\Q5 Qa h ((((h.newO o0).newO o1).newO o2).newO o3):=by
 have n1:(h.newO o0).next=h.next+1:=rfl
 have n2:((h.newO o0).newO o1).next=h.next+2:=rfl
 have n3:(((h.newO o0).newO o1).newO o2).next=h.next+3:=rfl
 refine⟨?_,?_,?_,?_,(((Q5.newO _ _ _).trans (Q5.newO _ _ _)).trans (Q5.newO _ _ _)).trans (Q5.newO _ _ _)⟩
 .rw[qm (by omega),qm (by omega),qm (by omega),Ql]
 .rw[qm (by omega),qm (by omega),<- n1,Ql]
 .rw[qm (by omega),<- n2,Ql]
 .rw[<- n3,Ql]
end
end DfN
namespace DfN
open Go Go.X Go.X.Df Go.Proofs
theorem Lent.ents {h0 h:Q0} {l c all:SL} {rs:List LR} (a:Lent h0 h l c all rs):l.nil=false/\l.cap=rs.length+1/\j1 h (l.cut 2 0 rs.length l.cap l.ext) (rs.map LR.er)/\SlOk (l.cut 2 0 rs.length l.cap l.ext):=by
 obtain⟨i,m,rfl,e2,e3,e4,e5⟩:=a.ls;refine⟨rfl,rfl,⟨?_,λ_ hx=>?_,λx hx=>?_⟩,λ_=>?_⟩
 .have e:(rs.map LR.er).flatMap ER.row=rs.flatMap LR.row:=by rw[List.flatMap_map];rfl
  rw[e];exact Seg.own (i:=i) (n:=rs.length) (cap:=rs.length+1) (ext:=false) (qFx rs) e3 e4
 .rfl
 .obtain⟨r,hr,rfl⟩:=List.mem_map.1 hx;exact (a.ok r hr).er
 .show rs.length<=rs.length+1;omega
section
variable {S:QW} [GoodS S] {lf n:Nat} {h g0 h0:Q0} {K:ZK} {X:List ER}
theorem LR.Ok.fk {h0 h:Q0} {x:LR} (a:x.Ok h0 h):qz h x.fk (x.k++[167,168]) :=
 ⟨Seg.own (more:=[]) (by rw[Qt,zC1,zC0];rfl) a.kn (by rw[zS0];exact a.kg),λb hb=>by
  rcases List.mem_append.1 hb with hb | hb
  .exact a.kb b hb
  .simp only[zL0,zM0,or_false] at hb;rcases hb with rfl | rfl <;> decide⟩
theorem LR.Ok.fv {h0 h:Q0} {x:LR} (a:x.Ok h0 h):qz h x.fv (x.v++x.vt) :=
 ⟨Seg.own (more:=[]) (by rw[Qt,zC1,zC0,a.vt]) a.vn (by rw[zS0];exact a.vg),a.vb⟩
end
end DfN
namespace DfN
open Go Go.X Go.X.Df Go.Proofs
def tw (b:Nat):Nat:=Nat.xor b 85
theorem tw_lt {b:Nat} (h:b<256):tw b<256:=Nat.xor_lt_two_pow (n:=8) h (by decide)
def LR.tw (x:LR):LR:={ x with v:=x.v.map DfN.tw,vt:=x.vt.map DfN.tw }
section
variable {S:QW} [GoodS S] {lf n:Nat} {h g0 h0:Q0} {K:ZK} {X:List ER}
def twk (w:Ky) (k:Nat):Ky:=(w.take k).map tw++w.drop k
theorem twk_len (w:Ky) (k:Nat):(twk w k).length=w.length:=by unfold twk;rw[zC0,zJ0,zY0,List.length_drop];omega
theorem twk_all (w:Ky):twk w w.length=w.map tw:=by unfold twk;rw[List.take_length,List.drop_length,zS0]
theorem twk_at {w:Ky} {k b:Nat} (h:w[k]?=some b):(twk w k)[k]?=some b:=by unfold twk;have hk:k<w.length:=(List.getElem?_eq_some_iff.1 h).1;rw[zD1 (by rw[zJ0,zY0];omega),zJ0,zY0,List.getElem?_drop];rw[show k+(k-min k w.length)=k from by omega];exact h
theorem twk_put {w:Ky} {k b:Nat} (h:w[k]?=some b):(ofBytes (twk w k)).take (0+k*1)++([AV.int .u8 (.ofNat (tw b))]++(ofBytes (twk w k)).drop (0+k*1+[AV.int .u8 (.ofNat (tw b))].length))=ofBytes (twk w (k+1)):=by
 have hk:k<w.length:=(List.getElem?_eq_some_iff.1 h).1;have hb:w[k]=b:=(List.getElem?_eq_some_iff.1 h).2;have e0:((w.take k).map tw).length=k:=by rw[zJ0,zY0];omega
 have e1:(twk w k).take k=(w.take k).map tw:=by unfold twk;exact List.take_left' e0
 have e2:(twk w k).drop (k+1)=w.drop (k+1):=by unfold twk;rw[<- List.drop_drop,List.drop_left' e0,List.drop_drop]
 rw[show 0+k*1=k from by omega,show k+[AV.int IntKind.u8 (.ofNat (tw b))].length=k+1 from rfl,qi,<- List.map_take,<- List.map_drop,e1,e2,qi,twk,List.take_add_one,h];simp
theorem toU_u8 {b:Nat} (h:b<256):toU .u8 (.ofNat b)=b:=by show b % 2 ^ (q7 .u8)=b;rw[show q7 .u8=8 from by kernel_rfl];exact Nat.mod_eq_of_lt h
theorem u8_wrap {b:Nat} (h:b<256):IntKind.u8.wrap (Int.ofNat b)=(b:Int):=by unfold IntKind.wrap;show (if (false && _)=true then _ else (Int.ofNat b) % (2 ^ 8:Int))=_;rw[Bool.false_and,if_neg (by decide)];show ((b:Nat):Int) % _=_;omega
theorem fin16 (K:ZK) (z:ZT) (h:Q0):Q3 Try.prog 16 K z h=K (.tup []) h:=by kernel_rfl
end
end DfN
