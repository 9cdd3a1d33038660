/-
 PROVED: what the functions of package diff do (contracts over heaps). Condition: each contract's own.
-/
import Derived.Test.YtppjfhdhgofeiaaPd
import Derived.Shelf.SortM.Plain
import Derived.Shelf.SortM.SortNone
import Derived.Ground.SlgmProg
import Derived.Test.YtppjfhdhgofeiaaProg
set_option linter.unusedSectionVars false
set_option linter.unusedVariables false
set_option linter.unusedSimpArgs false
set_option maxRecDepth 100000
open List renaming mem_cons_of_mem -> zA0, mem_cons_self -> zB0, length_append -> zC0, mem_of_getElem? -> zD0, getElem?_eq_getElem -> zE0, mem_append_left -> zH0, length_map -> zJ0, length_cons -> zK0, mem_cons -> zL0, not_mem_nil -> zM0, append_nil -> zS0, flatMap_append -> zT0, flatMap_cons -> zU0, getElem?_map -> zV0, append_assoc -> zX0
open Nat renaming lt_of_lt_of_le -> zF0, ble_eq_true_of_le -> zG0, lt_succ_self -> zO0, le_trans -> zP0, zero_le -> zA1
noncomputable section
namespace Go.Proofs
open Go.Shelf
def Try.mSort_ren:Go.Shelf.Ren:=⟨fun | 6=>45 | 8=>55 | 9=>54 | 19=>66 | 20=>67 | 21=>57 | 22=>58 | 23=>59 | 24=>60 | 25=>61 | 26=>62 | 27=>63 | 28=>64 | 29=>65 | 36=>68 | 31=>69 | 32=>70 | 37=>71 | 38=>72 | 39=>73 | 41=>74 | n=>n,fun | 27=>65 | 29=>9 | 3=>3 | 32=>91 | 26=>65 | 0=>0 | 44=>102 | 46=>104 | 4=>4 | 36=>94 | 35=>93 | 41=>99 | 5=>5 | 9=>9 | 53=>105 | 57=>109 | 63=>111 | 64=>112 | n=>n,fun | n=>n⟩
theorem Try.mSort:Go.Proofs.SlLaysM.n6 Try.prog Try.mSort_ren:={
 mixed:=by kernel_rfl
 f6:=⟨Try.f45.name,by decide,Try.func45.trans (congrArg some (by kernel_rfl))⟩
 f8:=Try.func55.trans (congrArg some (by kernel_rfl))
 f9:=⟨Try.f54.name,by decide,Try.func54.trans (congrArg some (by kernel_rfl))⟩
 f19:=Try.func66.trans (congrArg some (by kernel_rfl))
 f20:=Try.func67.trans (congrArg some (by kernel_rfl))
 f21:=⟨Try.f57.name,by decide,Try.func57.trans (congrArg some (by kernel_rfl))⟩
 f22:=⟨Try.f58.name,by decide,Try.func58.trans (congrArg some (by kernel_rfl))⟩
 f23:=⟨Try.f59.name,by decide,Try.func59.trans (congrArg some (by kernel_rfl))⟩
 f24:=⟨Try.f60.name,by decide,Try.func60.trans (congrArg some (by kernel_rfl))⟩
 f25:=⟨Try.f61.name,by decide,Try.func61.trans (congrArg some (by kernel_rfl))⟩
 f26:=⟨Try.f62.name,by decide,Try.func62.trans (congrArg some (by kernel_rfl))⟩
 f27:=⟨Try.f63.name,by decide,Try.func63.trans (congrArg some (by kernel_rfl))⟩
 f28:=⟨Try.f64.name,by decide,Try.func64.trans (congrArg some (by kernel_rfl))⟩
 f29:=⟨Try.f65.name,by decide,Try.func65.trans (congrArg some (by kernel_rfl))⟩
 f31:=Try.func69.trans (congrArg some (by kernel_rfl))
 f32:=Try.func70.trans (congrArg some (by kernel_rfl))
 f36:=⟨Try.f68.name,by decide,Try.func68.trans (congrArg some (by kernel_rfl))⟩
 f37:=⟨Try.f71.name,by decide,Try.func71.trans (congrArg some (by kernel_rfl))⟩
 f38:=⟨Try.f72.name,by decide,Try.func72.trans (congrArg some (by kernel_rfl))⟩
 f39:=⟨Try.f73.name,by decide,Try.func73.trans (congrArg some (by kernel_rfl))⟩
 f41:=⟨Try.f74.name,by decide,Try.func74.trans (congrArg some (by kernel_rfl))⟩
 t0:=Try.underlying0
 a0:=Try.isAgg0
 z0:=Try.sizeOf0
 v0:=Try.zeroValue0
 t3:=Try.underlying3
 a3:=Try.isAgg3
 z3:=Try.sizeOf3
 v3:=Try.zeroValue3
 t4:=Try.underlying4
 a4:=Try.isAgg4
 z4:=Try.sizeOf4
 v4:=Try.zeroValue4
 t5:=Try.underlying5
 a5:=Try.isAgg5
 z5:=Try.sizeOf5
 v5:=Try.zeroValue5
 t9:=Try.underlying9
 a9:=Try.isAgg9
 z9:=Try.sizeOf9
 v9:=Try.zeroValue9
 t26:=Try.underlying65
 a26:=Try.isAgg65
 z26:=Try.sizeOf65
 v26:=Try.zeroValue65
 t27:=Try.underlying65
 a27:=Try.isAgg65
 z27:=Try.sizeOf65
 v27:=Try.zeroValue65
 t29:=Try.underlying9
 a29:=Try.isAgg9
 z29:=Try.sizeOf9
 v29:=Try.zeroValue9
 t32:=Try.underlying91
 a32:=Try.isAgg91
 z32:=Try.sizeOf91
 v32:=Try.zeroValue91
 t35:=Try.underlying93
 a35:=Try.isAgg93
 z35:=Try.sizeOf93
 v35:=Try.zeroValue93
 t36:=Try.underlying94
 a36:=Try.isAgg94
 z36:=Try.sizeOf94
 v36:=Try.zeroValue94
 t41:=Try.underlying99
 a41:=Try.isAgg99
 z41:=Try.sizeOf99
 v41:=Try.zeroValue99
 t44:=Try.underlying102
 a44:=Try.isAgg102
 z44:=Try.sizeOf102
 v44:=Try.zeroValue102
 t46:=Try.underlying104
 a46:=Try.isAgg104
 z46:=Try.sizeOf104
 v46:=Try.zeroValue104
 t53:=Try.underlying105
 a53:=Try.isAgg105
 z53:=Try.sizeOf105
 v53:=Try.zeroValue105
 t57:=Try.underlying109
 a57:=Try.isAgg109
 z57:=Try.sizeOf109
 v57:=Try.zeroValue109
 t63:=Try.underlying111
 a63:=Try.isAgg111
 z63:=Try.sizeOf111
 v63:=Try.zeroValue111
 t64:=Try.underlying112
 a64:=Try.isAgg112
 z64:=Try.sizeOf112
 v64:=Try.zeroValue112 }
end Go.Proofs
namespace DfN
open Go Go.X Go.Proofs
theorem sortFact:qDg Try.prog 45 :=
 ⟨λp cap w=>AnyM.slices_Sort_string_none Try.mSort p cap w,λblk off cap ss w h1 h2 h3=>AnyM.slices_Sort_string Try.mSort blk off cap ss w h1 h2 h3⟩
end DfN
namespace Go.X
def orZ (A B:QW):QW:=λg=>match A g with | some s=>some s | none=>B g
def orX (A B:Sums):Sums:=λg=>match A g with | some s=>some s | none=>B g
theorem SumFit.or {A B:QW} {A' B':Sums} (a:SumFit A A') (b:SumFit B B'):SumFit (orZ A B) (orX A' B'):=by
 constructor
 .intro g hg;unfold orZ at hg;unfold orX;cases h:A g with
  | some s=>rw[h] at hg;cases hg
  | none=>rw[h] at hg;rw[a.none g h];exact b.none g hg
 .intro g s hg;unfold orZ at hg;unfold orX;cases h:A g with
  | some s' =>
   rw[h] at hg;cases hg;obtain⟨x,hx,hk⟩:=a.some g _ h;exact⟨x,by rw[hx],hk⟩
  | none=>rw[h] at hg;rw[a.none g h];exact b.some g s hg
theorem qk.or {P:Program} {W0:World} {A B:Sums} (a:qk P W0 A) (b:qk P W0 B):qk P W0 (orX A B):=by
 intro g s hg;unfold orX at hg;cases h:A g with
 | some s'=>rw[h] at hg;cases hg;exact a g _ h
 | none=>rw[h] at hg;exact b g s hg
def sortS (f:FuncId):QW:=λg=>match Nat.beq g f with | true=>some sortZ | false=>none
end Go.X
namespace DfN
open Go Go.X Go.X.Df Go.Proofs
class GoodS (S:QW):Prop where
 none:∀f,f≠7->f≠45->f≠38->f≠12->f≠19->f≠20->S f=none
 clone:∀{lf n:Nat} {h:Q0} {K:ZK} {s:SL} {k:Ky},qz h s k->k.length<=4294967296->(∀h' s',Q5 Qa h h'->qy h h' s' k->K (.sl s') h')->Qq Try.prog S lf (n+1) 38 [.sl s] K h
theorem hSD {S:QW} [g:GoodS S] {f:Nat} (h1:f≠7) (h2:f≠45) (h3:f≠38:=by decide) (h4:f≠12:=by decide) (h5:f≠19:=by decide) (h6:f≠20:=by decide):S f=none:=g.none f h1 h2 h3 h4 h5 h6
theorem qWi {k:Nat} (h:k<=4294967296):jy Try.prog 5 k=true:=by
 have e0:qJ4 Try.prog 5=some 1:=by kernel_rfl
 unfold jy;rw[e0];show cnd (Nat.ble (Nat.mul k 1) jX) (Nat.ble k jX) false=true;have e1:Nat.ble (Nat.mul k 1) jX=true:=zG0 (by show k*1<=1099511627776;omega);have e2:Nat.ble k jX=true:=zG0 (by show k<=1099511627776;omega);rw[e1,e2];rfl
section
variable {S:QW} [GoodS S] {lf n:Nat} {h:Q0} {K:ZK}
theorem clone0_ok {S:QW} (hS:S 38=none) {s:SL} {k:Ky} (hb:qz h s k) (hl:k.length<=4294967296) (hk:∀h' s',Q5 Qa h h'->Cln h h' s' k->K (.sl s') h') :
  Qq Try.prog S lf (n+1) 38 [.sl s] K h:=by
 refine QJ hS (by kernel_rfl) ?_;rw[clone_nf];cases hn:s.isNil with
 | true =>
  rw[qBi]
  have:k=[]:=List.eq_nil_of_length_eq_zero (by rw[<- hb.len,SL.n_nil (SL.isNil_nil hn)])
  subst this;exact hk _ _ (Q5.refl _ _) ⟨qz.nil _ _,λe=>(by cases e),λ_=>rfl⟩
 | false =>rw[qAz];exact (hb.seg.fr (Q5.newO Qa h _) λ_=>id).zsrc (qSx hb (qWi hl) (Q:=λh' s'=>K (.sl s') h') λh' s' f w _=>hk h' s' f w)
theorem qMm {s:SL} {k:Ky} (hb:qz h s k) (hl:k.length<=4294967296) (hk:∀h' s',Q5 Qa h h'->qy h h' s' k->K (.sl s') h') :
  Qq Try.prog S lf (n+1) 38 [.sl s] K h:=GoodS.clone hb hl hk
theorem equal_ok {a b:SL} {x y:Ky} (ha:qz h a x) (hb:qz h b y) (k:K (.bool (decide (x=y))) h):Qq Try.prog S lf (n+1) 35 [.sl a,.sl b] K h:=by refine QJ (hSD (by decide) (by decide)) (by kernel_rfl) ?_;rw[equal_nf];exact ha.zbytes (hb.zbytes k)
structure CR where
 ks:SL
 os:SL
 ns:SL
 c:Ch
def CR.row (x:CR):List AV:=[x.ks.av,.bool x.c.had,.bool x.c.has,x.os.av,x.ns.av]
def CR.val (x:CR):ZV:=.agg [.sl x.ks,.bool x.c.had,.bool x.c.has,.sl x.os,.sl x.ns]
def SlLt (s t:SL):Prop:=s.nil=false->t.nil=false->s.i<t.i
theorem SlLt.nil (s:SL):SlLt s QE:=λ_ e=>by cases e
def CR.sls (x:CR):List SL:=[x.ks,x.os,x.ns]
def CR.Ok (h0 h:Q0) (x:CR):Prop:=qy h0 h x.ks x.c.k/\qy h0 h x.os x.c.old/\qy h0 h x.ns x.c.new
theorem CR.Ok.fr {h0 h h':Q0} {x:CR} {S:Nat->Prop} (a:x.Ok h0 h) (f:Q5 S h h') (hs:∀i,S i->h0.next<=i->(x.ks.nil=false/\i=x.ks.i)∨(x.os.nil=false/\i=x.os.i)∨(x.ns.nil=false/\i=x.ns.i)->False):x.Ok h0 h' :=
 ⟨a.1.fr f λe hi=>hs _ hi (a.1.own e).1 (.inl ⟨e,rfl⟩),a.2.1.fr f λe hi=>hs _ hi (a.2.1.own e).1 (.inr (.inl ⟨e,rfl⟩)),a.2.2.fr f λe hi=>hs _ hi (a.2.2.own e).1 (.inr (.inr ⟨e,rfl⟩))⟩
structure ER where
 ks:SL
 vs:SL
 e:Ky × Ky
def ER.row (x:ER):List AV:=[x.ks.av,x.vs.av]
def ER.Ok (h:Q0) (x:ER):Prop:=qz h x.ks x.e.1/\qz h x.vs x.e.2
theorem ER.Ok.fr {h h':Q0} {x:ER} (a:x.Ok h) (f:Q5 Qa h h'):x.Ok h':=⟨a.1.fr f λ_=>id,a.2.fr f λ_=>id⟩
abbrev j1 (h:Q0) (s:SL) (l:List ER):Prop:=Rws 2 ER.row (λh x=>ER.Ok h x) h s l
theorem j1.fr {h h':Q0} {s:SL} {l:List ER} (a:j1 h s l) (f:Q5 Qa h h'):j1 h' s l:=Rws.fr a f (λ_=>id) λ_ _ q=>q.fr f
structure PE (h:Q0) (nil:Bool) (i o:Nat) (x:Option ER):Prop where
 nil:nil=x.isNone
 some:∀y,x=some y->i<h.next/\cellAt h i o=some y.ks.av/\cellAt h i (o+1)=some y.vs.av/\y.Ok h
theorem PE.fr {h h':Q0} {nil:Bool} {i o:Nat} {x:Option ER} (a:PE h nil i o x) (f:Q5 Qa h h'):PE h' nil i o x :=
 ⟨a.nil,λy hy=>by
  obtain⟨h1,h2,h3,h4⟩:=a.some y hy;have e:=f.same i h1 id;exact⟨zF0 h1 f.next,(qVk e).trans h2,(qVk e).trans h3,h4.fr f⟩⟩
theorem Var.put_all {h:Q0} {i:Nat} {cs vs:List AV} (x:Var h i cs) (e:vs.length=cs.length):Var (hput h i 0 vs) i vs:=by
 have:=x.put 0 vs
 rwa [List.take_zero,List.nil_append,Nat.zero_add,e,List.drop_length,zS0] at this
def Small (e:Ky × Ky):Prop:=e.1.length<=4294967296/\e.2.length<=4294967296
end
end DfN
namespace Go.X
def SlOk (s:SL):Prop:=s.nil=false->s.len<=s.cap
theorem beq_of_eq {a b:Nat} (h:a=b):Nat.beq a b=true:=by subst h;exact Nat.beq_refl a
theorem qFl {a b:Nat} (h:a≠b):Nat.beq a b=false:=by
 cases hb:Nat.beq a b with
 | false=>rfl
 | true=>exact absurd (Nat.eq_of_beq_eq_true hb) h
theorem Rws.tail {α:Type} {sz:Nat} {row:α->List AV} {Q:Q0->α->Prop} {h:Q0} {s:SL} {x:α} {r:List α} (hsz:0<sz) (a:Rws sz row Q h s (x::r)) (hs:SlOk s) :
  Rws sz row Q h (s.cut sz 1 s.n s.cap s.ext) r/\SlOk (s.cut sz 1 s.n s.cap s.ext):=by
 have hn:=a.nil_of hsz (j:=0) (by simp);have hl:=a.len' hsz hn;have hc:=hs hn;simp only[zK0] at hl;have hrl:∀y,y∈r->(row y).length=sz:=λy hy=>a.rl y (zA0 _ hy);have hok:∀y,y∈r->Q h y:=λy hy=>a.ok y (zA0 _ hy);obtain⟨c,hcs,h1,h2⟩:=a.seg.src hn;have hlt:=a.seg.lt hn;have hrow:(row x).length=sz:=a.rl x zB0;have hflat:(r.flatMap row).length=r.length*sz:=qEr hrl;rw[zU0] at h1;unfold SL.cut;rw[hn,SL.n_of hn];cases hb:Nat.beq 1 s.cap with
 | true =>
  have hcap:=Nat.eq_of_beq_eq_true hb
  have:r=[]:=List.eq_nil_of_length_eq_zero (by omega)
  subst this;cases s.ext with
  | true=>exact⟨Rws.nil _ _,λe=>(by cases e)⟩
  | false =>
   refine⟨⟨⟨?_,λ_=>hlt,λ_=>⟨c,hcs,?_,?_⟩⟩,hrl,hok⟩,λ_=>?_⟩
   .show (0:Nat)=(s.len-1)*sz;rw[show s.len-1=0 by rw[hl];rfl,Nat.zero_mul]
   .show (c.drop s.o).take ((s.len-1)*sz)=[];rw[show s.len-1=0 by rw[hl];rfl,Nat.zero_mul,List.take_zero]
   .show (s.len-1)*sz<=_;rw[show s.len-1=0 by rw[hl];rfl,Nat.zero_mul];exact zA1 _
   .show s.len-1<=s.cap-1;omega
 | false =>
  have hlen:s.len*sz=sz+(s.len-1)*sz:=by rw[show s.len=(s.len-1)+1 by omega,Nat.add_mul,Nat.one_mul,Nat.add_sub_cancel];omega
  simp only[Bool.false_and];refine⟨⟨⟨?_,λ_=>hlt,λ_=>⟨c,hcs,?_,?_⟩⟩,hrl,hok⟩,λ_=>?_⟩
  .show _=(s.len-1)*sz;rw[hflat];congr 1;omega
  .show (c.drop (s.o+1*sz)).take ((s.len-1)*sz)=_;rw[Nat.one_mul,<- List.drop_drop];have e:((c.drop s.o).take (s.len*sz)).drop sz=r.flatMap row:=by
    rw[h1,List.drop_append_of_le_length (by omega),<- hrow,List.drop_length,List.nil_append]
   rw[hlen] at e;rw[List.drop_take,Nat.add_sub_cancel_left] at e;exact e
  .show (s.len-1)*sz<=(c.drop (s.o+1*sz)).length;rw[Nat.one_mul,<- List.drop_drop,List.length_drop];omega
  .show s.len-1<=s.cap-1;omega
end Go.X
namespace DfN
open Go Go.X Go.X.Df Go.Proofs
structure Side (h0 h:Q0) (v:Nat) (X:List ER):Prop where
 le:h0.next<=v
 at':∃rest n i o,Var h v [rest.av,(ZV.pv n i o).av]/\PE h0 n i o X.head?/\j1 h0 rest X.tail/\SlOk rest
section
variable {S:QW} [GoodS S] {lf n:Nat} {h h0:Q0} {K:ZK}
theorem qI0 {K:(Nat->AV)->Prop} (k:∀f,K f):ZRT (ZV.tup []).av 0 K:=⟨λ_=>.junk,by simp[qVq],k _⟩
theorem on_ok {v:Nat} {s:SL} {p:AV} {X:List ER} (hv:Var h v [s.av,p]) (hle:h0.next<=v) (f0:Q5 Qa h0 h) (hx:j1 h0 s X) (hs:SlOk s)
  (hk:∀h',Q5 (λi=>i=v) h h'->Side h0 h' v X->K (.tup []) h'):Qq Try.prog S lf (n+1) 49 [.pv false v 0] K h:=by
 refine QJ (hSD (by decide) (by decide)) (by kernel_rfl) ?_;rw[on_nf];have v1:=hv.put 1 [AV.nilp];have f1:=hv.put_fr 1 [AV.nilp];have ln:=hx.len (by decide);have en:(Int.ofNat s.n:Int)=s.n:=rfl;refine⟨rfl,rfl,rfl,hv.zput (by simp) ⟨rfl,rfl,rfl,v1.ldL s rfl ?_⟩⟩;rw[q9];refine⟨λe=>?_,λe=>?_⟩
 .cases X with
  | nil=>simp only[List.length_nil] at ln;omega
  | cons x r =>
   have hn:=hx.nil_of (by decide) (j:=0) (by simp);have hl:=hx.len' (by decide) hn;have hc:=hs hn;simp only[zK0] at hl;obtain⟨t1,t2⟩:=hx.tail (by decide) hs;refine⟨rfl,rfl,rfl,v1.ldL s rfl ⟨hn,qTb.2 ⟨by omega,rfl,rfl,rfl,v1.ldL s rfl (qCd.2 ⟨⟨λe=>(by rw[hn] at e;cases e),λ_=>⟨?_,?_⟩⟩,rfl,rfl,rfl,v1.zput (by simp) ⟨rfl,rfl,rfl,?_⟩⟩)⟩⟩⟩
   .rw[SL.n_of hn];show 1<=s.len;omega
   .rw[SL.n_of hn];exact hc
   have v2:=v1.put 1 [AV.ptr s.i (s.o+0*2)];have f2:=v1.put_fr 1 [AV.ptr s.i (s.o+0*2)];refine v2.zput (by simp) ?_;have v3:=v2.put 0 [(s.cut 2 1 s.n s.cap s.ext).av];have f3:=v2.put_fr 0 [(s.cut 2 1 s.n s.cap s.ext).av];refine hk _ ((f1.trans f2).trans f3) ⟨hle,s.cut 2 1 s.n s.cap s.ext,false,s.i,s.o+0*2,?_,⟨rfl,λy hy=>?_⟩,t1,t2⟩
   .rw[qC8];exact v3
   .cases hy;exact⟨hx.seg.lt hn,hx.at' hn (j:=0) rfl (q:=0) (by decide) rfl,hx.at' hn (j:=0) rfl (q:=1) (by decide) rfl,hx.ok x zB0⟩
 .cases X with
  | cons x r=>simp only[zK0] at ln;omega
  | nil=>exact hk _ f1 ⟨hle,s,true,0,0,by rw[av_pvt];exact v1,⟨rfl,λy hy=>(by cases hy)⟩,hx,hs⟩
end
end DfN
namespace DfN
open Go Go.X Go.X.Df Go.Proofs
structure YI (L o:Nat) (r0:qV) (gB h:Q0) (ys:List CR):Prop where
 loop:h.get L=some (.loop r0)
 lt:L<h.next
 ne:L≠o
 below:L<gB.next/\o<gB.next
 at':∃s,Var h o [s.av]/\Grown gB h s 5 ys.length (ys.flatMap CR.row)/\(s.nil=false->ys≠[])
 ok:∀y,y∈ys->y.Ok gB h
 rise:(ys.flatMap CR.sls).Pairwise SlLt
section
variable {S:QW} [GoodS S] {lf n L o:Nat} {h gB:Q0} {K:ZK} {r0:qV} {ys:List CR}
theorem YI.fr (y:YI L o r0 gB h ys) {S:Nat->Prop} {h':Q0} (f:Q5 S h h') (hs:∀i,S i->i<gB.next/\i≠L/\i≠o):YI L o r0 gB h' ys:=by
 obtain⟨s,v,g,gn⟩:=y.at';refine⟨(f.same _ y.lt λe=>(hs _ e).2.1 rfl).trans y.loop,zF0 y.lt f.next,y.ne,y.below,⟨s,v.fr f λe=>(hs _ e).2.2 rfl,?_,gn⟩,λz hz=>(y.ok z hz).fr f λi e hi=>(by have:=(hs _ e).1;omega),y.rise⟩;refine g.fr f λe1 e2=>?_;rcases g.2 with ⟨_,rfl⟩ | ⟨_,_,_,_,_,h6,_⟩
 .cases e1
 .have:=(hs _ e2).1;omega
theorem row_ne {h0:Q0} {s t:SL} {k:Ky} {m:Nat} (g:Grown gB h s 5 m (ys.flatMap CR.row)) (hy:ys≠[]) (w:qy h0 h t k) (hs:s.nil=false) (ht:t.nil=false):t.i≠s.i:=by
 intro e;obtain⟨_,_,_,c,_,hg,_,_⟩:=w.own ht;rcases g.2 with ⟨_,rfl⟩ | ⟨_,_,_,_,_,_,_,h8⟩
 .cases hs
 .rw[e,h8] at hg;cases hg
theorem sls_lt {h0:Q0} (ok:∀y,y∈ys->y.Ok h0 h):∀s,s∈ys.flatMap CR.sls->s.nil=false->s.i<h.next:=λs hs e=>by
 obtain⟨y,hy,hs⟩:=List.mem_flatMap.1 hs;have w:=ok y hy;simp only[CR.sls,zL0,zM0,or_false] at hs;rcases hs with rfl | rfl | rfl
 .exact w.1.byts.seg.lt e
 .exact w.2.1.byts.seg.lt e
 .exact w.2.2.byts.seg.lt e
theorem qYe {k:Nat} (h:k<=8589934592):jy Try.prog 54 k=true:=by
 have e0:qJ4 Try.prog 54=some 80:=by kernel_rfl
 unfold jy;rw[e0];show cnd (Nat.ble (Nat.mul k 80) jX) (Nat.ble k jX) false=true;have e1:Nat.ble (Nat.mul k 80) jX=true:=zG0 (by show k*80<=1099511627776;omega);have e2:Nat.ble k jX=true:=zG0 (by show k<=1099511627776;omega);rw[e1,e2];rfl
theorem CR.Ok.fr' {h0 h h':Q0} {x:CR} {S:Nat->Prop} (a:x.Ok h0 h) (f:Q5 S h h') (hs:∀i,S i->∀s k,qy h0 h s k->s.nil=false->i≠s.i):x.Ok h0 h' :=
 a.fr f λi e hi ho=>by
  rcases ho with ⟨h1,h2⟩ | ⟨h1,h2⟩ | ⟨h1,h2⟩
  .exact hs i e _ _ a.1 h1 h2
  .exact hs i e _ _ a.2.1 h1 h2
  .exact hs i e _ _ a.2.2 h1 h2
end
end DfN
namespace DfN
open Go Go.X Go.X.Df Go.Proofs
structure Cx (g0 hb gB:Q0) (L o v6 v7:Nat):Prop where
 n67:v6≠v7
 n6L:v6≠L
 n6o:v6≠o
 n7L:v7≠L
 n7o:v7≠o
 b6:v6<gB.next
 b7:v7<gB.next
 gL:g0.next<=L
 go:g0.next<=o
 gg:g0.next<=gB.next
 h6:hb.next<=v6
 h7:hb.next<=v7
 hB:hb.next<=gB.next
structure St (g0 hb gB:Q0) (L o v6 v7:Nat) (r0:qV) (h:Q0) (X Z:List ER) (ys:List CR):Prop where
 s6:Side g0 h v6 X
 s7:Side g0 h v7 Z
 yi:YI L o r0 gB h ys
 f0:Q5 Qa g0 h
 gb:gB.next<=h.next
 fh:Q5 (λi=>i=L∨i=o) hb h
section
variable {S:QW} [GoodS S] {lf n L o v6 v7:Nat} {h g0 hb gB:Q0} {K:ZK} {r0:qV} {ys:List CR} {X Z:List ER}
theorem Side.fr {v:Nat} (s:Side g0 h v X) {S:Nat->Prop} {h':Q0} (f:Q5 S h h') (hs:¬S v):Side g0 h' v X:=by obtain⟨rest,n,i,o,hv,h1,h2,h3⟩:=s.at';exact⟨s.le,rest,n,i,o,hv.fr f hs,h1,h2,h3⟩
theorem Side.on {v:Nat} (s:Side g0 h v X) (f0:Q5 Qa g0 h) (hk:∀h',Q5 (λi=>i=v) h h'->Side g0 h' v X.tail->K (.tup []) h'):Qq Try.prog S lf (n+1) 49 [.pv false v 0] K h:=by obtain⟨rest,m,i,o,hv,h1,h2,h3⟩:=s.at';exact on_ok hv s.le f0 h2 h3 hk
theorem St.fr (s:St g0 hb gB L o v6 v7 r0 h X Z ys) (c:Cx g0 hb gB L o v6 v7) {h':Q0} (f:Q5 Qa h h'):St g0 hb gB L o v6 v7 r0 h' X Z ys :=
 ⟨s.s6.fr f id,s.s7.fr f id,s.yi.fr f λ_ e=>e.elim,s.f0.trans f,zP0 s.gb f.next,s.fh.trans (f.mono λ_ _ e=>e.elim)⟩
def nx (b:Bool) (X:List ER):List ER:=if b then X.tail else X
def xo (ord:Int) (X:List ER):Option ER:=if ord<=0 then X.head? else none
def yo (ord:Int) (Z:List ER):Option ER:=if 0<=ord then Z.head? else none
def ents (X:List ER):List (Ky × Ky):=X.map ER.e
end
end DfN
namespace DfN
open Go Go.X Go.X.Df Go.Proofs
section
variable {S:QW} [GoodS S] {lf n L o:Nat} {h g0:Q0} {K:ZK} {X Z:List ER}
theorem zAtR_of {P:Program} {C:QX} {lf:Nat} {f:FuncId} {p:List Nat} {n:Nat} (l:List (Nat × ZV)) {D:List QT} {z:ZT} {k:List QT->ZT->Q0->Prop} {E:List QT->KZ} {h:Q0} (hz:ZAt n l z) (hk:∀d,zAtR P C lf f p D (zt n (ov l d)) k E h):zAtR P C lf f p D z k E h:=by obtain⟨d,rfl⟩:=hz.tab;exact hk d
end
end DfN
namespace DfN
open Go Go.X Go.X.Df Go.Proofs
section
variable {S:QW} [GoodS S] {lf n:Nat} {h:Q0} {K:ZK} {X Y:List ER}
theorem qAr {k:Nat} (h:k<=8589934592):jy Try.prog 51 k=true:=by
 have e0:qJ4 Try.prog 51=some 48:=by kernel_rfl
 unfold jy;rw[e0];show cnd (Nat.ble (Nat.mul k 48) jX) (Nat.ble k jX) false=true;have e1:Nat.ble (Nat.mul k 48) jX=true:=zG0 (by show k*48<=1099511627776;omega);have e2:Nat.ble k jX=true:=zG0 (by show k<=1099511627776;omega);rw[e1,e2];rfl
theorem j1.key {s:SL} (a:j1 h s X) (hn:s.nil=false) {j:Nat} {x:ER} (hj:X[j]?=some x):cellAt h s.i (s.o+j*2)=some x.ks.av:=a.at' hn hj (q:=0) (by decide) rfl
theorem j1.val {s:SL} (a:j1 h s X) (hn:s.nil=false) {j:Nat} {x:ER} (hj:X[j]?=some x):cellAt h s.i (s.o+j*2+1)=some x.vs.av:=a.at' hn hj (q:=1) (by decide) rfl
theorem qBv {a b:SL} (ha:j1 h a X) (hb:j1 h b Y) (hlen:X.length<8589934592) (hlf:X.length<lf) (k:K (.bool (decide (ents X=ents Y))) h) :
  Qq Try.prog S lf (n+1) 23 [.sl a,.sl b] K h:=by
 refine QJ (hSD (by decide) (by decide)) (by kernel_rfl) ?_;rw[same_nf];have la:=ha.len (by decide);have lb:=hb.len (by decide);have ea:(Int.ofNat a.n:Int)=a.n:=rfl;have eb:(Int.ofNat b.n:Int)=b.n:=rfl;by_cases hab:a.n=b.n
 .rw[decide_eq_true (show (Int.ofNat a.n:Int)=Int.ofNat b.n by rw[hab]),Bool.not_true,qAz];refine Qy.inv (λq z h'=>∃j:Nat,ZAt 45 [(0,.sl a),(1,.sl b),(5,.int .i64 (j:Int))] z/\h'=h/\j+q=X.length/\∀i,i<j->(ents X)[i]?=(ents Y)[i]?) (n:=X.length) hlf ⟨0,⟨rfl,rfl,rfl,rfl,trivial⟩,rfl,by omega,λi hi=>absurd hi (Nat.not_lt_zero _)⟩ ?_;rintro q z h' kk hq ⟨j,hz,rfl,hj,heq⟩ ih;refine Qr _ hz λd=>(qTy _ _ _ _ _ _ _ _ _ _ _).mpr ?_;rw[q9];refine⟨λe=>?_,λe=>?_⟩
  .have hjx:j<X.length:=by omega
   have hjy:j<Y.length:=by omega
   have na:=ha.nil_of (by decide) hjx;have nb:=hb.nil_of (by decide) hjy;have a1:=ha.len' (by decide) na;have b1:=hb.len' (by decide) nb;obtain⟨x,hx⟩:∃x,X[j]?=some x:=⟨_,zE0 hjx⟩;obtain⟨y,hy⟩:∃y,Y[j]?=some y:=⟨_,zE0 hjy⟩;obtain⟨xk,xv⟩:=ha.ok x (zD0 hx);obtain⟨yk,yv⟩:=hb.ok y (zD0 hy);have fin:x.e≠y.e->K (.bool false) h':=λhne=>by
    rw[decide_eq_false λe0:ents X=ents Y=>?_] at k
    .exact k
    .have:=congrArg (·[j]?) e0
     simp only[ents,zV0,hx,hy,Option.map_some,Option.some.injEq] at this;exact hne this
   refine⟨na,qAe.2 ⟨by omega,rfl,rfl,Qh (ha.key na hx) (xk.zbytes ⟨nb,qAe.2 ⟨by omega,rfl,rfl,Qh (hb.key nb hy) (yk.zbytes ?_)⟩⟩)⟩⟩;by_cases hk:x.e.1=y.e.1
   .rw[decide_eq_true hk,Bool.not_true,qAz];refine⟨na,qAe.2 ⟨by omega,rfl,rfl,Qh (ha.val na hx) (xv.zbytes ⟨nb,qAe.2 ⟨by omega,rfl,rfl,Qh (hb.val nb hy) (yv.zbytes ?_)⟩⟩)⟩⟩;rw[qHv];by_cases hv:x.e.2=y.e.2
    .rw[decide_eq_true hv,Bool.not_true,qAz];refine qAy.2 ?_;rw[QD (e:=(j:Int)+1) (by omega) (by omega)];refine ih (q-1) _ _ (by omega) ⟨j+1,⟨rfl,rfl,rfl,rfl,trivial⟩,rfl,by omega,λi hi=>?_⟩;by_cases hij:i=j
     .subst hij;simp only[ents,zV0,hx,hy,Option.map_some,Option.some.injEq];exact Prod.ext hk hv
     .exact heq i (by omega)
    .rw[decide_eq_false hv,Bool.not_false,qBi];exact fin λe0=>hv (by rw[e0])
   .rw[decide_eq_false hk,Bool.not_false,qBi];exact fin λe0=>hk (by rw[e0])
  .refine Qr (n:=45) [] ⟨rfl,trivial⟩ λd'=>(same_a111 _ _ _ _ _).mpr ?_;rw[decide_eq_true (List.ext_getElem? λi=>?_)] at k
   .exact k
   .by_cases hi:i<j
    .exact heq i hi
    .rw[List.getElem?_eq_none (by simp[ents];omega),List.getElem?_eq_none (by simp[ents];omega)]
 .rw[decide_eq_false (show ¬(Int.ofNat a.n:Int)=Int.ofNat b.n by omega),Bool.not_false,qBi];rw[decide_eq_false λe0:ents X=ents Y=>?_] at k
  .exact k
  .have:=congrArg List.length e0
   simp only[ents,zJ0] at this;omega
def j5 (last:Option Ky):List ER->List ER
 | []=>[]
 | x::l=>match last with
  | none=>x::j5 (some x.e.1) l
  | some k=>if Qm k x.e.1=true then x::j5 (some x.e.1) l else j5 (some k) l
theorem qAh:∀(l:List ER) (last:Option Ky),ents (j5 last l)=qAc last (ents l)
 | [],_=>rfl
 | x::l,none=>by
  show x.e::ents (j5 (some x.e.1) l)=x.e::qAc (some x.e.1) (ents l);rw[qAh l]
 | x::l,some k=>by
  show ents (if Qm k x.e.1=true then x::j5 (some x.e.1) l else j5 (some k) l)=if Qm k x.e.1=true then x.e::qAc (some x.e.1) (ents l) else qAc (some k) (ents l)
  split
  .show x.e::ents (j5 (some x.e.1) l)=_;rw[qAh l]
  .rw[qAh l]
theorem qY:∀(l:List ER) (last:Option Ky),(j5 last l).Sublist l
 | [],_=>.slnil
 | x::l,none=>(qY l _).cons_cons x
 | x::l,some k=>by
  show (if Qm k x.e.1=true then x::j5 (some x.e.1) l else j5 (some k) l).Sublist _;split
  .exact (qY l _).cons_cons x
  .exact (qY l _).cons x
theorem ER.plain (x:ER):QL x.row=true:=qH.2 λv hv=>by simp only[ER.row,zL0,zM0,or_false] at hv;rcases hv with rfl | rfl <;> exact jB _
theorem risen_ok {a:SL} (ha:j1 h a X) (hlen:X.length<8589934592) (hlf:X.length<lf)
  (hk:∀h' s,Q5 Qa h h'->j1 h' s (j5 none X)->SlOk s->K (.sl s) h'):Qq Try.prog S lf (n+1) 10 [.sl a] K h:=by
 refine QJ (hSD (by decide) (by decide)) (by kernel_rfl) ?_;rw[risen_nf];have la:=ha.len (by decide);have ea:(Int.ofNat a.n:Int)=a.n:=rfl
 refine Qy.inv (λq z h'=>∃(j:Nat) (s:SL) (R:List ER),ZAt 39 [(0,.sl a),(3,.sl s),(4,.int .i64 (j:Int))] z/\Q5 Qa h h'/\Grown h h' s 2 R.length (R.flatMap ER.row)/\j+q=X.length/\R.length<=j/\R++j5 (R.getLast?.map λx=>x.e.1) (X.drop j)=j5 none X) (n:=X.length) hlf
  ⟨0,QE,[],⟨rfl,rfl,rfl,rfl,trivial⟩,Q5.refl _ _,Grown.start _ _ _,by omega,zA1 _,rfl⟩ ?_
 rintro q z h' kk hq ⟨j,s,R,hz,f,g,hj,hR,heq⟩ ih;refine Qr _ hz λd=>(qRj _ _ _ _ _ _ _ _ _ _ _).mpr ?_;have gn:=g.n_eq;have es:(Int.ofNat s.n:Int)=s.n:=rfl;have hfn:=f.next
 rw[q9];refine⟨λe=>?_,λe=>?_⟩
 .have hjx:j<X.length:=by omega
  have na:=ha.nil_of (by decide) hjx;have a1:=ha.len' (by decide) na;obtain⟨x,hx⟩:∃x,X[j]?=some x:=⟨_,zE0 hjx⟩;have ha':=ha.fr f;obtain⟨xk,xv⟩:=ha'.ok x (zD0 hx);have hdrop:X.drop j=x::X.drop (j+1):=by rw[List.drop_eq_getElem_cons hjx];congr 1;exact (List.getElem?_eq_some_iff.1 hx).2
  rw[hdrop] at heq;have go:R++[x]++j5 ((R++[x]).getLast?.map λx=>x.e.1) (X.drop (j+1))=j5 none X->∀h2 s2 z2,Q5 Qa h h2->Grown h h2 s2 2 (R.length+1) (R.flatMap ER.row++x.row)->ZAt 39 [(0,.sl a),(3,.sl s2),(4,.int .i64 ((j:Int)+1))] z2->kk z2 h2:=by
   intro h1 h2 s2 z2 f2 g2 hz2;refine ih (q-1) _ _ (by omega) ⟨j+1,s2,R++[x],hz2,f2,?_,by omega,by simp;omega,h1⟩;rw[zC0,zT0]
   have:List.flatMap ER.row [x]=x.row:=by simp
   rw[this];exact g2
  have f4:Q5 Qa h' (h'.newO (.cells x.row 2 false false)):=Q5.newO _ _ _;have sg:Seg (h'.newO (.cells x.row 2 false false)) ⟨false,h'.next,0,1,1,false⟩ 2 x.row:=Seg.own (more:=[]) rfl (zO0 _) (by rw[zS0];exact Ql _ _);have hn4:(h'.newO (.cells x.row 2 false false)).next=h'.next+1:=rfl
  have hw:IntKind.i64.wrap ((j:Int)+1)=(j:Int)+1:=QD (by omega) (by omega);have hsi:s.nil=false->h.next<=s.i:=λe1=>by
   rcases g.2 with ⟨_,rfl⟩ | ⟨_,_,_,_,_,h6,_⟩
   .cases e1
   .exact h6
  rw[q9];refine⟨λe0=>?_,λe0=>?_⟩
  .have hR0:R=[]:=List.eq_nil_of_length_eq_zero (by omega);subst hR0;refine⟨na,qAe.2 ⟨by omega,rfl,Qh (ha'.key na hx) (Qh (ha'.val na hx) (sg.zsrc ?_))⟩⟩;refine (g.fr f4 λ_=>id).append1 (by omega) (by decide) rfl x.plain (qAr (by omega)) λg5 f5 _=>qAy.2 ?_;rw[hw];exact go heq _ _ _ ((f.trans f4).back f5 λi hi ⟨e1,e2⟩=>by have:=hsi e1;omega) g5 ⟨rfl,rfl,rfl,rfl,trivial⟩
  .obtain⟨y,hy⟩:∃y,R.getLast?=some y:=by
    cases R with
    | nil=>simp only[List.length_nil] at gn;omega
    | cons a R=>exact⟨_,List.getLast?_eq_some_getLast (by simp)⟩
   rw[hy,Option.map_some] at heq;have hym:y∈R:=List.mem_of_getLast? hy;have hRpos:0<R.length:=List.length_pos_of_mem hym;have hyj:R[R.length-1]?=some y:=by rw[<- List.getLast?_eq_getElem?];exact hy
   have hyX:y∈X:=(qY X none).subset (by rw[<- heq];exact zH0 _ hym);have rw':j1 h' s R:=g.rws (λx _=>rfl) λx hx=>ha'.ok x ((qY X none).subset (by rw[<- heq];exact zH0 _ hx));have ns:=rw'.nil_of (by decide) (j:=R.length-1) (by omega);have ls:=rw'.len' (by decide) ns;have hw1:IntKind.i64.wrap (Int.ofNat s.n-1)=((R.length-1:Nat):Int):=by rw[QD (by omega) (by omega)];omega
   refine⟨na,qAe.2 ⟨by omega,rfl,rfl,Qh (ha'.key na hx) (xk.zbytes (qAy.2 ?_))⟩⟩;rw[hw1];refine⟨ns,qAe.2 ⟨by omega,rfl,rfl,Qh (rw'.key ns hyj) ((rw'.ok y hym).1.zbytes ?_)⟩⟩;rw[qHv];have hr:j5 (some y.e.1) (x::X.drop (j+1))=if Qm y.e.1 x.e.1=true then x::j5 (some x.e.1) (X.drop (j+1)) else j5 (some y.e.1) (X.drop (j+1)):=rfl
   rw[hr] at heq;cases hb:Qm y.e.1 x.e.1 with
   | true =>
    rw[hb,if_pos rfl] at heq;rw[qBi];refine⟨na,qAe.2 ⟨by omega,rfl,Qh (ha'.key na hx) (Qh (ha'.val na hx) (sg.zsrc ?_))⟩⟩;refine (g.fr f4 λ_=>id).append1 (by omega) (by decide) rfl x.plain (qAr (by omega)) λg5 f5 _=>qAy.2 ?_;rw[hw];refine go ?_ _ _ _ ((f.trans f4).back f5 λi hi ⟨e1,e2⟩=>by have:=hsi e1;omega) g5 ⟨rfl,rfl,rfl,rfl,trivial⟩;rw[List.getLast?_concat,Option.map_some,zX0];exact heq
   | false =>rw[hb,if_neg (by simp)] at heq;rw[qAz];refine qAy.2 ?_;rw[hw];refine ih (q-1) _ _ (by omega) ⟨j+1,s,R,⟨rfl,rfl,rfl,rfl,trivial⟩,f,g,by omega,by omega,?_⟩;rw[hy,Option.map_some];exact heq
 .refine Qr (n:=39) [(3,.sl s)] ⟨rfl,rfl,trivial⟩ λd'=>(qZ1 _ _ _ _ _ _).mpr ?_
  have:X.drop j=[]:=List.drop_of_length_le (by omega)
  rw[this,show j5 (R.getLast?.map λx=>x.e.1) []=[] from rfl,zS0] at heq;subst heq;have hsub:∀x,x∈j5 none X->x∈X:=λx hx=>(qY X none).subset hx;refine hk _ s f (g.rws (λx _=>rfl) λx hx=>(ha.fr f).ok x (hsub x hx)) λe1=>?_;rcases g.2 with ⟨_,rfl⟩ | ⟨_,_,h3,h4,_⟩
  .cases e1
  .omega
end
end DfN
namespace DfN
open Go Go.X Go.X.Df Go.Proofs
section
variable {S:QW} [GoodS S] {lf n:Nat} {h:Q0} {K:ZK} {X Y:List ER}
end
end DfN
