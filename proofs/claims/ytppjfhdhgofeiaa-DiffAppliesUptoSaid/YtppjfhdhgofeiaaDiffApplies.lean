/-
 PROVED: the law 'diffApplies' returns true,and its arguments read as they did. Condition: the row's own (what it reads is of bulk at most 1048576).
-/
import Derived.Test.YtppjfhdhgofeiaaPh
import Derived.Test.YtppjfhdhgofeiaaRows
import Derived.WalkKit
import Derived.ProofKit
import Derived.OpenShut
import Derived.HandedShaped
import Derived.Carry
import Derived.ReadAgain
import Derived.JoinedCond
set_option linter.unusedVariables false
open List renaming mem_of_getElem? -> zD0, getElem?_eq_getElem -> zE0, mem_append_left -> zH0, mem_append_right -> zI0, length_map -> zJ0, length_cons -> zK0, append_nil -> zS0, getElem?_map -> zV0
open Nat renaming le_refl -> zN0, lt_succ_self -> zO0, le_trans -> zP0, zero_le -> zA1
noncomputable section
namespace Go.Proofs.Ytppjfhdhgofeiaa.diffApplies
open Go.ChangeShapes Go.WideShapes Go.ChangeAt Go.RowKit
def hints:Go.X.Hints:=⟨λ_=>none,λ_=>0⟩
theorem runs:Go.X.qXw ((Go.X.xCall Try.prog hints (λ_=>none) 1000 50 7 []).run 0 (Go.X.qPt 1) Go.X.Log.nil)=true:=by decide +kernel
theorem qWe (W:World) (h1:1<=W.heap.size):Calls Try.prog 7 #[] W λe W'=>e=.returned (.bool true)/\Below W.heap.size W W' :=
 Go.X.qXj (G:=1) (by kernel_rfl) (by kernel_rfl) h1 (by decide) (by kernel_rfl) Go.X.noSums (.inr λ_=>zA1 _) runs
theorem law_calls {W:World} {v0 v1:Value} {a c:Go.X.SL} {X:List DfN.ER} {Y:List DfN.CR} (h1:1<=W.heap.size) (h0:Go.X.Qf W.heap.size v0=a.av) (h2:Go.X.Qf W.heap.size v1=c.av)
  (ha:DfN.j1 (Go.X.absH W) a X) (hc:DfN.Chgs (Go.X.absH W) c Y) (sX:∀x,x∈X->DfN.Mb x.e) (sY:∀y,y∈Y->DfN.Mc y.c) (lX:X.length<=1048576) (lY:Y.length<=1048576) :
  Calls Try.prog 5 #[v0,v1] W λe W'=>e=.returned (.bool true)/\Below W.heap.size W W':=by
 have hmo:Try.prog.follows .mixedOrders=true:=by kernel_rfl
 have s0:=Go.X.qZt (W0:=W) (f:=7) λw hw=>qWe w (zP0 h1 hw.size);have f0:=Go.X.true_fit 7;have s1:=Go.X.qk.or s0 (Go.X.qDl DfN.sortFact);have f1:=Go.X.SumFit.or f0 (Go.X.sort_fit 45);have s2:=Go.X.qk.addR s1 hmo 8589934592 9 38;have f2:=Go.X.qM6 (P:=Try.prog) f1 8589934592 9 (g:=38) (Go.X.qHe (by kernel_rfl));have s3:=Go.X.qk.addR s2 hmo 8589934592 9 20;have f3:=Go.X.qM6 (P:=Try.prog) f2 8589934592 9 (g:=20) (Go.X.qHe (by kernel_rfl));have s4:=Go.X.qk.addT s3 hmo 8589934592 9 19;have f4:=Go.X.qCl (P:=Try.prog) f3 8589934592 9 (g:=19) (Go.X.qHe (by kernel_rfl))
 refine Go.X.law_true (S:=DfN.T3) s4 f4 hmo
  (by rw[show Try.prog.globals.size=1 by kernel_rfl];exact h1) (lf:=8589934592) (n:=7) (by kernel_rfl) (args:=[.sl a,.sl c]) ?_ (DfN.law5_ok (n:=0) ha hc sX sY lX lY (zN0 _))
 have e0:=Go.X.qXx W.heap.size v0;have e1:=Go.X.qXx W.heap.size v1;rw[h0] at e0;rw[h2] at e1;exact .cons _ _ _ _ (by rw[Go.X.qDk];exact e0) (.cons _ _ _ _ (by rw[Go.X.qDk];exact e1) .nil)
theorem qHp {H:Type}:∀{ds:List (DataW H)} {d:DataW H},d∈ds->Rows.uptoBulk d<=Rows.uptoBulkAll ds
 | [],_,h=>by cases h
 | x::r,d,h=>by
  rw[Rows.uptoBulkAll];rcases List.mem_cons.1 h with rfl | h
  .omega
  .have:=qHp h;omega
theorem bulk_pos {H:Type} (d:DataW H):1<=Rows.uptoBulk d:=by unfold Rows.uptoBulk;split <;> omega
theorem qSr {H:Type}:∀(ds:List (DataW H)),ds.length<=Rows.uptoBulkAll ds
 | []=>zA1 _
 | x::r=>by
  rw[Rows.uptoBulkAll]
  have:=bulk_pos x
  have:=qSr r
  simp only[zK0];omega
theorem qQm {H:Type} (es sp:List (DataW H)):Rows.uptoBulkAll es<=Rows.uptoBulk (.slice es sp):=by rw[Rows.uptoBulk];omega
theorem qDb {H:Type} (es:List (DataW H)):Rows.uptoBulkAll es<=Rows.uptoBulk (.agg es):=by rw[Rows.uptoBulk];omega
theorem qBh:Try.prog.cellsOf 49=1:=by kernel_rfl
theorem cells51:Try.prog.cellsOf 51=2:=by kernel_rfl
theorem qCf:Try.prog.cellsOf 5=1:=by kernel_rfl
section
variable {H:Type} {enc:TypeId × Value->H} {W:World}
theorem qQk {x:DataW H × List MemPlace} {k:List Nat} (hx:(x.1=.nil/\k=[])∨∃es r,x.1=.slice es r/\es.length=k.length):k.length<=Rows.uptoBulk x.1:=by
 rcases hx with ⟨_,rfl⟩ | ⟨es,r,h2,h3⟩
 .exact zA1 _
 .rw[h2];have b3:=qQm es r;have b4:=qSr es;omega
theorem one_entry {m:Nat} {cs:List Value} {d:DataW H} {p:List MemPlace} (hl:cs.length=2) (h:DataW.trod enc Try.prog W 0 (λ_=>true) true m 51 cs=some (d,p)) :
  ∃(y:DfN.ER) (kv vv:Value),cs=[kv,vv]/\Go.X.Qf W.heap.size kv=y.ks.av/\Go.X.Qf W.heap.size vv=y.vs.av/\y.Ok (Go.X.absH W)/\y.e.1.length<=Rows.uptoBulk d/\y.e.2.length<=Rows.uptoBulk d:=by
 match cs,hl with
 | [a,b],_ =>
  obtain⟨xs,k,_,hx,_,hxl,hxs⟩:=DataW.trod_struct Try.underlying51 h;have h0:=hxs 0 _ rfl;have h1:=hxs 1 _ rfl;obtain⟨x0,hx0⟩:∃x,xs[0]?=some x:=⟨_,zE0 (by rw[hxl];decide)⟩;obtain⟨x1,hx1⟩:∃x,xs[1]?=some x:=⟨_,zE0 (by rw[hxl];decide)⟩;rw[hx0] at h0;rw[hx1] at h1;have h0:DataW.trod enc Try.prog W 0 (λ_=>true) true k 49 [a]=some x0:=by
   have e:(([a,b].drop 0).take (Try.prog.cellsOf 49))=[a]:=by rw[qBh];rfl
   rw[<- e];exact h0
  have h1:DataW.trod enc Try.prog W 0 (λ_=>true) true k 49 [b]=some x1:=by
   have e:(([a,b].drop 1).take (Try.prog.cellsOf 49))=[b]:=by rw[qBh];rfl
   rw[<- e];exact h1
  obtain⟨s0,k0,e0,hb0,q0⟩:=Go.X.qVu Try.underlying49 Try.underlying5 qCf h0;obtain⟨s1,k1,e1,hb1,q1⟩:=Go.X.qVu Try.underlying49 Try.underlying5 qCf h1;have hd:d=.agg (xs.map (·.1)):=congrArg Prod.fst hx;have b2:=qDb (xs.map (·.1));have m0:x0.1∈xs.map (·.1):=List.mem_map_of_mem (zD0 hx0);have m1:x1.1∈xs.map (·.1):=List.mem_map_of_mem (zD0 hx1);have c0:=qHp m0;have c1:=qHp m1;have d0:=qQk q0;have d1:=qQk q1;rw[<- hd] at b2;exact⟨⟨s0,s1,(k0,k1)⟩,a,b,rfl,e0,e1,⟨hb0,hb1⟩,by show k0.length<=_;omega,by show k1.length<=_;omega⟩
theorem abs_ents {v:Value} {fuel:Nat} {x:DataW H × List MemPlace} (h:DataW.trod enc Try.prog W 0 (λ_=>true) true fuel 25 [v]=some x) :
  ∃(s:Go.X.SL) (al:List DfN.ER),Go.X.Qf W.heap.size v=s.av/\DfN.j1 (Go.X.absH W) s al/\al.length<=Rows.uptoBulk x.1/\∀y,y∈al->y.e.1.length<=Rows.uptoBulk x.1/\y.e.2.length<=Rows.uptoBulk x.1:=by
 obtain⟨s,rows,m,hv,hn,hcell,hrow,hx⟩:=Go.X.qZb Try.underlying25 cells51 (by decide) h;obtain⟨al,hal,hq⟩:=Go.X.qN0 (rows:=rows) (Q:=λr (y:DfN.ER)=>∃(kv vv:Value),r.1=[kv,vv]/\Go.X.Qf W.heap.size kv=y.ks.av/\Go.X.Qf W.heap.size vv=y.vs.av/\y.Ok (Go.X.absH W)/\y.e.1.length<=Rows.uptoBulk r.2/\y.e.2.length<=Rows.uptoBulk r.2) λr hr=>by obtain⟨h1,p,h2⟩:=hrow r hr;exact one_entry h1 h2
 have hd:(rows.map (·.2)).length<=Rows.uptoBulk x.1/\∀r,r∈rows->Rows.uptoBulk r.2<=Rows.uptoBulk x.1:=by
  rcases hx with ⟨h1,h2⟩ | ⟨sp,h1⟩
  .subst h2;exact⟨zA1 _,λr hr=>by cases hr⟩
  .rw[h1];have b1:=qQm (rows.map (·.2)) sp;have b2:=qSr (rows.map (·.2));refine⟨by omega,λr hr=>?_⟩;have b3:=qHp (List.mem_map_of_mem (f:=(·.2)) hr);omega
 have each:∀y,y∈al->∃r,r∈rows/\y.Ok (Go.X.absH W)/\y.e.1.length<=Rows.uptoBulk r.2/\y.e.2.length<=Rows.uptoBulk r.2:=λy hy=>by obtain⟨j,hj⟩:=List.mem_iff_getElem?.1 hy;obtain⟨r,hr⟩:∃r,rows[j]?=some r:=⟨_,zE0 (by rw[<- hal];exact (List.getElem?_eq_some_iff.1 hj).1)⟩;obtain⟨y',hy',kv,vv,h1,h2,h3,h4,h5,h6⟩:=hq j r hr;rw[hj] at hy';cases hy';exact⟨r,zD0 hr,h4,h5,h6⟩
 have rl:∀y,y∈al->(DfN.ER.row y).length=2:=λ_ _=>rfl;have fl:=Go.X.qEr rl;refine⟨s,al,hv,⟨⟨by rw[fl,hal,hn],λe=>(hcell e).1,λe=>?_⟩,rl,λy hy=>?_⟩,?_,λy hy=>?_⟩
 .obtain⟨_,c,el,f,hb,hc⟩:=hcell e;refine⟨c.toList.map (Go.X.Qf W.heap.size),by unfold Go.X.qn;rw[Go.X.qQp hb],?_⟩;have hlen:s.len=rows.length:=by unfold Go.X.SL.n at hn;rw[e] at hn;exact hn
  have:=Go.X.qK9 (c:=c.toList.map (Go.X.Qf W.heap.size)) (l:=al.flatMap DfN.ER.row) (o:=s.o) λi u hu=>by
   have hi:=(List.getElem?_eq_some_iff.1 hu).1;rw[fl] at hi;have hj:i / 2<al.length:=by omega
   obtain⟨y,hy⟩:∃y,al[i / 2]?=some y:=⟨_,zE0 hj⟩;obtain⟨r,hr⟩:∃r,rows[i / 2]?=some r:=⟨_,zE0 (by omega)⟩;obtain⟨y',hy',kv,vv,h1,h2,h3,_⟩:=hq (i / 2) r hr;rw[hy] at hy';cases hy';have e1:=Go.X.qW5 rl hy (q:=i % 2) (Nat.mod_lt _ (by decide));rw[show i / 2*2+i % 2=i by omega,hu] at e1;obtain⟨w,hw,hcw⟩:=hc (i / 2) r hr (i % 2) (Nat.mod_lt _ (by decide));rw[show s.o+i / 2*2+i % 2=s.o+i by omega] at hcw;rw[zV0,Array.getElem?_toList,hcw];rw[h1] at hw;rcases Nat.mod_two_eq_zero_or_one i with e2 | e2
   .rw[e2] at hw e1;cases hw;rw[e1,Option.map_some,h2];rfl
   .rw[e2] at hw e1;cases hw;rw[e1,Option.map_some,h3];rfl
  rw[fl,hal,<- hlen] at this;exact this
 .obtain⟨r,_,h4,_⟩:=each y hy;exact h4
 .rw[hal]
  have:=hd.1
  rwa [zJ0] at this
 .obtain⟨r,hr,_,h5,h6⟩:=each y hy
  have:=hd.2 r hr
  exact⟨by omega,by omega⟩
theorem trod_bool {P:Program} {held:Bool} {base:Nat} {e:TypeId} (he:P.underlying e=some .bool) {u:Value} {fuel:Nat} {x:DataW H × List MemPlace} (h:DataW.trod enc P W base (λ_=>true) held fuel e [u]=some x):∃b,u=.bool b:=by
 cases fuel with
 | zero=>simp[DataW.trod] at h
 | succ m =>unfold DataW.trod at h;rw[he] at h;cases u <;> simp at h;exact⟨_,rfl⟩
theorem cells4:Try.prog.cellsOf 4=1:=by kernel_rfl
theorem cells54:Try.prog.cellsOf 54=5:=by kernel_rfl
theorem qDr {m:Nat} {cs:List Value} {d:DataW H} {p:List MemPlace} (hl:cs.length=5) (h:DataW.trod enc Try.prog W 0 (λ_=>true) true m 54 cs=some (d,p)) :
  ∃y:DfN.CR,cs.map (Go.X.Qf W.heap.size)=y.row/\y.Rd (Go.X.absH W)/\y.c.k.length<=Rows.uptoBulk d/\y.c.old.length<=Rows.uptoBulk d/\y.c.new.length<=Rows.uptoBulk d:=by
 match cs,hl with
 | [a,b,c,e,f],_ =>
  obtain⟨xs,k,_,hx,_,hxl,hxs⟩:=DataW.trod_struct Try.underlying54 h;have g:∀i,i<5->∃x,xs[i]?=some x:=λi hi=>⟨_,zE0 (by rw[hxl];exact hi)⟩;obtain⟨x0,hx0⟩:=g 0 (by decide);obtain⟨x1,hx1⟩:=g 1 (by decide);obtain⟨x2,hx2⟩:=g 2 (by decide);obtain⟨x3,hx3⟩:=g 3 (by decide);obtain⟨x4,hx4⟩:=g 4 (by decide);have h0:DataW.trod enc Try.prog W 0 (λ_=>true) true k 49 [a]=some x0:=by
   have:=hxs 0 _ rfl
   rw[hx0] at this;have e:(([a,b,c,e,f].drop 0).take (Try.prog.cellsOf 49))=[a]:=by rw[qBh];rfl
   rw[<- e];exact this
  have h1:DataW.trod enc Try.prog W 0 (λ_=>true) true k 4 [b]=some x1:=by
   have:=hxs 1 _ rfl
   rw[hx1] at this;have e:(([a,b,c,e,f].drop 1).take (Try.prog.cellsOf 4))=[b]:=by rw[cells4];rfl
   rw[<- e];exact this
  have h2:DataW.trod enc Try.prog W 0 (λ_=>true) true k 4 [c]=some x2:=by
   have:=hxs 2 _ rfl
   rw[hx2] at this;have e:(([a,b,c,e,f].drop 2).take (Try.prog.cellsOf 4))=[c]:=by rw[cells4];rfl
   rw[<- e];exact this
  have h3:DataW.trod enc Try.prog W 0 (λ_=>true) true k 49 [e]=some x3:=by
   have:=hxs 3 _ rfl
   rw[hx3] at this;have e:(([a,b,c,e,f].drop 3).take (Try.prog.cellsOf 49))=[e]:=by rw[qBh];rfl
   rw[<- e];exact this
  have h4:DataW.trod enc Try.prog W 0 (λ_=>true) true k 49 [f]=some x4:=by
   have:=hxs 4 _ rfl
   rw[hx4] at this;have e:(([a,b,c,e,f].drop 4).take (Try.prog.cellsOf 49))=[f]:=by rw[qBh];rfl
   rw[<- e];exact this
  obtain⟨s0,k0,e0,hb0,q0⟩:=Go.X.qVu Try.underlying49 Try.underlying5 qCf h0;obtain⟨z1,rfl⟩:=trod_bool Try.underlying4 h1;obtain⟨z2,rfl⟩:=trod_bool Try.underlying4 h2;obtain⟨s3,k3,e3,hb3,q3⟩:=Go.X.qVu Try.underlying49 Try.underlying5 qCf h3;obtain⟨s4,k4,e4,hb4,q4⟩:=Go.X.qVu Try.underlying49 Try.underlying5 qCf h4;have hd:d=.agg (xs.map (·.1)):=congrArg Prod.fst hx;have b2:=qDb (xs.map (·.1));have c0:=qHp (List.mem_map_of_mem (f:=(·.1)) (zD0 hx0));have c3:=qHp (List.mem_map_of_mem (f:=(·.1)) (zD0 hx3));have c4:=qHp (List.mem_map_of_mem (f:=(·.1)) (zD0 hx4));have d0:=qQk q0;have d3:=qQk q3;have d4:=qQk q4;rw[<- hd] at b2;refine⟨⟨s0,s3,s4,⟨k0,z1,z2,k3,k4⟩⟩,?_,⟨hb0,hb3,hb4⟩,by show k0.length<=_;omega,by show k3.length<=_;omega,by show k4.length<=_;omega⟩;show [_,_,_,_,_]=[_,_,_,_,_];rw[e0,e3,e4];rfl
theorem abs_chgs {v:Value} {fuel:Nat} {x:DataW H × List MemPlace} (h:DataW.trod enc Try.prog W 0 (λ_=>true) true fuel 34 [v]=some x) :
  ∃(s:Go.X.SL) (al:List DfN.CR),Go.X.Qf W.heap.size v=s.av/\DfN.Chgs (Go.X.absH W) s al/\al.length<=Rows.uptoBulk x.1/\∀y,y∈al->y.c.k.length<=Rows.uptoBulk x.1/\y.c.old.length<=Rows.uptoBulk x.1/\y.c.new.length<=Rows.uptoBulk x.1:=by
 obtain⟨s,rows,m,hv,hn,hcell,hrow,hx⟩:=Go.X.qZb Try.underlying34 cells54 (by decide) h;obtain⟨al,hal,hq⟩:=Go.X.qN0 (rows:=rows) (Q:=λr (y:DfN.CR)=>r.1.map (Go.X.Qf W.heap.size)=y.row/\y.Rd (Go.X.absH W)/\y.c.k.length<=Rows.uptoBulk r.2/\y.c.old.length<=Rows.uptoBulk r.2/\y.c.new.length<=Rows.uptoBulk r.2) λr hr=>by obtain⟨h1,p,h2⟩:=hrow r hr;exact qDr h1 h2
 have hd:(rows.map (·.2)).length<=Rows.uptoBulk x.1/\∀r,r∈rows->Rows.uptoBulk r.2<=Rows.uptoBulk x.1:=by
  rcases hx with ⟨h1,h2⟩ | ⟨sp,h1⟩
  .subst h2;exact⟨zA1 _,λr hr=>by cases hr⟩
  .rw[h1];have b1:=qQm (rows.map (·.2)) sp;have b2:=qSr (rows.map (·.2));refine⟨by omega,λr hr=>?_⟩;have b3:=qHp (List.mem_map_of_mem (f:=(·.2)) hr);omega
 have each:∀y,y∈al->∃r,r∈rows/\y.Rd (Go.X.absH W)/\y.c.k.length<=Rows.uptoBulk r.2/\y.c.old.length<=Rows.uptoBulk r.2/\y.c.new.length<=Rows.uptoBulk r.2:=λy hy=>by obtain⟨j,hj⟩:=List.mem_iff_getElem?.1 hy;obtain⟨r,hr⟩:∃r,rows[j]?=some r:=⟨_,zE0 (by rw[<- hal];exact (List.getElem?_eq_some_iff.1 hj).1)⟩;obtain⟨y',hy',_,q⟩:=hq j r hr;rw[hj] at hy';cases hy';exact⟨r,zD0 hr,q⟩
 have rl:∀y,y∈al->(DfN.CR.row y).length=5:=λ_ _=>rfl;have fl:=Go.X.qEr rl;refine⟨s,al,hv,⟨⟨by rw[fl,hal,hn],λe=>(hcell e).1,λe=>?_⟩,rl,λy hy=>?_⟩,?_,λy hy=>?_⟩
 .obtain⟨_,c,el,f,hb,hc⟩:=hcell e;refine⟨c.toList.map (Go.X.Qf W.heap.size),by unfold Go.X.qn;rw[Go.X.qQp hb],?_⟩;have hlen:s.len=rows.length:=by unfold Go.X.SL.n at hn;rw[e] at hn;exact hn
  have:=Go.X.qK9 (c:=c.toList.map (Go.X.Qf W.heap.size)) (l:=al.flatMap DfN.CR.row) (o:=s.o) λi u hu=>by
   have hi:=(List.getElem?_eq_some_iff.1 hu).1;rw[fl] at hi;have hj:i / 5<al.length:=by omega
   obtain⟨y,hy⟩:∃y,al[i / 5]?=some y:=⟨_,zE0 hj⟩;obtain⟨r,hr⟩:∃r,rows[i / 5]?=some r:=⟨_,zE0 (by omega)⟩;obtain⟨y',hy',hrow',_⟩:=hq (i / 5) r hr;rw[hy] at hy';cases hy';have e1:=Go.X.qW5 rl hy (q:=i % 5) (Nat.mod_lt _ (by decide));rw[show i / 5*5+i % 5=i by omega,hu] at e1;obtain⟨w,hw,hcw⟩:=hc (i / 5) r hr (i % 5) (Nat.mod_lt _ (by decide));rw[show s.o+i / 5*5+i % 5=s.o+i by omega] at hcw;rw[zV0,Array.getElem?_toList,hcw,e1,<- hrow',zV0,hw]
  rw[fl,hal,<- hlen] at this;exact this
 .obtain⟨r,_,h4,_⟩:=each y hy;exact h4
 .rw[hal]
  have:=hd.1
  rwa [zJ0] at this
 .obtain⟨r,hr,_,h5,h6,h7⟩:=each y hy
  have:=hd.2 r hr
  exact⟨by omega,by omega,by omega⟩
end
theorem own:ownKnob Try.prog.godebug=none:=by kernel_rfl
theorem laidOut:laidOutB Try.prog=true:=by kernel_rfl
set_option maxRecDepth 100000 in
theorem lifted (os:Os) (started:os.Started) (H:Type) (enc:TypeId × Value->H) (F:Stop.Interp) :
  ReturnsInHanded {} Try.checked os 5 .any ((Rows.OpenSpec.upto Rows.diffAppliesSpec).pre6 enc Try.prog Try.f5 [] false) (((Rows.OpenSpec.upto Rows.diffAppliesSpec).at F).post enc Try.prog Try.f5 false true false false):=by
 refine returnsInHanded_of_calls own started (by kernel_rfl)
  (OpenSpec.witness (enc:=enc) (C:=Try.checked) (s:=Rows.OpenSpec.upto Rows.diffAppliesSpec) (k:=Rows.uptoSmall) rfl false ⟨#[],#[.slice none 0 0,.slice none 0 0],[]⟩ 8 (by kernel_rfl) (by kernel_rfl) (by kernel_rfl)
   (x:=([.nil,.nil],[],[])) (by kernel_rfl) rfl rfl) ?_
 intro w tape inp _ hsh _ hok hpre _;obtain⟨_,_,_,fn,hfn,_,_,_,_,hval0⟩:=hok;have efn:fn=Try.f5:=Option.some.inj (hfn.symm.trans Try.func5);subst efn;obtain⟨ds,gs,before,hw0,_,hk0⟩:=(OpenSpec.pre_some (s:=Rows.OpenSpec.upto Rows.diffAppliesSpec) (k:=Rows.uptoSmall) rfl [] false _ _).1 hpre.1;have hW:=DataW.Whole.of_heap (w':=w.forCall tape inp) (by rfl) hw0;generalize hWW:w.forCall tape inp=W at hW hval0 hsh ⊢;generalize inp.args=args at hW hval0 ⊢;have hW':=hW;obtain⟨p,q,hA0,hV,rfl,hfz,hnd⟩:=hW;have hA:DataW.TrodAll enc Try.prog W 0 (λ_=>true) true Try.f5.params.toList args.toList ds p:=hA0;rw[Try.params5] at hA;obtain⟨v0,v1,d0,d1,p0,p1,rfl,rfl,rfl,h0,h1⟩:=trodAll_two hA;obtain⟨rfl,rfl⟩:=trodVars_none hV;simp only[zS0] at hW' hk0;have hk1:Rows.uptoBulkAll [d0,d1]<=1048576:=of_decide_eq_true hk0;have hb1:Rows.uptoBulk d1<=1048576:=zP0 (qHp (by simp)) hk1;have hb0:Rows.uptoBulk d0<=1048576:=zP0 (qHp (by simp)) hk1;have kk0:=hval0 0 25 v0 rfl rfl;have kk1:=hval0 1 34 v1 rfl rfl;obtain⟨a0,l0,c0,rfl⟩:=okWide_slice Try.underlying25 kk0;obtain⟨a1,l1,c1,rfl⟩:=okWide_slice Try.underlying34 kk1;have h0':=h0;obtain⟨fu0,hf0⟩:=h0';obtain⟨a,X,e0,ha,ha1,ha2⟩:=abs_ents hf0;have h1':=h1;obtain⟨fu1,hf1⟩:=h1';obtain⟨b,Y,e1,hb,hbl,hb2⟩:=abs_chgs hf1;have hsz:1<=W.heap.size:=Go.X.qWf (P:=Try.prog) (g:=0) hsh (by rw[show Try.prog.globals.size=1 by kernel_rfl];exact zO0 _) (by kernel_rfl);have hb0':Rows.uptoBulk (d0,p0).1<=1048576:=hb0;have hb1':Rows.uptoBulk (d1,p1).1<=1048576:=hb1;refine (law_calls hsz e0 e1 ha hb (λx hx=>?_) (λx hx=>?_) ?_ ?_).mono λe W' ⟨he,hbw⟩=>?_
 .have:=ha2 x hx;exact⟨by omega,by omega⟩
 .have:=hb2 x hx;exact⟨by omega,by omega,by omega⟩
 .omega
 .omega
 subst he;have hlt:=hW'.lt;refine ChangeSpec.post_blind (v:=.bool true) ?_;refine Go.X.qZ9 rfl hW' hbw (λ_ _ _=>(trodAll_cons_mk (shut_bool Try.underlying4 _) trodAll_mk0)) rfl (λsp hsp=>?_) (ok_one (by kernel_rfl) rfl (okWide_bool_mk Try.underlying4 _));have t0:=WideElems.Trod_stays laidOut (by kernel_rfl) (of_decide_eq_true (by kernel_rfl)) h0 (λx hx=>hbw.same (hlt x (zH0 _ hx))) (λx hx=>hsp x (zH0 _ hx));have t1:=WideElems.Trod_stays laidOut (by kernel_rfl) (of_decide_eq_true (by kernel_rfl)) h1 (λx hx=>hbw.same (hlt x (zI0 _ hx))) (λx hx=>hsp x (zI0 _ hx))
 have:=trodAll_cons_mk t0 (trodAll_cons_mk t1 trodAll_mk0)
 rw[zS0] at this;exact this
theorem over:Rows.diffAppliesUptoRow.holds Try.pinned (Rows.OpenSpec.upto Rows.diffAppliesSpec) :=
 OpenClaim.holds_of_cond 5 Try.f5 rfl rfl rfl rfl rfl rfl rfl ⟨rfl,rfl,rfl,rfl,rfl⟩ rfl rfl rfl rfl rfl (by kernel_rfl) Try.func5 (by kernel_rfl)
  (of_decide_eq_true (by kernel_rfl)) (by unfold Func.isWrapper;first | (rw[if_pos (by decide +kernel)];kernel_rfl) | (rw[if_neg (by decide +kernel)];exact⟨rfl,rfl⟩))
  (λos started H enc _ F=>lifted os started H enc F)
theorem proved:Rows.DiffAppliesUptoSaid :=
 over
#print axioms proved
end Go.Proofs.Ytppjfhdhgofeiaa.diffApplies
