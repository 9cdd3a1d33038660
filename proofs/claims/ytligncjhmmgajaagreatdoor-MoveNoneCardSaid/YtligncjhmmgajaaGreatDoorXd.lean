/-
 PROVED: appends,maps,ranges,functions without bodies,calls and all operations are sound. Condition: the relation of the heaps.
-/
import Derived.Test.YtligncjhmmgajaaGreatDoorXc
import Derived.IntWalk
import Derived.Laws.Externs
import Derived.Conc.AtomicLaws2
import Derived.Lib.Bytealg
import Derived.Lib.MakeNoZero
import Derived.KernelRfl
set_option linter.unusedVariables false
set_option linter.unusedSimpArgs false
open List renaming mem_cons_of_mem -> zA0, mem_cons_self -> zB0, mem_append_left -> zG0, mem_append_right -> zH0, length_cons -> zJ0, pairwise_append -> zN0, pairwise_cons -> zO0, getElem?_map -> zP0, length_take -> zQ0, length_drop -> zR0
open Nat renaming le_refl -> zL0
namespace Go.X
open Go Go.RowKit
section
variable {P:Program} {W0:World} {E:Env} {h:Q0} {p:QF} {w:World} {k:AV->FM}
theorem qOv (r:Rel P W0 E h w) {n sz:Nat} {x:AV} {v:Value} (hx:VR E x v) {kk:List AV->FM} (hs:(qUs n sz x kk).sat p h) :
  ∃(ds:List AV) (xs:Array Value),(∀w':World,w'.heap=w.heap->(Builtin.firstCells sz n v).run P w'=.ok xs w')/\VRs E ds xs.toList/\xs.size=n*sz/\(kk ds).sat p h:=by
 cases hx with
 | str s b he =>
  subst he;obtain⟨h1,hs2⟩:=Qi (m:=j3 n (bs b) λs'=>kk (ofBytes s')) hs;have h1:=beq_iff.1 h1;obtain⟨hl,hs3⟩:=jh hs2;rw[jm] at hl;refine⟨_,(b.extract 0 n).data.map λb=>.int .u8 b.toNat,λ_ _=>rfl,?_,?_,hs3⟩
  .have:((b.extract 0 n).data.map λb=>Value.int .u8 b.toNat).toList=((bs b).take n).map λb=>.int .u8 (Int.ofNat b):=by
    simp[bs,List.map_take];rfl
   rw[this];exact qS1 _
  .simp only[Array.size_map]
   have:(b.extract 0 n).data.size=n:=by show (b.extract 0 n).size=n;simp;omega
   rw[this,h1,Nat.mul_one]
 | nils =>
  obtain⟨h1,hs2⟩:=Qi (m:=kk []) hs;have h1:=beq_iff.1 h1;exact⟨[],#[],λ_ _=>rfl,.nil,by simp[h1],hs2⟩
 | emp a c =>
  obtain⟨h1,hs2⟩:=Qi (m:=kk []) hs;have h1:=beq_iff.1 h1;exact⟨[],#[],λ_ _=>by simp[Builtin.firstCells,h1,loadCells,loadCellsFrom],.nil,by simp[h1],hs2⟩
 | slice i o len cap ext b x cc hi hx hcc =>
  subst hx;have hs2:(q9 i λc=>j3 (Nat.mul n sz) (jO o c) kk).sat p h:=hs;obtain⟨ao,hg,hs3⟩:=hs2;obtain⟨c,ho,hs4⟩:=jT hs3;obtain⟨hl,hs5⟩:=jh hs4;rw[qq] at hl hs5;obtain⟨vs,h1,h2,h3⟩:=(r.readAt hg ho hi).cells o _ hl;refine⟨_,vs.toArray,λw' hw'=>?_,by simpa using h2,by simpa using h1,hs5⟩
  have:=run_loadCells_list (P:=P) w' ⟨b,E.base i+o,none⟩ vs (λj v hj=>by
   have:=h3 j v hj
   simp only[World.cell?,hw'] at this ⊢;exact this)
  rw[h1] at this;exact this
 | _=>exact False.elim hs
theorem qZ7 (n:Nat):∀(r c:Nat),c<=n+(n+768) / 4->Builtin.growBy n r c<=n+(n+768) / 4
 | 0,c,h=>h
 | r+1,c,h=>by
  unfold Builtin.growBy;split
  .exact h
  .exact qZ7 n r _ (by omega)
theorem nextslicecap_le {n c:Nat} (h:c<n):Builtin.nextslicecap n c<=2*n+200:=by
 unfold Builtin.nextslicecap;split
 .omega
 .split
  .omega
  .have:=qZ7 n 4 c (by omega)
   omega
theorem jC1 {x:AV} {v:Value} (hx:VR E x v) {n:Nat} (hl:x.lenO=some n) (w:World):(Builtin.lenOf v).run P w=.ok n w:=by
 cases hx <;> first
  | (have e:some _=some n:=hl;cases e;first | rfl | (simp[Builtin.lenOf,jm];done))
  | (have e:none=some n:=hl;cases e)
  | (rename_i hb;have e:some _=some n:=hl;cases e;subst hb;simp[Builtin.lenOf,jm])
theorem qSf {x:AV} {v:Value} (hx:VR E x v) (hl:x.lenO=some 0) (sz:Nat) (w:World):∃new:Array Value,(Builtin.firstCells sz 0 v).run P w=.ok new w/\new.toList=[]:=by
 cases hx with
 | str s b he=>exact⟨_,rfl,by simp⟩
 | nils=>exact⟨#[],rfl,rfl⟩
 | emp a c=>exact⟨#[],by simp[Builtin.firstCells,loadCells,loadCellsFrom],rfl⟩
 | slice=>exact⟨#[],by simp[Builtin.firstCells,loadCells,loadCellsFrom],rfl⟩
 | _=>exact absurd (show (none:Option Nat)=some 0 from hl) (by simp)
theorem qLe (zs:Array Value) (n:Nat):(Builtin.zeroCells zs n).size=n*zs.size:=by simp[Builtin.zeroCells]
theorem qTb {st xt ty e:TypeId} {i:TypeInfo} {z:Value} (hu:P.underlying st=some (.slice e)) {d:TypeDesc} (hxt:P.underlying xt=some d) (hd:∀k,d≠.int k) (hi:P.info? e=some i) (hz:i.zero=some z)
  {base:Option Addr} {sLen sCap n:Nat} {x:Value} (hl:∀w,(Builtin.lenOf x).run P w=.ok n w) (hgt:sCap<sLen+n) (hb1:(sLen+n)*i.bytes<=1099511627776) (hb2:sLen+n<=1099511627776)
  {old new:Array Value} (ho:(Builtin.firstCells i.size sLen (.slice base sLen sCap)).run P w.drew=.ok old w.drew) (hn:(Builtin.firstCells i.size n x).run P w.drew=.ok new w.drew) :
  ∃y,(Builtin.append_ #[st,xt] ty #[.slice base sLen sCap,x]).run P w=.ok (.slice (some ⟨w.heap.size,0,none⟩) (sLen+n) (sLen+n+y)) (w.drew.alloc (.cells (old++new++Builtin.zeroCells z.cells y) e)):=by
 have h1:¬((sLen+n:Nat):Int) > IntKind.i64.max:=by
  have:IntKind.i64.max=9223372036854775807:=rfl
  rw[this];omega
 have h2:¬(Builtin.nextslicecap (sLen+n) sCap*i.bytes > 2 ^ 48):=by
  have h3:=nextslicecap_le hgt;have h4:i.bytes<=1099511627776:=by
   have:1*i.bytes<=(sLen+n)*i.bytes:=Nat.mul_le_mul_right _ (by omega)
   omega
  have h5:=Nat.mul_le_mul_right i.bytes h3;rw[Nat.add_mul,Nat.mul_assoc] at h5;omega
 have hch:(choose (.appendCap (sLen+n) sCap e)).run P w=.ok ((Question.appendCap (sLen+n) sCap e).cut (w.tape w.drawn (.appendCap (sLen+n) sCap e))) w.drew:=by simp[Question.forced]
 refine⟨(Question.appendCap (sLen+n) sCap e).cut (w.tape w.drawn (.appendCap (sLen+n) sCap e))-(sLen+n),?_⟩;have hcap:sLen+n<=(Question.appendCap (sLen+n) sCap e).cut (w.tape w.drawn (.appendCap (sLen+n) sCap e)):=by simp[Question.cut]
 have hge:¬(sLen+n<=sCap):=by omega
 rw[Nat.add_sub_cancel' hcap];simp only[Builtin.append_];have e0:(#[st,xt]:Array TypeId)[0]?=some st:=rfl;have e1:(#[st,xt]:Array TypeId)[1]?=some xt:=rfl;have e2:(#[Value.slice base sLen sCap,x]:Array Value)[0]?=some (.slice base sLen sCap):=rfl;have e3:(#[Value.slice base sLen sCap,x]:Array Value)[1]?=some x:=rfl;simp only[e0,e1,e2,e3,Sem.run_bind,Q9 hu,Result.andThen_ok,sizeOf,run_typeInfo hi,Sem.run_pure,Q9 hxt];cases d <;> first | (exact absurd rfl (hd _)) | (
  simp only[Sem.run_bind,Sem.run_pure,Result.andThen_ok,Bool.false_eq_true,if_false,hl,Bool.not_false,if_true];rw[if_neg hge];simp only[Sem.run_bind,Sem.run_ite,run_typeInfo hi,Result.andThen_ok,false_or];rw[if_neg (λhh=>h1 hh.1)];simp only[Sem.run_pure,Result.andThen_ok];rw[if_neg h2];simp only[Sem.run_pure,Result.andThen_ok,hch,run_askRoom,ho,hn,qGo hi hz,newRow,Sem.run_bind,run_newObj_alloc,World.size_drew])
theorem qQv {st xt ty e:TypeId} {i:TypeInfo} {z:Value} (hu:P.underlying st=some (.slice e)) {q:IntKind} (hxt:P.underlying xt=some (.int q)) (hi:P.info? e=some i) (hz:i.zero=some z) (hzs:z.cells.size=i.size)
  {base:Option Addr} {sLen sCap n:Nat} {q2:IntKind} (hn0:0<n) (hgt:sCap<sLen+n) (hb1:(sLen+n)*i.bytes<=1099511627776) (hb2:sLen+n<=1099511627776)
  {old:Array Value} (ho:(Builtin.firstCells i.size sLen (.slice base sLen sCap)).run P w.drew=.ok old w.drew) :
  ∃y,(Builtin.append_ #[st,xt] ty #[.slice base sLen sCap,.int q2 (Int.ofNat n)]).run P w=.ok (.slice (some ⟨w.heap.size,0,none⟩) (sLen+n) (sLen+n+y)) (w.drew.alloc (.cells (old++Builtin.zeroCells z.cells n++Builtin.zeroCells z.cells y) e)):=by
 have h1:¬((sLen+n:Nat):Int) > IntKind.i64.max:=by
  have:IntKind.i64.max=9223372036854775807:=rfl
  rw[this];omega
 have hw:IntKind.i64.wrap (Int.ofNat n)=(n:Int):=by have e63:((2:Int) ^ (IntKind.i64.bits-1))=9223372036854775808:=rfl;exact qVq (q:=.i64) rfl (by rw[e63];simp only[Int.ofNat_eq_natCast];omega) (by rw[e63];simp only[Int.ofNat_eq_natCast];omega)
 have hby:(n:Int)*(i.bytes:Int)<=1099511627776:=by
  have h3:n*i.bytes<=(sLen+n)*i.bytes:=Nat.mul_le_mul_right _ (by omega);have h4:n*i.bytes<=1099511627776:=by omega
  have h5:((n*i.bytes:Nat):Int)<=1099511627776:=by omega
  rw[Int.natCast_mul] at h5;exact h5
 have h2:¬(Builtin.nextslicecap (sLen+n) sCap*i.bytes > 2 ^ 48):=by
  have h3:=nextslicecap_le hgt;have h4:i.bytes<=1099511627776:=by
   have:1*i.bytes<=(sLen+n)*i.bytes:=Nat.mul_le_mul_right _ (by omega)
   omega
  have h5:=Nat.mul_le_mul_right i.bytes h3;rw[Nat.add_mul,Nat.mul_assoc] at h5;omega
 have hch:(choose (.appendCap (sLen+n) sCap e)).run P w=.ok ((Question.appendCap (sLen+n) sCap e).cut (w.tape w.drawn (.appendCap (sLen+n) sCap e))) w.drew:=by simp[Question.forced]
 refine⟨(Question.appendCap (sLen+n) sCap e).cut (w.tape w.drawn (.appendCap (sLen+n) sCap e))-(sLen+n),?_⟩;have hcap:sLen+n<=(Question.appendCap (sLen+n) sCap e).cut (w.tape w.drawn (.appendCap (sLen+n) sCap e)):=by simp[Question.cut]
 have hge:¬(sLen+n<=sCap):=by omega
 rw[Nat.add_sub_cancel' hcap];simp only[Builtin.append_];have e0:(#[st,xt]:Array TypeId)[0]?=some st:=rfl;have e1:(#[st,xt]:Array TypeId)[1]?=some xt:=rfl;have e2:(#[Value.slice base sLen sCap,.int q2 (Int.ofNat n)]:Array Value)[0]?=some (.slice base sLen sCap):=rfl;have e3:(#[Value.slice base sLen sCap,.int q2 (Int.ofNat n)]:Array Value)[1]?=some (.int q2 (Int.ofNat n)):=rfl;have hl0:¬((n:Int)<0):=by omega
 have hl1:¬((n:Int)*(i.bytes:Int) > 2 ^ 48):=by omega
 simp only[e0,e1,e2,e3,Sem.run_bind,Q9 hu,Result.andThen_ok,sizeOf,run_typeInfo hi,Sem.run_pure,Q9 hxt,asInt,asIntOf,if_true,hw,Sem.run_ite];rw[if_neg hl0,if_neg hl1];simp only[Int.toNat_natCast];rw[if_neg hge,if_neg (λhh=>h1 hh.1),if_neg h2];simp only[Sem.run_pure,Result.andThen_ok,hch,run_askRoom,ho,qGo hi hz,newRow,Sem.run_bind,run_newObj_alloc,World.size_drew,Bool.not_true,Bool.false_eq_true,if_false];by_cases hns:n*i.size=0
 .have:Builtin.zeroCells z.cells n=#[]:=by
   apply Array.eq_empty_of_size_eq_zero;rw[qLe,hzs];exact hns
  simp[hns,this]
 .simp[hns,Sem.run_bind,qGo hi hz]
end
end Go.X
namespace Go.X
open Go Go.RowKit
section
variable {P:Program} {W0:World} {E:Env} {h:Q0} {p:QF} {w:World} {k:AV->FM}
theorem qK9 {st xt ty e:TypeId} {sz:Nat} (hu:P.underlying st=some (.slice e)) {d:TypeDesc} (hxt:P.underlying xt=some d) (hd:∀k,d≠.int k) (hsz:∀w,(sizeOf e).run P w=.ok sz w)
  {base:Option Addr} {sLen sCap n:Nat} {x:Value} (hl:∀w,(Builtin.lenOf x).run P w=.ok n w) (hle:sLen+n<=sCap)
  {new:Array Value} (hn:(Builtin.firstCells sz n x).run P w=.ok new w) {w':World} (hst:match base with | none=>w'=w | some a=>(storeCells (a.add (sLen*sz)) new.toList).run P w=.ok () w') :
  (Builtin.append_ #[st,xt] ty #[.slice base sLen sCap,x]).run P w=.ok (.slice base (sLen+n) sCap) w':=by
 simp only[Builtin.append_];have e0:(#[st,xt]:Array TypeId)[0]?=some st:=rfl;have e1:(#[st,xt]:Array TypeId)[1]?=some xt:=rfl;have e2:(#[Value.slice base sLen sCap,x]:Array Value)[0]?=some (.slice base sLen sCap):=rfl;have e3:(#[Value.slice base sLen sCap,x]:Array Value)[1]?=some x:=rfl;simp only[e0,e1,e2,e3,Sem.run_bind,Q9 hu,Result.andThen_ok,hsz,Sem.run_pure,Q9 hxt];cases d <;> first | (exact absurd rfl (hd _)) | (
  simp only[Sem.run_bind,Sem.run_pure,Result.andThen_ok,Bool.false_eq_true,if_false,hl,Bool.not_false,if_true];rw[if_pos hle];simp only[Sem.run_bind,hn,Result.andThen_ok];cases base with
  | none=>simp only at hst;subst hst;simp
  | some a=>simp only at hst;simp[hst])
theorem qTc {st xt ty e:TypeId} {i:TypeInfo} {z:Value} (hu:P.underlying st=some (.slice e)) {q:IntKind} (hxt:P.underlying xt=some (.int q)) (hi:P.info? e=some i) (hz:i.zero=some z) (hzs:z.cells.size=i.size)
  {base:Option Addr} {sLen sCap n:Nat} {q2:IntKind} (hb1:n*i.bytes<=1099511627776) (hb2:n<=1099511627776) (hle:sLen+n<=sCap)
  {w':World} (hst:match base with | none=>w'=w | some a=>(storeCells (a.add (sLen*i.size)) (Builtin.zeroCells z.cells n).toList).run P w=.ok () w') :
  (Builtin.append_ #[st,xt] ty #[.slice base sLen sCap,.int q2 (Int.ofNat n)]).run P w=.ok (.slice base (sLen+n) sCap) w':=by
 have hw:IntKind.i64.wrap (Int.ofNat n)=(n:Int):=by have e63:((2:Int) ^ (IntKind.i64.bits-1))=9223372036854775808:=rfl;exact qVq (q:=.i64) rfl (by rw[e63];simp only[Int.ofNat_eq_natCast];omega) (by rw[e63];simp only[Int.ofNat_eq_natCast];omega)
 have hby:(n:Int)*(i.bytes:Int)<=1099511627776:=by
  have h5:((n*i.bytes:Nat):Int)<=1099511627776:=by omega
  rw[Int.natCast_mul] at h5;exact h5
 simp only[Builtin.append_];have e0:(#[st,xt]:Array TypeId)[0]?=some st:=rfl;have e1:(#[st,xt]:Array TypeId)[1]?=some xt:=rfl;have e2:(#[Value.slice base sLen sCap,.int q2 (Int.ofNat n)]:Array Value)[0]?=some (.slice base sLen sCap):=rfl;have e3:(#[Value.slice base sLen sCap,.int q2 (Int.ofNat n)]:Array Value)[1]?=some (.int q2 (Int.ofNat n)):=rfl;have hl0:¬((n:Int)<0):=by omega
 have hl1:¬((n:Int)*(i.bytes:Int) > 2 ^ 48):=by omega
 simp only[e0,e1,e2,e3,Sem.run_bind,Q9 hu,Result.andThen_ok,sizeOf,run_typeInfo hi,Sem.run_pure,Q9 hxt,asInt,asIntOf,if_true,hw,Sem.run_ite];rw[if_neg hl0,if_neg hl1];simp only[Int.toNat_natCast];rw[if_pos hle];have hnew:(if (!true)=true then (Builtin.firstCells i.size n (Value.int q2 (Int.ofNat n))).run P w else if n*i.size=0 then Result.ok #[] w else ((zeroValue e).run P w).andThen λa w'=>Result.ok (Builtin.zeroCells a.cells n) w')=Result.ok (Builtin.zeroCells z.cells n) w:=by
  rw[if_neg (by simp)];by_cases hns:n*i.size=0
  .have:Builtin.zeroCells z.cells n=#[]:=by
    apply Array.eq_empty_of_size_eq_zero;rw[qLe,hzs];exact hns
   rw[if_pos hns,this]
  .rw[if_neg hns,qGo hi hz];rfl
 rw[hnew];simp only[Result.andThen_ok];cases base with
 | none=>simp only at hst;subst hst;simp
 | some a=>simp only at hst;simp[hst]
structure AddsTo (P:Program) (st xt ty e:TypeId) (i:TypeInfo) (n:Nat) (vx:Value) (w:World) (xs:Array Value):Prop where
 inn:∀(base:Option Addr) (sLen sCap:Nat) (w':World),sLen+n<=sCap->(match base with | none=>w'=w | some a=>(storeCells (a.add (sLen*i.size)) xs.toList).run P w=.ok () w') ->
  (Builtin.append_ #[st,xt] ty #[.slice base sLen sCap,vx]).run P w=.ok (.slice base (sLen+n) sCap) w'
 new:∀(z:Value) (base:Option Addr) (sLen sCap:Nat) (old:Array Value),i.zero=some z->0<n->sCap<sLen+n->(sLen+n)*i.bytes<=1099511627776->sLen+n<=1099511627776 ->
  (Builtin.firstCells i.size sLen (.slice base sLen sCap)).run P w.drew=.ok old w.drew ->
  ∃y,(Builtin.append_ #[st,xt] ty #[.slice base sLen sCap,vx]).run P w=.ok (.slice (some ⟨w.heap.size,0,none⟩) (sLen+n) (sLen+n+y)) (w.drew.alloc (.cells (old++xs++Builtin.zeroCells z.cells y) e))
theorem growK_sat {e:TypeId} {cs:List AV} {sz m:Nat} {mk:Bool} (hs:(qPq P e cs sz m mk k).sat p h):(Jb P e).isSome=true/\h.fr h.next/\(k (.slice h.next 0 m m true)).sat p (h.newO (.cells cs sz true mk)):=by obtain⟨z,hz,hs2⟩:=Qe hs;obtain⟨i',v,hi',hv,rfl⟩:=qEr hz;obtain⟨zs,hzs,hs3⟩:=(Jp ⟨λ_=>none,λ_=>0,λ_=>0⟩ v).cells hs2;rw[qKa] at hs3;obtain⟨_,hn,hs4⟩:=Qi hs3;exact⟨by rw[hz];rfl,hn,hs4⟩
theorem qKc (r:Rel P W0 E h w) {e:TypeId} {i:TypeInfo} (hi:P.info? e=some i) {cs:List AV} {xs:Array Value} (hc:VRs E cs xs.toList) {m:Nat} {mk:Bool} (hs:(qPq P e cs i.size m mk k).sat p h) :
  ∃z,i.zero=some z/\∀y,∃E',Stp E h E' (h.newO (.cells cs i.size true mk))/\Rel P W0 E' (h.newO (.cells cs i.size true mk)) (w.alloc (.cells (xs++Builtin.zeroCells z.cells y) e)) /\
   VR E' (.slice h.next 0 m m true) (.slice (some ⟨w.heap.size,0,none⟩) m (m+y))/\(k (.slice h.next 0 m m true)).sat p (h.newO (.cells cs i.size true mk)):=by
 obtain⟨z,hz,hs2⟩:=Qe hs;obtain⟨i',v,hi',hv,rfl⟩:=qEr hz;rw[hi] at hi';cases hi';obtain⟨zs,hzs,hs3⟩:=(Jp E v).cells hs2;rw[qKa] at hs3;obtain⟨hl,hn,hs4⟩:=Qi hs3;have hl:=beq_iff.1 hl;have hl2:=hzs.length;simp only[Array.length_toList] at hl2;refine⟨v,hv,λy=>?_⟩
 obtain⟨r2,s2⟩:=qF5 (e:=e) (fr:=(0,0)) (esz:=i.size) (g:=true) (mk:=mk) r hn y (vs:=xs++Builtin.zeroCells v.cells y) (c1:=xs.toList) (rest:=(Builtin.zeroCells v.cells y).toList) (by simp) hc
  (by rw[Array.length_toList,qLe];show _=y*i.size;congr 1;omega) (.inl rfl)
 exact⟨_,s2,r2,.slice _ _ _ _ _ w.heap.size 0 _ (Env.add_blk _ _ _ _ _) (by rw[Env.add_base]) (by rw[Env.add_ext];rfl),hs4⟩
theorem qK1 {xt:TypeId} (ht:cnd (Nat.beq (Qd P xt) 9) true (Nat.beq (Qd P xt) 3)=true):∃d,P.underlying xt=some d/\∀k,d≠.int k:=by
 cases hb:Nat.beq (Qd P xt) 9
 .rw[hb,Q8] at ht;exact⟨_,tag3 (beq_iff.1 ht),by simp⟩
 .obtain⟨e,he⟩:=tag9 (beq_iff.1 hb);exact⟨_,he,by simp⟩
theorem qZr {x:AV} {v:Value} (hx:VR E x v) {n:Nat} (h:x.natO=some n):∃q,v=.int q (Int.ofNat n):=by
 cases hx <;> first
  | (have e:(none:Option Nat)=some n:=h;cases e;done)
  | skip
 rename_i q m;cases m with
 | ofNat m=>have e:some m=some n:=h;cases e;exact⟨q,rfl⟩
 | negSucc m=>have e:(none:Option Nat)=some n:=h;cases e
theorem qI9 (r:Rel P W0 E h w) {st xt ty e:TypeId} (hu:P.underlying st=some (.slice e)) {i:TypeInfo} (hi:P.info? e=some i)
  (ht:cnd (Nat.beq (Qd P xt) 9) true (cnd (Nat.beq (Qd P xt) 3) true (Nat.beq (Qd P xt) 2))=true) {n:Nat} {x:AV} {vx:Value} (hx:VR E x vx) (hn:lenZ (Nat.beq (Qd P xt) 2) x=some n)
  (hbz:Nat.beq (Qd P xt) 2=true->n*i.bytes<=1099511627776/\n<=1099511627776) {kk:List AV->FM} (hs:(addC P e (Nat.beq (Qd P xt) 2) n i.size x kk).sat p h) :
  ∃(ds:List AV) (xs:Array Value),AddsTo P st xt ty e i n vx w xs/\VRs E ds xs.toList/\xs.size=n*i.size/\(kk ds).sat p h:=by
 cases hz2:Nat.beq (Qd P xt) 2 with
 | false =>
  rw[hz2] at hn hs ht;have ht':cnd (Nat.beq (Qd P xt) 9) true (Nat.beq (Qd P xt) 3)=true:=by revert ht;cases Nat.beq (Qd P xt) 9 <;> cases Nat.beq (Qd P xt) 3 <;> simp[cnd]
  obtain⟨d,hxt,hd⟩:=qK1 ht';have hl:=jC1 (P:=P) hx (show x.lenO=some n from hn);obtain⟨ds,xs,h1,h2,h3,h4⟩:=qOv r hx (show (qUs n i.size x kk).sat p h from hs);refine⟨ds,xs,⟨λbase sLen sCap w' hle hst=>?_,λz base sLen sCap old hz hn0 hgt hb1 hb2 ho=>?_⟩,h2,h3,h4⟩
  .exact qK9 (ty:=ty) hu hxt hd (λw=>by simp[sizeOf,run_typeInfo hi]) hl hle (h1 w rfl) hst
  .exact qTb (ty:=ty) hu hxt hd hi hz hl hgt hb1 hb2 ho (h1 _ rfl)
 | true =>
  rw[hz2] at hn hs;obtain⟨q,hxt⟩:=tag2 (beq_iff.1 hz2);obtain⟨q2,rfl⟩:=qZr hx (show x.natO=some n from hn);obtain⟨i',v,cs,hi',hv,hvs,hcs,h4⟩:=qIy (n:=n) (kk:=λcs _=>kk cs) (show (rowK P e n λcs _=>kk cs).sat p h from hs);rw[hi] at hi';cases hi';obtain⟨hb1,hb2⟩:=hbz hz2;have hxs:((Array.range (n*i.size)).map (v.cells[· % v.cells.size]!))=Builtin.zeroCells v.cells n:=by unfold Builtin.zeroCells;rw[hvs]
  rw[hxs] at hcs;refine⟨cs,Builtin.zeroCells v.cells n,⟨λbase sLen sCap w' hle hst=>?_,λz base sLen sCap old hz hn0 hgt hb1 hb2 ho=>?_⟩,hcs,by rw[qLe,hvs],h4⟩
  .exact qTc (ty:=ty) hu hxt hi hv hvs hb1 hb2 hle hst
  .rw[hv] at hz;cases hz;exact qQv (ty:=ty) hu hxt hi hv hvs hn0 hgt hb1 hb2 ho
theorem lenZ_zero (r:Rel P W0 E h w) {st xt ty e:TypeId} (hu:P.underlying st=some (.slice e)) {i:TypeInfo} (hi:P.info? e=some i)
  (ht:cnd (Nat.beq (Qd P xt) 9) true (cnd (Nat.beq (Qd P xt) 3) true (Nat.beq (Qd P xt) 2))=true) {x:AV} {vx:Value} (hx:VR E x vx) (hn:lenZ (Nat.beq (Qd P xt) 2) x=some 0)
  (base:Option Addr) (sLen sCap:Nat) (hle:sLen<=sCap):(Builtin.append_ #[st,xt] ty #[.slice base sLen sCap,vx]).run P w=.ok (.slice base sLen sCap) w:=by
 cases hz2:Nat.beq (Qd P xt) 2 with
 | false =>
  rw[hz2] at hn ht;have ht':cnd (Nat.beq (Qd P xt) 9) true (Nat.beq (Qd P xt) 3)=true:=by revert ht;cases Nat.beq (Qd P xt) 9 <;> cases Nat.beq (Qd P xt) 3 <;> simp[cnd]
  obtain⟨d,hxt,hd⟩:=qK1 ht';have hl:=jC1 (P:=P) hx (show x.lenO=some 0 from hn);obtain⟨new,hnew,hnil⟩:=qSf (P:=P) hx (show x.lenO=some 0 from hn) i.size w;exact qK9 (ty:=ty) hu hxt hd (λw=>by simp[sizeOf,run_typeInfo hi]) hl hle hnew (by cases base <;> simp only[hnil] <;> rfl)
 | true =>
  rw[hz2] at hn;obtain⟨q,hxt⟩:=tag2 (beq_iff.1 hz2);obtain⟨q2,rfl⟩:=qZr hx (show x.natO=some 0 from hn);simp only[Builtin.append_];have e0:(#[st,xt]:Array TypeId)[0]?=some st:=rfl;have e1:(#[st,xt]:Array TypeId)[1]?=some xt:=rfl;have e2:(#[Value.slice base sLen sCap,.int q2 (Int.ofNat 0)]:Array Value)[0]?=some (.slice base sLen sCap):=rfl;have e3:(#[Value.slice base sLen sCap,.int q2 (Int.ofNat 0)]:Array Value)[1]?=some (.int q2 (Int.ofNat 0)):=rfl;have hw:IntKind.i64.wrap (Int.ofNat 0)=(0:Int):=rfl;simp only[e0,e1,e2,e3,Sem.run_bind,Q9 hu,Result.andThen_ok,sizeOf,run_typeInfo hi,Sem.run_pure,Q9 hxt,asInt,asIntOf,if_true,hw,Sem.run_ite];rw[if_neg (by omega),if_neg (by omega)];simp only[Int.toNat_zero,Nat.add_zero];rw[if_pos hle,if_neg (by simp),if_pos (by omega)];simp only[Result.andThen_ok];cases base with
  | none=>simp
  | some a =>
   have:(storeCells (a.add (sLen*i.size)) (#[]:Array Value).toList).run P w=.ok () w:=rfl
   simp[this]
theorem qVp (r:Rel P W0 E h w) {st xt ty:TypeId} {s x:AV} {vs vx:Value} (hs0:VR E s vs) (hx0:VR E x vx) (hs:(qJp P st xt s x k).sat p h) :
  UV P W0 E h k p ((Builtin.append_ #[st,xt] ty #[vs,vx]).run P w):=by
 obtain⟨e,he,hs1⟩:=Qe hs;obtain⟨sz,hsz,hs2⟩:=Qe hs1;obtain⟨ht,hs3⟩:=Qi hs2;obtain⟨n,hn,hs40⟩:=Qe hs3;have hu:=jF he;obtain⟨i,hi,rfl⟩:=qGm hsz
 obtain⟨hbz,hs4⟩:(Nat.beq (Qd P xt) 2=true->n*i.bytes<=1099511627776/\n<=1099511627776)/\(cnd (Nat.beq n Nat.zero) (s.onSlice (k .nils) (k .emp) (λi o len cap ext=>cnd (Nat.ble len cap) (k s) (.fail 39)) (.fail 40))
  (s.onSlice (qLb P e n (addC P e (Nat.beq (Qd P xt) 2) n i.size x λcs=>qPq P e cs i.size n false k)) (.fail 39)
   (λi2 o len cap ext=>qN0 P e i.size i2 o len cap ext (Nat.beq (Qd P xt) 2) n x k) (.fail 40))).sat p h:=by
  unfold roomZ at hs40;rcases Qr hs40 with ⟨h1,h2⟩ | ⟨h1,h2⟩
  .obtain⟨i',hi',b1,b2,h3⟩:=qHr h2;rw[hi] at hi';cases hi';exact⟨λ_=>⟨b1,b2⟩,h3⟩
  .exact⟨λe=>(by rw[h1] at e;cases e),h2⟩
 have rd:Rel P W0 E h w.drew:=r.same rfl rfl rfl rfl;rcases Qr hs4 with ⟨hn0,hs5⟩ | ⟨hn0,hs5⟩
 .have hn0:n=0:=beq_iff.1 hn0;subst hn0;have z0:=lenZ_zero (ty:=ty) r hu hi ht hx0 hn;cases hs0 with
  | nils =>
   exact .of r ⟨_,_,z0 none 0 0 (zL0 _),.nils,hs5⟩
  | emp a c =>
   exact .of r ⟨_,_,z0 (some a) 0 c (Nat.zero_le _),.emp a c,hs5⟩
  | slice i2 o len cap ext b z cc hi2 hz hcc =>
   obtain⟨hle,hs6⟩:=Qi (m:=k (.slice i2 o len cap ext)) hs5;have hle:=qs.1 hle;exact .of r ⟨_,_,z0 _ _ _ (by omega),.slice _ _ _ _ _ _ _ _ hi2 hz hcc,hs6⟩
  | _=>exact False.elim hs5
 .have hn0:0<n:=by
   rcases Nat.eq_zero_or_pos n with e | e
   .rw[e] at hn0;cases hn0
   .exact e
  cases hs0 with
  | nils =>
   obtain⟨i',hi',hb1,hb2,hs6⟩:=qHr (m:=addC P e (Nat.beq (Qd P xt) 2) n i.size x λcs=>qPq P e cs i.size n false k) hs5;rw[hi] at hi';cases hi';obtain⟨ds,xs,ad,h2,h3,hs7⟩:=qI9 (ty:=ty) r hu hi ht hx0 hn hbz hs6;obtain⟨z,hz,hg⟩:=qKc rd hi h2 hs7;obtain⟨y,hy⟩:=ad.new z none 0 0 #[] hz hn0 (by omega) (by rw[Nat.zero_add];exact hb1) (by omega) rfl;obtain⟨E',s2,r2,v2,k2⟩:=hg y;rw[Nat.zero_add] at hy;exact⟨_,_,E',_,_,hy,s2,by simpa using r2,v2,k2⟩
  | slice i2 o len cap ext b q cc hi2 hq hcc =>
   subst hq;have hs6:(qN0 P e i.size i2 o len cap ext (Nat.beq (Qd P xt) 2) n x k).sat p h:=hs5;unfold qN0 at hs6;rw[Qb] at hs6;rcases Qr hs6 with ⟨hle,hs7⟩ | ⟨hle,hs7⟩
   .have hle:len+n<=cap:=qs.1 hle;obtain⟨ds,xs,ad,h2,h3,hs8⟩:=qI9 (ty:=ty) r hu hi ht hx0 hn hbz hs7;obtain⟨w',h',g1,g2,g3,g4⟩:=qE6 r hi2 h2 hs8;refine⟨_,w',E,h',_,ad.inn _ _ _ _ (by omega) ?_,g3,g2,.slice i2 o (len+n) cap ext b _ cc hi2 rfl hcc,g4⟩;simp only[j6,Nat.add_assoc];exact g1
   .have hgt:cap<len+n:=by
     rcases Nat.lt_or_ge cap (len+n) with h | h
     .exact h
     .rw[show Nat.ble (Nat.add len n) cap=true from qs.2 h] at hle;cases hle
    obtain⟨i',hi',hb1,hb2,hs8⟩:=qHr hs7;rw[hi] at hi';cases hi';rcases Qr hs8 with ⟨hext,hs9⟩ | ⟨hext,hs9⟩
    .subst hext;obtain⟨ao,hg,hs10⟩:=hs9;obtain⟨c,es,g,mk,rfl,hs11⟩:=jt hs10;rw[qKa] at hs11;obtain⟨hc0,hs12⟩:=Qi hs11;obtain⟨hg1,hc1⟩:=Qk.1 hc0;obtain⟨hc1,hc2⟩:=Qk.1 hc1;have hes:es=i.size:=beq_iff.1 hc1;have hcl:o+cap*i.size=c.length:=beq_iff.1 hc2;subst hg1;subst hes;obtain⟨hlen,hs13⟩:=jh hs12;rw[qq] at hlen hs13;obtain⟨ds,xs,ad,h2,h3,hs14⟩:=qI9 (ty:=ty) r hu hi ht hx0 hn hbz hs13;obtain⟨hpl,hs15⟩:=Qi hs14;rw[qz] at hs15;obtain⟨hin,hs16⟩:=hs15;have hbig:(⟨b,E.base i2+o,none⟩:Addr)=⟨b,E.base i2+o,none⟩:=rfl;have hold:=r.readAt hg (.inl ⟨_,_,_,rfl⟩) hi2;obtain⟨vs0,k1,k2,k3⟩:=hold.cells o _ hlen;by_cases hin2:len+n<=cc
     .obtain⟨b',ob,hb',hw,hor⟩:=r.obj i2 _ hg;rw[hi2] at hb';cases hb';obtain⟨_,hnx,hk⟩:=growK_sat hs16;have hnx:h.fr h.next:=hnx
      cases hor with
      | cells _ _ _ _ cs0 el fr pre c1 rest hcs hpre hc hrest hfr =>
       have hc1l:=hc.length;have hsz0:cs0.size=pre.length+(c1.length+rest.length):=by rw[<- Array.length_toList,hcs];simp
       have hrest:rest.length=E.ext i2*i.size:=hrest;have hcc2:cc=cap+E.ext i2:=hcc;have hmul:(cap+E.ext i2)*i.size=cap*i.size+E.ext i2*i.size:=Nat.add_mul _ _ _;have hmul2:(len+n)*i.size=len*i.size+n*i.size:=Nat.add_mul _ _ _;have hle2:(len+n)*i.size<=(cap+E.ext i2)*i.size:=Nat.mul_le_mul_right _ (by omega);have hlt2:len*i.size<=cap*i.size:=by
        have:len*i.size<=(c.drop o).length:=hlen
        simp at this;omega
       have hxl:xs.toList.length=n*i.size:=by simp[h3]
       have hst:=qE4 (P:=P) xs.toList b (E.base i2+o+len*i.size) 0 cs0 el fr w hw (by rw[hsz0,hxl];omega)
        (λj hj=>hfr.free _ (.inr (by rw[hsz0];omega))) (h2.oneCells hpl)
       have hrun:=ad.inn (some ⟨b,E.base i2+o,none⟩) _ _ _ hin2 (by simp only[j6];exact hst);have r1:=r.tomb hg;have hB:=r.fresh hg hi2 (λho=>ho.elim (λh=>by cases h) (λ⟨c,h⟩=>by cases h));have hE':(h.put i2 (some .tomb)).next=h.next:=rfl
       have hov:E.base i2+o+len*i.size+xs.toList.length<=cs0.size:=by rw[hsz0,hxl];omega
       refine⟨_,_,E.add h.next b (E.base i2+o) (cc-(len+n)),(h.put i2 (some .tomb)).newO (.cells _ i.size true mk),.slice h.next 0 (len+n) (len+n) true,hrun,?_,?_,?_,hk⟩
       .have hf:=r.free h.next (zL0 _) hnx
        exact⟨Env.add_le hf _ _ _,λq t ht=>(Env.add_inv ht).elim (λe=>.inr ⟨by omega,by rw[e.1];exact hnx⟩) (λe=>.inl e.2),rfl,Nat.le_succ _⟩
       .refine r1.add (a1:=.cells _ i.size true mk) hnx hB (by rw[World.putObj_size];exact r.bound _ _ hi2) (qOz r.below hB _) (by rw[World.putObj_size];exact zL0 _)
         (λq hq _=>World.putObj_heap_other hq) (λj ao hj hbj=>?_) (World.putObj_heap_same (r.bound _ _ hi2)) ?_
        .rw[Q0.get_put _ (r.ltTop hg)] at hj;by_cases ej:j=i2
         .rw[if_pos ej] at hj;cases hj;rfl
         .rw[if_neg ej] at hj;by_cases ht2:ao=.tomb
          .exact ht2
          .exact absurd (r.inj j i2 ao _ b hj hg ht2 (by simp) hbj hi2) ej
        .refine .cells _ _ _ _ _ _ _ (pre++c1.take o) ((c1.drop o).take (len*i.size)++xs.toList) (cs0.toList.drop (E.base i2+o+len*i.size+xs.toList.length)) ?_ ?_ ?_ ?_ (by rw[qY5];exact hfr)
         .rw[Nat.add_zero,qGr _ _ _ hov];have e1:cs0.toList.take (E.base i2+o+len*i.size)=pre++c1.take o++(c1.drop o).take (len*i.size):=by
           rw[hcs,<- hpre,List.take_append,List.take_of_length_le (by omega),show pre.length+o+len*i.size-pre.length=o+len*i.size by omega,List.take_append,show o+len*i.size-c1.length=0 by omega];simp only[List.take_zero,List.append_nil,List.append_assoc];rw[List.take_add]
          rw[e1];simp
         .rw[Env.add_base,List.length_append,zQ0,hpre];omega
         .have hf:=r.free h.next (zL0 _) hnx
          exact (((hc.drop o).take _).append h2).mono (Env.add_le hf _ _ _)
         .rw[Env.add_ext];show _=(cc-(len+n))*i.size;rw[zR0,Array.length_toList,hsz0,hxl,Nat.sub_mul,hcc2];omega
       .refine .slice _ _ _ _ _ b _ cc (Env.add_blk _ _ _ _ _) (by rw[Env.add_base];rfl) ?_;rw[Env.add_ext];show cc=len+n+(cc-(len+n));omega
     .obtain⟨z,hz,hgr⟩:=qKc (rd.tomb hg) hi (xs:=vs0.toArray++xs) (by rw[Array.toList_append];exact k2.append h2) hs16;obtain⟨y,hy⟩:=ad.new z (some ⟨b,E.base i2+o,none⟩) len cc vs0.toArray hz hn0 (by omega) hb1 hb2 (by
       have:=run_loadCells_list (P:=P) w.drew ⟨b,E.base i2+o,none⟩ vs0 k3
       rw[k1] at this;exact this)
      obtain⟨E',s2,r2,v2,kk2⟩:=hgr y;exact⟨_,_,E',_,_,hy,⟨s2.le,s2.new,s2.lim,s2.next⟩,r2,v2,kk2⟩
    .subst hext;obtain⟨ao,hg,hs10⟩:=hs9;obtain⟨c,ho,hs11⟩:=jT hs10;obtain⟨hlen,hs12⟩:=jh hs11;rw[qq] at hlen hs12;obtain⟨ds,xs,ad,h2,h3,hs13⟩:=qI9 (ty:=ty) r hu hi ht hx0 hn hbz hs12;rw[qz] at hs13;obtain⟨vs0,k1,k2,k3⟩:=(r.readAt hg ho hi2).cells o _ hlen;obtain⟨z,hz,hgr⟩:=qKc rd hi (xs:=vs0.toArray++xs) (by rw[Array.toList_append];exact k2.append h2) hs13;have hcc2:cc=cap:=hcc;obtain⟨y,hy⟩:=ad.new z (some ⟨b,E.base i2+o,none⟩) len cc vs0.toArray hz hn0 (by omega) hb1 hb2 (by
      have:=run_loadCells_list (P:=P) w.drew ⟨b,E.base i2+o,none⟩ vs0 k3
      rw[k1] at this;exact this)
     obtain⟨E',s2,r2,v2,kk2⟩:=hgr y;exact⟨_,_,E',_,_,hy,s2,r2,v2,kk2⟩
  | _=>exact False.elim hs5
end
end Go.X
namespace Go.X
open Go Go.RowKit
section
variable {P:Program} {W0:World} {E:Env} {h:Q0} {p:QF} {w:World} {k:AV->FM}
theorem qNe (n:Nat) (k:AV->FM):qQ n k=k (.int .i64 (.ofNat n)):=Qb _ _
theorem jBs (r:Rel P W0 E h w) {t:TypeId} {ts:Array TypeId} {ty:TypeId} (ht:ts[0]?=some t) {d s:AV} {vd vs:Value} (hd:VR E d vd) (hsr:VR E s vs) (hs:(jF4 P t d s k).sat p h) :
  UV P W0 E h k p ((Builtin.copy_ ts ty #[vd,vs]).run P w):=by
 obtain⟨e,he,hs1⟩:=Qe hs;obtain⟨sz,hsz,hs2⟩:=Qe hs1;obtain⟨n,hn,hs3⟩:=Qe hs2;obtain⟨m,hm,hs4⟩:=Qe hs3;rw[Qb,qSy,qG2] at hs4;have hl:=jC1 hsr hm (P:=P);have hmin:(if m<=n then m else n)=Nat.min m n:=by show _=min m n;split <;> omega
 rw[hmin] at hs4;have hu:=jF he
 have run:∀{base:Option Addr} {cap:Nat} {xs:Array Value} {w':World},vd=.slice base n cap->(Builtin.firstCells sz (Nat.min m n) vs).run P w=.ok xs w->(match base with | none=>w'=w | some a=>(storeCells a xs.toList).run P w=.ok () w') ->
   (Builtin.copy_ ts ty #[vd,vs]).run P w=.ok (goInt (Nat.min m n)) w':=by
  intro base cap xs w' hv h1 h2;subst hv;have e0:(#[Value.slice base n cap,vs]:Array Value)[0]?=some (.slice base n cap):=rfl;have e1:(#[Value.slice base n cap,vs]:Array Value)[1]?=some vs:=rfl;simp only[Builtin.copy_,ht,e0,e1,Sem.run_bind,Q9 hu,Result.andThen_ok,hl,run_sizeOf hsz,h1,Sem.run_pure];cases base with
  | none=>simp only at h2;subst h2;rfl
  | some a=>simp only at h2;simp[h2]
 rcases Qr hs4 with ⟨hj,hs5⟩ | ⟨hj,hs5⟩
 .have hj:Nat.min m n=0:=beq_iff.1 hj;have hf:∃new:Array Value,(Builtin.firstCells sz (Nat.min m n) vs).run P w=.ok new w/\new.toList=[]:=by
   rw[hj];cases hsr with
   | str s b he=>exact⟨_,rfl,by simp⟩
   | nils=>exact⟨#[],rfl,rfl⟩
   | emp a c=>exact⟨#[],by simp[Builtin.firstCells,loadCells,loadCellsFrom],rfl⟩
   | slice=>exact⟨#[],by simp[Builtin.firstCells,loadCells,loadCellsFrom],rfl⟩
   | _=>exact absurd (show (none:Option Nat)=some m from hm) (by simp)
  obtain⟨new,h1,h2⟩:=hf;have fin:(k (.int .i64 (.ofNat 0))).sat p h->∀{base:Option Addr} {cap:Nat},vd=.slice base n cap->UV P W0 E h k p ((Builtin.copy_ ts ty #[vd,vs]).run P w):=by
   intro hk base cap hv;refine .of r ⟨_,_,run hv h1 (w':=w) ?_,?_,hk⟩
   .cases base with
    | none=>rfl
    | some a=>simp only[h2];rfl
   .rw[hj];exact .int _ _
  cases hd with
  | nils =>
   have hs6:(qQ Nat.zero k).sat p h:=hs5;rw[qNe] at hs6
   have:n=0:=by cases (show some 0=some n from hn);rfl
   subst this;exact fin hs6 rfl
  | emp a c =>
   have hs6:(qQ Nat.zero k).sat p h:=hs5;rw[qNe] at hs6
   have:n=0:=by cases (show some 0=some n from hn);rfl
   subst this;exact fin hs6 rfl
  | slice i o len cap ext b x cc hi hx hcc =>
   have hs6:(qQ Nat.zero k).sat p h:=hs5;rw[qNe] at hs6
   have:n=len:=by cases (show some len=some n from hn);rfl
   subst this;exact fin hs6 rfl
  | _=>exact False.elim hs5
 .obtain⟨ds,xs,h1,h2,h3,hs6⟩:=qOv r hsr hs5;cases hd with
  | slice i o len cap ext b x cc hi hx hcc =>
   subst hx
   have:n=len:=by cases (show some len=some n from hn);rfl
   subst this;have hs7:(qGs i o ds (qQ (Nat.min m n) k)).sat p h:=hs6;obtain⟨w',h',g1,g2,g3,g4⟩:=qE6 r hi h2 hs7;rw[qNe] at g4;exact⟨_,w',E,h',_,run rfl (h1 _ rfl) g1,g3,g2,.int _ _,g4⟩
  | _=>exact False.elim hs6
theorem jF3 (r:Rel P W0 E h w) {t:TypeId} {ts:Array TypeId} {ty:TypeId} (ht:ts[0]?=some t) {x:AV} {v:Value} {vs:Array Value} (hv0:vs[0]?=some v) (hx:VR E x v) (hs:(xLen P t x k).sat p h) :
  UV P W0 E h k p ((Builtin.len_ ts ty vs).run P w):=by
 have fin:∀{n:Nat},(qQ n k).sat p h->(Builtin.len_ ts ty vs).run P w=.ok (goInt n) w->UV P W0 E h k p ((Builtin.len_ ts ty vs).run P w):=by intro n hk hr;rw[qNe] at hk;exact .of r ⟨_,_,hr,.int _ _,hk⟩
 have other:(Option.rec (motive:=λ_=>FM) (Qj (jDk P t) (.fail 43) λa=>Qj (Jz P a) (.fail 43) λne=>qQ ne.1 k) (λne=>qQ ne.1 k) (Jz P t)).sat p h->UV P W0 E h k p ((Builtin.len_ ts ty vs).run P w):=by
  intro hs;cases hea:Jz P t with
  | some ne =>
   rw[hea] at hs;exact fin hs (by simp[Builtin.len_,ht,hv0,Q9 (qF6 hea)])
  | none =>rw[hea] at hs;obtain⟨a,ha,hs2⟩:=Qe hs;obtain⟨ne,hne,hs3⟩:=Qe hs2;exact fin hs3 (by simp[Builtin.len_,ht,hv0,Q9 (qUx ha),Q9 (qF6 hne)])
 cases hx with
 | nilMap =>
  obtain⟨h1,hs2⟩:=Qi (m:=qQ Nat.zero k) hs;obtain⟨a,b,hu⟩:=jF8 (beq_iff.1 h1);exact fin hs2 (by simp[Builtin.len_,ht,hv0,Q9 hu])
 | map i b hi =>
  obtain⟨h1,hs2⟩:=Qi (m:=.get i λo=>o.onMap (λes _=>Jf es Nat.zero λn=>qQ n k) (.fail 41)) hs;obtain⟨kt,et,hu⟩:=jF8 (beq_iff.1 h1);obtain⟨ao,hg,hs3⟩:=hs2;obtain⟨es,ver,rfl,hs4⟩:=jU hs3;rw[qKa] at hs4;obtain⟨b',o,hb',hw,hor⟩:=r.obj i _ hg;rw[hi] at hb';cases hb';cases hor with
  | map _ _ xs clock hm =>
   refine fin hs4 ?_;rw[<- hm.size];simp[Builtin.len_,ht,hv0,Q9 hu,getObj,Sem.run,hw]
 | str s b he =>
  subst he;obtain⟨h1,hs2⟩:=Qi (m:=Jf (bs b) Nat.zero λn=>qQ n k) hs;rw[qKa,jm] at hs2;exact fin hs2 (by simp[Builtin.len_,ht,hv0,Q9 (tag3 (beq_iff.1 h1))])
 | nils =>
  obtain⟨h1,hs2⟩:=Qi (m:=qQ Nat.zero k) hs;obtain⟨a,hu⟩:=tag9 (beq_iff.1 h1);exact fin hs2 (by simp[Builtin.len_,ht,hv0,Q9 hu])
 | emp a c =>
  obtain⟨h1,hs2⟩:=Qi (m:=qQ Nat.zero k) hs;obtain⟨a,hu⟩:=tag9 (beq_iff.1 h1);exact fin hs2 (by simp[Builtin.len_,ht,hv0,Q9 hu])
 | slice i o len cap ext b x cc hi hx hcc =>
  obtain⟨h1,hs2⟩:=Qi (m:=qQ len k) hs;obtain⟨a,hu⟩:=tag9 (beq_iff.1 h1);exact fin hs2 (by simp[Builtin.len_,ht,hv0,Q9 hu])
 | _=>exact other hs
theorem qIf {l:List AV} {vs:List Value} (hl:VRs E l vs) {kk:AV->FM} (hs:(jAt l kk).sat p h):∃a v,vs[0]?=some v/\VR E a v/\(kk a).sat p h:=by
 cases hl with
 | nil=>exact False.elim hs
 | cons a v l m hv t=>exact⟨a,v,rfl,hv,hs⟩
theorem qS0 {l:List AV} {vs:List Value} (hl:VRs E l vs) {kk:AV->AV->FM} (hs:(jDz l kk).sat p h):∃a b u v,vs[0]?=some u/\vs[1]?=some v/\VR E a u/\VR E b v/\(kk a b).sat p h:=by
 cases hl with
 | nil=>exact False.elim hs
 | cons a v l m hv t =>obtain⟨b,u,h1,h2,h3⟩:=qIf (kk:=λb=>kk a b) t hs;exact⟨a,b,v,u,rfl,h1,hv,h2,h3⟩
theorem Jx {l:List AV} {vs:List Value} (hl:VRs E l vs) {kk:AV->AV->FM} (hs:(qTk l kk).sat p h):∃a b u v,vs=[u,v]/\VR E a u/\VR E b v/\(kk a b).sat p h:=by
 cases hl with
 | nil=>exact False.elim hs
 | cons a v l m hv t =>
  cases t with
  | nil=>exact False.elim hs
  | cons b u l m hu t =>
   cases t with
   | nil=>exact⟨a,b,v,u,rfl,hv,hu,hs⟩
   | cons=>exact False.elim hs
theorem qTm (r:Rel P W0 E h w) {l:List AV} {vs:Array Value} (hl:VRs E l vs.toList) {ts:Array TypeId} {ty:TypeId} (hs:(jFj P l ts k).sat p h):UV P W0 E h k p ((Builtin.append_ ts ty vs).run P w):=by
 obtain⟨st,h0,hs1⟩:=Qe hs;obtain⟨xt,h1,hs2⟩:=Qe hs1;obtain⟨a,b,u,v,e0,e1,hu,hv,hs3⟩:=qS0 hl hs2;rw[Array.getElem?_toList] at e0 e1
 have:=qVp (ty:=ty) r hu hv hs3
 have e:(Builtin.append_ ts ty vs).run P w=(Builtin.append_ #[st,xt] ty #[u,v]).run P w:=by have f0:(#[st,xt]:Array TypeId)[0]?=some st:=rfl;have f1:(#[st,xt]:Array TypeId)[1]?=some xt:=rfl;have f2:(#[u,v]:Array Value)[0]?=some u:=rfl;have f3:(#[u,v]:Array Value)[1]?=some v:=rfl;simp only[Builtin.append_,h0,h1,e0,e1,f0,f1,f2,f3]
 rw[e];exact this
theorem qYd (r:Rel P W0 E h w) {t:TypeId} {ts:Array TypeId} {ty:TypeId} (ht:ts[0]?=some t) {x:AV} {v:Value} {vs:Array Value} (hv0:vs[0]?=some v) (hx:VR E x v) (hs:(xClear P t x k).sat p h) :
  UV P W0 E h k p ((Builtin.clear_ ts ty vs).run P w):=by
 obtain⟨e,he,hs1⟩:=Qe hs;have hu:=jF he;have fin:(k (.tuple [])).sat p h->(Builtin.clear_ ts ty vs).run P w=.ok (.tuple #[]) w->UV P W0 E h k p ((Builtin.clear_ ts ty vs).run P w):=λhk hr=>.of r ⟨_,_,hr,.tuple _ _ .nil,hk⟩;cases hx with
 | nils=>exact fin hs1 (by simp[Builtin.clear_,ht,hv0,Q9 hu])
 | emp a c=>exact fin hs1 (by simp[Builtin.clear_,ht,hv0,Q9 hu])
 | slice i o len cap ext b x cc hi hx hcc =>
  subst hx;have hs1:(cnd (Nat.beq len Nat.zero) (k (.tuple [])) (jFq P e len λcs _=>qGs i o cs (k (.tuple [])))).sat p h:=hs1;rcases Qr hs1 with ⟨hj,hs2⟩ | ⟨hj,hs2⟩
  .have:len=0:=beq_iff.1 hj
   subst this;exact fin hs2 (by simp[Builtin.clear_,ht,hv0,Q9 hu])
  .have hne:len≠0:=λe=>by rw[e] at hj;cases hj
   obtain⟨q,rfl⟩:∃q,len=q+1:=⟨len-1,by omega⟩;obtain⟨i',v',cs,hi',hv,hvs,hcs,h4⟩:=qIy (n:=q+1) (kk:=λcs _=>qGs i o cs (k (.tuple []))) (show (rowK P e (q+1) λcs _=>qGs i o cs (k (.tuple []))).sat p h from hs2);have hxs:((Array.range ((q+1)*i'.size)).map (v'.cells[· % v'.cells.size]!))=Builtin.zeroCells v'.cells (q+1):=by unfold Builtin.zeroCells;rw[hvs]
   rw[hxs] at hcs;obtain⟨w',h',g1,g2,g3,g4⟩:=qE6 r hi hcs h4;refine⟨_,w',E,h',_,?_,g3,g2,.tuple _ _ .nil,g4⟩;simp only[Builtin.clear_,ht,hv0,Sem.run_bind,Q9 hu,Result.andThen_ok,qGo hi' hv,g1,Sem.run_pure]
 | _=>exact False.elim hs1
theorem qXm (r:Rel P W0 E h w) {l:List AV} {vs:Array Value} (hl:VRs E l vs.toList) {ts:Array TypeId} {ty:TypeId} (hs:(blClear P l ts k).sat p h):UV P W0 E h k p ((Builtin.clear_ ts ty vs).run P w):=by obtain⟨t,h0,hs1⟩:=Qe hs;obtain⟨a,v,e0,hv,hs2⟩:=qIf hl hs1;rw[Array.getElem?_toList] at e0;exact qYd r h0 e0 hv hs2
theorem jAp (r:Rel P W0 E h w) {l:List AV} {vs:Array Value} (hl:VRs E l vs.toList) {ts:Array TypeId} {ty:TypeId} (hs:(blCopy P l ts k).sat p h):UV P W0 E h k p ((Builtin.copy_ ts ty vs).run P w):=by
 obtain⟨t,h0,hs1⟩:=Qe hs;obtain⟨a,b,u,v,e0,e1,hu,hv,hs3⟩:=qS0 hl hs1;rw[Array.getElem?_toList] at e0 e1
 have:=jBs (ty:=ty) r h0 hu hv hs3
 have e:(Builtin.copy_ ts ty vs).run P w=(Builtin.copy_ ts ty #[u,v]).run P w:=by have f2:(#[u,v]:Array Value)[0]?=some u:=rfl;have f3:(#[u,v]:Array Value)[1]?=some v:=rfl;simp only[Builtin.copy_,h0,e0,e1,f2,f3]
 rw[e];exact this
theorem jDs (r:Rel P W0 E h w) {l:List AV} {vs:Array Value} (hl:VRs E l vs.toList) {ts:Array TypeId} {ty:TypeId} (hs:(blLen P l ts k).sat p h):UV P W0 E h k p ((Builtin.len_ ts ty vs).run P w):=by obtain⟨t,h0,hs1⟩:=Qe hs;obtain⟨a,u,e0,hu,hs3⟩:=qIf hl hs1;rw[Array.getElem?_toList] at e0;exact jF3 r h0 e0 hu hs3
theorem jDt (r:Rel P W0 E h w) {l:List AV} {vs:Array Value} (hl:VRs E l vs.toList) {ts:Array TypeId} {ty:TypeId} (hs:(blCap P l ts k).sat p h):UV P W0 E h k p ((Builtin.cap_ ts ty vs).run P w):=by
 obtain⟨t,h0,hs1⟩:=Qe hs;obtain⟨a,u,e0,hu,hs2⟩:=qIf hl hs1;rw[Array.getElem?_toList] at e0;obtain⟨h9,hs3⟩:=Qi hs2;obtain⟨e,hun⟩:=tag9 (beq_iff.1 h9);have fin:∀{n:Nat},(qQ n k).sat p h->(Builtin.cap_ ts ty vs).run P w=.ok (goInt n) w->UV P W0 E h k p ((Builtin.cap_ ts ty vs).run P w):=by intro n hk hr;rw[qNe] at hk;exact .of r ⟨_,_,hr,.int _ _,hk⟩
 cases hu with
 | nils=>exact fin hs3 (by simp[Builtin.cap_,h0,e0,Q9 hun])
 | slice i o len cap ext b x cc hi hx hcc =>
  rcases Qr (m:=.fail 52) (m':=qQ cap k) hs3 with ⟨_,hs4⟩ | ⟨he,hs4⟩
  .exact False.elim hs4
  subst he
  have:cc=cap:=hcc
  subst this;exact fin hs4 (by simp[Builtin.cap_,h0,e0,Q9 hun])
 | _=>exact False.elim hs3
theorem jDq (r:Rel P W0 E h w) {l:List AV} {vs:Array Value} (hl:VRs E l vs.toList) {ts:Array TypeId} {ty:TypeId} (hs:(blMin l ts k).sat p h):UV P W0 E h k p ((Builtin.min_ ts ty vs).run P w):=by
 obtain⟨a,b,u,v,e,hu,hv,hs2⟩:=Jx hl hs;cases hu with
 | int q n =>
  cases hv with
  | int q2 m =>
   obtain⟨hq,hs3⟩:=qa (m:=k (.int q (cnd (ltI m n) m n))) hs2;subst hq;rw[qG7,qG2] at hs3;exact .of r ⟨_,_,by simp[Builtin.min_,e,Builtin.min2],.int _ _,hs3⟩
  | _=>exact False.elim hs2
 | _=>exact False.elim hs2
theorem jDr (r:Rel P W0 E h w) {l:List AV} {vs:Array Value} (hl:VRs E l vs.toList) {ts:Array TypeId} {ty:TypeId} (hs:(blMax l ts k).sat p h):UV P W0 E h k p ((Builtin.max_ ts ty vs).run P w):=by
 obtain⟨a,b,u,v,e,hu,hv,hs2⟩:=Jx hl hs;cases hu with
 | int q n =>
  cases hv with
  | int q2 m =>
   obtain⟨hq,hs3⟩:=qa (m:=k (.int q (cnd (ltI n m) m n))) hs2;subst hq;rw[qG7,qG2] at hs3;exact .of r ⟨_,_,by simp[Builtin.max_,e,Builtin.max2],.int _ _,hs3⟩
  | _=>exact False.elim hs2
 | _=>exact False.elim hs2
end
end Go.X
namespace Go.X
open Go Go.RowKit
section
variable {P:Program} {W0:World} {E:Env} {h:Q0} {p:QF} {w:World} {k:AV->FM}
theorem ba_ext {a b:ByteArray} (h:bs a=bs b):a=b:=by
 have:=u8_inj h
 rcases a with ⟨⟨a⟩⟩;rcases b with ⟨⟨b⟩⟩
 simp only at this;subst this;rfl
theorem key_inj {q:Option IntKind} {a b:AV} {u v:Value} (ha:jd q a) (hb:jd q b) (hu:VR E a u) (hv:VR E b v):u=v↔a=b:=by
 cases ha with
 | int k1 n h1 =>
  cases hb with
  | int k2 m h2 =>
   cases hu;cases hv;rw[h1] at h2;cases h2;simp
  | str s h2=>rw[h1] at h2;cases h2
 | str s h1 =>
  cases hb with
  | int k2 m h2=>rw[h1] at h2;cases h2
  | str t h2 =>
   cases hu with
   | str _ x hx =>
    cases hv with
    | str _ y hy =>
     subst hx;subst hy;constructor
     .intro e;cases e;rfl
     .intro e;simp only[AV.str.injEq] at e;rw[ba_ext e]
theorem qNo {a b:AV} {kk:Bool->FM} (hs:(qJe a b kk).sat p h):∃q r,jd q a/\jd q b/\(r=true↔a=b)/\(kk r).sat p h:=by
 cases a with
 | int q n =>
  cases b with
  | int r m =>
   have hs2:(cnd (Nat.beq (QT q) (QT r)) (kk (eqI n m)) (.fail 48)).sat p h:=hs;obtain⟨h1,hs3⟩:=Qi hs2
   have:=qP2 h1
   subst this;refine⟨some q,_,.int _ _ rfl,.int _ _ rfl,?_,hs3⟩;rw[jAf];simp
  | _=>exact False.elim hs
 | str s =>
  cases b with
  | str t =>
   refine⟨none,_,.str _ rfl,.str _ rfl,?_,hs⟩;rw[ju];simp
  | _=>exact False.elim hs
 | _=>exact False.elim hs
inductive Found (key:AV) (l:List (AV × AV)):Option AV->Prop
 | none (h:∀x,x∈l->key≠x.1):Found key l none
 | some (pre post:List (AV × AV)) (e:AV × AV) (h:l=pre++e::post) (hk:key=e.1):Found key l (some e.2)
theorem qSg {key:AV}:∀{l:List (AV × AV)} {kk:Option AV->FM},(qG0 key l kk).sat p h->∃r,Found key l r/\(l≠[]->∃q e,e∈l/\jd q key/\jd q e.1)/\(kk r).sat p h
 | [],kk,hs=>⟨none,.none (by simp),λh=>absurd rfl h,hs⟩
 | e::l,kk,hs=>by
  obtain⟨q,r,h1,h2,h3,hs2⟩:=qNo (kk:=λb=>cnd b (kk (some e.2)) (qG0 key l kk)) hs;have hq:∃q x,x∈e::l/\jd q key/\jd q x.1:=⟨q,e,zB0,h1,h2⟩;rcases Qr hs2 with ⟨hr,hs3⟩ | ⟨hr,hs3⟩
  .exact⟨_,.some [] l e rfl (h3.1 hr),λ_=>hq,hs3⟩
  .have hne:key≠e.1:=λhe=>by rw[h3.2 he] at hr;cases hr
   obtain⟨r2,f,_,hs4⟩:=qSg hs3;refine⟨r2,?_,λ_=>hq,hs4⟩;cases f with
   | none hn=>exact .none λx hx=>(List.mem_cons.1 hx).elim (λe=>e ▸ hne) (hn x)
   | some pre post x hx hk=>exact .some (e::pre) post x (by rw[hx];rfl) hk
theorem qUn (key v:AV):∀(l:List (AV × AV)) (kk:List (AV × AV)->FM),∃pre post,l=pre++post/\qFc key v l kk=kk (pre++(key,v)::post)
 | [],kk=>⟨[],[],rfl,rfl⟩
 | e::l,kk=>by
  cases hb:qZx key e.1
  .obtain⟨pre,post,h1,h2⟩:=qUn key v l (λr=>kk (e::r));refine⟨e::pre,post,by rw[h1];rfl,?_⟩;show cnd (qZx key e.1) (kk ((key,v)::e::l)) (qFc key v l λr=>kk (e::r))=_;rw[hb,Q8,h2];rfl
  .refine⟨[],e::l,rfl,?_⟩;show cnd (qZx key e.1) (kk ((key,v)::e::l)) (qFc key v l λr=>kk (e::r))=_;rw[hb];rfl
theorem qOc {key v:AV}:∀{l:List (AV × AV)} {kk:List (AV × AV)->FM},(Je key v l kk).sat p h ->
  ((∀x,x∈l->key≠x.1)/\(kk l).sat p h)∨∃pre post e,l=pre++e::post/\key=e.1/\(kk (pre++(key,v)::post)).sat p h
 | [],kk,hs=>.inl ⟨by simp,hs⟩
 | e::l,kk,hs=>by
  obtain⟨q,r,h1,h2,h3,hs2⟩:=qNo (kk:=λb=>cnd b (kk ((key,v)::l)) (Je key v l λr=>kk (e::r))) hs;rcases Qr hs2 with ⟨hr,hs3⟩ | ⟨hr,hs3⟩
  .exact .inr ⟨[],l,e,rfl,h3.1 hr,hs3⟩
  .have hne:key≠e.1:=λhe=>by rw[h3.2 he] at hr;cases hr
   rcases qOc hs3 with ⟨h4,h5⟩ | ⟨pre,post,x,h4,h5,h6⟩
   .exact .inl ⟨λx hx=>(List.mem_cons.1 hx).elim (λe=>e ▸ hne) (h4 x),h5⟩
   .exact .inr ⟨e::pre,post,x,by rw[h4];rfl,h5,h6⟩
theorem jFe {key:AV}:∀{l:List (AV × AV)} {kk:List (AV × AV)->FM},(delK key l kk).sat p h->(l≠[]->∃q e,e∈l/\jd q key/\jd q e.1) /\
  (((∀x,x∈l->key≠x.1)/\(kk l).sat p h)∨∃pre post e,l=pre++e::post/\key=e.1/\(kk (pre++post)).sat p h)
 | [],kk,hs=>⟨λh=>absurd rfl h,.inl ⟨by simp,hs⟩⟩
 | e::l,kk,hs=>by
  obtain⟨q,r,h1,h2,h3,hs2⟩:=qNo (kk:=λb=>cnd b (kk l) (delK key l λr=>kk (e::r))) hs;refine⟨λ_=>⟨q,e,zB0,h1,h2⟩,?_⟩;rcases Qr hs2 with ⟨hr,hs3⟩ | ⟨hr,hs3⟩
  .exact .inr ⟨[],l,e,rfl,h3.1 hr,hs3⟩
  .have hne:key≠e.1:=λhe=>by rw[h3.2 he] at hr;cases hr
   rcases (jFe hs3).2 with ⟨h4,h5⟩ | ⟨pre,post,x,h4,h5,h6⟩
   .exact .inl ⟨λx hx=>(List.mem_cons.1 hx).elim (λe=>e ▸ hne) (h4 x),h5⟩
   .exact .inr ⟨e::pre,post,x,by rw[h4];rfl,h5,h6⟩
inductive KT (q:Option IntKind):TypeDesc->Prop
 | int (kk:IntKind) (h:q≠none):KT q (.int kk)
 | str (h:q=none):KT q .string
theorem qYs {q:Option IntKind} {d:TypeDesc} (hd:KT q d) {a b:AV} {u v:Value} (ha:jd q a) (hb:jd q b) (hu:VR E a u) (hv:VR E b v):∃r,Instr.sameNow d u v=some r/\(r=true↔u=v):=by
 cases ha with
 | int k1 n h1 =>
  cases hb with
  | int k2 m h2 =>
   cases hu;cases hv;rw[h1] at h2;cases h2;cases hd with
   | int kk _=>exact⟨n == m,by simp[Instr.sameNow],by simp⟩
   | str h3=>rw[h1] at h3;cases h3
  | str s h2=>rw[h1] at h2;cases h2
 | str s h1 =>
  cases hb with
  | int k2 m h2=>rw[h1] at h2;cases h2
  | str t h2 =>
   cases hu with
   | str _ x hx =>
    cases hv with
    | str _ y hy =>
     cases hd with
     | int kk h3=>exact absurd h1 h3
     | str _ =>
      refine⟨x == y,by simp[Instr.sameNow],?_⟩;rw[beq_toListBytes];constructor
      .intro e
       have:x.toList=y.toList:=by simpa using e
       have:x=y:=ba_ext (by rw[jG7,jG7,this])
       rw[this]
      .intro e;cases e;simp
theorem findNow_spec {d:TypeDesc} {u:Value}:∀(xs:List MapEntry) (i:Nat),(∀x,x∈xs->∃r,Instr.sameNow d u x.key=some r/\(r=true↔u=x.key)) ->
  (Instr.findNow d u xs i=some none/\∀x,x∈xs->u≠x.key)∨∃A x B,xs=A++x::B/\u=x.key/\Instr.findNow d u xs i=some (some (i+A.length,x.val))
 | [],i,_=>.inl ⟨rfl,by simp⟩
 | x::xs,i,hx=>by
  obtain⟨r,h1,h2⟩:=hx x zB0;cases r
  .have hne:u≠x.key:=λe=>by have:=h2.2 e;cases this
   rcases findNow_spec xs (i+1) (λy hy=>hx y (zA0 _ hy)) with ⟨h3,h4⟩ | ⟨A,y,B,h3,h4,h5⟩
   .exact .inl ⟨by rw[Instr.findNow,h1];exact h3,λy hy=>(List.mem_cons.1 hy).elim (λe=>e ▸ hne) (h4 y)⟩
   .exact .inr ⟨x::A,y,B,by rw[h3];rfl,h4,by rw[Instr.findNow,h1];simp only;rw[h5];simp;omega⟩
  .exact .inr ⟨[],x,xs,rfl,h2.1 rfl,by rw[Instr.findNow,h1];simp⟩
theorem qFy {q:Option IntKind} {d:TypeDesc} (hd:KT q d) {t:TypeId} (hu:P.underlying t=some d) (b:Bool) (n:Nat) (v:Value) (w:World):(Instr.checkKey b (n+1) t v).run P w=.ok () w:=by
 cases hd with
 | int kk _=>simp[Instr.checkKey,Q9 hu]
 | str _=>simp[Instr.checkKey,Q9 hu]
inductive Both (E:Env) (key:AV) (u:Value) (es:List (AV × AV)) (xs:List MapEntry):Option AV->Option (Nat × Value)->Prop
 | none (h1:∀x,x∈es->key≠x.1) (h2:∀x,x∈xs->u≠x.key):Both E key u es xs none none
 | some (pre post:List (AV × AV)) (e:AV × AV) (A B:List MapEntry) (x:MapEntry) (h1:es=pre++e::post) (hk:key=e.1) (h2:xs=A++x::B) (hx:u=x.key) (hr:EntR E e x):Both E key u es xs (some e.2) (some (A.length,x.val))
theorem MapR.kindOf {es:List (AV × AV)} {xs:Array MapEntry} {clock:Nat} (m:MapR E es xs clock) {key:AV} (hne:es≠[]->∃q e,e∈es/\jd q key/\jd q e.1) {q0:Option IntKind} (hk:jd q0 key):∀e,e∈es->jd q0 e.1:=by
 intro e he;obtain⟨q,hq⟩:=m.kind;obtain⟨q1,x,hx,h1,h2⟩:=hne (λh=>by rw[h] at he;cases he)
 have:∀{a b:Option IntKind} {y:AV},jd a y->jd b y->a=b:=by
  intro a b y ha hb;cases ha with
  | int k n h=>cases hb with | int _ _ h2=>rw[h,h2]
  | str s h=>cases hb with | str _ h2=>rw[h,h2]
 have e1:=this (hq x hx) h2;have e2:=this h1 hk
 have:=hq e he
 rw[e1,e2] at this;exact this
theorem MapR.both {es:List (AV × AV)} {xs:Array MapEntry} {clock:Nat} (m:MapR E es xs clock) {key:AV} {u:Value} {q:Option IntKind} (hk:jd q key) (hes:∀e,e∈es->jd q e.1) (hu:VR E key u) {d:TypeDesc} (hd:KT q d)
  {r:Option AV} (f:Found key es r):∃z,Instr.findNow d u xs.toList 0=some z/\Both E key u es xs.toList r z:=by
 have hsame:∀x,x∈xs.toList->∃r,Instr.sameNow d u x.key=some r/\(r=true↔u=x.key):=λx hx=>by obtain⟨e,he,hr⟩:=m.right x hx;exact qYs hd hk (hes e he) hu hr.key
 rcases findNow_spec xs.toList 0 hsame with ⟨h1,h2⟩ | ⟨A,x,B,h1,h2,h3⟩
 .refine⟨none,h1,?_⟩;cases f with
  | none hn=>exact .none hn h2
  | some pre post e he hke =>
   have hem:e∈es:=by rw[he];simp
   obtain⟨x,hx,hr⟩:=m.left e hem;exact absurd ((key_inj hk (hes e hem) hu hr.key).2 hke) (h2 x hx)
 .refine⟨some (A.length,x.val),by rw[h3];simp,?_⟩;obtain⟨e0,he0,hr0⟩:=m.right x (by rw[h1];simp);have hke0:key=e0.1:=(key_inj hk (hes e0 he0) hu hr0.key).1 h2;cases f with
  | none hn=>exact absurd hke0 (hn e0 he0)
  | some pre post e he hke =>
   have hem:e∈es:=by rw[he];simp
   have hee:e=e0:=by
    by_cases h:e=e0
    .exact h
    .exfalso;obtain⟨i,hi⟩:=List.mem_iff_getElem?.1 hem;obtain⟨j,hj⟩:=List.mem_iff_getElem?.1 he0;have hlt:=(List.getElem?_eq_some_iff.1 hi);have hlt2:=(List.getElem?_eq_some_iff.1 hj);have pw:=List.pairwise_iff_getElem.1 m.nodup;rcases Nat.lt_trichotomy i j with hij | hij | hij
     .exact pw i j hlt.1 hlt2.1 hij (by rw[hlt.2,hlt2.2,<- hke,<- hke0])
     .subst hij;rw[hi] at hj;cases hj;exact h rfl
     .exact pw j i hlt2.1 hlt.1 hij (by rw[hlt.2,hlt2.2,<- hke,<- hke0])
   subst hee;exact .some pre post e A B x he hke h1 h2 hr0
end
end Go.X
namespace Go.X
open Go Go.RowKit
section
variable {P:Program} {W0:World} {E:Env} {h:Q0} {p:QF} {w:World} {k:AV->FM}
theorem MapR.replace {pre post:List (AV × AV)} {e:AV × AV} {xs ys:Array MapEntry} {clock:Nat} {A B:List MapEntry} {x:MapEntry} (m:MapR E (pre++e::post) xs clock) (hx:xs.toList=A++x::B) (hr:EntR E e x)
  {key v:AV} {u vv:Value} (hk:key=e.1) (hu:VR E key u) (hux:u=x.key) (hv:VR E v vv) (hy:ys.toList=A++{ x with key:=u,val:=vv }::B):MapR E (pre++(key,v)::post) ys clock:=by
 have hsz:ys.size=xs.size:=by rw[<- Array.length_toList,<- Array.length_toList,hx,hy];simp
 have hnd:=m.nodup;have hkeys:=m.keys;have hborn:=m.born;have honce:=m.once;rw[hx] at hkeys hborn honce;refine⟨by rw[hsz,m.size];simp,?_,?_,λe' he'=>?_,λx' hx'=>?_,λy hyy=>?_,?_,?_⟩
 .obtain⟨q,hq⟩:=m.kind;refine⟨q,λe' he'=>?_⟩;rcases List.mem_append.1 he' with h1 | h1
  .exact hq e' (zG0 _ h1)
  .rcases List.mem_cons.1 h1 with h2 | h2
   .subst h2;rw[show (key,v).1=e.1 from hk];exact hq e (by simp)
   .exact hq e' (by simp[h2])
 .rw[zN0,zO0] at hnd ⊢;obtain⟨a1,⟨a2,a3⟩,a4⟩:=hnd;refine⟨a1,⟨λb hb=>by rw[show (key,v).1=e.1 from hk];exact a2 b hb,a3⟩,λa ha b hb=>?_⟩;rcases List.mem_cons.1 hb with h2 | h2
  .subst h2;rw[show (key,v).1=e.1 from hk];exact a4 a ha e zB0
  .exact a4 a ha b (zA0 _ h2)
 .have other:∀e',e'∈pre++e::post->e'.1≠e.1->∃x,x∈ys.toList/\EntR E e' x:=by
   intro e' he' hne;obtain⟨y,hyy,hr'⟩:=m.left e' he';rw[hx] at hyy;obtain⟨q,hq⟩:=m.kind;have hyx:y≠x:=λeq=>by subst eq;exact hne ((key_inj (hq e' he') (hq e (by simp)) hr'.key hr.key).1 rfl)
   refine⟨y,?_,hr'⟩;rw[hy];rcases List.mem_append.1 hyy with h1 | h1
   .exact zG0 _ h1
   .rcases List.mem_cons.1 h1 with h2 | h2
    .exact absurd h2 hyx
    .exact zH0 _ (zA0 _ h2)
  rw[zN0,zO0] at hnd;obtain⟨a1,⟨a2,a3⟩,a4⟩:=hnd;rcases List.mem_append.1 he' with h1 | h1
  .exact other e' (zG0 _ h1) (a4 e' h1 e zB0)
  .rcases List.mem_cons.1 h1 with h2 | h2
   .subst h2;exact⟨{ x with key:=u,val:=vv },by rw[hy];simp,hu,hv⟩
   .exact other e' (by simp[h2]) (λeq=>a2 e' h2 eq.symm)
 .rw[hy] at hx';have other:∀y,y∈A++x::B->y.key≠x.key->∃e',e'∈pre++(key,v)::post/\EntR E e' y:=by
   intro y hyy hne;obtain⟨e',he',hr'⟩:=m.right y (by rw[hx];exact hyy);have hee:e'≠e:=λeq=>by subst eq;obtain⟨q,hq⟩:=m.kind;exact hne ((key_inj (hq e' he') (hq e' he') hr'.key hr.key).2 rfl)
   refine⟨e',?_,hr'⟩;rcases List.mem_append.1 he' with h1 | h1
   .exact zG0 _ h1
   .rcases List.mem_cons.1 h1 with h2 | h2
    .exact absurd h2 hee
    .exact zH0 _ (zA0 _ h2)
  rw[zN0,zO0] at hkeys;obtain⟨a1,⟨a2,a3⟩,a4⟩:=hkeys;rcases List.mem_append.1 hx' with h1 | h1
  .exact other x' (zG0 _ h1) (a4 x' h1 x zB0)
  .rcases List.mem_cons.1 h1 with h2 | h2
   .subst h2;exact⟨(key,v),by simp,hu,hv⟩
   .exact other x' (by simp[h2]) (λeq=>a2 x' h2 eq.symm)
 .rw[hy] at hyy;rcases List.mem_append.1 hyy with h1 | h1
  .exact hborn y (zG0 _ h1)
  .rcases List.mem_cons.1 h1 with h2 | h2
   .subst h2;exact hborn x (by simp)
   .exact hborn y (by simp[h2])
 .rw[hy];rw[zN0,zO0] at honce ⊢;obtain⟨a1,⟨a2,a3⟩,a4⟩:=honce;refine⟨a1,⟨λb hb=>a2 b hb,a3⟩,λa ha b hb=>?_⟩;rcases List.mem_cons.1 hb with h2 | h2
  .subst h2;exact a4 a ha x zB0
  .exact a4 a ha b (zA0 _ h2)
 .rw[hy];rw[zN0,zO0] at hkeys ⊢;obtain⟨a1,⟨a2,a3⟩,a4⟩:=hkeys;refine⟨a1,⟨λb hb=>by simp only;rw[hux];exact a2 b hb,a3⟩,λa ha b hb=>?_⟩;rcases List.mem_cons.1 hb with h2 | h2
  .subst h2;simp only;rw[hux];exact a4 a ha x zB0
  .exact a4 a ha b (zA0 _ h2)
theorem MapR.insert {pre post:List (AV × AV)} {xs:Array MapEntry} {clock:Nat} (m:MapR E (pre++post) xs clock) {key v:AV} {u vv:Value} {q:Option IntKind} (hk:jd q key) (hes:∀e,e∈pre++post->jd q e.1)
  (hu:VR E key u) (hv:VR E v vv) (h1:∀x,x∈pre++post->key≠x.1) (h2:∀x,x∈xs.toList->u≠x.key):MapR E (pre++(key,v)::post) (xs.push { key:=u,val:=vv,born:=clock }) (clock+1):=by
 have hnd:=m.nodup;have memI:∀e',e'∈pre++(key,v)::post->e'=(key,v)∨e'∈pre++post:=λe' he'=>by
  rcases List.mem_append.1 he' with h | h
  .exact .inr (zG0 _ h)
  .rcases List.mem_cons.1 h with h | h
   .exact .inl h
   .exact .inr (zH0 _ h)
 have memI2:∀e',e'∈pre++post->e'∈pre++(key,v)::post:=λe' he'=>by
  rcases List.mem_append.1 he' with h | h
  .exact zG0 _ h
  .exact zH0 _ (zA0 _ h)
 refine⟨by rw[Array.size_push,m.size];simp;omega,⟨q,λe' he'=>?_⟩,?_,λe' he'=>?_,λx' hx'=>?_,λy hy=>?_,?_,?_⟩
 .rcases memI e' he' with h | h
  .subst h;exact hk
  .exact hes e' h
 .rw[zN0] at hnd;obtain⟨a1,a2,a3⟩:=hnd;rw[zN0,zO0];refine⟨a1,⟨λb hb=>h1 b (zH0 _ hb),a2⟩,λa ha b hb=>?_⟩;rcases List.mem_cons.1 hb with h | h
  .subst h;exact λeq=>h1 a (zG0 _ ha) eq.symm
  .exact a3 a ha b h
 .rw[Array.toList_push];rcases memI e' he' with h | h
  .subst h;exact⟨{ key:=u,val:=vv,born:=clock },by simp,hu,hv⟩
  .obtain⟨x,hx,hr⟩:=m.left e' h;exact⟨x,zG0 _ hx,hr⟩
 .rw[Array.toList_push] at hx';rcases List.mem_append.1 hx' with h | h
  .obtain⟨e',he',hr⟩:=m.right x' h;exact⟨e',memI2 e' he',hr⟩
  .have:x'={ key:=u,val:=vv,born:=clock }:=by simpa using h
   subst this;exact⟨(key,v),by simp,hu,hv⟩
 .rw[Array.toList_push] at hy;rcases List.mem_append.1 hy with h | h
  .have:=m.born y h;omega
  .have:y={ key:=u,val:=vv,born:=clock }:=by simpa using h
   subst this;simp
 .rw[Array.toList_push,zN0];refine⟨m.once,by simp,λa ha b hb=>?_⟩
  have:b={ key:=u,val:=vv,born:=clock }:=by simpa using hb
  subst this
  have:=m.born a ha
  simp only;omega
 .rw[Array.toList_push,zN0];refine⟨m.keys,by simp,λa ha b hb=>?_⟩
  have:b={ key:=u,val:=vv,born:=clock }:=by simpa using hb
  subst this;exact λeq=>h2 a ha eq.symm
theorem MapR.erase {pre post:List (AV × AV)} {e:AV × AV} {xs ys:Array MapEntry} {clock:Nat} {A B:List MapEntry} {x:MapEntry} (m:MapR E (pre++e::post) xs clock) (hx:xs.toList=A++x::B) (hr:EntR E e x)
  (hy:ys.toList=A++B):MapR E (pre++post) ys clock:=by
 have hsz:ys.size+1=xs.size:=by rw[<- Array.length_toList,<- Array.length_toList,hx,hy];simp;omega
 have hnd:=m.nodup;have hkeys:=m.keys;have hborn:=m.born;have honce:=m.once;rw[hx] at hkeys hborn honce;obtain⟨q,hq⟩:=m.kind;have memE:∀{α:Type} {l r:List α} {z y:α},y∈l++r->y∈l++z::r:=λ{α l r z y} h=>by
  rcases List.mem_append.1 h with h | h
  .exact zG0 _ h
  .exact zH0 _ (zA0 _ h)
 have memD:∀{α:Type} {l r:List α} {z y:α},y∈l++z::r->y≠z->y∈l++r:=λ{α l r z y} h hne=>by
  rcases List.mem_append.1 h with h | h
  .exact zG0 _ h
  .rcases List.mem_cons.1 h with h | h
   .exact absurd h hne
   .exact zH0 _ h
 refine⟨?_,⟨q,λe' he'=>hq e' (memE (z:=e) he')⟩,?_,λe' he'=>?_,λx' hx'=>?_,λy hyy=>hborn y (memE (z:=x) (by rw[<- hy];exact hyy)),?_,?_⟩
 .have:=m.size
  simp at this ⊢;omega
 .rw[zN0,zO0] at hnd;obtain⟨a1,⟨a2,a3⟩,a4⟩:=hnd;rw[zN0];exact⟨a1,a3,λa ha b hb=>a4 a ha b (zA0 _ hb)⟩
 .have hne:e'.1≠e.1:=by
   rw[zN0,zO0] at hnd;obtain⟨a1,⟨a2,a3⟩,a4⟩:=hnd;rcases List.mem_append.1 he' with h | h
   .exact a4 e' h e zB0
   .exact λeq=>a2 e' h eq.symm
  obtain⟨y,hyy,hr'⟩:=m.left e' (memE (z:=e) he');rw[hx] at hyy;have hne2:y≠x:=λeq=>by subst eq;exact hne ((key_inj (hq e' (memE (z:=e) he')) (hq e (by simp)) hr'.key hr.key).1 rfl)
  exact⟨y,by rw[hy];exact memD hyy hne2,hr'⟩
 .rw[hy] at hx';have hne:x'.key≠x.key:=by
   rw[zN0,zO0] at hkeys;obtain⟨a1,⟨a2,a3⟩,a4⟩:=hkeys;rcases List.mem_append.1 hx' with h | h
   .exact a4 x' h x zB0
   .exact λeq=>a2 x' h eq.symm
  obtain⟨e',he',hr'⟩:=m.right x' (by rw[hx];exact memE (z:=x) hx');refine⟨e',memD he' (λeq=>?_),hr'⟩;subst eq;exact hne ((key_inj (hq e' he') (hq e' he') hr'.key hr.key).2 rfl)
 .rw[hy];rw[zN0,zO0] at honce;obtain⟨a1,⟨a2,a3⟩,a4⟩:=honce;rw[zN0];exact⟨a1,a3,λa ha b hb=>a4 a ha b (zA0 _ hb)⟩
 .rw[hy];rw[zN0,zO0] at hkeys;obtain⟨a1,⟨a2,a3⟩,a4⟩:=hkeys;rw[zN0];exact⟨a1,a3,λa ha b hb=>a4 a ha b (zA0 _ hb)⟩
theorem qWx {xs:Array MapEntry} {A B:List MapEntry} {x:MapEntry} (hx:xs.toList=A++x::B) (f:MapEntry->MapEntry):(xs.modify A.length f).toList=A++f x::B:=by
 have hlt:A.length<xs.size:=by rw[<- Array.length_toList,hx];simp
 apply List.ext_getElem?;intro i;rw[Array.getElem?_toList,Array.getElem?_modify];by_cases hi:A.length=i
 .subst hi;rw[if_pos rfl,<- Array.getElem?_toList,hx];simp
 .rw[if_neg hi,<- Array.getElem?_toList,hx];rcases Nat.lt_or_ge i A.length with h | h
  .rw[List.getElem?_append_left h,List.getElem?_append_left h]
  .rw[List.getElem?_append_right h,List.getElem?_append_right h];obtain⟨j,hj⟩:∃j,i-A.length=j+1:=⟨i-A.length-1,by omega⟩;rw[hj];simp
theorem qSn {xs:Array MapEntry} {A B:List MapEntry} {x:MapEntry} (hx:xs.toList=A++x::B):(xs.eraseIdxIfInBounds A.length).toList=A++B:=by
 have hlt:A.length<xs.size:=by rw[<- Array.length_toList,hx];simp
 rw[Array.eraseIdxIfInBounds,dif_pos hlt,Array.toList_eraseIdx,hx];rw[List.eraseIdx_append_of_length_le (zL0 _)];simp
theorem qVz {q:Option IntKind} {a:AV} {u:Value} (hk:jd q a) (hu:VR E a u) (n:Nat):Instr.sameBits n u u=true:=by
 cases hk with
 | int=>cases hu;simp[Instr.sameBits]
 | str s h =>cases hu;simp only[Instr.sameBits];rw[beq_toListBytes];simp
theorem qW1 {t:TypeId} {kk:TypeId->FM} (hs:(mapK P t kk).sat p h):∃kt et,P.underlying t=some (.map kt et)/\qNv P t=some (kt,et)/\(kk et).sat p h:=by obtain⟨ke,hke,hs2⟩:=Qe hs;obtain⟨_,hs3⟩:=Qi hs2;exact⟨ke.1,ke.2,qUy hke,hke,hs3⟩
theorem qXa {t kt et:TypeId} (ht:qNv P t=some (kt,et)) {key:AV} {m:FM} (hs:(fitK P t key m).sat p h):∃q d,jd q key/\KT q d/\P.underlying kt=some d/\m.sat p h:=by
 obtain⟨ke,hke,hs2⟩:=Qe hs;rw[ht] at hke;cases hke;cases key with
 | int q n =>
  obtain⟨h2,hs3⟩:=Qi (m:=m) hs2;obtain⟨kk,hu⟩:=tag2 (beq_iff.1 h2);exact⟨some q,_,.int _ _ rfl,.int kk (by simp),hu,hs3⟩
 | str s =>
  obtain⟨h2,hs3⟩:=Qi (m:=m) hs2;exact⟨none,_,.str _ rfl,.str rfl,tag3 (beq_iff.1 h2),hs3⟩
 | _=>exact False.elim hs2
theorem run_findKey {kt:TypeId} {d:TypeDesc} (hu:P.underlying kt=some d) {u:Value} {xs:List MapEntry} {z:Option (Nat × Value)} (hz:Instr.findNow d u xs 0=some z) (w:World):(Instr.findKey kt u xs).run P w=.ok z w:=by simp[Instr.findKey,Q9 hu,hz]
theorem run_getObj_map {b:Nat} {xs:Array MapEntry} {clock:Nat} (hw:w.heap[b]?=some (.map xs clock)):(getObj b).run P w=.ok (.map xs clock) w:=by simp[getObj,Sem.run,hw]
theorem run_setObj_map {b:Nat} {xs:Array MapEntry} {clock:Nat} (o:Obj) (hw:w.heap[b]?=some (.map xs clock)):(setObj b o).run P w=.ok () (w.putObj b o):=by simp[setObj,Sem.run,hw,World.putObj]
theorem Rel.setMap (r:Rel P W0 E h w) {i b:Nat} {es es':List (AV × AV)} {ver:Nat} (hg:h.get i=some (.map es ver)) (hb:E.blk i=some b) {ys:Array MapEntry} {clock':Nat} (hm:MapR E es' ys clock') :
  Rel P W0 E (h.put i (some (.map es' (ver+1)))) (w.putObj b (.map ys clock')) :=
 r.set hg hb (λho=>ho.elim (λh=>by cases h) (λ⟨c,h⟩=>by cases h)) (λes2 v2 e=>by cases e;exact⟨es,ver,rfl,Nat.lt_succ_self _⟩) (.map _ _ _ _ hm)
theorem Stp.put (E:Env) (h:Q0) (i:Nat) (o:Option Q4):Stp E h E (h.put i o):=⟨.refl _,λ_ _ h=>.inl h,rfl,zL0 _⟩
theorem qHm:∀{l1 l2 r1 r2:List (AV × AV)} {a b:AV × AV},l1++a::r1=l2++b::r2->(l1++a::r1).Pairwise (λx y=>x.1≠y.1)->a.1=b.1->l1=l2/\a=b/\r1=r2
 | [],[],r1,r2,a,b,e,pw,hab=>by simp at e;exact⟨rfl,e.1,e.2⟩
 | [],c::l2,r1,r2,a,b,e,pw,hab=>by
  simp only[List.nil_append,List.cons_append,List.cons.injEq] at e;simp only[List.nil_append,zO0] at pw;exact absurd hab (pw.1 b (by rw[e.2];simp))
 | c::l1,[],r1,r2,a,b,e,pw,hab=>by
  simp only[List.nil_append,List.cons_append,List.cons.injEq] at e;simp only[List.cons_append,zO0] at pw;exact absurd (by rw[e.1];exact hab.symm) (pw.1 a (by simp))
 | c::l1,d::l2,r1,r2,a,b,e,pw,hab=>by simp only[List.cons_append,List.cons.injEq] at e;simp only[List.cons_append,zO0] at pw;obtain⟨x1,x2,x3⟩:=qHm e.2 pw.2 hab;exact⟨by rw[e.1,x1],x2,x3⟩
theorem qKv (r:Rel P W0 E h w) {t:TypeId} {m key v:AV} {vm u vv:Value} (hm:VR E m vm) (hu:VR E key u) (hv:VR E v vv) (hs:(qJo P t m key v k).sat p h) :
  ∃w' h',(Instr.mapUpdate t vm u vv).run P w=.ok () w'/\Stp E h E h'/\Rel P W0 E h' w'/\(k (.tuple [])).sat p h':=by
 obtain⟨kt,et,ht,hte,hs1⟩:=qW1 hs;obtain⟨q,d,hk,hd,hkt,hs2⟩:=qXa hte hs1;cases hm with
 | map i b hi =>
  obtain⟨ao,hg,hs3⟩:=hs2;obtain⟨es,ver,rfl,hs4⟩:=jU hs3;obtain⟨f,hf,hne,hs5⟩:=qSg hs4;obtain⟨b',o,hb',hw,hor⟩:=r.obj i _ hg;rw[hi] at hb';cases hb';cases hor with
  | map _ _ xs clock hmr =>
   have hes:=hmr.kindOf hne hk;obtain⟨z,hz,hb⟩:=hmr.both hk hes hu hd hf;have hck:=qFy (P:=P) hd hkt false 9999 u w;have hfk:=run_findKey (P:=P) hkt hz w;cases hb with
   | none h1 h2 =>
    have hs6:(qFc key v es λes'=>.set i (.map es' (Nat.succ ver)) (k (.tuple []))).sat p h:=hs5;obtain⟨pre,post,e1,e2⟩:=qUn key v es λes'=>.set i (.map es' (Nat.succ ver)) (k (.tuple []));rw[e2] at hs6;obtain⟨_,hk2⟩:=hs6;subst e1;have hm2:=hmr.insert hk hes hu hv h1 h2;refine⟨_,_,?_,.put _ _ _ _,r.setMap hg hi hm2,hk2⟩;simp only[Instr.mapUpdate,Sem.run_bind,Q9 ht,Result.andThen_ok,run_getObj_map hw,hck,hfk,run_setObj_map _ hw]
   | some pre post e A B x h1 hke h2 hx hr =>
    have hs6:(Je key v es λes'=>.set i (.map es' (Nat.succ ver)) (k (.tuple []))).sat p h:=hs5;rcases qOc hs6 with ⟨h3,_⟩ | ⟨pre',post',e',h3,h4,hk2⟩
    .exact absurd hke (h3 e (by rw[h1];simp))
    .obtain⟨_,hk2⟩:=hk2;have hee:=qHm (h3.symm.trans h1) (by rw[<- h3];exact hmr.nodup) (by rw[<- h4,<- hke]);obtain⟨rfl,rfl,rfl⟩:=hee;subst h1;have hm2:=hmr.replace h2 hr hke hu hx hv (ys:=xs.modify A.length λe=>{ e with key:=u,val:=vv }) (qWx h2 _);refine⟨_,_,?_,.put _ _ _ _,r.setMap hg hi hm2,hk2⟩;have hget:xs[A.length]?=some x:=by rw[<- Array.getElem?_toList,h2];simp
     have hst:(Instr.keyThatStays (((xs[A.length]?).map (·.key)).getD u) u).run P w=.ok u w:=by rw[hget];simp only[Option.map_some,Option.getD_some,<- hx,Instr.keyThatStays];rw[if_pos (qVz hk hu 10000)];rfl
     simp only[Instr.mapUpdate,Sem.run_bind,Q9 ht,Result.andThen_ok,run_getObj_map hw,hck,hfk,hst,run_setObj_map _ hw]
 | _=>exact False.elim hs2
theorem qVm (r:Rel P W0 E h w) {t:TypeId} {ts:Array TypeId} {ty:TypeId} (hts:ts[0]?=some t) {m key:AV} {vm u:Value} {vs:Array Value} (hv0:vs[0]?=some vm) (hv1:vs[1]?=some u) (hm:VR E m vm) (hu:VR E key u) (hs:(qVn P t m key k).sat p h) :
  UV P W0 E h k p ((Builtin.delete_ ts ty vs).run P w):=by
 obtain⟨kt,et,ht,hte,hs1⟩:=qW1 hs;obtain⟨q,d,hk,hd,hkt,hs2⟩:=qXa hte hs1;have hck:=λb=>qFy (P:=P) hd hkt b 9999 u w;cases hm with
 | nilMap =>
  refine .of r ⟨.tuple #[],.tuple [],?_,.tuple _ _ .nil,hs2⟩;simp only[Builtin.delete_,hts,hv0,hv1,Sem.run_bind,Q9 ht,Result.andThen_ok,hck,Sem.run_pure]
 | map i b hi =>
  obtain⟨ao,hg,hs3⟩:=hs2;obtain⟨es,ver,rfl,hs4⟩:=jU hs3;obtain⟨hne,hdel⟩:=jFe hs4;obtain⟨b',o,hb',hw,hor⟩:=r.obj i _ hg;rw[hi] at hb';cases hb';cases hor with
  | map _ _ xs clock hmr =>
   have hes:=hmr.kindOf hne hk;have hget:=run_getObj_map (P:=P) hw;rcases hdel with ⟨h1,hk2⟩ | ⟨pre,post,e,h1,h2,hk2⟩
   .obtain⟨z,hz,hb⟩:=hmr.both hk hes hu hd (Found.none h1);cases hb with
    | none _ _ =>obtain⟨_,hk3⟩:=hk2;refine⟨.tuple #[],_,E,_,.tuple [],?_,.put _ _ _ _,r.setMap hg hi hmr,.tuple _ _ .nil,hk3⟩;simp only[Builtin.delete_,hts,hv0,hv1,Sem.run_bind,Q9 ht,Result.andThen_ok,hget,hck,run_findKey (P:=P) hkt hz w,run_setObj_map _ hw,Sem.run_pure]
   .obtain⟨z,hz,hb⟩:=hmr.both hk hes hu hd (Found.some pre post e h1 h2);obtain⟨r0,hr0,hb⟩:∃r0,r0=some e.2/\Both E key u es xs.toList r0 z:=⟨_,rfl,hb⟩;cases hb with
    | none=>cases hr0
    | some pre2 post2 e2 A B x k1 hke k2 hx hr =>
     clear hr0;obtain⟨_,hk3⟩:=hk2;have hee:=qHm (h1.symm.trans k1) (by rw[<- h1];exact hmr.nodup) (by rw[<- h2,<- hke]);obtain⟨rfl,rfl,rfl⟩:=hee;subst h1;have hm2:=hmr.erase k2 hr (qSn k2);refine⟨.tuple #[],_,E,_,.tuple [],?_,.put _ _ _ _,r.setMap hg hi hm2,.tuple _ _ .nil,hk3⟩;simp only[Builtin.delete_,hts,hv0,hv1,Sem.run_bind,Q9 ht,Result.andThen_ok,hget,hck,run_findKey (P:=P) hkt hz w,run_setObj_map _ hw,Sem.run_pure]
 | _=>exact False.elim hs2
end
end Go.X
namespace Go.X
open Go Go.RowKit
section
variable {P:Program} {W0:World} {E:Env} {h:Q0} {p:QF} {w:World} {k:AV->FM} {c:OC} {ρ:Operand->Value} {kd:qk->FM} {kp:QD->FM}
theorem qR9 (r:Rel P W0 E h w) {e:TypeId} {ok:Bool} (hs:(jC P e ok none k).sat p h) :
  ∃v,(zeroValue e).run P w=.ok v w/\UV P W0 E h k p (.ok (if ok then .tuple #[v,.bool false] else v) w):=by
 obtain⟨v,z,hz,hr,hs2⟩:=qP9 (E:=E) (k:=λz=>cnd ok (k (.tuple [z,.bool false])) (k z)) hs;refine⟨v,hz w,?_⟩;rcases Qr hs2 with ⟨rfl,hs3⟩ | ⟨rfl,hs3⟩
 .exact .pure r (.tuple _ _ (.cons _ _ _ _ hr (.cons _ _ _ _ (.bool _) .nil))) hs3
 .exact .pure r hr hs3
theorem jCz (r:Rel P W0 E h w) {e:TypeId} {ok:Bool} {a:AV} {v:Value} (hv:VR E a v) (hs:(jC P e ok (some a) k).sat p h) :
  UV P W0 E h k p (.ok (if ok then .tuple #[v,.bool true] else v) w):=by
 rcases Qr (b:=ok) (m:=k (.tuple [a,.bool true])) (m':=k a) hs with ⟨rfl,hs3⟩ | ⟨rfl,hs3⟩
 .exact .pure r (.tuple _ _ (.cons _ _ _ _ hv (.cons _ _ _ _ (.bool _) .nil))) hs3
 .exact .pure r hv hs3
theorem qVl (r:Rel P W0 E h w) {t:TypeId} {m key:AV} {vm u:Value} {ok:Bool} (hm:VR E m vm) (hu:VR E key u) (hs:(qQn P t m key ok k).sat p h) :
  UV P W0 E h k p ((Instr.lookup t vm u ok).run P w):=by
 obtain⟨kt,et,ht,hte,hs1⟩:=qW1 hs;obtain⟨q,d,hk,hd,hkt,hs2⟩:=qXa hte hs1;have hck:=λb=>qFy (P:=P) hd hkt b 9999 u w;cases hm with
 | nilMap =>
  obtain⟨v,hz,hu⟩:=qR9 r (show (jC P et ok none k).sat p h from hs2);have e:(Instr.lookup t (.map none) u ok).run P w=.ok (if ok then .tuple #[v,.bool false] else v) w:=by simp only[Instr.lookup,Sem.run_bind,Q9 ht,Result.andThen_ok,Sem.run_pure,hck,run_findKey (P:=P) (u:=u) (xs:=[]) (z:=none) hkt rfl w,hz]
  rw[e];exact hu
 | map i b hi =>
  obtain⟨ao,hg,hs3⟩:=hs2;obtain⟨es,ver,rfl,hs4⟩:=jU hs3;obtain⟨f,hf,hne,hs5⟩:=qSg hs4;obtain⟨b',o,hb',hw,hor⟩:=r.obj i _ hg;rw[hi] at hb';cases hb';cases hor with
  | map _ _ xs clock hmr =>
   have hes:=hmr.kindOf hne hk;obtain⟨z,hz,hb⟩:=hmr.both hk hes hu hd hf;have hfk:=run_findKey (P:=P) hkt hz w;have hgo:=run_getObj_map (P:=P) hw;cases hb with
   | none =>
    obtain⟨v,hzv,hu⟩:=qR9 r (show (jC P et ok none k).sat p h from hs5);have e:(Instr.lookup t (.map (some b)) u ok).run P w=.ok (if ok then .tuple #[v,.bool false] else v) w:=by simp only[Instr.lookup,Sem.run_bind,Q9 ht,Result.andThen_ok,hgo,Sem.run_pure,hck,hfk,hzv]
    rw[e];exact hu
   | some pre post e A B x h1 hke h2 hx hr =>
    have hu:=jCz r hr.val (show (jC P et ok (some _) k).sat p h from hs5);have e:(Instr.lookup t (.map (some b)) u ok).run P w=.ok (if ok then .tuple #[x.val,.bool true] else x.val) w:=by simp only[Instr.lookup,Sem.run_bind,Q9 ht,Result.andThen_ok,hgo,Sem.run_pure,hck,hfk]
    rw[e];exact hu
 | _=>exact False.elim hs2
theorem qZg (r:Rel P W0 E h w) (hev:∀x,VR E (c.ev x) (ρ x)) {t:TypeId} {x:Operand} (hs:(jEp P t x c k kd kp).sat p h):UV P W0 E h k p ((Instr.range t (ρ x)).run P w):=by
 have hx:=hev x;unfold jEp at hs;generalize c.ev x=a at hx hs;generalize ρ x=v at hx ⊢;cases hx with
 | nilMap =>
  obtain⟨ht,hn,hs2⟩:=qe hs;obtain⟨kt,et,hu⟩:=jF8 ht;have hf:=r.free h.next (zL0 _) hn
  refine⟨_,_,_,_,.ptr h.next 0,?_,.add hf hn _ 0 0,r.new hn 0 0 (.nilIter 0 0 #[] (Env.add_base _ _ _ _ _)),.ptr _ _ _ _ (Env.add_blk _ _ _ _ _) (by rw[Env.add_base]),hs2⟩;simp[Instr.range,Q9 hu]
 | map i b hi =>
  obtain⟨ht,hs2⟩:=qe hs;obtain⟨kt,et,hu⟩:=jF8 ht;obtain⟨ao,hg,hs3⟩:=hs2;obtain⟨es,ver,rfl,hs4⟩:=jU hs3;obtain⟨hn,hs5⟩:=hs4;obtain⟨b',o,hb',hw,hor⟩:=r.obj i _ hg;rw[hi] at hb';cases hb';cases hor with
  | map _ _ xs clock hm =>
   have hf:=r.free h.next (zL0 _) hn
   have hne:i≠h.next:=λe=>by rw[e,hf] at hi;cases hi
   have hnt:True:=trivial;have le:=Env.add_le hf w.heap.size 0 0;refine⟨_,_,_,_,.ptr h.next 0,?_,.add hf hn _ 0 0,r.new hn 0 0 (o1:=.mapIter (some b) clock #[] clock) (.mapIter _ _ _ _ _ _ _ _ (Env.add_base _ _ _ _ _) (le.blk _ _ hi) λes' v' hv=>?_),.ptr _ _ _ _ (Env.add_blk _ _ _ _ _) (by rw[Env.add_base]),hs5⟩
   .simp[Instr.range,Q9 hu,run_getObj_map hw]
   .rw[Q0.newO_get _ hnt,if_neg hne,hg] at hv;cases hv;refine⟨zL0 _,λ_=>⟨xs,clock,?_,rfl,rfl,?_⟩⟩
    .show (w.alloc _).heap[b]?=_;rw[Below.heap_alloc _ _ _ (r.bound _ _ hi)];exact hw
    .exact⟨hm.nodup,λe he=>by obtain⟨x,h1,h2⟩:=hm.left e he;exact⟨x,h1,by simp,h2.mono le⟩,
      λx hx _=>by obtain⟨e,h1,h2⟩:=hm.right x hx;exact⟨e,h1,h2.mono le⟩,hm.kind,.inl rfl⟩
 | str s b he =>
  obtain⟨ht,hn,hs2⟩:=qe hs;have hf:=r.free h.next (zL0 _) hn
  refine⟨_,_,_,_,.ptr h.next 0,?_,.add hf hn _ 0 0,r.new hn 0 0 (.strIter _ _ b (Env.add_base _ _ _ _ _) he),.ptr _ _ _ _ (Env.add_blk _ _ _ _ _) (by rw[Env.add_base]),hs2⟩;simp[Instr.range,Q9 (tag3 ht)]
 | _=>exact False.elim hs
theorem jZ {b:Nat} {o:Obj} (hw:w.heap[b]?=some o) (hc:∀a e f,o≠.cells a e f):(getObj b).run P w=.ok o w:=by cases o <;> first | (exact absurd rfl (hc _ _ _)) | simp[getObj,Sem.run,hw]
theorem qG6 {b:Nat} {o:Obj} (o':Obj) (hw:w.heap[b]?=some o) (hc:∀a e f,o≠.cells a e f):(setObj b o').run P w=.ok () (w.putObj b o'):=by cases o <;> first | (exact absurd rfl (hc _ _ _)) | simp[setObj,Sem.run,hw,World.putObj]
theorem qH4 (r:Rel P W0 E h w) {i:Nat} {ao:Q4} (hg:h.get i=some ao) (hs:(qL5 i k).sat p h):UV P W0 E h k p (.ok (.tuple #[.bool false]) w):=by obtain⟨_,hs2⟩:=hs;exact⟨_,w,E,_,_,rfl,.put _ _ _ _,r.tomb hg,.tuple _ _ (.cons _ _ _ _ (.bool _) .nil),hs2⟩
theorem qLj {α β:Type} {f:α->β} {l:List α} (hl:l.Pairwise λa b=>f a≠f b) {a b:α} (ha:a∈l) (hb:b∈l) (h:f a=f b):a=b:=by
 obtain⟨i,hi⟩:=List.mem_iff_getElem?.1 ha;obtain⟨j,hj⟩:=List.mem_iff_getElem?.1 hb;have hlt:=List.getElem?_eq_some_iff.1 hi;have hlt2:=List.getElem?_eq_some_iff.1 hj;have pw:=List.pairwise_iff_getElem.1 hl;rcases Nat.lt_trichotomy i j with hij | hij | hij
 .exact absurd (by rw[hlt.2,hlt2.2,h]) (pw i j hlt.1 hlt2.1 hij)
 .subst hij;rw[hi] at hj;cases hj;rfl
 .exact absurd (by rw[hlt.2,hlt2.2,h]) (pw j i hlt2.1 hlt.1 hij)
theorem run_next_map {b bm:Nat} {since:Nat} {seen:Array Nat} {xs:Array MapEntry} {ty:TypeId} (hw:w.heap[b]?=some (.mapIter (some bm) since seen since)) (hm:w.heap[bm]?=some (.map xs since)) (hborn:∀x,x∈xs.toList->x.born<since) :
  ((∀x,x∈xs.toList->x.born∈seen)/\(Instr.next (.pointer (some ⟨b,0,none⟩)) false ty).run P w=.ok (.tuple #[.bool false]) w) ∨
  ∃x,x∈xs.toList/\x.born ∉ seen/\∃w':World,w'.heap=w.heap/\w'.tape=w.tape/\w'.os=w.os/\w'.output=w.output /\
   (Instr.next (.pointer (some ⟨b,0,none⟩)) false ty).run P w=.ok (.tuple #[.bool true,x.key,x.val]) (w'.putObj b (.mapIter (some bm) since (seen.push x.born) since)):=by
 have hg1:=jZ (P:=P) hw (by simp);have hg2:=run_getObj_map (P:=P) hm;have hun:(!seen.isEmpty && !xs.isEmpty && xs.all (·.born >= since))=false:=by
  by_cases hx:xs.isEmpty=true
  .simp[hx]
  .have:xs.all (·.born >= since)=false:=by
    rw[Array.all_eq_false'];have hne:0<xs.size:=by
     rcases Nat.eq_zero_or_pos xs.size with h | h
     .exact absurd (by simpa using h) hx
     .exact h
    refine⟨xs[0],by simp,?_⟩
    have:=hborn xs[0] (by simp)
    simp;omega
   simp[this]
 have hnew:((xs.filter λe=>!seen.contains e.born).filter (·.born >= since))=#[]:=by
  rw[Array.filter_eq_empty_iff];intro a ha
  have:=hborn a (by simp at ha ⊢;exact ha.1)
  simp;omega
 have hold:((xs.filter λe=>!seen.contains e.born).filter (·.born<since))=xs.filter λe=>!seen.contains e.born:=by
  rw[Array.filter_eq_self];intro a ha
  have:=hborn a (by simp at ha ⊢;exact ha.1)
  simp;omega
 have hbase:(Instr.next (.pointer (some ⟨b,0,none⟩)) false ty).run P w=(do
   let candidates:=(if (xs.filter λe=>!seen.contains e.born).isEmpty then #[none] else #[])++(xs.filter λe=>!seen.contains e.born).map some
   match candidates[<- choose (.mapNext candidates.size)]? with
   | some (some e) =>
    setObj b (.mapIter (some bm) since (seen.push e.born) since)
    pure (.tuple #[.bool true,e.key,e.val])
   | some none=>pure (.tuple #[.bool false])
   | none=>stuck "Next: no such candidate":Sem Value).run P w:=by
  simp only[Instr.next,Sem.run_bind,hg1,Result.andThen_ok,hg2,hun,Bool.false_eq_true,if_false,Sem.run_pure,hnew,hold,Array.append_empty];rfl
 rw[hbase];generalize hleft:(xs.filter λe=>!seen.contains e.born)=left;by_cases he:left.isEmpty=true
 .left;have hl0:left=#[]:=by simpa using he
  refine⟨λx hx=>?_,?_⟩
  .by_cases hs:x.born∈seen
   .exact hs
   .exfalso
    have:x∈left:=by rw[<- hleft];simp;exact⟨by simpa using hx,hs⟩
    rw[hl0] at this;simp at this
  .subst hl0;simp[Question.forced]
 .right;have hpos:0<left.size:=by
   rcases Nat.eq_zero_or_pos left.size with h | h
   .exact absurd (by simpa using h) he
   .exact h
  rw[if_neg he];obtain⟨j,w',hj,hw',ht',ho',hu',hch⟩:∃(j:Nat) (w':World),j<left.size/\w'.heap=w.heap/\w'.tape=w.tape/\w'.os=w.os/\w'.output=w.output/\(choose (.mapNext ((#[]:Array (Option MapEntry))++left.map some).size)).run P w=.ok j w':=by
   rw[Go.run_choose];by_cases hf:(Question.mapNext ((#[]:Array (Option MapEntry))++left.map some).size).forced=true
   .rw[if_pos hf];exact⟨0,w,hpos,rfl,rfl,rfl,rfl,rfl⟩
   .rw[if_neg hf];refine⟨_,{ w with drawn:=w.drawn+1 },?_,rfl,rfl,rfl,rfl,rfl⟩;simp only[Question.cut]
    have:((#[]:Array (Option MapEntry))++left.map some).size=left.size:=by simp
    rw[this];exact Nat.mod_lt _ hpos
  have hcand:((#[]:Array (Option MapEntry))++left.map some)[j]?=some (some left[j]):=by simp[hj]
  have hmem:left[j]∈left:=Array.getElem_mem _;have hmem2:left[j]∈xs.toList/\left[j].born ∉ seen:=by
   have h0:left[j]∈(xs.filter λe=>!seen.contains e.born):=by rw[hleft];exact hmem
   simp at h0;exact⟨by simpa using h0.1,h0.2⟩
  refine⟨left[j],hmem2.1,hmem2.2,w',hw',ht',ho',hu',?_⟩;have hwb:w'.heap[b]?=some (.mapIter (some bm) since seen since):=by rw[hw'];exact hw
  simp only[Sem.run_bind,hch,Result.andThen_ok,hcand,qG6 _ hwb (by simp),Sem.run_pure]
theorem jCs (r:Rel P W0 E h w) (hev:∀x,VR E (c.ev x) (ρ x)) {x:Operand} {st:Bool} {ty:TypeId} (hs:(oNext x st c k kd kp).sat p h):UV P W0 E h k p ((Instr.next (ρ x) st ty).run P w):=by
 have hx:=hev x;unfold oNext at hs;generalize c.ev x=a at hx hs;generalize ρ x=v at hx ⊢;cases hx with
 | ptr i o b z hi hz =>
  have hs1:(cnd (Nat.beq o Nat.zero) (FM.get i λx=>cnd st (x.onStrIter (λs pos=>nxStr i s pos k) (.fail 142)) (x.onMapIter (λm ver left _=>nxMap i m ver left k) (qL5 i k) (.fail 142))) (FM.fail 143)).sat p h:=hs;obtain⟨ho,ao,hg,hs2⟩:=Qi hs1;have ho:o=0:=beq_iff.1 ho;subst ho;obtain⟨b',ob,hb',hw,hor⟩:=r.obj i _ hg;rw[hi] at hb';cases hb';rcases Qr hs2 with ⟨rfl,hs3⟩ | ⟨rfl,hs3⟩
  .cases hor with
   | strIter s pos bb h0 hbs =>
    subst hbs;have hz0:z=0:=by rw[hz,h0]
    subst hz0;have hs4:(nxStr i (bs bb) pos k).sat p h:=hs3;have hgo:=jZ (P:=P) hw (by simp);have hs5:(Option.rec (motive:=λ_=>FM) (qL5 i k) (λb=>cnd (ltb b 128) (Qc (Nat.succ pos) λp=>.set i (.strIter (bs bb) p) (k (.tuple [.bool true,.int .i64 (.ofNat pos),.int .i32 (.ofNat b)]))) (.fail 141)) (nthL (bs bb) pos)).sat p h:=hs4;rw[qW] at hs5;cases hn:(bs bb)[pos]? with
    | none =>
     rw[hn] at hs5;have hge:¬pos<bb.size:=by
      have:=List.getElem?_eq_none_iff.1 hn
      rw[jm] at this;omega
     have:=qH4 r hg hs5
     have e:(Instr.next (.pointer (some ⟨b,0,none⟩)) true ty).run P w=.ok (.tuple #[.bool false]) w:=by simp only[Instr.next,Sem.run_bind,hgo,Result.andThen_ok,if_neg hge,Sem.run_pure]
     rw[e];exact this
    | some u =>
     rw[hn] at hs5;obtain⟨hlt,hs6⟩:=Qi hs5;rw[Qb] at hs6;obtain⟨_,hs7⟩:=hs6;have hlt:=Qo.1 hlt;have hpos:pos<bb.size:=by
      have:=(List.getElem?_eq_some_iff.1 hn).1
      rwa [jm] at this
     have hu:u=(bb[pos]'hpos).toNat:=by
      simp[bs,zP0] at hn;obtain⟨x,hx,rfl⟩:=hn;have h0:pos<bb.data.size:=hpos
      have:bb.data[pos]?=some (bb[pos]'hpos):=by rw[Array.getElem?_eq_getElem h0];rfl
      rw[this] at hx;cases hx;rfl
     have hdec:Utf8.decode bb pos=(u,1):=by
      have hget:(bb.get! (pos+0)).toNat=u:=by rw[hu,Nat.add_zero];congr 1;simp only[ByteArray.get!,ByteArray.getElem_eq_getElem_data];rw[getElem!_pos bb.data pos hpos]
      simp only[Utf8.decode,hget];rw[if_pos hlt]
     have e:(Instr.next (.pointer (some ⟨b,0,none⟩)) true ty).run P w=.ok (.tuple #[.bool true,goInt pos,.int .i32 u]) (w.putObj b (.stringIter bb (pos+1))):=by simp only[Instr.next,Sem.run_bind,hgo,Result.andThen_ok,if_pos hpos,hdec,qG6 _ hw (by simp),Sem.run_pure]
     rw[e];refine⟨_,_,E,_,_,rfl,.put _ _ _ _,r.set hg hi (λho=>ho.elim (λh=>by cases h) (λ⟨c,h⟩=>by cases h)) (λes v h=>by cases h) (.strIter _ _ bb h0 rfl),?_,hs7⟩;exact .tuple _ _ (.cons _ _ _ _ (.bool _) (.cons _ _ _ _ (.int _ _) (.cons _ _ _ _ (.int _ _) .nil)))
   | _=>exact False.elim hs3
  .cases hor with
   | nilIter since stepped seen h0 =>
    have hz0:z=0:=by rw[hz,h0]
    subst hz0;have hgo:=jZ (P:=P) hw (by simp)
    have:=qH4 r hg (show (qL5 i k).sat p h from hs3)
    have e:(Instr.next (.pointer (some ⟨b,0,none⟩)) false ty).run P w=.ok (.tuple #[.bool false]) w:=by simp only[Instr.next,Sem.run_bind,hgo,Result.andThen_ok,Sem.run_pure]
    rw[e];exact this
   | mapIter m ver left cur bm since stepped seen h0 hbm hit =>
    have hz0:z=0:=by rw[hz,h0]
    subst hz0;obtain⟨mo,hgm,hs4⟩:=(show (nxMap i m ver left k).sat p h from hs3);obtain⟨es,v,rfl,hs5⟩:=jU hs4;obtain⟨hv,hs6⟩:=Qi hs5;have hv:=beq_iff.1 hv;obtain⟨_,hit2⟩:=hit es v hgm;obtain⟨xs,clock,hm,hc1,hc2,itr⟩:=hit2 hv;subst hc2;subst hc1;obtain⟨b2,o2,hb2,hw2,hor2⟩:=r.obj m _ hgm;rw[hbm] at hb2;cases hb2;rw[hm] at hw2;cases hw2;cases hor2 with
    | map _ _ _ _ hmr =>
     have entry:∀(pre post:List (AV × AV)) (e:AV × AV) (x:MapEntry) (w':World),left=pre++e::post->x∈xs.toList->x.born ∉ seen->EntR E e x->w'.heap=w.heap->w'.tape=w.tape->w'.os=w.os->w'.output=w.output ->
       (qE9 i m ver e (pre++post) k).sat p h->UV P W0 E h k p (.ok (.tuple #[.bool true,x.key,x.val]) (w'.putObj b (.mapIter (some bm) clock (seen.push x.born) clock))):=by
      intro pre post e x w' hl hx hxs hr e1 e2 e3 e4 hs;obtain⟨_,hs⟩:=hs;have r':=r.same e1 e2 e3 e4;have hil:¬(Q4.mapIter m ver left cur).old:=λho=>ho.elim (λh=>by cases h) (λ⟨c,h⟩=>by cases h);have him:m≠i:=λeq=>by subst eq;rw[hg] at hgm;cases hgm
      refine⟨_,_,E,_,_,rfl,.put _ _ _ _,r'.set hg hi hil (λes v h=>by cases h) (.mapIter _ _ _ _ _ _ _ _ h0 hbm λes' v' hv'=>?_),
       .tuple _ _ (.cons _ _ _ _ (.bool _) (.cons _ _ _ _ hr.key (.cons _ _ _ _ hr.val .nil))),hs⟩
      rw[Q0.get_put _ (r.ltTop hg),if_neg him,hgm] at hv';cases hv';have hbb:bm≠b:=λeq=>him (r.inj m i _ _ b hgm hg (by simp) (by simp) (by rw[<- eq];exact hbm) hi);refine⟨by omega,λ_=>⟨xs,clock,?_,rfl,rfl,?_⟩⟩
      .show (w'.putObj b _).heap[bm]?=_;rw[World.putObj_heap_other hbb,e1];exact hm
      .have hnd:=itr.nodup;rw[hl] at hnd;have hnd2:=hnd;rw[zN0,zO0] at hnd2;obtain⟨a1,⟨a2,a3⟩,a4⟩:=hnd2;obtain⟨q,hq⟩:=hmr.kind;obtain⟨q2,hq2⟩:=itr.kind;have hel:e∈left:=by rw[hl];simp
       have hone:∀e',e'∈left->EntR E e' x->e'=e:=λe' he' hr' =>
        qLj itr.nodup he' hel ((key_inj (hq2 e' he') (hq2 e hel) hr'.key hr.key).1 rfl)
       have hout:∀e',e'∈pre++post->e'∈left/\e'≠e:=λe' he'=>by
        rcases List.mem_append.1 he' with h | h
        .exact⟨by rw[hl];exact zG0 _ h,λeq=>by subst eq;exact a4 e' h e' zB0 rfl⟩
        .exact⟨by rw[hl];exact zH0 _ (zA0 _ h),λeq=>by subst eq;exact a2 e' h rfl⟩
       refine⟨?_,λe' he'=>?_,λx' hx' hn'=>?_,⟨q2,λe' he'=>hq2 e' (hout e' he').1⟩,.inr ⟨e.1,e.2,x,x.born,rfl,by simp,hx,rfl,hr.key,hr.val⟩⟩
       .rw[zN0];exact⟨a1,a3,λa ha b hb=>a4 a ha b (zA0 _ hb)⟩
       .obtain⟨hel',hne'⟩:=hout e' he';obtain⟨x',hx',hn',hr'⟩:=itr.left e' hel';refine⟨x',hx',λhm'=>?_,hr'⟩;rcases Array.mem_push.1 hm' with h | h
        .exact hn' h
        .have:x'=x:=qLj hmr.once hx' hx h
         subst this;exact hne' (hone e' hel' hr')
       .have hn2:x'.born ∉ seen:=λh=>hn' (Array.mem_push.2 (.inl h));obtain⟨e',hel',hr'⟩:=itr.right x' hx' hn2;refine⟨e',?_,hr'⟩;have hne':e'≠e:=λeq=>by
         subst eq;have hk1:x'.key=x.key:=(key_inj (hq2 e' hel') (hq2 e' hel') hr'.key hr.key).2 rfl
         have:x'=x:=qLj hmr.keys hx' hx hk1
         subst this;exact hn' (Array.mem_push.2 (.inr rfl))
        rw[hl] at hel';rcases List.mem_append.1 hel' with h | h
        .exact zG0 _ h
        .rcases List.mem_cons.1 h with h | h
         .exact absurd h hne'
         .exact zH0 _ h
     rcases run_next_map (ty:=ty) hw hm hmr.born with ⟨hall,hrun⟩ | ⟨x,hx,hxs,w',e1,e2,e3,e4,hrun⟩
     .have hnil:left=[]:=by
       cases left with
       | nil=>rfl
       | cons e t =>obtain⟨x,hx,hn,_⟩:=itr.left e zB0;exact absurd (hall x hx) hn
      subst hnil;rw[hrun];exact qH4 r hg hs6
     .obtain⟨e,he,hr⟩:=itr.right x hx hxs;rw[hrun];cases left with
      | nil=>cases he
      | cons e0 t =>
       cases t with
       | nil =>
        have:e=e0:=by simpa using he
        subst this;exact entry [] [] e x w' rfl hx hxs hr e1 e2 e3 e4 hs6
       | cons e1' t =>
        have hs7:(Jf (e0::e1'::t) Nat.zero λn=>.choose n λj=>Qj (nthL (e0::e1'::t) j) (.fail 138) λe=>qMf (e0::e1'::t) j λleft'=>qE9 i m ver e left' k).sat p h:=hs6;rw[qKa] at hs7;obtain⟨j,hj⟩:=List.mem_iff_getElem?.1 he;have hjl:=(List.getElem?_eq_some_iff.1 hj).1;have hs8:(Qj (nthL (e0::e1'::t) j) (.fail 138) λe=>qMf (e0::e1'::t) j λleft'=>qE9 i m ver e left' k).sat p h:=hs7 j hjl;rw[qW,hj] at hs8;have hs9:(qMf (e0::e1'::t) j λleft'=>qE9 i m ver e left' k).sat p h:=hs8;rw[qSm] at hs9;obtain⟨pre,post,h1,h2⟩:∃pre post,(e0::e1'::t)=pre++e::post/\(e0::e1'::t).eraseIdx j=pre++post:=by
         refine⟨(e0::e1'::t).take j,(e0::e1'::t).drop (j+1),?_,List.eraseIdx_eq_take_drop_succ _ _⟩
         have:=List.getElem?_eq_some_iff.1 hj
         rw[<- this.2,List.getElem_cons_drop,List.take_append_drop]
        rw[h2] at hs9;exact entry pre post e x w' h1 hx hxs hr e1 e2 e3 e4 hs9
   | _=>exact False.elim hs3
 | _=>exact False.elim hs
end
end Go.X
namespace Go.X
open Go Go.RowKit
section
variable {P:Program} {W0:World} {E:Env} {h:Q0} {p:QF} {w:World} {k:AV->FM} {c:OC} {ρ:Operand->Value} {kd:qk->FM} {kp:QD->FM}
theorem qZj (r:Rel P W0 E h w) (hev:∀x,VR E (c.ev x) (ρ x)) {x:Operand} (hs:(jEs x c k kd kp).sat p h):UV P W0 E h k p ((Instr.entry (ρ x)).run P w):=by
 have hx:=hev x;unfold jEs at hs;generalize c.ev x=a at hx hs;generalize ρ x=v at hx ⊢;cases hx with
 | ptr i o b z hi hz =>
  have hs1:(cnd (Nat.beq o Nat.zero) (FM.get i λx=>x.onMapIter (λm ver _ cur=>.get m λo'=>o'.onMap (λ_ v=>cnd (Nat.beq v ver) (cur.onTuple (λl=>k (.tuple l)) (.fail 144)) (.fail 144)) (.fail 145)) (.fail 146) (.fail 146)) (FM.fail 147)).sat p h:=hs;obtain⟨ho,ao,hg,hs2⟩:=Qi hs1;have ho:o=0:=beq_iff.1 ho;subst ho;obtain⟨b',ob,hb',hw,hor⟩:=r.obj i _ hg;rw[hi] at hb';cases hb';cases hor with
  | mapIter m ver left cur bm since stepped seen h0 hbm hit =>
   have hz0:z=0:=by rw[hz,h0]
   subst hz0;obtain⟨mo,hgm,hs4⟩:=(show (FM.get m λo'=>o'.onMap (λ_ v=>cnd (Nat.beq v ver) (cur.onTuple (λl=>k (.tuple l)) (.fail 144)) (.fail 144)) (.fail 145)).sat p h from hs2);obtain⟨es,v,rfl,hs5⟩:=jU hs4;obtain⟨hv,hs6⟩:=Qi hs5;obtain⟨_,hit2⟩:=hit es v hgm;obtain⟨xs,clock,hm,hc1,hc2,itr⟩:=hit2 (beq_iff.1 hv);subst hc2;subst hc1;obtain⟨b2,o2,hb2,hw2,hor2⟩:=r.obj m _ hgm;rw[hbm] at hb2;cases hb2;rw[hm] at hw2;cases hw2;cases hor2 with
   | map _ _ _ _ hmr =>
    rcases itr.cur with rfl | ⟨ka,va,x,s,rfl,hback,hx,hborn,hk,hv⟩
    .exact False.elim hs6
    .have hfind:xs.find? (λe=>e.born == s)=some x:=by
      rw[<- Array.find?_toList];cases hf:xs.toList.find? (λe=>e.born == s) with
      | none =>
       rw[List.find?_eq_none] at hf
       have:=hf x hx
       simp[hborn] at this
      | some y =>
       have h1:=List.mem_of_find?_eq_some hf;have h2:=List.find?_some hf;have h2:y.born=s:=by simpa using h2
       rw[qLj hmr.once h1 hx (by rw[h2,hborn])]
     refine .of r ⟨.tuple #[x.key,x.val],_,?_,.tuple _ _ (.cons _ _ _ _ hk (.cons _ _ _ _ hv .nil)),hs6⟩;have hgo:=jZ (P:=P) hw (by simp);have hgm2:=run_getObj_map (P:=P) hm;simp only[Instr.entry,Sem.run_bind,hgo,Result.andThen_ok,hback,hgm2,bne_self_eq_false,Bool.false_eq_true,if_false,Sem.run_pure,hfind]
  | nilIter=>exact False.elim hs2
  | _=>exact False.elim hs2
 | _=>exact False.elim hs
theorem qp {fn:Func} {n:String} {e:Array Value->Sem Value} (hn:fn.name=n) (hg:Extern.allGenericRows.lookup n=none) (ht:Extern.allTypedRows.lookup n=none) (hr:Extern.allRows.lookup n=some e):Extern.find fn=some e:=by simp[Extern.find,hn,hg,ht,hr]
theorem qZ0 {l:List AV} {vs:List Value} (hl:VRs E l vs) {kk:AV->FM} (hs:(just1 l kk).sat p h):∃a u,vs=[u]/\VR E a u/\(kk a).sat p h:=by
 cases hl with
 | nil=>exact False.elim hs
 | cons a v l m hv t =>
  cases t with
  | nil=>exact⟨a,v,rfl,hv,hs⟩
  | cons=>exact False.elim hs
theorem just3_sat {l:List AV} {vs:List Value} (hl:VRs E l vs) {kk:AV->AV->AV->FM} (hs:(just3 l kk).sat p h):∃a b c u v x,vs=[u,v,x]/\VR E a u/\VR E b v/\VR E c x/\(kk a b c).sat p h:=by
 cases hl with
 | nil=>exact False.elim hs
 | cons a v l m hv t =>obtain⟨b,c,u,x,h1,h2,h3,h4⟩:=Jx (kk:=λb c=>kk a b c) t hs;exact⟨a,b,c,v,u,x,by rw[h1],hv,h2,h3,h4⟩
theorem qVu {vs:Array Value} {l:List Value} (h:vs.toList=l):vs=l.toArray:=by rw[<- h]
theorem qXc (r:Rel P W0 E h w) {l:List AV} {vs:Array Value} (hl:VRs E l vs.toList) (hs:(exClone l k).sat p h):UV P W0 E h k p ((Extern.MapsClone.clone vs).run P w):=by
 obtain⟨a,u,e,hu,hs1⟩:=qZ0 hl hs;rw[qVu e];cases hu with
 | iface t a v hv =>
  cases hv with
  | map i b hi =>
   obtain⟨ao,hg,hs2⟩:=hs1;obtain⟨es,ver,rfl,hs3⟩:=jU hs2;obtain⟨hn,hs4⟩:=hs3;obtain⟨b',o,hb',hw,hor⟩:=r.obj i _ hg;rw[hi] at hb';cases hb';cases hor with
   | map _ _ xs clock hm =>
    have hf:=r.free h.next (zL0 _) hn
    refine⟨_,_,_,_,.iface t (.map h.next),?_,.add hf hn _ 0 0,r.new hn 0 0 (.map _ _ xs clock (hm.mono (Env.add_le hf _ _ _))),.iface _ _ _ (.map _ _ (Env.add_blk _ _ _ _ _)),hs4⟩
    change Sem.run P (do
     let .map es' cl <- getObj b | stuck "maps.clone: a map expected"
     pure (Value.iface t (.map (some (<- newObj (.map es' cl)))))) w=_
    simp[run_getObj_map hw]
  | _=>exact False.elim hs1
 | _=>exact False.elim hs1
theorem qXl (r:Rel P W0 E h w) {i b o:Nat} {c:List AV} {esz:Nat} {g mk:Bool} (hg:h.get i=some (.cells c esz g mk)) (hi:E.blk i=some b) {z:AV} (hz:c[o]?=some z) {a:AV} {v:Value} (hv:VR E a v) (hp:a.plainC=true) {m:FM}
  (hs:(putK [a] o c λc'=>.set i (.cells c' esz g mk) m).sat p h) :
  ∃vz,w.cell? ⟨b,E.base i+o,none⟩=some vz/\VR E z vz/\w.frozen? ⟨b,E.base i+o,none⟩=false/\(w.shape? b).isSome=true /\
   ∃h',Rel P W0 E h' (w.setCell ⟨b,E.base i+o,none⟩ v)/\Stp E h E h'/\m.sat p h':=by
 obtain⟨vz,hvz,hrz⟩:=(r.readAt hg (.inl ⟨_,_,_,rfl⟩) hi).cell hz;have hs2:(qGs i o [a] m).sat p h:=by
  have:QX [a]=true:=qIg.2 (by
   intro v hv;have:v=a:=by simpa using hv
   subst this;exact hp)
  unfold qGs;rw[this];exact⟨_,hg,hs⟩
 obtain⟨w',h',h1,h2,h3,h4⟩:=qE6 (vs:=[v]) r hi (.cons _ _ _ _ hv .nil) hs2;obtain⟨b',ob,hb',hw,hor⟩:=r.obj i _ hg;rw[hi] at hb';cases hb';cases hor with
 | cells _ _ _ _ cs e fr pre c1 rest hcs hpre hc hrest hfr =>
  have hlt:E.base i+o<cs.size:=by rw[qKl hw] at hvz;exact (Array.getElem?_eq_some_iff.1 hvz).1
  have hf:w.frozen? ⟨b,E.base i+o,none⟩=false:=by
   rw[qH9 hw,Bool.and_eq_false_iff]
   have:=hfr.free (E.base i+o) (.inr hlt)
   by_cases h:fr.1<=E.base i+o
   .exact .inr (by simp;omega)
   .exact .inl (by simp;omega)
  refine⟨vz,hvz,hrz,hf,by simp[World.shape?,hw],h',?_,h3,h4⟩;have hst:(storeCells ⟨b,E.base i+o,none⟩ [v]).run P w=.ok () (w.setCell ⟨b,E.base i+o,none⟩ v):=by
   have h0:(⟨b,E.base i+o,none⟩:Addr).add 0=⟨b,E.base i+o,none⟩:=by rw[j6];rfl
   simp only[storeCells,Sem.run_bind,h0];rw[run_store P w _ v _ (hv.oneCell hp),hvz];simp[hf]
  rw[hst] at h1;cases h1;exact h2
theorem jDe (r:Rel P W0 E h w) {l:List AV} {vs:Array Value} (hl:VRs E l vs.toList) (hs:(exCas l k).sat p h):UV P W0 E h k p ((Extern.Atomic.casT (.int .i32) vs).run P w):=by
 obtain⟨a,x,y,u,v,q,e,hu,hv,hq,hs1⟩:=just3_sat hl hs;rw[qVu e];cases hu with
 | ptr i o b z hi hz =>
  subst hz;obtain⟨ao,hg,hs2⟩:=hs1;obtain⟨c,esz,g,mk,rfl,hs3⟩:=jt hs2;obtain⟨zz,hzz,hs4⟩:=Qe hs3;rw[qW] at hzz;have hread:=(r.readAt hg (.inl ⟨_,_,_,rfl⟩) hi).cell hzz;obtain⟨vz,hvz,hrz⟩:=hread;cases hrz with
  | int k1 n =>
   cases hv with
   | int k2 m =>
    cases hq with
    | int k3 t =>
     have hs4b:(kEq k1 .i32 (kEq k2 .i32 (kEq k3 .i32 (cnd (eqI n m) (putK [.int k3 t] o c λc'=>.set i (.cells c' esz g mk) (k (.bool true))) (k (.bool false)))))).sat p h:=hs4;obtain⟨hk1,hs4c⟩:=qa hs4b;obtain⟨hk2,hs4d⟩:=qa hs4c;obtain⟨hk3,hs5⟩:=qa hs4d;subst hk1;subst hk2;subst hk3;obtain⟨b',ob,hb',hw,hor⟩:=r.obj i _ hg;rw[hi] at hb';cases hb';have hfz:w.frozen? ⟨b,E.base i+o,none⟩=false/\(w.shape? b).isSome=true:=by
      cases hor with
      | cells _ _ _ _ cs e fr pre c1 rest hcs hpre hc hrest hfr =>
       have hlt:E.base i+o<cs.size:=by rw[qKl hw] at hvz;exact (Array.getElem?_eq_some_iff.1 hvz).1
       refine⟨?_,by simp[World.shape?,hw]⟩;rw[qH9 hw,Bool.and_eq_false_iff]
       have:=hfr.free (E.base i+o) (.inr hlt)
       by_cases h:fr.1<=E.base i+o
       .exact .inr (by simp;omega)
       .exact .inl (by simp;omega)
     rw[qFd] at hs5;have hbase:(Extern.Atomic.casT (.int .i32) [.pointer (some ⟨b,E.base i+o,none⟩),.int .i32 m,.int .i32 t].toArray).run P w=(if n=m then .ok (.bool true) (w.setCell ⟨b,E.base i+o,none⟩ (.int .i32 t)) else .ok (.bool false) w):=by
      have e0:Extern.Atomic.casT (.int .i32) [.pointer (some ⟨b,E.base i+o,none⟩),.int .i32 m,.int .i32 t].toArray=Conc.casBody .i32 ⟨b,E.base i+o,none⟩ m t:=Conc.casT_eq _ _;rw[e0];by_cases hnm:n=m
      .subst hnm;rw[if_pos rfl];exact Conc.run_cas_hit_entry hvz hfz.1
      .rw[if_neg hnm];exact Conc.run_cas_miss_entry hvz hfz.1 hnm
     rw[hbase];by_cases hnm:n=m
     .rw[if_pos hnm];rw[decide_eq_true hnm] at hs5;obtain⟨_,_,_,_,_,h',r',s',k'⟩:=qXl (v:=.int .i32 t) r hg hi hzz (.int .i32 t) rfl hs5;exact⟨_,_,E,h',_,rfl,s',r',.bool _,k'⟩
     .rw[if_neg hnm];rw[decide_eq_false hnm] at hs5;exact .pure r (.bool _) hs5
    | _=>exact False.elim hs4
   | _=>exact False.elim hs4
  | _=>exact False.elim hs4
 | _=>exact False.elim hs1
theorem jDf (r:Rel P W0 E h w) {l:List AV} {vs:Array Value} (hl:VRs E l vs.toList) (hs:(exAdd l k).sat p h):UV P W0 E h k p ((Extern.Atomic.update (Op.intArith .add) .i32 true vs).run P w):=by
 obtain⟨a,y,u,v,e,hu,hv,hs1⟩:=Jx hl hs;rw[qVu e];cases hu with
 | ptr i o b z hi hz =>
  subst hz;obtain⟨ao,hg,hs2⟩:=hs1;obtain⟨c,esz,g,mk,rfl,hs3⟩:=jt hs2;obtain⟨zz,hzz,hs4⟩:=Qe hs3;rw[qW] at hzz;obtain⟨vz,hvz,hrz⟩:=(r.readAt hg (.inl ⟨_,_,_,rfl⟩) hi).cell hzz;cases hrz with
  | int k1 n =>
   cases hv with
   | int k2 m =>
    have hs4b:(kEq k1 .i32 (kEq k2 .i32 (jr k1 (addI n m) λv=>putK [v] o c λc'=>.set i (.cells c' esz g mk) (k v)))).sat p h:=hs4;obtain⟨hk1,hs4c⟩:=qa hs4b;obtain⟨hk2,hs5⟩:=qa hs4c;subst hk1;subst hk2;rw[QZ,qN1] at hs5;obtain⟨vz2,hvz2,_,hf,hsh,h',r',s',k'⟩:=qXl (v:=.int .i32 (IntKind.i32.wrap (n+m))) r hg hi hzz (.int _ _) rfl hs5;exact⟨_,_,E,h',_,Conc.run_add_entry hvz hf,s',r',.int _ _,k'⟩
   | _=>exact False.elim hs4
  | _=>exact False.elim hs4
 | _=>exact False.elim hs1
theorem qIc:∀(a b:List UInt8),Lib.compareBytes a b=cnd (qj (a.map UInt8.toNat) (b.map UInt8.toNat)) (.negSucc Nat.zero) (cnd (qy (a.map UInt8.toNat) (b.map UInt8.toNat)) (.ofNat Nat.zero) (.ofNat 1))
 | [],[]=>rfl
 | [],_::_=>rfl
 | _::_,[]=>rfl
 | x::a,y::b=>by
  show (if x<y then -1 else if y<x then 1 else Lib.compareBytes a b)=cnd (cnd (ltb x.toNat y.toNat) true (cnd (Nat.beq x.toNat y.toNat) (qj (a.map UInt8.toNat) (b.map UInt8.toNat)) false)) (.negSucc Nat.zero)
   (cnd (cnd (Nat.beq x.toNat y.toNat) (qy (a.map UInt8.toNat) (b.map UInt8.toNat)) false) (.ofNat Nat.zero) (.ofNat 1))
  rw[qIc a b];rcases Nat.lt_trichotomy x.toNat y.toNat with h | h | h
  .rw[if_pos (UInt8.lt_iff_toNat_lt.2 h),Qo.2 h];rfl
  .rw[if_neg (λh'=>by have:=UInt8.lt_iff_toNat_lt.1 h';omega),if_neg (λh'=>by have:=UInt8.lt_iff_toNat_lt.1 h';omega),h,Nat.beq_refl,qE.2 (zL0 _)];rfl
  .have h1:Nat.beq x.toNat y.toNat=false:=by
    cases hb:Nat.beq x.toNat y.toNat
    .rfl
    .have:=beq_iff.1 hb;omega
   rw[if_neg (λh'=>by have:=UInt8.lt_iff_toNat_lt.1 h';omega),if_pos (UInt8.lt_iff_toNat_lt.2 h),qE.2 (by omega),h1];rfl
theorem qK7 {b:Nat}:∀(s:List Nat) (x:Nat) (acc:ByteArray),(∀y,y∈s->y<256)->(∀j v,(s.map λb=>Value.int .u8 (Int.ofNat b))[j]?=some v->w.cell? ⟨b,x+j,none⟩=some v) ->
  ∃r,(Extern.Bytes.loadBytes ⟨b,x,none⟩ s.length acc).run P w=.ok r w/\bs r=bs acc++s
 | [],x,acc,_,_=>⟨acc,rfl,by simp⟩
 | y::s,x,acc,hy,hc=>by
  have h0:=hc 0 (.int .u8 (Int.ofNat y)) rfl;rw[Nat.add_zero] at h0;obtain⟨r,h1,h2⟩:=qK7 s (x+1) (acc.push (Int.ofNat y).toNat.toUInt8) (λz hz=>hy z (zA0 _ hz)) (λj v hj=>by
   have:=hc (j+1) v (by simpa using hj)
   rwa [show x+1+j=x+(j+1) by omega])
  refine⟨r,?_,?_⟩
  .simp only[zJ0,Extern.Bytes.loadBytes,Sem.run_bind,run_load1 h0,Result.andThen_ok,j6];exact h1
  .rw[h2];have hlt:=hy y zB0
   have:bs (acc.push (Int.ofNat y).toNat.toUInt8)=bs acc++[y]:=by simp[bs,ByteArray.push,Nat.mod_eq_of_lt hlt]
   rw[this];simp
theorem qJh (r:Rel P W0 E h w) {a:AV} {v:Value} (ha:VR E a v) {kk:List Nat->FM} (hs:(jJ a kk).sat p h):∃b s,(Extern.Bytes.bytesOf v).run P w=.ok b w/\bs b=s/\(kk s).sat p h:=by
 cases ha with
 | nils=>exact⟨.empty,[],rfl,rfl,hs⟩
 | emp a c=>exact⟨.empty,[],rfl,rfl,hs⟩
 | slice i o len cap ext b x cc hi hx hcc =>
  subst hx;obtain⟨ao,hg,hs2⟩:=(show (q9 i λc=>j3 len (jO o c) λl=>Ju l kk).sat p h from hs);obtain⟨c,ho,hs3⟩:=jT hs2;obtain⟨hl,hs4⟩:=jh hs3;rw[qq] at hl hs4;obtain⟨s,he,hb,hk⟩:=qF8 _ _ hs4;obtain⟨vs,h1,h2,h3⟩:=(r.readAt hg ho hi).cells o len hl;rw[he] at h2;have h4:=Jl h2;obtain⟨rb,h5,h6⟩:=qK7 (P:=P) (w:=w) (b:=b) s (E.base i+o) .empty hb (λj v hj=>by
   have:=h3 j v (by rw[h4];exact hj)
   rwa [j6] at this)
  have hsl:s.length=len:=by rw[<- h1,h4];simp
  rw[hsl] at h5;exact⟨rb,s,h5,by rw[h6];rfl,hk⟩
 | _=>exact False.elim hs
theorem jDd (r:Rel P W0 E h w) {l:List AV} {vs:Array Value} (hl:VRs E l vs.toList) (hs:(exCmp l k).sat p h):UV P W0 E h k p ((Extern.BytealgCompare.compare vs).run P w):=by
 obtain⟨a,b,u,v,e,hu,hv,hs1⟩:=Jx hl hs;rw[qVu e];obtain⟨b1,s1,h1,h2,hs2⟩:=qJh r hu hs1;obtain⟨b2,s2,h3,h4,hs3⟩:=qJh r hv hs2;refine .of r ⟨.int .i64 (Extern.BytealgCompare.cmp b1 b2),_,?_,?_,hs3⟩
 .change Sem.run P (do pure (goInt (Extern.BytealgCompare.cmp (<- Extern.Bytes.bytesOf u) (<- Extern.Bytes.bytesOf v)))) w=_;simp only[Sem.run_bind,h1,Result.andThen_ok,h3,Sem.run_pure];rfl
 .rw[Lib.cmp_eq,qIc,show b1.data.toList.map UInt8.toNat=s1 from h2,show b2.data.toList.map UInt8.toNat=s2 from h4];exact .int _ _
theorem qZ5 (c:Nat):∀(s:List Nat) (n:Nat) (f:Nat->Bool),(∀i (hi:i<s.length),f (n+i)=Nat.beq s[i] c) ->
  idxB c s n=match (List.range' n s.length).find? f with | some i=>Int.ofNat i | none=>-1
 | [],n,f,_=>rfl
 | b::s,n,f,hf=>by
  have h0:f n=Nat.beq b c:=hf 0 (Nat.succ_pos _);show cnd (Nat.beq b c) (Int.ofNat n) (Qc (Nat.succ n) λn'=>idxB c s n')=match (List.range' n (s.length+1)).find? f with | some i=>Int.ofNat i | none=>-1
  rw[List.range'_succ,List.find?_cons,h0,Qb];cases hb:Nat.beq b c with
  | true=>rfl
  | false =>show idxB c s (n+1)=_;exact qZ5 c s (n+1) f (λi hi=>by have:=hf (i+1) (by simpa using hi);rw[show n+1+i=n+(i+1) by omega,this];rfl)
theorem jDc (r:Rel P W0 E h w) {l:List AV} {vs:Array Value} (hl:VRs E l vs.toList) (hs:(exIdx l k).sat p h):UV P W0 E h k p ((Extern.BytealgIndexByte.indexByte vs).run P w):=by
 obtain⟨a,b,u,v,e,hu,hv,hs1⟩:=Jx hl hs;rw[qVu e];cases hu with
 | str s sb hsb =>
  cases hv with
  | int q n =>
   obtain⟨hq,hs2⟩:=qa (m:=Int.rec (motive:=λ_=>FM) (λm=>jY (idxB (Nat.mod m 256) s Nat.zero) λr=>k (.int .i64 r)) (λ_=>.fail 187) n) hs1;subst hq;cases n with
   | negSucc m=>exact False.elim hs2
   | ofNat m =>
    have hs3:(jY (idxB (Nat.mod m 256) s Nat.zero) λr=>k (.int .i64 r)).sat p h:=hs2;rw[jX] at hs3;refine .of r ⟨.int .i64 (idxB (Nat.mod m 256) s 0),_,?_,.int _ _,hs3⟩;subst hsb;have hlen:(bs sb).length=sb.size:=by simp[bs]
    have hf:=qZ5 (Nat.mod m 256) (bs sb) 0 (λi=>sb[i]! == (Int.ofNat m).toNat.toUInt8) (λi hi=>by
     have hi2:i<sb.size:=by omega
     rw[Nat.zero_add,getElem!_pos sb i hi2];have e1:(bs sb)[i]=(sb[i]).toNat:=by simp only[bs,List.getElem_map];rfl
     rw[e1];have e2:((Int.ofNat m).toNat.toUInt8).toNat=Nat.mod m 256:=rfl;rw[Bool.eq_iff_iff,beq_iff_eq,<- e2];constructor
     .intro hh;rw[hh];exact beq_iff.2 rfl
     .intro hh;exact UInt8.toNat_inj.1 (beq_iff.1 hh))
    rw[hlen,<- List.range_eq_range'] at hf
    change Sem.run P (match (List.range sb.size).find? λi=>sb[i]! == (Int.ofNat m).toNat.toUInt8 with
     | some i=>pure (goInt i) | none=>pure (goInt (-1))) w=_
    rw[hf];cases (List.range sb.size).find? λi=>sb[i]! == (Int.ofNat m).toNat.toUInt8 <;> rfl
  | _=>exact False.elim hs1
 | _=>exact False.elim hs1
theorem qNx (c:UInt8):∀(l:List UInt8) (n:Nat),cntB c.toNat (l.map UInt8.toNat) n=n+l.count c
 | [],n=>rfl
 | b::l,n=>by
  show cnd (Nat.beq b.toNat c.toNat) (Qc (Nat.succ n) λn'=>cntB c.toNat (l.map UInt8.toNat) n') (cntB c.toNat (l.map UInt8.toNat) n)=_;rw[Qb,List.count_cons];by_cases hx:b=c
  .rw[hx,show Nat.beq c.toNat c.toNat=true from beq_iff.2 rfl,Q6,qNx c l];simp;omega
  .have:Nat.beq b.toNat c.toNat=false:=by
    cases hb:Nat.beq b.toNat c.toNat with
    | false=>rfl
    | true=>exact absurd (UInt8.toNat_inj.1 (beq_iff.1 hb)) hx
   rw[this,Q8,qNx c l];simp[hx]
theorem qXb (r:Rel P W0 E h w) {l:List AV} {vs:Array Value} (hl:VRs E l vs.toList) (hs:(exCount l k).sat p h):UV P W0 E h k p ((Extern.BytealgCount.count vs).run P w):=by
 obtain⟨a,b,u,v,e,hu,hv,hs1⟩:=Jx hl hs;rw[qVu e];cases hu with
 | str s sb hsb =>
  cases hv with
  | int q n =>
   obtain⟨hq,hs2⟩:=qa (m:=Int.rec (motive:=λ_=>FM) (λm=>Qc (cntB (Nat.mod m 256) s Nat.zero) λr=>k (.int .i64 (.ofNat r))) (λ_=>.fail 187) n) hs1;subst hq;cases n with
   | negSucc m=>exact False.elim hs2
   | ofNat m =>
    have hs3:(Qc (cntB (Nat.mod m 256) s Nat.zero) λr=>k (.int .i64 (.ofNat r))).sat p h:=hs2;rw[Qb] at hs3;refine .of r ⟨.int .i64 (.ofNat (cntB (Nat.mod m 256) s 0)),_,?_,.int _ _,hs3⟩;subst hsb;have e:=Lib.run_countString (P:=P) sb (Int.ofNat m) w;have ec:=qNx (Int.ofNat m).toNat.toUInt8 sb.data.toList 0;rw[Nat.zero_add] at ec;have e2:((Int.ofNat m).toNat.toUInt8).toNat=Nat.mod m 256:=rfl;rw[e2] at ec;rw[show cntB (Nat.mod m 256) (bs sb) 0=sb.data.toList.count (Int.ofNat m).toNat.toUInt8 from ec];exact e
  | _=>exact False.elim hs1
 | _=>exact False.elim hs1
theorem jAw:∀(l:List Value),VRs E (junks l.length) l
 | []=>.nil
 | v::l=>.cons _ _ _ _ (.junk _) (jAw l)
theorem jAb (r:Rel P W0 E h w) {l:List AV} {vs:Array Value} (hl:VRs E l vs.toList) {ps:Array TypeId} {t e:TypeId} (ht:P.underlying t=some (.slice e)) (hs:(exMake l k).sat p h):UV P W0 E h k p ((Extern.BytealgMakeNoZero.makeNoZero ps #[t] vs).run P w):=by
 obtain⟨a,u,e1,hu,hs1⟩:=qZ0 hl hs;rw[qVu e1];cases hu with
 | int q n =>
  obtain⟨hq,hs2⟩:=qa (m:=Int.rec (motive:=λ_=>FM) (λm=>Qc m λm=>cnd (Nat.ble m most) (FM.new (.cells (junks m) 1 true false) λi=>k (.slice i Nat.zero m m true)) (FM.fail 188)) (λ_=>.fail 188) n) hs1;subst hq;cases n with
  | negSucc m=>exact False.elim hs2
  | ofNat m =>
   have hs3:(Qc m λm=>cnd (Nat.ble m most) (FM.new (.cells (junks m) 1 true false) λi=>k (.slice i Nat.zero m m true)) (FM.fail 188)).sat p h:=hs2;rw[Qb] at hs3;obtain⟨hm,hs4⟩:=Qi hs3;have hm:m<=1099511627776:=qs.1 hm;obtain⟨hn,hs5⟩:=hs4;obtain⟨cs,hr,hle,_⟩:=Lib.run_makeNoZero (P:=P) w ps t e ht m (by omega);have r1:Rel P W0 E h w.drew.drew:=r.same rfl rfl rfl rfl;have hlen:(cs.toList.take m).length=m:=by simp;omega
   obtain⟨r2,s2⟩:=qF5 (e:=e) (fr:=(0,0)) (esz:=1) (g:=true) (mk:=false) (cs:=junks m) r1 hn (cs.size-m) (vs:=cs) (c1:=cs.toList.take m) (rest:=cs.toList.drop m) (by rw[List.take_append_drop])
    (by have:=jAw (E:=E) (cs.toList.take m);rwa [hlen] at this) (by simp[cnd]) (.inl rfl)
   refine⟨_,_,_,_,_,hr,s2,r2,?_,hs5⟩;exact .slice _ _ _ _ _ w.drew.drew.heap.size 0 _ (Env.add_blk _ _ _ _ _) (by rw[Env.add_base]) (by rw[Env.add_ext];show cs.size=m+(cs.size-m);omega)
 | _=>exact False.elim hs1
end
end Go.X
namespace Go.X
open Go Go.RowKit
inductive ChR (E:Env):QD->List PanicEntry->Prop
 | nil:ChR E [] []
 | cons (a:AV) (b:Bool) (v:Value) (l:QD) (m:List PanicEntry) (h:VR E a v) (t:ChR E l m):ChR E ((a,b)::l) ({ v:=v,recovered:=b }::m)
theorem ChR.mono {E E':Env} (le:E.Le E') {a:QD} {d:List PanicEntry} (h:ChR E a d):ChR E' a d:=by
 induction h with
 | nil=>exact .nil
 | cons a b v l m h _ ih=>exact .cons _ _ _ _ _ (h.mono le) ih
section
variable (P:Program) (W0:World)
def Upon (E:Env) (h:Q0) (k:KV) (kd:qk->FM) (kp:QD->FM) (call:Qw) (round:Qs) (p:QF):Result Next->Prop
 | .ok (.value v) w'=>∃E' h' av,Stp E h E' h'/\Rel P W0 E' h' w'/\VR E' av v/\(k av).sat p h'
 | .ok .skip w'=>∃E' h',Stp E h E' h'/\Rel P W0 E' h' w'/\(k (.tuple [])).sat p h'
 | .ok (.defer d) w'=>∃E' h' ad,Stp E h E' h'/\Rel P W0 E' h' w'/\DR E' ad d/\(kd ad).sat p h'
 | .ok (.enter f args) w'=>∃E' h' as,Stp E h E' h'/\Rel P W0 E' h' w'/\VRs E' as args.toList/\qn P f=true/\(call f as k kp).sat p h'
 | .ok (.round l f tmps assign body) w'=>∃E' h' i as args lp r,Stp E h E' h'/\Rel P W0 E' h' w'/\E'.blk i=some l/\VRs E' as args.toList/\h'.get i=some (.loop lp)/\w'.heap[l]?=some (.loop r)/\args.size=r.params.size /\
   f=r.fn/\tmps=(r.params.zip args).foldl (λtmps (t,a)=>tmps.setIfInBounds t a) r.tmps/\assign=r.assign/\body=r.body/\(round i as k).sat p h'
 | .halt (.panic v) w'=>∃E' h' ach,Stp E h E' h'/\Rel P W0 E' h' w'/\ChR E' ach [{ v:=v,recovered:=false }]/\(kp ach).sat p h'
 | _=>False
def qF9 (round:Qs):Prop:=∀i args (k:KV) p h,(round i args k).sat p h->∃lp,h.get i=some (.loop lp)/\lp.params.length=args.length+1
end
section
variable {P:Program} {W0:World} {E:Env} {h:Q0} {p:QF} {w:World} {k:KV} {c:OC} {ρ:Operand->Value} {kd:qk->FM} {kp:QD->FM} {call:Qw} {round:Qs}
theorem UV.upon {s:Sem Value} (hu:UV P W0 E h k p (s.run P w)):Upon P W0 E h k kd kp call round p ((s >>= λv=>Pure.pure (Next.value v):Sem Next).run P w):=by obtain⟨v,w',E',h',av,e,h1,h2,h3,h4⟩:=hu;simp only[Sem.run_bind,e,Result.andThen_ok,Sem.run_pure];exact⟨E',h',av,h1,h2,h3,h4⟩
theorem upon_value (r:Rel P W0 E h w) {v:Value} {av:AV} (hv:VR E av v) (hk:(k av).sat p h):Upon P W0 E h k kd kp call round p (.ok (.value v) w):=⟨E,h,av,.refl _ _,r,hv,hk⟩
theorem jGx {f:FuncId} {n:Nat} (hf:jGy P f=n) (hn:n≠0):∃fn,P.funcs[f]?=some fn/\(fn.name == "runtime.NumGoroutine")=false/\fn.body.isNone=true/\Extern.findNext fn=none /\
  ((n=1/\fn.name = "maps.clone")∨(n=2/\fn.name = "sync/atomic.CompareAndSwapInt32")∨(n=3/\fn.name = "sync/atomic.AddInt32")∨(n=4/\fn.name = "internal/race.Disable")∨(n=5/\fn.name = "internal/race.Enable") ∨
   (n=6/\fn.name = "internal/race.Acquire")∨(n=7/\fn.name = "internal/race.ReleaseMerge")∨(n=8/\fn.name = "internal/race.Release")∨(n=9/\fn.name = "internal/bytealg.Compare")∨(n=10/\fn.name = "internal/bytealg.MakeNoZero"/\qZu P fn=true)∨(n=11/\fn.name = "internal/bytealg.IndexByteString")∨(n=12/\fn.name = "internal/bytealg.CountString")):=by
 unfold jGy at hf;cases hfn:P.funcs[f]? with
 | none=>rw[hfn] at hf;exact absurd hf.symm hn
 | some fn =>
  rw[hfn] at hf;simp only at hf;by_cases h0:(fn.body.isSome || fn.name == "runtime.NumGoroutine" || (Extern.findNext fn).isSome)=true
  .rw[if_pos h0] at hf;exact absurd hf.symm hn
  .rw[if_neg h0] at hf;simp only[Bool.or_eq_true,not_or,Bool.not_eq_true,Option.isSome_eq_false_iff,Option.isNone_iff_eq_none] at h0;refine⟨fn,rfl,h0.1.2,by simp[h0.1.1],h0.2,?_⟩;simp only[beq_iff_eq] at hf;by_cases e1:fn.name = "maps.clone"
   .rw[if_pos e1] at hf;exact .inl ⟨hf.symm,e1⟩
   rw[if_neg e1] at hf;by_cases e2:fn.name = "sync/atomic.CompareAndSwapInt32"
   .rw[if_pos e2] at hf;exact .inr (.inl ⟨hf.symm,e2⟩)
   rw[if_neg e2] at hf;by_cases e3:fn.name = "sync/atomic.AddInt32"
   .rw[if_pos e3] at hf;exact .inr (.inr (.inl ⟨hf.symm,e3⟩))
   rw[if_neg e3] at hf;by_cases e4:fn.name = "internal/race.Disable"
   .rw[if_pos e4] at hf;exact .inr (.inr (.inr (.inl ⟨hf.symm,e4⟩)))
   rw[if_neg e4] at hf;by_cases e5:fn.name = "internal/race.Enable"
   .rw[if_pos e5] at hf;exact .inr (.inr (.inr (.inr (.inl ⟨hf.symm,e5⟩))))
   rw[if_neg e5] at hf;by_cases e6:fn.name = "internal/race.Acquire"
   .rw[if_pos e6] at hf;exact .inr (.inr (.inr (.inr (.inr (.inl ⟨hf.symm,e6⟩)))))
   rw[if_neg e6] at hf;by_cases e7:fn.name = "internal/race.ReleaseMerge"
   .rw[if_pos e7] at hf;exact .inr (.inr (.inr (.inr (.inr (.inr (.inl ⟨hf.symm,e7⟩))))))
   rw[if_neg e7] at hf;by_cases e8:fn.name = "internal/race.Release"
   .rw[if_pos e8] at hf;exact .inr (.inr (.inr (.inr (.inr (.inr (.inr (.inl ⟨hf.symm,e8⟩)))))))
   rw[if_neg e8] at hf;by_cases e9:fn.name = "internal/bytealg.Compare"
   .rw[if_pos e9] at hf;exact .inr (.inr (.inr (.inr (.inr (.inr (.inr (.inr (.inl ⟨hf.symm,e9⟩))))))))
   rw[if_neg e9] at hf;by_cases e10:(fn.name == "internal/bytealg.MakeNoZero" && qZu P fn)=true
   .rw[if_pos e10] at hf;simp only[Bool.and_eq_true,beq_iff_eq] at e10;exact .inr (.inr (.inr (.inr (.inr (.inr (.inr (.inr (.inr (.inl ⟨hf.symm,e10.1,e10.2⟩)))))))))
   rw[if_neg e10] at hf;by_cases e11:fn.name = "internal/bytealg.IndexByteString"
   .rw[if_pos e11] at hf;exact .inr (.inr (.inr (.inr (.inr (.inr (.inr (.inr (.inr (.inr (.inl ⟨hf.symm,e11⟩))))))))))
   rw[if_neg e11] at hf;by_cases e12:fn.name = "internal/bytealg.CountString"
   .rw[if_pos e12] at hf;exact .inr (.inr (.inr (.inr (.inr (.inr (.inr (.inr (.inr (.inr (.inr ⟨hf.symm,e12⟩))))))))))
   rw[if_neg e12] at hf;exact absurd hf.symm hn
theorem jCx {fn:Func} (hm:qZu P fn=true):∃t e,fn.resultTypes=#[t]/\P.underlying t=some (.slice e):=by
 unfold qZu at hm;split at hm
 .rename_i t ht;split at hm
  .rename_i e he;exact⟨t,e,by rw[<- Array.toArray_toList (xs:=fn.resultTypes),ht],he⟩
  .cases hm
 .cases hm
theorem qIb (r:Rel P W0 E h w) {l:List AV} {vs:Array Value} (hl:VRs E l vs.toList) {m:Addr->Mark} (hs:(jE5 l k).sat p h):UV P W0 E h k p ((Extern.Race.marked m vs).run P w):=by
 obtain⟨a,u,e0,hu,hs2⟩:=qIf hl hs;rw[Array.getElem?_toList] at e0;cases hu with
 | ptr i o b x hi hx =>
  refine .of r ⟨.tuple #[],.tuple [],?_,.tuple _ _ .nil,hs2⟩;simp[Extern.Race.marked,Extern.Race.at_,e0,Extern.Race.none_]
 | _=>exact False.elim hs2
theorem jGz (r:Rel P W0 E h w) {f:FuncId} {l:List AV} {vs:Array Value} (hl:VRs E l vs.toList) (hs:(extK (jGy P f) l k).sat p h):Upon P W0 E h k kd kp call round p ((callFunc f vs).run P w):=by
 have hne:jGy P f≠0:=λe=>by rw[e] at hs;exact False.elim hs
 obtain⟨fn,hf,hname,hb,hnx,hcase⟩:=jGx rfl hne;have fin:∀{e:Array Value->Sem Value},Extern.find fn=some e->UV P W0 E h k p ((e vs).run P w)->Upon P W0 E h k kd kp call round p ((callFunc f vs).run P w):=by intro e he hu;rw[run_callFunc_extern hf hname hb hnx he];obtain⟨v,w',E',h',av,e1,h1,h2,h3,h4⟩:=hu;rw[e1];exact⟨E',h',av,h1,h2,h3,h4⟩
 rcases hcase with ⟨e,n⟩ | ⟨e,n⟩ | ⟨e,n⟩ | ⟨e,n⟩ | ⟨e,n⟩ | ⟨e,n⟩ | ⟨e,n⟩ | ⟨e,n⟩ | ⟨e,n⟩ | ⟨e,n,hm⟩ | ⟨e,n⟩ | ⟨e,n⟩ <;> rw[e] at hs
 .exact fin (qp n (by kernel_rfl) (by kernel_rfl) (by kernel_rfl)) (qXc r hl hs)
 .exact fin (qp n (by kernel_rfl) (by kernel_rfl) (by kernel_rfl)) (jDe r hl hs)
 .exact fin (qp n (by kernel_rfl) (by kernel_rfl) (by kernel_rfl)) (jDf r hl hs)
 .exact fin (e:=λ_=>do mark .disable;pure Extern.Race.none_) (qp n (by kernel_rfl) (by kernel_rfl) (by kernel_rfl)) (.of r ⟨.tuple #[],.tuple [],by simp[Extern.Race.none_],.tuple _ _ .nil,hs⟩)
 .exact fin (e:=λ_=>do mark .enable;pure Extern.Race.none_) (qp n (by kernel_rfl) (by kernel_rfl) (by kernel_rfl)) (.of r ⟨.tuple #[],.tuple [],by simp[Extern.Race.none_],.tuple _ _ .nil,hs⟩)
 .exact fin (qp n (by kernel_rfl) (by kernel_rfl) (by kernel_rfl)) (qIb (m:=.acquire) r hl hs)
 .exact fin (qp n (by kernel_rfl) (by kernel_rfl) (by kernel_rfl)) (qIb (m:=.releaseMerge) r hl hs)
 .exact fin (qp n (by kernel_rfl) (by kernel_rfl) (by kernel_rfl)) (qIb (m:=.release) r hl hs)
 .exact fin (qp n (by kernel_rfl) (by kernel_rfl) (by kernel_rfl)) (jDd r hl hs)
 .obtain⟨t,el,h1,h2⟩:=jCx hm;have hfind:Extern.find fn=some (Extern.BytealgMakeNoZero.makeNoZero fn.params #[t]):=by
   have hg:Extern.allGenericRows.lookup "internal/bytealg.MakeNoZero"=none:=by kernel_rfl
   have ht:Extern.allTypedRows.lookup "internal/bytealg.MakeNoZero"=some Extern.BytealgMakeNoZero.makeNoZero:=by kernel_rfl
   simp[Extern.find,n,hg,ht,h1]
  exact fin hfind (jAb r hl h2 hs)
 .exact fin (qp n (by kernel_rfl) (by kernel_rfl) (by kernel_rfl)) (jDc r hl hs)
 .exact fin (qp n (by kernel_rfl) (by kernel_rfl) (by kernel_rfl)) (qXb r hl hs)
theorem qGj (r:Rel P W0 E h w) {f:FuncId} {l:List AV} {vs:Array Value} (hl:VRs E l vs.toList) (hs:(qHi P call f l k kp).sat p h):Upon P W0 E h k kd kp call round p ((callFunc f vs).run P w):=by
 rcases Qr hs with ⟨hb,hs2⟩ | ⟨_,hs2⟩
 .have hb0:=hb;unfold qn at hb;cases hfn:P.funcs[f]? with
  | none=>rw[hfn] at hb;cases hb
  | some fn =>
   rw[hfn] at hb;simp only[Bool.and_eq_true,Bool.not_eq_true'] at hb;have h1:fn.name ≠ "runtime.NumGoroutine":=by simpa using hb.2
   have e:(callFunc f vs).run P w=.ok (.enter f vs) w:=by
    cases hbo:fn.body with
    | none=>rw[hbo] at hb;simp at hb
    | some c=>simp[callFunc,hfn,h1,hbo]
   rw[e];exact⟨E,h,l,.refl _ _,r,hl,hb0,hs2⟩
 .exact jGz r hl hs2
theorem qOo {m:Method} {r:MtK} (hm:qW0 P m=r) (hr:r≠.no):∃s f fs fd el,m.path.toList=[s]/\m.func=some (f,true)/\s.deref=false/\P.underlying s.struct=some (.struct fs)/\fs[s.index]?=some fd/\P.underlying fd.type=some (.pointer el)/\r=.field f fd.type fd.offset:=by
 unfold qW0 at hm;split at hm
 .rename_i s f hp hf;by_cases hd:s.deref=true
  .rw[if_pos hd] at hm;exact absurd hm.symm hr
  .rw[if_neg hd] at hm;split at hm
   .rename_i fs hu;split at hm
    .rename_i fd hfd;split at hm
     .rename_i el hel;exact⟨s,f,fs,fd,el,hp,hf,by simpa using hd,hu,hfd,hel,hm.symm⟩
     .exact absurd hm.symm hr
    .exact absurd hm.symm hr
   .exact absurd hm.symm hr
 .exact absurd hm.symm hr
theorem qUe {m:Method} {r:MtK} (hm:qW0 P m=r) (h1:r≠.no:=by simp) (h2:∀f t o,r≠.field f t o:=by simp):False:=by obtain⟨s,f,fs,fd,el,_,_,_,_,_,_,e⟩:=qOo hm h1;exact h2 _ _ _ e
theorem qR6 {t:TypeId} {name:String} {f:FuncId} (hm:methodOf P t name=.direct f):∃ti m d isPtr,P.info? t=some ti/\ti.methods.find? (λm=>m.name == name)=some m/\m.path.toList=[]/\m.func=some (f,isPtr)/\P.underlying t=some d/\((∃e,d=.pointer e)↔isPtr=true):=by
 unfold methodOf at hm;cases hti:P.info? t with
 | none=>rw[hti] at hm;cases hm
 | some ti =>
  rw[hti] at hm;simp only at hm;cases hfd:ti.methods.find? (λm=>m.name == name) with
  | none=>rw[hfd] at hm;cases hm
  | some m =>
   rw[hfd] at hm;simp only at hm;by_cases hp:m.path.toList.isEmpty=true
   .rw[if_pos hp] at hm;have hp2:m.path.toList=[]:=by simpa using hp
    cases hfu:m.func with
    | none=>rw[hfu] at hm;cases hm
    | some fp =>
     obtain⟨g,isPtr⟩:=fp;rw[hfu] at hm;cases hu:P.underlying t with
     | none=>rw[hu] at hm;cases isPtr <;> cases hm
     | some d =>
      rw[hu] at hm;cases isPtr
      .cases d <;> first
        | (cases hm;done)
        | (cases hm;exact⟨ti,m,_,false,rfl,hfd,hp2,hfu,rfl,by simp⟩)
      .cases d <;> first
        | (cases hm;done)
        | (cases hm;exact⟨ti,m,_,true,rfl,hfd,hp2,hfu,rfl,by simp⟩)
   .rw[if_neg hp] at hm;exact (qUe hm).elim
theorem qWz {t:TypeId} {name:String} {f:FuncId} {el:TypeId} (hm:methodOf P t name=.load f el):∃ti m,P.info? t=some ti/\ti.methods.find? (λm=>m.name == name)=some m/\m.path.toList=[]/\m.func=some (f,false)/\P.underlying t=some (.pointer el):=by
 unfold methodOf at hm;cases hti:P.info? t with
 | none=>rw[hti] at hm;cases hm
 | some ti =>
  rw[hti] at hm;simp only at hm;cases hfd:ti.methods.find? (λm=>m.name == name) with
  | none=>rw[hfd] at hm;cases hm
  | some m =>
   rw[hfd] at hm;simp only at hm;by_cases hp:m.path.toList.isEmpty=true
   .rw[if_pos hp] at hm;have hp2:m.path.toList=[]:=by simpa using hp
    cases hfu:m.func with
    | none=>rw[hfu] at hm;cases hm
    | some fp =>
     obtain⟨g,isPtr⟩:=fp;rw[hfu] at hm;cases hu:P.underlying t with
     | none=>rw[hu] at hm;cases isPtr <;> cases hm
     | some d =>
      rw[hu] at hm;cases isPtr
      .cases d <;> first
        | (cases hm;done)
        | (cases hm;exact⟨ti,m,rfl,hfd,hp2,hfu,rfl⟩)
      .cases d <;> cases hm
   .rw[if_neg hp] at hm;exact (qUe hm).elim
theorem qTh {t:TypeId} {name:String} {f:FuncId} {ft:TypeId} {off:Nat} (hm:methodOf P t name=.field f ft off):∃ti m s fs fd el,P.info? t=some ti/\ti.methods.find? (λm=>m.name == name)=some m/\m.path.toList=[s]/\m.func=some (f,true)/\s.deref=false/\P.underlying s.struct=some (.struct fs)/\fs[s.index]?=some fd/\P.underlying ft=some (.pointer el)/\fd.type=ft/\fd.offset=off:=by
 unfold methodOf at hm;cases hti:P.info? t with
 | none=>rw[hti] at hm;cases hm
 | some ti =>
  rw[hti] at hm;simp only at hm;cases hfd:ti.methods.find? (λm=>m.name == name) with
  | none=>rw[hfd] at hm;cases hm
  | some m =>
   rw[hfd] at hm;simp only at hm;by_cases hp:m.path.toList.isEmpty=true
   .rw[if_pos hp] at hm;cases hfu:m.func with
    | none=>rw[hfu] at hm;cases hm
    | some fp =>
     obtain⟨g,isPtr⟩:=fp;rw[hfu] at hm;cases hu:P.underlying t with
     | none=>rw[hu] at hm;cases isPtr <;> cases hm
     | some d =>rw[hu] at hm;cases isPtr <;> cases d <;> cases hm
   .rw[if_neg hp] at hm;obtain⟨s,f',fs,fd,el,h1,h2,h3,h4,h5,h6,e⟩:=qOo hm (by simp);cases e;exact⟨ti,m,s,fs,fd,el,rfl,hfd,h1,h2,h3,h4,h5,h6,rfl,rfl⟩
theorem toArr' {α:Type} {vs:Array α} {l:List α} (h:vs.toList=l):vs=l.toArray:=by rw[<- h]
theorem jBx {ts:Array TypeId} {ty:TypeId} (a:Addr) (s m:String) (w:World):(Builtin.ssaWrapNilChk_ ts ty #[.pointer (some a),strVal s,strVal m]).run P w=.ok (.pointer (some a)) w:=rfl
theorem qKw (r:Rel P W0 E h w) {a:AV} {v:Value} (ha:VR E a v) {name:String} {l:List AV} {vs:Array Value} (hl:VRs E l vs.toList) (hs:(qEz P call a name l k kp).sat p h) :
  Upon P W0 E h k kd kp call round p ((callMethod v name vs).run P w):=by
 cases ha with
 | iface t a v hv =>
  have hs1:(MtK.rec (motive:=λ_=>FM) (λf=>qHi P call f (a::l) k kp)
   (λf el=>a.onPtr (λi o=>qPp P el i o λv'=>qHi P call f (v'::l) k kp) (.fail 70))
   (λf ft off=>a.onAgg (λcs=>qA P ft cs off λv'=>qHi P call f (v'::l) k kp) (.fail 70)) (.fail 71) (methodOf P t name)).sat p h:=hs
  obtain⟨n,hfuel⟩:∃n,P.types.size+Made.depth=n+1:=⟨P.types.size+99,rfl⟩;cases hm:methodOf P t name with
  | direct f =>
   rw[hm] at hs1;obtain⟨ti,m,d,isPtr,hti,hfind,hpath,hfunc,hu,hiff⟩:=qR6 hm;have hr:(method (P.types.size+Made.depth) t v name).run P w=.ok (f,v) w:=by
    rw[hfuel];simp only[method,Sem.run_bind,run_typeInfo hti,Result.andThen_ok,hfind,hpath,follow,Sem.run_pure,hfunc,receiverAt,Q9 hu]
    cases d <;> first
     | (
      have:isPtr=true:=hiff.1 ⟨_,rfl⟩
      subst this;rfl)
     | (
      have:isPtr=false:=by
       cases isPtr
       .rfl
       .obtain⟨e,he⟩:=hiff.2 rfl;cases he
      subst this;rfl)
   have e:(callMethod (.iface t v) name vs).run P w=(callFunc f (#[v]++vs)).run P w:=by simp only[callMethod,Sem.run_bind,run_program,Result.andThen_ok,hr]
   rw[e];exact qGj r (by simpa using VRs.cons _ _ _ _ hv hl) hs1
  | load f el =>
   rw[hm] at hs1;obtain⟨ti,m,hti,hfind,hpath,hfunc,hu⟩:=qWz hm;cases hv with
   | ptr i o b x hi hx =>
    subst hx;obtain⟨v',av,h1,h2,h3⟩:=qJ9 r hi (show (qPp P el i o λv'=>qHi P call f (v'::l) k kp).sat p h from hs1);have hr:(method (P.types.size+Made.depth) t (.pointer (some ⟨b,E.base i+o,none⟩)) name).run P w=.ok (f,v') w:=by
     rw[hfuel];simp only[method,Sem.run_bind,run_typeInfo hti,Result.andThen_ok,hfind,hpath,follow,Sem.run_pure,hfunc,receiverAt,Q9 hu];have hpe:m.path.isEmpty=true:=by rw[toArr' hpath];rfl
     simp only[hpe,if_true,Place.get,Sem.run_bind,Sem.run_pure,Result.andThen_ok,jBx,asAddr,h1]
    have e:(callMethod (.iface t (.pointer (some ⟨b,E.base i+o,none⟩))) name vs).run P w=(callFunc f (#[v']++vs)).run P w:=by simp only[callMethod,Sem.run_bind,run_program,Result.andThen_ok,hr]
    rw[e];exact qGj r (by simpa using VRs.cons _ _ _ _ h2 hl) h3
   | _=>exact False.elim hs1
  | field f ft off =>
   rw[hm] at hs1;obtain⟨ti,m,s,fs,fd,el,hti,hfind,hpath,hfunc,hder,hu,hfd,hel,rfl,rfl⟩:=qTh hm;cases hv with
   | agg cs xs hc =>
    obtain⟨v',av,h1,h2,h3⟩:=qF3 hc (show (qA P fd.type cs fd.offset λv'=>qHi P call f (v'::l) k kp).sat p h from hs1) w;have hr:(method (P.types.size+Made.depth) t (.agg xs) name).run P w=.ok (f,v') w:=by rw[hfuel];simp only[method,Sem.run_bind,run_typeInfo hti,Result.andThen_ok,hfind,hpath,follow,Sem.run_pure,hfunc,Q9 hu,hfd,hder,h1,receiverAt,Q9 hel,Place.get,Bool.false_eq_true,if_false]
    have e:(callMethod (.iface t (.agg xs)) name vs).run P w=(callFunc f (#[v']++vs)).run P w:=by simp only[callMethod,Sem.run_bind,run_program,Result.andThen_ok,hr]
    rw[e];exact qGj r (by simpa using VRs.cons _ _ _ _ h2 hl) h3
   | _=>exact False.elim hs1
  | no=>rw[hm] at hs1;exact False.elim hs1
 | _=>exact False.elim hs
end
end Go.X
namespace Go.X
open Go Go.RowKit
section
variable {P:Program} {W0:World} {E:Env} {h:Q0} {p:QF} {w:World} {k:KV} {c:OC} {ρ:Operand->Value} {kd:qk->FM} {kp:QD->FM} {call:Qw} {round:Qs}
theorem qYe (r:Rel P W0 E h w) (hfit:qF9 round) {f:AFn} {g:Fn} (hf:FnR E f g) {l cs:List AV} {vs cap:Array Value} (hl:VRs E l vs.toList) (hc:VRs E cs cap.toList) (hs:(qN8 P call round f l cs k kp).sat p h) :
  Upon P W0 E h k kd kp call round p ((invoke (.fn g cap) vs).run P w):=by
 cases hf with
 | plain =>
  cases g with
  | func f =>
   have hs1:(Jj l cs λl=>qHi P call f l k kp).sat p h:=hs;rw[qz] at hs1;have e:(invoke (.fn (.func f) cap) vs).run P w=(callFunc f (vs++cap)).run P w:=by simp[invoke]
   rw[e];exact qGj r (by rw[Array.toList_append];exact hl.append hc) hs1
  | method name =>
   have hs1:(consM l (.fail 73) λr rest=>qEz P call r name rest k kp).sat p h:=hs;obtain⟨vs⟩:=vs;cases hl with
   | nil=>exact False.elim hs1
   | cons a v l m hv t =>
    have e:(invoke (.fn (.method name) cap) ⟨v::m⟩).run P w=(callMethod v name ⟨m⟩).run P w:=by
     have e0:(⟨v::m⟩:Array Value)[0]?=some v:=rfl;have e1:(⟨v::m⟩:Array Value).extract 1 (⟨v::m⟩:Array Value).size=⟨m⟩:=by apply Array.ext';rw[Array.toList_extract];simp[List.extract_eq_take_drop]
     simp only[invoke,Sem.run_bind,e0,e1]
    rw[e];exact qKw r hv t hs1
  | _=>exact False.elim hs
 | yield i b hi =>
  have hs1:(round i l k).sat p h:=hs;obtain⟨lp,hg,hlen⟩:=hfit _ _ _ _ _ hs1;obtain⟨b',o,hb',hw,hor⟩:=r.obj i _ hg;rw[hi] at hb';cases hb';cases hor with
  | loop _ rr hst hp N ht hps ha hb hd =>
   have hsz:vs.size=rr.params.size:=by
    have h1:=hl.length;have h2:rr.params.toList.length+1=lp.params.length:=by rw[hps];rfl
    simp only[Array.length_toList] at h1 h2;omega
   have e:(invoke (.fn (.yield b) cap) vs).run P w=.ok (.round b rr.fn ((rr.params.zip vs).foldl (λtmps (t,a)=>tmps.setIfInBounds t a) rr.tmps) rr.assign rr.body) w:=by show (Instr.yield b vs).run P w=_;exact run_yield hw hsz
   rw[e];exact⟨E,h,i,l,vs,lp,rr,.refl _ _,r,hi,hl,hg,hw,hsz,rfl,rfl,rfl,rfl,hs1⟩
theorem qNk {a:AV} {v:Value} (ha:VR E a v) {kk:AFn->List AV->List AV->FM} {n:Nat} (hs:(a.onFunc kk (.fail n)).sat p h) :
  ∃f g l cs x y,a=.func f l cs/\v=.func g x y/\FnR E f g/\VRs E l x.toList/\VRs E cs y.toList/\(kk f l cs).sat p h:=by
 cases ha with
 | func f g l cs x y hf hl hc=>exact⟨f,g,l,cs,x,y,rfl,rfl,hf,hl,hc,hs⟩
 | _=>exact False.elim hs
theorem jG8 (r:Rel P W0 E h w) {b:Builtin} {l:List AV} {vs:Array Value} (hl:VRs E l vs.toList) {ts:Array TypeId} {ty:TypeId} {cst:Array Bool} (hs:(bltK P b l ts k).sat p h) :
  Upon P W0 E h k kd kp call round p ((builtin b ts ty cst vs).run P w):=by
 cases b with
 | append=>exact (qTm r hl hs).upon
 | cap=>exact (jDt r hl hs).upon
 | clear=>exact (qXm r hl hs).upon
 | copy=>exact (jAp r hl hs).upon
 | delete =>
  obtain⟨t,h0,hs1⟩:=Qe (show (jFi P l ts k).sat p h from hs);obtain⟨a,b,u,v,e0,e1,hu,hv,hs2⟩:=qS0 hl hs1;rw[Array.getElem?_toList] at e0 e1;exact (qVm r h0 e0 e1 hu hv hs2).upon
 | len=>exact (jDs r hl hs).upon
 | max=>exact (jDr r hl hs).upon
 | min=>exact (jDq r hl hs).upon
 | _=>exact False.elim hs
theorem jCu (r:Rel P W0 E h w) (hfit:qF9 c.round) (hev:∀x,VR E (c.ev x) (ρ x)) {cl:Call} {ty:TypeId} (hs:(oCall P cl c k kd kp).sat p h) :
  Upon P W0 E h k kd kp c.call c.round p ((do let d <- resolve ρ cl ty;invoke d.target d.args:Sem Next).run P w):=by
 obtain⟨callee,args,argTypes⟩:=cl;have hargs:VRs E (c.evs args.toList) (args.map ρ).toList:=by rw[Array.toList_map];exact qSk hev _
 cases callee with
 | value f =>
  have hs1:((c.ev f).onFunc (λg first captured=>Jj first (c.evs args.toList) λl=>qN8 P c.call c.round g l captured k kp) (.fail 153)).sat p h:=hs;obtain⟨fa,g,l,cs,x,y,e1,e2,hf,hl,hc,hs2⟩:=qNk (hev f) hs1;rw[qz] at hs2;simp only[resolve,Sem.run_bind,e2,Deferred.ofValue,Sem.run_pure,Result.andThen_ok];exact qYe r hfit hf (by rw[Array.toList_append];exact hl.append hargs) hc hs2
 | invoke recv name =>
  have hs1:(qEz P c.call (c.ev recv) name (c.evs args.toList) k kp).sat p h:=hs;simp only[resolve,Sem.run_bind,Sem.run_pure,Result.andThen_ok];have e:(invoke (.fn (.method name) #[]) (#[ρ recv]++args.map ρ)).run P w=(callMethod (ρ recv) name (args.map ρ)).run P w:=by
   have e0:(#[ρ recv]++args.map ρ)[0]?=some (ρ recv):=by rw[Array.getElem?_append_left (by simp)];rfl
   have e1:(#[ρ recv]++args.map ρ).extract 1 (#[ρ recv]++args.map ρ).size=args.map ρ:=by apply Array.ext';rw[Array.toList_extract];simp[List.extract_eq_take_drop];rw[List.take_of_length_le (by simp)]
   simp only[invoke,Sem.run_bind,e0,e1]
  rw[e];exact qKw r (hev recv) hargs hs1
 | builtin b =>have hs1:(bltK P b (c.evs args.toList) argTypes k).sat p h:=hs;simp only[resolve,Sem.run_bind,Sem.run_pure,Result.andThen_ok];exact jG8 r hargs hs1
theorem qOh (r:Rel P W0 E h w) (hev:∀x,VR E (c.ev x) (ρ x)) {cl:Call} {ty:TypeId} (hs:(jEt cl c k kd kp).sat p h) :
  Upon P W0 E h k kd kp call round p ((do pure (.defer (<- resolve ρ cl ty)):Sem Next).run P w):=by
 obtain⟨callee,args,argTypes⟩:=cl;have hargs:VRs E (c.evs args.toList) (args.map ρ).toList:=by rw[Array.toList_map];exact qSk hev _
 cases callee with
 | value f =>
  have hs1:((c.ev f).onFunc (λg first captured=>Jj first (c.evs args.toList) λl=>afnM g (λ_=>Jj l captured λl'=>kd ⟨g,l'⟩) (λ_=>.fail 155) (λ_=>.fail 155) (.fail 155)) (.fail 155)).sat p h:=hs;obtain⟨fa,g,l,cs,x,y,e1,e2,hf,hl,hc,hs2⟩:=qNk (hev f) hs1;rw[qz] at hs2;simp only[resolve,Sem.run_bind,e2,Deferred.ofValue,Sem.run_pure,Result.andThen_ok];cases hf with
  | plain =>
   cases g with
   | func f =>
    have hs3:(Jj (l++c.evs args.toList) cs λl'=>kd ⟨.plain (.func f),l'⟩).sat p h:=hs2;rw[qz] at hs3;exact⟨E,h,_,.refl _ _,r,.fn f _ y (x++args.map ρ) (by rw[Array.toList_append,Array.toList_append];exact (hl.append hargs).append hc),hs3⟩
   | _=>exact False.elim hs2
  | yield=>exact False.elim hs2
 | _=>exact False.elim hs
theorem qHx (r:Rel P W0 E h w) (hfit:qF9 c.round) (hev:∀x,VR E (c.ev x) (ρ x)) {o:Oper} (hs:(opK P o.op c k kd kp).sat p h):Upon P W0 E h k kd kp c.call c.round p ((execOp ρ o).run P w):=by
 obtain⟨dst,op,ty,pos,after,guard⟩:=o;cases op with
 | move x=>exact upon_value r (hev x) hs
 | assign x=>exact upon_value r (hev x) hs
 | pick x a b =>
  have hs1:((c.ev x).onBool (λt=>cnd t (k (c.ev a)) (k (c.ev b))) (.fail 100)).sat p h:=hs;have hx:=hev x;generalize hav:c.ev x=ax at hx hs1;generalize hv:ρ x=vx at hx;cases hx with
  | bool t =>
   have hs2:(cnd t (k (c.ev a)) (k (c.ev b))).sat p h:=hs1;show Upon P W0 E h k kd kp c.call c.round p ((do pure (.value (if <- asBool (ρ x) then ρ a else ρ b)):Sem Next).run P w);simp only[Sem.run_bind,hv,asBool,Sem.run_pure,Result.andThen_ok];cases t
   .exact upon_value r (hev b) hs2
   .exact upon_value r (hev a) hs2
  | _=>exact False.elim hs1
 | alloc e=>exact (qZm r (show (oAlloc P e c k kd kp).sat p h from hs)).upon
 | box e x=>exact (jGn r hev (show (oBox e x c k kd kp).sat p h from hs)).upon
 | build t parts=>exact (qZk r hev (show (qZl P t parts c k kd kp).sat p h from hs)).upon
 | buildSlice t len parts=>exact (qNn r hev (show (qJ3 P t len parts c k kd kp).sat p h from hs)).upon
 | insert t m key v =>
  obtain⟨w',h',h1,h2,h3,h4⟩:=qKv r (hev m) (hev key) (hev v) (show (qJo P t (c.ev m) (c.ev key) (c.ev v) k).sat p h from hs);show Upon P W0 E h k kd kp c.call c.round p ((do Instr.mapUpdate t (ρ m) (ρ key) (ρ v);pure .skip:Sem Next).run P w);simp only[Sem.run_bind,h1,Result.andThen_ok,Sem.run_pure];exact⟨E,h',h2,h3,h4⟩
 | load t x=>exact (jCt r hev (show (oLoad P t x c k kd kp).sat p h from hs)).upon
 | store t x y =>
  obtain⟨w',h',h1,h2,h3,h4⟩:=qZe r hev (show (jEo P t x y c k kd kp).sat p h from hs);show Upon P W0 E h k kd kp c.call c.round p ((do Instr.storeAt t (ρ x) (ρ y);pure .skip:Sem Next).run P w);simp only[Sem.run_bind,h1,Result.andThen_ok,Sem.run_pure];exact⟨E,h',h2,h3,h4⟩
 | nilCheck x =>
  obtain⟨av,h1,h2,h3⟩:=qRy r hev (show (qL4 x c k kd kp).sat p h from hs);have e:(execOp ρ ⟨dst,.nilCheck x,ty,pos,after,guard⟩).run P w=.ok (.value (ρ x)) w:=by
   rcases h3 with ⟨a,e⟩ | ⟨t,v,e⟩ | ⟨f,a,b,e,hne⟩
   .simp only[execOp,e];rfl
   .simp only[execOp,e];rfl
   .simp only[execOp,e];cases f <;> first | rfl | exact absurd rfl (hne _)
  rw[e];exact upon_value r h1 h2
 | binOp op t x y yt=>exact (jDu r (hev x) (hev y) (show (qTo P (cnd (isLit x) true (isLit y)) op t (c.ev x) (c.ev y) k).sat p h from hs)).upon
 | unOp op t x=>exact (jF5 r hev (show (oUnOp op t x c k kd kp).sat p h from hs)).upon
 | convert s d x=>exact (qXk r (hev x) (show (jg P s d (c.ev x) k).sat p h from hs)).upon
 | makeInterface t x=>exact (qJb r hev (show (qFv P t x c k kd kp).sat p h from hs)).upon
 | makeFunc f a b=>exact (qRz r hev (show (qR0 f a b c k kd kp).sat p h from hs)).upon
 | makeMap t x=>exact (qTf r hev (show (qWr P t x c k kd kp).sat p h from hs)).upon
 | makeSlice t l m=>exact (qPj r hev (show (qNm P t l m c k kd kp).sat p h from hs)).upon
 | slice t x lo hi mx=>exact (qZf r hev (show (oSlice P t x lo hi mx c k kd kp).sat p h from hs)).upon
 | fieldAddr t x f=>exact (qPl r hev (show (qI2 P t x f c k kd kp).sat p h from hs)).upon
 | field t x f=>exact (qZi r hev (show (jEr P t x f c k kd kp).sat p h from hs)).upon
 | indexAddr t x y=>exact (qPk r hev (show (qI1 P t x y c k kd kp).sat p h from hs)).upon
 | index t x y=>exact (qZh r hev (show (jEq P t x y c k kd kp).sat p h from hs)).upon
 | lookup t x y ok=>exact (qVl r (hev x) (hev y) (show (qQn P t (c.ev x) (c.ev y) ok k).sat p h from hs)).upon
 | mapUpdate t m key v =>
  obtain⟨w',h',h1,h2,h3,h4⟩:=qKv r (hev m) (hev key) (hev v) (show (qJo P t (c.ev m) (c.ev key) (c.ev v) k).sat p h from hs);show Upon P W0 E h k kd kp c.call c.round p ((do Instr.mapUpdate t (ρ m) (ρ key) (ρ v);pure .skip:Sem Next).run P w);simp only[Sem.run_bind,h1,Result.andThen_ok,Sem.run_pure];exact⟨E,h',h2,h3,h4⟩
 | range t x=>exact (qZg r hev (show (jEp P t x c k kd kp).sat p h from hs)).upon
 | next x s=>exact (jCs r hev (show (oNext x s c k kd kp).sat p h from hs)).upon
 | entry x=>exact (qZj r hev (show (jEs x c k kd kp).sat p h from hs)).upon
 | typeAssert x xt as ok=>exact (qNl r hev (show (qJ2 P x xt as ok c k kd kp).sat p h from hs)).upon
 | extract x ix=>exact (qTg r hev (show (qP0 x ix c k kd kp).sat p h from hs)).upon
 | call cl=>exact jCu r hfit hev hs
 | defer cl=>exact qOh r hev (show (jEt cl c k kd kp).sat p h from hs)
 | panic x =>
  have hs1:((c.ev x).onIface (λt v=>kp [(.iface t v,false)]) (.fail 157)).sat p h:=hs;have hx:=hev x;generalize hav:c.ev x=ax at hx hs1;generalize hv:ρ x=vx at hx;cases hx with
  | iface t a v hv2 =>
   show Upon P W0 E h k kd kp c.call c.round p ((do pure (.value (<- Instr.panic (ρ x))):Sem Next).run P w);simp only[Sem.run_bind,hv,Instr.panic,run_goPanic,Result.andThen_halt];exact⟨E,h,_,.refl _ _,r,.cons _ _ _ _ _ (.iface t a v hv2) .nil,hs1⟩
  | _=>exact False.elim hs1
 | _=>exact False.elim hs
end
end Go.X
