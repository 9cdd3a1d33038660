/-
 PROVED: entries,sorts and functions whose results' room is made known,as summaries,slices of bytes,rows,maps by strings,changes between lists,as plain laws. Condition: each law's own.
-/
import Derived.Test.YtppjfhdhgofeiaaXg
import Derived.Sort.EncStr
import Derived.Sort.Grow
set_option linter.unusedVariables false
set_option linter.unusedSimpArgs false
open List renaming mem_cons_of_mem -> zA0, mem_cons_self -> zB0, length_append -> zC0, mem_of_getElem? -> zD0, getElem?_eq_getElem -> zE0, length_map -> zJ0, length_cons -> zK0, append_nil -> zS0, flatMap_cons -> zU0, getElem?_map -> zV0, append_assoc -> zX0, length_take -> zY0, length_replicate -> zZ0, getElem?_append_right -> zD1
open Nat renaming lt_of_lt_of_le -> zF0, ble_eq_true_of_le -> zG0, le_refl -> zN0, lt_succ_self -> zO0, le_trans -> zP0, zero_le -> zA1, le_of_ble_eq_true -> zB1, mul_one -> zC1
noncomputable section
namespace Go.X
open Go Go.RowKit
section
variable {P:Program} {W0:World} {p:QQ} {m:FM}
def whenC (p:Prop) (a b:FM):FM:=@ite FM p (Classical.propDecidable p) a b
theorem qB9 {p:Prop} {a b:FM} (h:p):whenC p a b=a:=if_pos h
theorem whenC_neg {p:Prop} {a b:FM} (h:¬p):whenC p a b=b:=if_neg h
end
section
variable {P:Program} {W:World} {G g:Nat} {cs:List AV}
end
end Go.X
namespace Go.X
open Go Go.RowKit Go.Sort Go.Proofs
def strs (l:List AV):List (List Nat):=match l with | []=>[] | .str s::r=>s::strs r | _::r=>strs r
def u8s (s:List Nat):List UInt8:=s.map UInt8.ofNat
def qAj (l:List (List Nat)):List (List Nat):=((l.map u8s).mergeSort λx y=>decide (x<=y)).map λs=>s.map UInt8.toNat
def qCi (c:List AV) (o len:Nat):Prop:=(c.drop o).take len=(strs ((c.drop o).take len)).map AV.str/\(strs ((c.drop o).take len)).length=len/\len<4611686018427387904/\o+len<=c.length
def sortX:List AV->KV->(QR->FM)->FM:=λargs k _=>match args with
 | [.slice i o len _ _]=>.get i λob=>match ob with
  | .cells c e g mk=>whenC (qCi c o len) (.set i (.cells (c.take o++((qAj (strs ((c.drop o).take len))).map AV.str++c.drop (o+len))) e g mk) (k (.tuple []))) (.fail 230)
  | _=>.fail 231
 | [.nils]=>k (.tuple [])
 | _=>.fail 232
def qDg (P:Program) (f:FuncId):Prop:=(∀(p:Option Addr) (cap:Nat) (w:World),Calls P f #[.slice p 0 cap] w λe w'=>e=.returned (.tuple #[])/\w'=w)/\∀(blk off cap:Nat) (ss:List (List UInt8)) (w:World),Holds encStr w blk off ss.toArray->blk<w.heap.size->ss.length<4611686018427387904 ->
 Calls P f #[.slice (some ⟨blk,off,none⟩) ss.length cap] w λe w'=>e=.returned (.tuple #[])/\∃n os,w'=grow (putRow encStr (Sort.ahead w n) blk off (ss.mergeSort λx y=>decide (x<=y)).toArray) os
theorem u8s_bs (b:ByteArray):encStr (u8s (bs b))=.string b:=by obtain⟨d⟩:=b;simp[encStr,u8s,bs,Function.comp_def]
theorem qBd {enc:List UInt8->Value} {off:Nat} {d:Array (List UInt8)} {c:Array Value} (h:off+d.size<=c.size):(putCells enc off d c).toList=c.toList.take off++(d.toList.map enc++c.toList.drop (off+d.size)):=by
 apply List.ext_getElem?;intro k;unfold putCells;rw[Array.getElem?_toList,Array.getElem?_mapIdx];rcases Nat.lt_or_ge k off with h1 | h1
 .rw[List.getElem?_append_left (by simp;omega),List.getElem?_take_of_lt h1,Array.getElem?_toList];cases c[k]? with
  | none=>rfl
  | some v=>simp only[Option.map_some];rw[if_neg (by omega)]
 .rw[zD1 (by simp;omega)];have e1:(c.toList.take off).length=off:=by simp;omega
  rw[e1];rcases Nat.lt_or_ge k (off+d.size) with h2 | h2
  .rw[List.getElem?_append_left (by simp;omega),zV0,Array.getElem?_toList];have hk:k<c.size:=by omega
   rw[Array.getElem?_eq_getElem hk,Array.getElem?_eq_getElem (show k-off<d.size by omega)];simp only[Option.map_some];rw[if_pos ⟨h1,h2⟩,getElem!_pos d (k-off) (by omega)]
  .rw[zD1 (by simp;omega),List.getElem?_drop];simp only[zJ0,Array.length_toList];rw[show off+d.size+(k-off-d.size)=k by omega,Array.getElem?_toList];cases c[k]? with
   | none=>rfl
   | some v=>simp only[Option.map_some];rw[if_neg (by omega)]
theorem qDe {E:Env}:∀l:List (List UInt8),VRs E ((l.map λs=>s.map UInt8.toNat).map AV.str) (l.map encStr)
 | []=>.nil
 | s::l=>.cons _ _ _ _ (.str _ _ (by simp[bs])) (qDe l)
theorem Stp.putO {E:Env} {h:Q0} (i:Nat) (o:Option QB):Stp E h E (h.put i o):=⟨.refl _,λ_ _ h=>.inl h,rfl,zN0 _⟩
theorem qDl {P:Program} {W0:World} {f:FuncId} (hf:qDg P f):qk P W0 (λg=>match Nat.beq g f with | true=>some sortX | false=>none):=by
 intro g s hg args k kp p E h w vs hb hs r hv;cases hbq:Nat.beq g f with
 | false=>simp only[hbq] at hg;cases hg
 | true =>
  simp only[hbq] at hg
  have:=Nat.eq_of_beq_eq_true hbq
  subst this;cases hg;unfold sortX at hs;split at hs
  .rename_i i o len cp ext;obtain⟨ob,hgi,hs⟩:=hs;cases ob with
   | cells c e gr mk =>
    have hs:(whenC (qCi c o len) (.set i (.cells (c.take o++((qAj (strs ((c.drop o).take len))).map AV.str++c.drop (o+len))) e gr mk) (k (.tuple []))) (.fail 230)).sat p h:=hs;by_cases hc:qCi c o len
    .rw[qB9 hc] at hs;obtain⟨hlt,hs⟩:=hs;obtain⟨hc1,hc2,hc3,hoc⟩:=hc;generalize hss:strs ((c.drop o).take len)=ss at hc1 hc2 hs;obtain⟨v,rfl,hv1⟩:∃v,vs=#[v]/\VR E (.slice i o len cp ext) v:=by
      generalize hl:vs.toList=l at hv;cases hv with
      | cons _ v _ m h1 t =>cases t;exact⟨v,by rw[<- Array.toArray_toList (xs:=vs),hl],h1⟩
     cases hv1 with
     | slice _ _ _ _ _ b x cc hE hx hcc =>
      obtain⟨b',obj,hb',hw,hor⟩:=r.obj i _ hgi;rw[hE] at hb';cases hb';cases hor with
      | cells _ _ _ _ cs ty fr pre c1 rest hcs hpre hcc1 hrest hfr =>
       have hlen:=hcc1.length;have hsz:cs.size=pre.length+(c1.length+rest.length):=by rw[<- Array.length_toList,hcs];simp
       have hat:∀j,j<len->∃s ba,ss[j]?=some s/\cs[x+j]?=some (.string ba)/\bs ba=s:=by
        intro j hj;have e1:ss[j]?=some (ss[j]'(by omega)):=zE0 (by omega);have e2:c[o+j]?=some (.str (ss[j]'(by omega))):=by
         have:((c.drop o).take len)[j]?=some (.str (ss[j]'(by omega))):=by rw[hc1,zV0,e1];rfl
         rw[List.getElem?_take_of_lt hj,List.getElem?_drop] at this;exact this
        obtain⟨y,hy,hyv⟩:=hcc1.get _ _ e2;cases hyv with
        | str _ ba hbs =>refine⟨_,ba,e1,?_,hbs⟩;rw[<- Array.getElem?_toList,hcs,hx,<- hpre,zD1 (by omega),show pre.length+o+j-pre.length=o+j by omega,List.getElem?_append_left (by omega)];exact hy
       have hH:Holds encStr w b x (ss.map u8s).toArray:=by
        intro j hj;simp only[List.size_toArray,zJ0,hc2] at hj;obtain⟨s,ba,h1,h2,h3⟩:=hat j hj;have hj2:x+j<cs.size:=(Array.getElem?_eq_some_iff.1 h2).1;constructor
        .rw[qOl hw,h2];congr 1;rw[getElem!_pos _ j (by simp;omega)];simp only[List.getElem_toArray,List.getElem_map]
         have:ss[j]'(by omega)=s:=(List.getElem?_eq_some_iff.1 h1).2
         rw[this,<- h3,u8s_bs]
        .rw[qG5 hw,Bool.and_eq_false_iff]
         have:=hfr.free (x+j) (.inr hj2)
         by_cases h:fr.1<=x+j
         .exact .inr (by simp;omega)
         .exact .inl (by simp;omega)
       have hbw:b<w.heap.size:=r.bound i b hE;have hcall:=hf.2 b x cc (ss.map u8s) w hH hbw (by simp;omega);rw[zJ0,hc2] at hcall;refine hcall.mono λen w' ⟨he,n,os,hw'⟩=>?_;subst he;subst hw';generalize hd:((ss.map u8s).mergeSort λx y=>decide (x<=y))=d at hs ⊢;have hdl:d.length=len:=by rw[<- hd,List.length_mergeSort,zJ0,hc2]
       have hst:qAj ss=d.map λs=>s.map UInt8.toNat:=by unfold qAj;rw[hd]
       rw[hst] at hs;have hpc:=qBd (enc:=encStr) (off:=x) (d:=d.toArray) (c:=cs) (by simp only[List.size_toArray,hdl];omega);have hxt:cs.toList.take x=pre++c1.take o:=by rw[hcs,hx,<- hpre,List.take_append,List.take_of_length_le (by omega),show pre.length+o-pre.length=o by omega,List.take_append_of_le_length (by omega)]
       have hxd:cs.toList.drop (x+len)=c1.drop (o+len)++rest:=by rw[hcs,hx,<- hpre,List.drop_append,List.drop_of_length_le (by omega),show pre.length+o+len-pre.length=o+len by omega,List.nil_append,List.drop_append_of_le_length (by omega)]
       have r2:=r.set (a1:=.cells (c.take o++((d.map λs=>s.map UInt8.toNat).map AV.str++c.drop (o+len))) e gr mk) (o1:=.cells (putCells encStr x d.toArray cs) ty fr) hgi hE (by rintro (h | ⟨c,h⟩) <;> cases h) (λes v h=>by cases h) (by
        refine .cells _ _ _ _ _ _ _ pre (c1.take o++(d.map encStr++c1.drop (o+len))) rest ?_ hpre ?_ hrest ?_
        .rw[hpc];simp only[List.size_toArray,hdl,hxt,hxd,zX0]
        .exact (hcc1.take o).append ((qDe d).append (hcc1.drop _))
        .have:(putCells encStr x d.toArray cs).size=cs.size:=by simp[putCells]
         rw[this];exact hfr)
       have hheap:(putRow encStr (Sort.ahead w n) b x d.toArray).heap=(w.putObj b (.cells (putCells encStr x d.toArray cs) ty fr)).heap:=by
        apply Array.ext_getElem?;intro q;by_cases e:q=b
        .subst e;rw[World.putObj_heap_same hbw];show (w.heap.modify q (Go.Sort.onCells (putCells encStr x d.toArray)))[q]?=_;rw[Array.getElem?_modify,if_pos rfl,hw];rfl
        .rw[World.putObj_heap_other e];show (w.heap.modify b (Go.Sort.onCells (putCells encStr x d.toArray)))[q]?=_;rw[Array.getElem?_modify,if_neg (Ne.symm e)]
       have r3:Rel P W0 E _ (putRow encStr (Sort.ahead w n) b x d.toArray):=r2.same hheap rfl rfl rfl;have r4:=r3.garbage (w':=grow (putRow encStr (Sort.ahead w n) b x d.toArray) os) ⟨rfl,rfl,rfl,by simp[grow],λq hq=>by
        show (_++os)[q]?=_;rw[Array.getElem?_append_left hq]⟩
       exact⟨E,_,_,Stp.putO i _,r4,.tuple _ _ .nil,hs⟩
    .rw[whenC_neg hc] at hs;exact False.elim hs
   | _=>exact False.elim hs
  .obtain⟨v,rfl,hv1⟩:∃v,vs=#[v]/\VR E .nils v:=by
    generalize hl:vs.toList=l at hv;cases hv with
    | cons _ v _ m h1 t =>cases t;exact⟨v,by rw[<- Array.toArray_toList (xs:=vs),hl],h1⟩
   cases hv1;refine (hf.1 none 0 w).mono λen w' ⟨he,hw'⟩=>?_;subst he;subst hw';exact⟨E,h,_,Stp.refl _ _,r,.tuple _ _ .nil,hs⟩
  .exact False.elim hs
def sortZ:List ZV->ZK->Q0->Prop:=λargs K h=>match args with
 | [.sl s]=>(s.nil=true/\s.ext=false/\K (.tup []) h)∨(s.nil=false/\∃c e g mk,h.get s.i=some (.cells c e g mk)/\s.i<h.next/\qCi c s.o s.len/\K (.tup []) (h.put s.i (some (.cells (c.take s.o++((qAj (strs ((c.drop s.o).take s.len))).map AV.str++c.drop (s.o+s.len))) e g mk))))
 | _=>False
theorem sort_fit (f:FuncId):SumFit (λg=>match Nat.beq g f with | true=>some sortZ | false=>none) (λg=>match Nat.beq g f with | true=>some sortX | false=>none):=by
 constructor
 .intro g hg;cases hb:Nat.beq g f with
  | true=>simp only[hb] at hg;cases hg
  | false=>rfl
 .intro g s hg;cases hb:Nat.beq g f with
  | false=>simp only[hb] at hg;cases hg
  | true =>
   simp only[hb] at hg;cases hg;refine⟨sortX,rfl,?_⟩;intro args K h hi hs kp k p hp;unfold sortZ at hs;split at hs
   .rename_i s;rcases hs with ⟨hn,he,hk⟩ | hs
    .have hav:avs [ZV.sl s]=[.nils]:=by simp[SL.av,hn,he]
     rw[hav]
     have:=hp _ _ hi hk
     show (k (.tuple [])).sat p h;simpa using this
    obtain⟨hn,c,e,g,mk,hgi,hlt,ok,hk⟩:=hs;have hav:avs [ZV.sl s]=[.slice s.i s.o s.len s.cap s.ext]:=by simp[SL.av,hn]
    rw[hav];refine⟨_,hgi,?_⟩;show (whenC (qCi c s.o s.len) _ _).sat p h;rw[qB9 ok];refine⟨hlt,?_⟩
    have:=hp _ _ (by exact hi) hk
    simpa using this
   .exact hs.elim
end Go.X
namespace Go.X
abbrev Qa (_:Nat):Prop:=False
theorem SL.n_nil {s:SL} (e:s.nil=true):s.n=0:=by unfold SL.n;rw[e]
theorem SL.n_of {s:SL} (e:s.nil=false):s.n=s.len:=by unfold SL.n;rw[e]
structure Seg (h:Q0) (s:SL) (sz:Nat) (cs:List AV):Prop where
 len:cs.length=s.n*sz
 lt:s.nil=false->s.i<h.next
 src:s.nil=false->∃c,qn h s.i=some c/\(c.drop s.o).take (s.len*sz)=cs/\s.len*sz<=(c.drop s.o).length
theorem Seg.fr {S:Nat->Prop} {h h':Q0} {s:SL} {sz:Nat} {cs:List AV} (x:Seg h s sz cs) (f:Q5 S h h') (hs:s.nil=false->¬S s.i):Seg h' s sz cs :=
 ⟨x.len,λe=>zF0 (x.lt e) f.next,λe=>by rw[qQi (f.same _ (x.lt e) (hs e))];exact x.src e⟩
theorem Seg.nil_cs {h:Q0} {s:SL} {sz:Nat} {cs:List AV} (x:Seg h s sz cs) (e:s.nil=true):cs=[] :=
 List.eq_nil_of_length_eq_zero (by rw[x.len,SL.n_nil e,Nat.zero_mul])
theorem Seg.at' {h:Q0} {s:SL} {sz:Nat} {cs:List AV} (x:Seg h s sz cs) (e:s.nil=false) {q:Nat} {v:AV} (hq:cs[q]?=some v):cellAt h s.i (s.o+q)=some v:=by
 obtain⟨c,hc,h1,h2⟩:=x.src e;unfold cellAt;rw[hc];show c[s.o+q]?=_;have hl:q<s.len*sz:=by
  have:=(List.getElem?_eq_some_iff.1 hq).1
  rw[x.len,SL.n_of e] at this;exact this
 rw[<- h1,List.getElem?_take_of_lt hl,List.getElem?_drop] at hq;exact hq
theorem Seg.zsrc {h:Q0} {s:SL} {sz:Nat} {cs:List AV} {K:List AV->Prop} (x:Seg h s sz cs) (k:K cs):jY h s sz K :=
 ⟨cs,λe=>x.nil_cs e,λe=>x.src e,k⟩
theorem Seg.nil (h:Q0) (sz:Nat) (ext:Bool):Seg h ⟨true,0,0,0,0,ext⟩ sz []:=⟨by simp[SL.n],λe=>(by cases e),λe=>(by cases e)⟩
theorem Seg.own {h:Q0} {i n cap:Nat} {ext:Bool} {cs more:List AV} {sz e:Nat} {g m:Bool} (hl:cs.length=n*sz) (hi:i<h.next) (hg:h.get i=some (.cells (cs++more) e g m)):Seg h ⟨false,i,0,n,cap,ext⟩ sz cs :=
 ⟨hl,λ_=>hi,λ_=>⟨_,qEg hg,by rw[List.drop_zero];show List.take (n*sz) _=_;rw[<- hl,List.take_left],by rw[List.drop_zero,zC0];show n*sz<=_;omega⟩⟩
theorem Grown.seg {h0 h:Q0} {s:SL} {sz n:Nat} {cs:List AV} (g:Grown h0 h s sz n cs):Seg h s sz cs:=by
 obtain⟨hl,g⟩:=g;rcases g with ⟨rfl,rfl⟩ | ⟨h1,h2,h3,h4,h5,h6,h7,h8⟩
 .have:cs=[]:=List.eq_nil_of_length_eq_zero (by rw[hl];simp)
  subst this;exact Seg.nil _ _ _
 .obtain⟨nil,i,o,len,cap,ext⟩:=s;simp only at h1 h2 h3 h4 h5 h6 h7 h8;subst h1;subst h2;subst h3;exact Seg.own (more:=[]) hl h7 (by rw[zS0];exact h8)
theorem Grown.n_eq {h0 h:Q0} {s:SL} {sz n:Nat} {cs:List AV} (g:Grown h0 h s sz n cs):s.n=n:=by
 rcases g.2 with ⟨rfl,rfl⟩ | ⟨h1,_,h3,_⟩
 .rfl
 .rw[SL.n_of h1];exact h3
theorem Grown.fr {h0 h h':Q0} {s:SL} {sz n:Nat} {cs:List AV} (g:Grown h0 h s sz n cs) {S:Nat->Prop} (f:Q5 S h h') (hs:s.nil=false->¬S s.i):Grown h0 h' s sz n cs:=by refine⟨g.1,g.2.imp id λ⟨h1,h2,h3,h4,h5,h6,h7,h8⟩=>⟨h1,h2,h3,h4,h5,h6,zF0 h7 f.next,(f.same _ h7 (hs h1)).trans h8⟩⟩
structure qz (h:Q0) (s:SL) (k:List Nat):Prop where
 seg:Seg h s 1 (ofBytes k)
 byte:∀x,x∈k->x<256
theorem Qt (l:List Nat):(ofBytes l).length=l.length:=by rw[qi,zJ0]
theorem qDy (a b:List Nat):ofBytes (a++b)=ofBytes a++ofBytes b:=by simp[qi]
theorem qz.len {h:Q0} {s:SL} {k:List Nat} (x:qz h s k):s.n=k.length:=by
 have:=x.seg.len
 rw[Qt] at this;omega
theorem qz.fr {h h':Q0} {s:SL} {k:List Nat} {S:Nat->Prop} (x:qz h s k) (f:Q5 S h h') (hs:s.nil=false->¬S s.i):qz h' s k:=⟨x.seg.fr f hs,x.byte⟩
theorem qz.zbytes {h:Q0} {s:SL} {k:List Nat} {K:List Nat->Prop} (x:qz h s k) (hk:K k):QN h s K:=by
 refine⟨k,λe=>?_,λe=>?_,x.byte,hk⟩
 .have:=x.seg.nil_cs e
  have h2:=Qt k;rw[this] at h2;exact List.eq_nil_of_length_eq_zero h2.symm
 .have:=x.seg.src e
  rwa [zC1] at this
theorem qz.nil (h:Q0) (ext:Bool):qz h ⟨true,0,0,0,0,ext⟩ []:=⟨Seg.nil h 1 ext,λx hx=>(by cases hx)⟩
theorem qz.at' {h:Q0} {s:SL} {k:List Nat} (x:qz h s k) (e:s.nil=false) {j b:Nat} (hj:k[j]?=some b):cellAt h s.i (s.o+j)=some (.int .u8 (.ofNat b)) :=
 x.seg.at' e (by rw[qi,zV0,hj];rfl)
theorem qPc (l:List Nat):QL (ofBytes l)=true:=by
 rw[qi]
 induction l with
 | nil=>rfl
 | cons x l ih=>exact ih
theorem jB (s:SL):s.av.plainC=true:=by
 unfold SL.av;cases s.nil
 .rfl
 .cases s.ext <;> rfl
structure Rws {α:Type} (sz:Nat) (row:α->List AV) (Q:Q0->α->Prop) (h:Q0) (s:SL) (l:List α):Prop where
 seg:Seg h s sz (l.flatMap row)
 rl:∀x,x∈l->(row x).length=sz
 ok:∀x,x∈l->Q h x
section
variable {α:Type} {sz:Nat} {row:α->List AV} {Q:Q0->α->Prop} {h h':Q0} {s:SL} {l:List α}
theorem qEr (hr:∀x,x∈l->(row x).length=sz):(l.flatMap row).length=l.length*sz:=by
 induction l with
 | nil=>simp
 | cons x l ih=>rw[zU0,zC0,hr x zB0,ih λy hy=>hr y (zA0 _ hy),zK0,Nat.add_mul];omega
theorem qW5 (hr:∀x,x∈l->(row x).length=sz) {j:Nat} {x:α} (hj:l[j]?=some x) {q:Nat} (hq:q<sz):(l.flatMap row)[j*sz+q]?=(row x)[q]?:=by
 induction l generalizing j with
 | nil=>cases hj
 | cons y l ih =>
  have hy:=hr y zB0;rw[zU0];cases j with
  | zero =>
   cases hj;rw[Nat.zero_mul,Nat.zero_add,List.getElem?_append_left (by omega)]
  | succ j =>rw[zD1 (by rw[hy,Nat.add_mul];omega),hy,show (j+1)*sz+q-sz=j*sz+q by rw[Nat.add_mul];omega];exact ih (λz hz=>hr z (zA0 _ hz)) (by simpa using hj)
theorem Rws.len (hsz:0<sz) (x:Rws sz row Q h s l):s.n=l.length:=by
 have:=x.seg.len
 rw[qEr x.rl] at this;exact (Nat.eq_of_mul_eq_mul_right hsz this).symm
theorem Rws.at' (x:Rws sz row Q h s l) (e:s.nil=false) {j:Nat} {y:α} (hj:l[j]?=some y) {q:Nat} (hq:q<sz) {v:AV} (hv:(row y)[q]?=some v):cellAt h s.i (s.o+j*sz+q)=some v:=by rw[Nat.add_assoc];exact x.seg.at' e (by rw[qW5 x.rl hj hq];exact hv)
theorem Rws.nil_of (hsz:0<sz) (x:Rws sz row Q h s l) {j:Nat} (hj:j<l.length):s.nil=false:=by
 have:=x.len hsz
 cases e:s.nil with
 | false=>rfl
 | true=>rw[SL.n_nil e] at this;omega
theorem Rws.len' (hsz:0<sz) (x:Rws sz row Q h s l) (e:s.nil=false):s.len=l.length:=by rw[<- SL.n_of e];exact x.len hsz
theorem Rws.fr {S:Nat->Prop} (x:Rws sz row Q h s l) (f:Q5 S h h') (hs:s.nil=false->¬S s.i) (hq:∀y,y∈l->Q h y->Q h' y):Rws sz row Q h' s l :=
 ⟨x.seg.fr f hs,x.rl,λy hy=>hq y hy (x.ok y hy)⟩
theorem Rws.nil (h:Q0) (ext:Bool):Rws sz row Q h ⟨true,0,0,0,0,ext⟩ []:=⟨Seg.nil _ _ _,λ_ hx=>(by cases hx),λ_ hx=>(by cases hx)⟩
theorem Grown.rws {h0:Q0} {n:Nat} (g:Grown h0 h s sz n (l.flatMap row)) (rl:∀x,x∈l->(row x).length=sz) (ok:∀x,x∈l->Q h x):Rws sz row Q h s l:=⟨g.seg,rl,ok⟩
end
structure Var (h:Q0) (i:Nat) (cs:List AV):Prop where
 lt:i<h.next
 get:h.get i=some (.cells cs 0 false false)
section
variable {h:Q0} {i:Nat} {cs:List AV}
theorem Var.new (h:Q0) (cs:List AV):Var (h.newO (.cells cs 0 false false)) h.next cs:=⟨zO0 _,Ql _ _⟩
theorem Var.fr {S:Nat->Prop} {h':Q0} (x:Var h i cs) (f:Q5 S h h') (hs:¬S i):Var h' i cs:=⟨zF0 x.lt f.next,(f.same _ x.lt hs).trans x.get⟩
theorem Var.cell (x:Var h i cs) (o:Nat):cellAt h i o=cs[o]?:=qHc x.get
theorem Var.ldL (x:Var h i cs) {o:Nat} (s:SL) {K:SL->Prop} (e:cs[o]?=some s.av) (k:K s):Qb h i o K:=⟨s,(x.cell o).trans e,k⟩
theorem Var.ldB (x:Var h i cs) {o:Nat} (b:Bool) {K:Bool->Prop} (e:cs[o]?=some (.bool b)) (k:K b):js h i o K:=⟨b,(x.cell o).trans e,k⟩
theorem Var.ldM (x:Var h i cs) {o:Nat} (nil:Bool) (j:Nat) {K:Bool->Nat->Prop} (e:cs[o]?=some (ZV.mp nil j).av) (k:K nil j):ZLdM h i o K:=⟨nil,j,(x.cell o).trans e,k⟩
theorem Var.zput (x:Var h i cs) {o n:Nat} {A:Prop} (hn:o+n<=cs.length) (k:A):jb h i o n A:=⟨⟨x.lt,cs,0,false,false,x.get,hn⟩,k⟩
theorem Var.put (x:Var h i cs) (o:Nat) (vs:List AV):Var (hput h i o vs) i (cs.take o++(vs++cs.drop (o+vs.length))):=by refine⟨?_,qEy x.get⟩;unfold hput;rw[x.get];exact x.lt
theorem Var.put_fr (x:Var h i cs) (o:Nat) (vs:List AV):Q5 (λj=>j=i) h (hput h i o vs):=Q5.hput h o vs λ_=>rfl
end
theorem Q5.back {S T:Nat->Prop} {h0 a b:Q0} (x:Q5 T h0 a) (y:Q5 S a b) (hs:∀i,i<h0.next->S i->T i):Q5 T h0 b :=
 ⟨zP0 x.next y.next,λi hi ht=>(y.same i (zF0 hi x.next) λh=>ht (hs i hi h)).trans (x.same i hi ht)⟩
structure Own (h0 h:Q0) (s:SL) (k:List Nat):Prop where
 byts:qz h s k
 own:s.nil=false->h0.next<=s.i/\s.o=0/\∃e g,h.get s.i=some (.cells (ofBytes k) e g false)
theorem Own.fr {h0 h h':Q0} {s:SL} {k:List Nat} {S:Nat->Prop} (x:Own h0 h s k) (f:Q5 S h h') (hs:s.nil=false->¬S s.i):Own h0 h' s k :=
 ⟨x.byts.fr f hs,λe=>by
  obtain⟨h1,h2,a,b,h3⟩:=x.own e;exact⟨h1,h2,a,b,(f.same _ (x.byts.seg.lt e) (hs e)).trans h3⟩⟩
theorem SL.isNil_nil {s:SL} (h:s.isNil=true):s.nil=true:=by
 unfold SL.isNil at h;cases hn:s.nil with
 | true=>rfl
 | false=>rw[hn] at h;cases h
end Go.X
namespace Go.X.Df
open Go.X
abbrev Ky:=List Nat
structure Ch where
 k:Ky
 had:Bool
 has:Bool
 old:Ky
 new:Ky
theorem lt_cons (x:Nat) (a:Ky) (y:Nat) (b:Ky):Qm (x::a) (y::b)=cnd (ltb x y) true (cnd (Nat.beq x y) (Qm a b) false):=rfl
theorem lt_irr:∀a:Ky,Qm a a=false
 | []=>rfl
 | x::a=>by rw[lt_cons,qj.2 (zN0 x),Nat.beq_refl];exact lt_irr a
theorem qNw {x:Nat} {a:Ky} {y:Nat} {b:Ky}:Qm (x::a) (y::b)=true↔x<y∨(x=y/\Qm a b=true):=by
 rw[lt_cons];cases h:ltb x y with
 | true=>simp[Qw.1 h]
 | false =>
  have:=qj.1 h
  rw[Q9];cases h2:Nat.beq x y with
  | true =>
   have:=Nat.eq_of_beq_eq_true h2
   subst this;simp
  | false =>
   have hne:x≠y:=λe=>by subst e;rw[Nat.beq_refl] at h2;cases h2
   rw[Q9];constructor
   .intro h;cases h
   .rintro (h | ⟨h,_⟩)
    .omega
    .exact absurd h hne
theorem lt_trans:∀{a b c:Ky},Qm a b=true->Qm b c=true->Qm a c=true
 | [],[],_,h,_=>Bool.noConfusion (show false=true from h)
 | _::_,[],_,h,_=>Bool.noConfusion (show false=true from h)
 | [],_::_,[],_,h=>Bool.noConfusion (show false=true from h)
 | [],_::_,_::_,_,_=>rfl
 | _::_,_::_,[],_,h=>Bool.noConfusion (show false=true from h)
 | x::a,y::b,z::c,h1,h2=>by
  rw[qNw] at h1 h2 ⊢;rcases h1 with h1 | ⟨rfl,h1⟩
  .rcases h2 with h2 | ⟨rfl,_⟩
   .exact .inl (by omega)
   .exact .inl h1
  .rcases h2 with h2 | ⟨rfl,h2⟩
   .exact .inl h2
   .exact .inr ⟨rfl,lt_trans h1 h2⟩
theorem lt_tri:∀(a b:Ky),Qm a b=true∨a=b∨Qm b a=true
 | [],[]=>.inr (.inl rfl)
 | [],_::_=>.inl rfl
 | _::_,[]=>.inr (.inr rfl)
 | x::a,y::b=>by
  rcases Nat.lt_trichotomy x y with h | h | h
  .exact .inl (qNw.2 (.inl h))
  .subst h;rcases lt_tri a b with h | h | h
   .exact .inl (qNw.2 (.inr ⟨rfl,h⟩))
   .exact .inr (.inl (by rw[h]))
   .exact .inr (.inr (qNw.2 (.inr ⟨rfl,h⟩)))
  .exact .inr (.inr (qNw.2 (.inl h)))
theorem lt_asymm {a b:Ky} (h:Qm a b=true):Qm b a=false:=by
 cases h2:Qm b a with
 | false=>rfl
 | true=>have:=lt_trans h h2;rw[lt_irr] at this;cases this
theorem lt_ne {a b:Ky} (h:Qm a b=true):a≠b:=λe=>by subst e;rw[lt_irr] at h;cases h
def Rise {α:Type} (key:α->Ky) (l:List α):Prop:=l.Pairwise λa b=>Qm (key a) (key b)=true
section
variable {β:Type}
def look (l:List (Ky × β)) (k:Ky):Option β:=match l with | []=>none | e::r=>if e.1=k then some e.2 else look r k
def put (l:List (Ky × β)) (k:Ky) (v:β):List (Ky × β):=match l with
 | []=>[(k,v)]
 | e::r=>if e.1=k then (k,v)::r else if Qm k e.1 then (k,v)::e::r else e::put r k v
def del (l:List (Ky × β)) (k:Ky):List (Ky × β):=match l with | []=>[] | e::r=>if e.1=k then r else e::del r k
end
def step (m:List (Ky × Ky)) (c:Ch):Option (List (Ky × Ky)) :=
 match look m c.k with
 | none=>if c.had=true then none else some (if c.has=true then put m c.k c.new else m)
 | some v=>if c.had=true/\v=c.old then some (if c.has=true then put m c.k c.new else del m c.k) else none
def steps (m:List (Ky × Ky)) (l:List Ch):Option (List (Ky × Ky)):=match l with
 | []=>some m
 | c::r=>(step m c).bind λm'=>steps m' r
def chD (x:Ky × Ky):Ch:=⟨x.1,true,false,x.2,[]⟩
def chI (y:Ky × Ky):Ch:=⟨y.1,false,true,[],y.2⟩
def chR (x y:Ky × Ky):Ch:=⟨x.1,true,true,x.2,y.2⟩
def diff:List (Ky × Ky)->List (Ky × Ky)->List Ch
 | [],[]=>[]
 | x::a,[]=>chD x::diff a []
 | [],y::b=>chI y::diff [] b
 | x::a,y::b =>
  if Qm x.1 y.1=true then chD x::diff a (y::b)
  else if x.1=y.1 then (if x.2=y.2 then diff a b else chR x y::diff a b)
  else chI y::diff (x::a) b
termination_by a b=>a.length+b.length
def back (c:Ch):Ch:=⟨c.k,c.has,c.had,c.new,c.old⟩
abbrev Up (l:List (Ky × Ky)):Prop:=Rise Prod.fst l
theorem Up.tail {x:Ky × Ky} {l:List (Ky × Ky)} (h:Up (x::l)):Up l:=(List.pairwise_cons.1 h).2
theorem qC2 {β:Type} {p r:List (Ky × β)} {k:Ky} (hp:∀e,e∈p->Qm e.1 k=true):look (p++r) k=look r k:=by
 induction p with
 | nil=>rfl
 | cons e p ih =>show (if e.1=k then some e.2 else look (p++r) k)=_;rw[if_neg (lt_ne (hp e zB0)),ih λx hx=>hp x (zA0 _ hx)]
theorem qBs {β:Type} {r:List (Ky × β)} {k:Ky} (hr:∀e,e∈r->Qm k e.1=true):look r k=none:=by
 induction r with
 | nil=>rfl
 | cons e r ih =>show (if e.1=k then some e.2 else look r k)=none;rw[if_neg (lt_ne (hr e zB0)).symm,ih λx hx=>hr x (zA0 _ hx)]
theorem put_mid {β:Type} {p r:List (Ky × β)} {k:Ky} {v:β} (hp:∀e,e∈p->Qm e.1 k=true):put (p++r) k v=p++put r k v:=by
 induction p with
 | nil=>rfl
 | cons e p ih =>have h:=hp e zB0;show (if e.1=k then (k,v)::(p++r) else if Qm k e.1 then (k,v)::e::(p++r) else e::put (p++r) k v)=_;rw[if_neg (lt_ne h),if_neg (by rw[lt_asymm h];simp),ih λx hx=>hp x (zA0 _ hx)];rfl
theorem put_above {β:Type} {r:List (Ky × β)} {k:Ky} {v:β} (hr:∀e,e∈r->Qm k e.1=true):put r k v=(k,v)::r:=by
 cases r with
 | nil=>rfl
 | cons e r =>have h:=hr e zB0;show (if e.1=k then (k,v)::r else if Qm k e.1 then (k,v)::e::r else e::put r k v)=_;rw[if_neg (lt_ne h).symm,if_pos h]
theorem del_mid {β:Type} {p r:List (Ky × β)} {k:Ky} (hp:∀e,e∈p->Qm e.1 k=true):del (p++r) k=p++del r k:=by
 induction p with
 | nil=>rfl
 | cons e p ih =>show (if e.1=k then p++r else e::del (p++r) k)=_;rw[if_neg (lt_ne (hp e zB0)),ih λx hx=>hp x (zA0 _ hx)];rfl
theorem Up.below {p r:List (Ky × Ky)} {x:Ky × Ky} (h:Up (p++x::r)):∀e,e∈p->Qm e.1 x.1=true:=λe he =>
 (List.pairwise_append.1 h).2.2 e he x zB0
end Go.X.Df
namespace Go.X.Df
open Go.X
theorem qAd {x:Nat} (h:x<256):(UInt8.ofNat x).toNat=x:=by rw[UInt8.toNat_ofNat'];omega
theorem u8_back {s:List Nat} (h:∀x,x∈s->x<256):(u8s s).map UInt8.toNat=s:=by
 induction s with
 | nil=>rfl
 | cons x s ih =>show (UInt8.ofNat x).toNat::(u8s s).map UInt8.toNat=_;rw[qAd (h x zB0),ih λy hy=>h y (zA0 _ hy)]
theorem u8s_lt:∀{a b:List Nat},(∀x,x∈a->x<256)->(∀x,x∈b->x<256)->Qm a b=true->u8s a<u8s b
 | [],[],_,_,h=>Bool.noConfusion (show false=true from h)
 | _::_,[],_,_,h=>Bool.noConfusion (show false=true from h)
 | [],y::b,_,_,_=>List.nil_lt_cons _ _
 | x::a,y::b,ha,hb,h=>by
  rw[qNw] at h;show (UInt8.ofNat x::u8s a)<(UInt8.ofNat y::u8s b);rw[List.cons_lt_cons_iff];have hx:=ha x zB0;have hy:=hb y zB0;rcases h with h | ⟨rfl,h⟩
  .refine .inl ?_;rw[UInt8.lt_iff_toNat_lt,qAd hx,qAd hy];exact h
  .exact .inr ⟨rfl,u8s_lt (λz hz=>ha z (zA0 _ hz)) (λz hz=>hb z (zA0 _ hz)) h⟩
theorem qDj {l ks:List (List Nat)} (hp:l.Perm ks) (hr:ks.Pairwise λa b=>Qm a b=true) (hb:∀s,s∈ks->∀x,x∈s->x<256):qAj l=ks:=by
 have e1:(l.map u8s).mergeSort (λx y=>decide (x<=y))=ks.map u8s:=by
  refine List.Perm.eq_of_pairwise (le:=λx y:List UInt8=>x<=y) (λa b _ _ h1 h2=>Std.le_antisymm h1 h2) ?_ ?_ ?_
  .have:=List.pairwise_mergeSort (le:=λx y:List UInt8=>decide (x<=y)) (λa b c h1 h2=>by
    simp only[decide_eq_true_eq] at h1 h2 ⊢;exact Std.le_trans h1 h2) (λa b=>by
    simp only[Bool.or_eq_true,decide_eq_true_eq];exact Std.le_total) (l.map u8s)
   exact this.imp λh=>by simpa using h
  .rw[List.pairwise_map];refine hr.imp_of_mem λ{a b} ha hb' h=>?_;exact Std.le_of_lt (u8s_lt (hb a ha) (hb b hb') h)
  .exact (List.mergeSort_perm _ _).trans (hp.map _)
 unfold qAj;rw[e1,List.map_map];exact (List.map_congr_left (g:=id) λs hs=>u8_back (hb s hs)).trans (List.map_id _)
theorem strs_map (l:List (List Nat)):strs (l.map AV.str)=l:=by
 induction l with
 | nil=>rfl
 | cons x l ih=>show x::strs (l.map AV.str)=_;rw[ih]
theorem qB0 (a b:List Nat):Qe (.str a) (.str b)=decide (a=b):=by
 cases h:Qe (.str a) (.str b) with
 | true =>
  have:=qF7 _ _ h
  cases this;simp
 | false =>
  refine (decide_eq_false λe=>?_).symm;subst e
  have:eqNs a a=false:=h
  have h2:∀l:List Nat,eqNs l l=true:=λl=>by
   induction l with
   | nil=>rfl
   | cons x l ih =>show cnd (Nat.beq x x) (eqNs l l) false=true;rw[Nat.beq_refl,ih];rfl
  rw[h2] at this;cases this
theorem keyLt_str (a b:List Nat):qUv (.str a) (.str b)=Qm a b:=rfl
section
variable {β:Type} (av:β->AV)
def Q7 (m:List (Ky × β)):List (AV × AV):=m.map λe=>(.str e.1,av e.2)
variable {av}
theorem qCc (m:List (Ky × β)) (k:Ky):qF5 (Q7 av m) (.str k)=true:=by
 induction m with
 | nil=>rfl
 | cons e m ih=>exact ih
theorem qA2 {m:List (Ky × β)} {k:Ky}:qNu (Q7 av m) (.str k)=(look m k).map av:=by
 induction m with
 | nil=>rfl
 | cons e m ih =>
  show (match Qe (.str k) (.str e.1) with | true=>some (av e.2) | false=>qNu (Q7 av m) (.str k))=(if e.1=k then some e.2 else look m k).map av;rw[qB0];by_cases h:e.1=k
  .rw[if_pos h,decide_eq_true h.symm];rfl
  .rw[if_neg h,decide_eq_false (Ne.symm h)];exact ih
theorem qA6 {k:Ky} {v:β}:∀{m:List (Ky × β)},look m k=none->qR0 (.str k) (av v) (Q7 av m)=Q7 av (put m k v)
 | [],_=>rfl
 | e::m,h=>by
  have h1:(if e.1=k then some e.2 else look m k)=none:=h;by_cases hk:e.1=k
  .rw[if_pos hk] at h1;cases h1
  .rw[if_neg hk] at h1;show (match qUv (.str k) (.str e.1) with | true=>(.str k,av v)::(.str e.1,av e.2)::Q7 av m | false=>(.str e.1,av e.2)::qR0 (.str k) (av v) (Q7 av m))=Q7 av (if e.1=k then (k,v)::m else if Qm k e.1 then (k,v)::e::m else e::put m k v);rw[if_neg hk,keyLt_str,qA6 h1];cases Qm k e.1 <;> rfl
theorem qAt {k:Ky} {v:β}:∀{m:List (Ky × β)},Rise Prod.fst m->look m k≠none->mreplace (.str k) (av v) (Q7 av m)=Q7 av (put m k v)
 | [],_,h=>absurd rfl h
 | e::m,hr,h=>by
  have h1:(if e.1=k then some e.2 else look m k)≠none:=h;show (match Qe (.str k) (.str e.1) with | true=>(.str k,av v)::Q7 av m | false=>(.str e.1,av e.2)::mreplace (.str k) (av v) (Q7 av m))=Q7 av (if e.1=k then (k,v)::m else if Qm k e.1 then (k,v)::e::m else e::put m k v);rw[qB0];by_cases hk:e.1=k
  .rw[if_pos hk,decide_eq_true hk.symm];rfl
  .rw[if_neg hk] at h1;rw[if_neg hk,decide_eq_false (Ne.symm hk)];obtain⟨h2,h3⟩:=List.pairwise_cons.1 hr;cases hlt:Qm k e.1 with
   | true =>
    refine absurd (qBs λx hx=>?_) h1;exact lt_trans hlt (h2 x hx)
   | false =>rw[qAt h3 h1];rfl
theorem mset_rows {m:List (Ky × β)} {k:Ky} {v:β} (hr:Rise Prod.fst m):mset (.str k) (av v) (Q7 av m)=Q7 av (put m k v):=by
 unfold mset;rw[qA2];cases h:look m k with
 | none=>exact qA6 h
 | some w=>exact qAt hr (by rw[h];simp)
theorem qA7 {k:Ky}:∀{m:List (Ky × β)},qIk (.str k) (Q7 av m)=Q7 av (del m k)
 | []=>rfl
 | e::m=>by
  show (match Qe (.str k) (.str e.1) with | true=>Q7 av m | false=>(.str e.1,av e.2)::qIk (.str k) (Q7 av m))=Q7 av (if e.1=k then m else e::del m k);rw[qB0];by_cases hk:e.1=k
  .rw[if_pos hk,decide_eq_true hk.symm]
  .rw[if_neg hk,decide_eq_false (Ne.symm hk),qA7];rfl
theorem qBz {m:List (Ky × β)} {k:Ky} {v:β} {x:Ky × β} (h:x∈put m k v):x=(k,v)∨x∈m:=by
 induction m with
 | nil=>exact .inl (List.mem_singleton.1 h)
 | cons e m ih =>
  have h:x∈(if e.1=k then (k,v)::m else if Qm k e.1 then (k,v)::e::m else e::put m k v):=h;split at h
  .rcases List.mem_cons.1 h with h | h
   .exact .inl h
   .exact .inr (zA0 _ h)
  .split at h
   .rcases List.mem_cons.1 h with h | h
    .exact .inl h
    .exact .inr h
   .rcases List.mem_cons.1 h with h | h
    .exact .inr (by rw[h];exact zB0)
    .exact (ih h).imp id λh=>zA0 _ h
theorem qA3 (m:List (Ky × β)) (k:Ky):(del m k).Sublist m:=by
 induction m with
 | nil=>exact .slnil
 | cons e m ih =>
  show (if e.1=k then m else e::del m k).Sublist (e::m);split
  .exact .cons _ (List.Sublist.refl _)
  .exact .cons_cons _ ih
theorem qC1 {m:List (Ky × β)} {k:Ky} {v:β} (hr:Rise Prod.fst m):Rise Prod.fst (put m k v):=by
 induction m with
 | nil=>exact List.pairwise_singleton _ _
 | cons e m ih =>
  obtain⟨h2,h3⟩:=List.pairwise_cons.1 hr;show Rise Prod.fst (if e.1=k then (k,v)::m else if Qm k e.1 then (k,v)::e::m else e::put m k v);split
  .rename_i hk;exact List.pairwise_cons.2 ⟨λx hx=>by have:=h2 x hx;rw[hk] at this;exact this,h3⟩
  .rename_i hk;split
   .rename_i hlt;refine List.pairwise_cons.2 ⟨λx hx=>?_,hr⟩;rcases List.mem_cons.1 hx with hx | hx
    .rw[hx];exact hlt
    .exact lt_trans hlt (h2 x hx)
   .rename_i hlt;refine List.pairwise_cons.2 ⟨λx hx=>?_,ih h3⟩;rcases qBz hx with hx | hx
    .rw[hx];rcases lt_tri e.1 k with h | h | h
     .exact h
     .exact absurd h hk
     .rw[h] at hlt;exact absurd rfl hlt
    .exact h2 x hx
theorem qC5 {m:List (Ky × β)} {k:Ky} (hr:Rise Prod.fst m):Rise Prod.fst (del m k):=hr.sublist (qA3 m k)
end
end Go.X.Df
namespace Go.X
open Go Go.RowKit Go.ChangeShapes Go.WideShapes
section
variable {H:Type} {enc:TypeId × Value->H} {P:Program} {W:World} {base:Nat} {sp:Nat->Bool} {held:Bool}
theorem trod_u8 {e:TypeId} (he:P.underlying e=some (.int .u8)) {u:Value} {fuel:Nat} {x:DataW H × List MemPlace} (h:DataW.trod enc P W 0 (λ_=>true) held fuel e [u]=some x) :
  ∃n:Nat,u=.int .u8 (.ofNat n)/\n<256:=by
 cases fuel with
 | zero=>simp[DataW.trod] at h
 | succ m =>unfold DataW.trod at h;rw[he] at h;cases u <;> simp at h;rename_i q n;obtain⟨⟨rfl,hw⟩,rfl⟩:=h;obtain⟨h1,h2⟩:=bounds_u8 hw;obtain⟨m,rfl⟩:=Int.eq_ofNat_of_zero_le h1;exact⟨m,rfl,by omega⟩
def valB:List Value->Nat
 | [.int _ n]=>n.toNat
 | _=>0
theorem qVu {t e:TypeId} (ht:P.underlying t=some (.slice e)) (he:P.underlying e=some (.int .u8)) (hc:P.cellsOf e=1) {v:Value} {fuel:Nat} {x:DataW H × List MemPlace}
  (h:DataW.trod enc P W 0 (λ_=>true) held fuel t [v]=some x) :
  ∃(s:SL) (k:List Nat),Qf W.heap.size v=s.av/\qz (absH W) s k/\((x.1=.nil/\k=[])∨∃es r,x.1=.slice es r/\es.length=k.length):=by
 obtain⟨s,rows,m,hv,hn,hcell,hrow,hx⟩:=qZb ht hc (by decide) h;have hone:∀r,r∈rows->∃n:Nat,r.1=[.int .u8 (.ofNat n)]/\n<256:=λr hr=>by
  obtain⟨h1,p,h2⟩:=hrow r hr
  match hr1:r.1,h1 with
  | [u],_ =>rw[hr1] at h2;obtain⟨n,rfl,h3⟩:=trod_u8 he h2;exact⟨n,rfl,h3⟩
 refine⟨s,rows.map λr=>valB r.1,hv,⟨⟨by rw[Qt,zJ0,zC1];exact hn.symm,λe=>(hcell e).1,λe=>?_⟩,?_⟩,?_⟩
 .obtain⟨hlt,c,el,f,hb,hq⟩:=hcell e;refine⟨c.toList.map (Qf W.heap.size),by unfold qn;rw[qQp hb],?_⟩;have hlen:s.len=rows.length:=by unfold SL.n at hn;rw[e] at hn;exact hn
  have:=qK9 (c:=c.toList.map (Qf W.heap.size)) (l:=ofBytes (rows.map λr=>valB r.1)) (o:=s.o) λj y hy=>by rw[qi,zV0,zV0,Option.map_map] at hy;obtain⟨r,hr,rfl⟩:=Option.map_eq_some_iff.1 hy;obtain⟨u,hu,hcu⟩:=hq j r hr 0 (by decide);obtain⟨n,h1,_⟩:=hone r (zD0 hr);rw[h1] at hu;cases hu;rw[zC1,Nat.add_zero] at hcu;rw[zV0,Array.getElem?_toList,hcu];show some (Qf W.heap.size (.int .u8 (.ofNat n)))=some (AV.int .u8 (.ofNat (valB r.1)));rw[absV_int,h1];rfl
  rw[Qt,zJ0,<- hlen] at this;rw[zC1];exact this
 .intro n hn;obtain⟨r,hr,rfl⟩:=List.mem_map.1 hn;obtain⟨n,h1,h2⟩:=hone r hr;rw[h1];exact h2
 .rcases hx with ⟨h1,h2⟩ | ⟨sp,h1⟩
  .exact .inl ⟨h1,by rw[h2];rfl⟩
  .exact .inr ⟨_,_,h1,by rw[zJ0,zJ0]⟩
end
end Go.X
namespace Go.X.Df
open Go.X
def qAc (last:Option Ky):List (Ky × Ky)->List (Ky × Ky)
 | []=>[]
 | x::l=>match last with
  | none=>x::qAc (some x.1) l
  | some k=>if Qm k x.1=true then x::qAc (some x.1) l else qAc (some k) l
theorem qBb:∀(l:List (Ky × Ky)) (k:Ky),(∀z,z∈qAc (some k) l->Qm k z.1=true)/\Up (qAc (some k) l)
 | [],k=>⟨λz hz=>(by cases hz),List.Pairwise.nil⟩
 | x::l,k=>by
  show (∀z,z∈(if Qm k x.1=true then x::qAc (some x.1) l else qAc (some k) l)->_)/\Up (if Qm k x.1=true then x::qAc (some x.1) l else qAc (some k) l);split
  .rename_i h;obtain⟨h1,h2⟩:=qBb l x.1;refine⟨λz hz=>?_,List.pairwise_cons.2 ⟨h1,h2⟩⟩;rcases List.mem_cons.1 hz with e | e
   .rw[e];exact h
   .exact lt_trans h (h1 z e)
  .exact qBb l k
theorem risen_up:∀(l:List (Ky × Ky)),Up (qAc none l)
 | []=>List.Pairwise.nil
 | x::l=>by obtain⟨h1,h2⟩:=qBb l x.1;exact List.pairwise_cons.2 ⟨h1,h2⟩
end Go.X.Df
namespace Go.X
open Go Go.RowKit
def revC (i o len cap:Nat) (k:KV) (a:QB):FM:=match a with
 | .cells c esz true mk=>.any λx=>.set i (.cells (c++List.replicate (x*esz) .junk) esz false mk) (k (.slice i o len (cap+x) false))
 | _=>.fail 300
def revK (v:AV) (k:KV):FM:=match v with
 | .slice i o len cap true=>.get i (revC i o len cap k)
 | v=>k v
theorem qVw {E:Env}:∀(l:List Value),VRs E (List.replicate l.length .junk) l
 | []=>.nil
 | v::l=>.cons _ _ _ _ (.junk v) (qVw l)
section
variable {P:Program} {W0:World} {E:Env} {h:Q0} {p:QQ} {w:World}
theorem qZ2 (r:Rel P W0 E h w) {av:AV} {v:Value} (hv:VR E av v) {k:KV} (hs:(revK av k).sat p h) :
  ∃E' h' av',Stp E h E' h'/\Rel P W0 E' h' w/\VR E' av' v/\(k av').sat p h':=by
 unfold revK at hs;split at hs
 .rename_i i o len cap;obtain⟨a,hg,hs1⟩:=hs;have hs:(revC i o len cap k a).sat p h:=hs1;unfold revC at hs;split at hs
  .rename_i c esz mk;have hs:=hs (E.ext i);obtain⟨hi,hs⟩:=hs;obtain⟨b,ob,hb,hw,hor⟩:=r.obj _ _ hg;cases hv with
   | slice _ _ _ _ _ b2 x cc h1 hx hcc =>
   rw[hb] at h1;cases h1;refine⟨E,h.put i (some (.cells (c++List.replicate (E.ext i*esz) .junk) esz false mk)),_,?_,?_,.slice _ _ _ _ _ b x cc hb hx ?_,hs⟩
   .exact⟨.refl _,λ_ _ h=>.inl h,rfl,zN0 _⟩
   .have eqw:=qF0 hw
    have:=Rel.set r hg hb (a1:=.cells (c++List.replicate (E.ext i*esz) .junk) esz false mk) (o1:=ob) (λh=>by rcases h with h | ⟨_,h⟩ <;> cases h) (λ_ _ h=>by cases h) (by
     cases hor with
     | cells _ _ _ _ cs e fr pre c1 rest hcs hp hc hrest hfr =>
      have hrest:rest.length=E.ext i*esz:=hrest;refine .cells _ _ _ _ cs _ fr pre (c1++rest) [] (by simpa using hcs) hp ?_ rfl hfr;refine hc.append ?_;rw[<- hrest];exact qVw rest)
    rw[eqw] at this;exact this
   .show cc=cap+E.ext i+0;exact hcc
  .exact hs.elim
 .exact⟨E,h,_,.refl _ _,r,hv,hs⟩
end
def revX (P:Program) (sums:Sums) (lf n:Nat) (g:FuncId):List AV->KV->(QR->FM)->FM:=λargs k kp=>(xCR P Qu sums lf n).call g args (λv=>revK v k) kp
def addRX (P:Program) (lf n:Nat) (g:FuncId) (sums:Sums):Sums:=λf=>match Nat.beq f g with | true=>some (revX P sums lf n g) | false=>sums f
def qJ7 (K:ZK) (v:ZV) (h:Q0):Prop:=match v with
 | .sl s=>match s.nil,s.ext with
  | false,true=>∃c esz mk,h.get s.i=some (.cells c esz true mk)/\s.i<h.next/\∀x,K (.sl ⟨false,s.i,s.o,s.len,s.cap+x,false⟩) (h.put s.i (some (.cells (c++List.replicate (x*esz) .junk) esz false mk)))
  | _,_=>K v h
 | _=>False
def qPd (P:Program) (lf n:Nat) (g:FuncId) (S:QW):QW:=λf=>match Nat.beq f g with | true=>some (λargs K h=>Qq P S lf n g args (qJ7 K) h) | false=>S f
section
variable {P:Program} {W0:World}
theorem qk.addR {sums:Sums} (hs:qk P W0 sums) (hmo:P.follows .mixedOrders=true) (lf n:Nat) (g:FuncId):qk P W0 (addRX P lf n g sums):=by
 intro f s hf args k kp p E h w vs hb hsat r hv;have hf1:(match Nat.beq f g with | true=>some (revX P sums lf n g) | false=>sums f)=some s:=hf;cases hfg:Nat.beq f g with
 | false=>rw[hfg] at hf1;exact hs f s hf1 args k kp p E h w vs hb hsat r hv
 | true =>
  rw[hfg] at hf1;cases hf1;have e:=beq_iff.1 hfg;subst e;refine Calls.mono ((qM4 hs (.inr λ_=>zA1 _) hmo n).1 f args _ _ p E h w vs hb hsat r hv) λe w' he=>?_;cases e with
  | returned v =>
   obtain⟨E',h',av,s1,r',hv',hs'⟩:=he;obtain⟨E2,h2,av2,s2,r2,hv2,hk⟩:=qZ2 r' hv' hs';exact⟨E2,h2,av2,s1.trans s2,r2,hv2,hk⟩
  | panicked c=>exact he
  | outgrown=>exact he.elim
theorem qM6 {S:QW} {sums:Sums} (hs:SumFit S sums) (lf n:Nat) {g:FuncId} (hg:g<P.funcs.size):SumFit (qPd P lf n g S) (addRX P lf n g sums):=by
 constructor
 .intro f hf;have hf1:(match Nat.beq f g with | true=>some (λargs K h=>Qq P S lf n g args (qJ7 K) h) | false=>S f)=none:=hf;show (match Nat.beq f g with | true=>some (revX P sums lf n g) | false=>sums f)=none;cases hfg:Nat.beq f g with
  | false=>rw[hfg] at hf1;exact hs.none f hf1
  | true=>rw[hfg] at hf1;cases hf1
 .intro f s hf;have hf1:(match Nat.beq f g with | true=>some (λargs K h=>Qq P S lf n g args (qJ7 K) h) | false=>S f)=some s:=hf;show ∃x,(match Nat.beq f g with | true=>some (revX P sums lf n g) | false=>sums f)=some x/\_;cases hfg:Nat.beq f g with
  | false=>rw[hfg] at hf1;exact hs.some f s hf1
  | true =>
   rw[hfg] at hf1;cases hf1;refine⟨_,rfl,λargs K h hi hz kp k p hp=>?_⟩;refine (qH7 hs (lf:=lf) n).call g args (qJ7 K) h hg hi hz kp (λv=>revK v k) p λv h' hi' hv=>?_;cases v with
   | sl s =>
    show (revK (ZV.av (.sl s)) k).sat p h';rw[qDk];unfold qJ7 at hv;cases hn:s.nil with
    | true =>
     simp only[hn] at hv
     have:=hp _ _ hi' hv
     rw[qDk] at this;have e:revK s.av k=k s.av:=by unfold SL.av;rw[hn];cases s.ext <;> rfl
     rw[e];exact this
    | false =>
     cases he:s.ext with
     | false =>
      simp only[hn,he] at hv
      have:=hp _ _ hi' hv
      rw[qDk] at this;have e:revK s.av k=k s.av:=by unfold SL.av;rw[hn,he];rfl
      rw[e];exact this
     | true =>
      simp only[hn,he] at hv;obtain⟨c,esz,mk,h1,h2,h3⟩:=hv;have e:s.av=.slice s.i s.o s.len s.cap true:=by unfold SL.av;rw[hn,he]
      rw[e];refine⟨_,h1,λx=>⟨h2,?_⟩⟩
      have:=hp _ _ (by exact hi') (h3 x)
      rw[qDk] at this;exact this
   | _=>exact hv.elim
end
end Go.X
namespace Go.X
open Go Go.RowKit
def Head (h:Q0) (i cap:Nat) (sz:Nat) (cs:List AV):Prop:=∃c m,h.get i=some (.cells c sz false m)/\c.length=cap*sz/\c.take cs.length=cs
theorem Head.fr {S:Nat->Prop} {h h':Q0} {i cap sz:Nat} {cs:List AV} (x:Head h i cap sz cs) (f:Q5 S h h') (hi:i<h.next) (hs:¬S i):Head h' i cap sz cs:=by obtain⟨c,m,h1,h2,h3⟩:=x;exact⟨c,m,(f.same _ hi hs).trans h1,h2,h3⟩
theorem Head.len {h:Q0} {i cap sz:Nat} {cs:List AV} (x:Head h i cap sz cs):cs.length<=cap*sz:=by
 obtain⟨c,m,h1,h2,h3⟩:=x
 have:=congrArg List.length h3
 rw[zY0] at this;omega
theorem Head.seg {h:Q0} {i cap sz n:Nat} {cs:List AV} (x:Head h i cap sz cs) (hi:i<h.next) (hn:cs.length=n*sz) (ext:Bool):Seg h ⟨false,i,0,n,cap,ext⟩ sz cs:=by
 obtain⟨c,m,h1,h2,h3⟩:=x;refine⟨hn,λ_=>hi,λ_=>⟨c,qEg h1,by rw[List.drop_zero];show List.take (n*sz) c=_;rw[<- hn];exact h3,?_⟩⟩;rw[List.drop_zero]
 have:=congrArg List.length h3
 rw[zY0] at this;show n*sz<=_;omega
structure More (h0 h:Q0) (i cap:Nat) (g:SL) (sz n:Nat) (cs:List AV):Prop where
 is:(n<=cap/\g=⟨false,i,0,n,cap,false⟩/\Head h i cap sz cs/\cs.length=n*sz/\i<h.next)∨(g.nil=false/\Grown h0 h g sz n cs/\cap<=n/\Head h i cap sz (cs.take (cap*sz))/\i<h0.next)
theorem More.start {h0 h:Q0} {i cap sz n:Nat} {cs:List AV} (x:Head h i cap sz cs) (hl:cs.length=n*sz) (hi:i<h.next) (hn:n<=cap):More h0 h i cap ⟨false,i,0,n,cap,false⟩ sz n cs:=⟨.inl ⟨hn,rfl,x,hl,hi⟩⟩
theorem More.len {h0 h:Q0} {i cap sz n:Nat} {g:SL} {cs:List AV} (x:More h0 h i cap g sz n cs):cs.length=n*sz:=by
 rcases x.is with ⟨_,_,_,h,_⟩ | ⟨_,h,_⟩
 .exact h
 .exact h.1
theorem More.seg {h0 h:Q0} {i cap sz n:Nat} {g:SL} {cs:List AV} (x:More h0 h i cap g sz n cs):Seg h g sz cs:=by
 rcases x.is with ⟨_,rfl,h1,h2,h3⟩ | ⟨_,h1,_⟩
 .exact h1.seg h3 h2 _
 .exact h1.seg
theorem More.own {h0 h:Q0} {i cap sz n:Nat} {g:SL} {cs:List AV} (x:More h0 h i cap g sz n cs):g.i=i∨h0.next<=g.i:=by
 rcases x.is with ⟨_,rfl,_⟩ | ⟨h0,⟨_,h1⟩,_⟩
 .exact .inl rfl
 .rcases h1 with ⟨_,rfl⟩ | ⟨_,_,_,_,_,h6,_⟩
  .cases h0
  .exact .inr h6
theorem More.fr {S:Nat->Prop} {h0 h h':Q0} {i cap sz n:Nat} {g:SL} {cs:List AV} (x:More h0 h i cap g sz n cs) (f:Q5 S h h') (hi:¬S i) (hg:¬S g.i) (hh:h0.next<=h.next):More h0 h' i cap g sz n cs:=by
 rcases x.is with ⟨h1,rfl,h3,h4,h5⟩ | ⟨h1,h2,h3,h4,h5⟩
 .exact⟨.inl ⟨h1,rfl,h3.fr f h5 hi,h4,zF0 h5 f.next⟩⟩
 .exact⟨.inr ⟨h1,h2.fr f λ_=>hg,h3,h4.fr f (zF0 h5 hh) hi,h5⟩⟩
theorem More.head {h0 h:Q0} {i cap sz n:Nat} {g:SL} {cs:List AV} (x:More h0 h i cap g sz n cs):Head h i cap sz (cs.take (cap*sz)):=by
 rcases x.is with ⟨h1,rfl,h3,h4,h5⟩ | ⟨_,_,_,h4,_⟩
 .have:cs.take (cap*sz)=cs:=List.take_of_length_le (by rw[h4];exact Nat.mul_le_mul_right _ h1)
  rw[this];exact h3
 .exact h4
theorem More.append {P:Program} {h0 h:Q0} {i cap sz n e:Nat} {g:SL} {cs ds:List AV} {A:Prop} (x:More h0 h i cap g sz n cs) (hd:ds.length=sz) (hp:QL ds=true) (hr:jy P e (n+1)=true) (hh:h0.next<=h.next) (h0i:i<h0.next)
  (ha:More h0 (Qx h g sz 1 ds) i cap (g.app h.next 1) sz (n+1) (cs++ds)->Q5 (λj=>j=i∨h0.next<=j) h (Qx h g sz 1 ds)->A):jz P h g e sz 1 ds A:=by
 rcases x.is with ⟨h1,rfl,h3,h4,h5⟩ | ⟨h1,h2,h3,h4,h5⟩
 .obtain⟨c,m,c1,c2,c3⟩:=h3;by_cases hlt:n<cap
  .have hb:Nat.ble (n+1) cap=true:=zG0 hlt;have hle:n*sz+sz<=cap*sz:=by
    have:=Nat.mul_le_mul_right sz (show n+1<=cap from hlt)
    rw[Nat.add_mul,Nat.one_mul] at this;exact this
   have e1:Qx h ⟨false,i,0,n,cap,false⟩ sz 1 ds=hput h i (0+n*sz) ds:=by unfold Qx;rw[show Nat.beq 1 0=false from rfl];simp only;rw[hb]
   have e2:SL.app ⟨false,i,0,n,cap,false⟩ h.next 1=⟨false,i,0,n+1,cap,false⟩:=by unfold SL.app;rw[show Nat.beq 1 0=false from rfl];simp only;rw[hb]
   rw[Nat.zero_add] at e1;refine⟨⟨λ_=>h1,λ_ e=>(by cases e),λ_ _ _=>?_,λ_ hc=>?_,λ_ _ _ e=>(by cases e),λ_ _ hc=>?_⟩,hp,?_⟩
   .refine⟨h5,c,sz,false,m,c1,?_⟩;show 0+n*sz+ds.length<=c.length;rw[hd,c2];omega
   .rcases hc with hc | hc
    .exact absurd hc (by show ¬cap<n+1;omega)
    .cases hc
   .exact absurd hc (by show ¬cap<n+1;omega)
   .rw[e1,e2] at ha;refine ha ⟨.inl ⟨hlt,rfl,⟨_,m,qEy c1,?_,?_⟩,?_,by rw[qg];exact h5⟩⟩ (Q5.hput h _ _ λ_=>.inl rfl)
    .simp only[zC0,zY0,List.length_drop,hd,c2];omega
    .rw[<- h4,c3,<- zX0];exact List.take_left
    .rw[zC0,h4,hd,Nat.add_mul,Nat.one_mul]
  .have hcap:cap=n:=by omega
   subst hcap;have hb:Nat.ble (cap+1) cap=false:=by
    cases hq:Nat.ble (cap+1) cap with
    | false=>rfl
    | true=>exact absurd (zB1 hq) (by omega)
   have ec:(c.drop 0).take (cap*sz)=cs:=by rw[List.drop_zero,<- h4];exact c3
   have e1:Qx h ⟨false,i,0,cap,cap,false⟩ sz 1 ds=h.newO (.cells (cs++ds) sz true false):=by unfold Qx;rw[show Nat.beq 1 0=false from rfl];simp only;rw[hb,c1];simp only;rw[ec]
   have e2:SL.app ⟨false,i,0,cap,cap,false⟩ h.next 1=⟨false,h.next,0,cap+1,cap+1,true⟩:=by unfold SL.app;rw[show Nat.beq 1 0=false from rfl];simp only;rw[hb]
   have hl2:(cs++ds).length=(cap+1)*sz:=by rw[zC0,h4,hd,Nat.add_mul,Nat.one_mul]
   refine⟨⟨λ_=>h1,λ_ e=>(by cases e),λ_ _ hc=>?_,λ_ hc=>?_,λ_ _ _ e=>(by cases e),λ_ _ _ _=>⟨c,qEg c1,?_⟩⟩,hp,?_⟩
   .exact absurd hc (by show ¬cap+1<=cap;omega)
   .exact hr
   .rw[List.drop_zero,c2];exact zN0 _
   .rw[e1,e2] at ha;refine ha ⟨.inr ⟨rfl,⟨hl2,.inr ⟨rfl,rfl,rfl,rfl,rfl,hh,zO0 _,Ql _ _⟩⟩,Nat.le_succ _,?_,h0i⟩⟩ (Q5.newO _ _ _);rw[<- h4,List.take_left];exact⟨c,m,by rw[qm (Nat.ne_of_lt h5)];exact c1,c2,c3⟩
 .refine h2.append1 hh (by decide) (by rw[hd,Nat.one_mul]) hp hr λg2 f hi=>ha ⟨.inr ⟨?_,g2,by omega,?_,h5⟩⟩ (f.mono λj _ ⟨e1,e2⟩=>?_)
  .rcases g2.2 with ⟨e,_⟩ | ⟨e,_⟩
   .omega
   .exact e
  .have hlen:cap*sz<=cs.length:=by rw[h2.1];exact Nat.mul_le_mul_right _ h3
   rw[List.take_append_of_le_length hlen];refine h4.fr f (zF0 h5 hh) λ⟨e1,e2⟩=>?_;rcases x.own with e | e
   .rcases h2.2 with ⟨_,rfl⟩ | ⟨_,_,_,_,_,h6,_⟩
    .cases e1
    .omega
   .omega
  .rcases h2.2 with ⟨_,rfl⟩ | ⟨_,_,_,_,_,h6,_⟩
   .cases e1
   .rw[e2];exact .inr h6
structure Ext (h0 h:Q0) (b g:SL) (sz n:Nat) (cs:List AV):Prop where
 is:(b.nil=true/\Grown h0 h g sz n cs)∨(b.nil=false/\b.i<h0.next/\More h0 h b.i b.cap g sz n cs)
theorem Ext.len {h0 h:Q0} {sz n:Nat} {b g:SL} {cs:List AV} (x:Ext h0 h b g sz n cs):cs.length=n*sz:=by
 rcases x.is with ⟨_,h⟩ | ⟨_,_,h⟩
 .exact h.1
 .exact h.len
theorem Ext.seg {h0 h:Q0} {sz n:Nat} {b g:SL} {cs:List AV} (x:Ext h0 h b g sz n cs):Seg h g sz cs:=by
 rcases x.is with ⟨_,h⟩ | ⟨_,_,h⟩
 .exact h.seg
 .exact h.seg
theorem Ext.own {h0 h:Q0} {sz n:Nat} {b g:SL} {cs:List AV} (x:Ext h0 h b g sz n cs):g.nil=false->(b.nil=false/\g.i=b.i)∨h0.next<=g.i:=λe=>by
 rcases x.is with ⟨_,⟨_,h1⟩⟩ | ⟨e1,_,h⟩
 .rcases h1 with ⟨_,rfl⟩ | ⟨_,_,_,_,_,h6,_⟩
  .cases e
  .exact .inr h6
 .rcases h.own with h | h
  .exact .inl ⟨e1,h⟩
  .exact .inr h
theorem Ext.fr {S:Nat->Prop} {h0 h h':Q0} {sz n:Nat} {b g:SL} {cs:List AV} (x:Ext h0 h b g sz n cs) (f:Q5 S h h') (hi:b.nil=false->¬S b.i) (hg:∀j,h0.next<=j->g.nil=false->j=g.i->¬S j) (hh:h0.next<=h.next):Ext h0 h' b g sz n cs:=by
 rcases x.is with ⟨e,h1⟩ | ⟨e,h2,h1⟩
 .refine⟨.inl ⟨e,h1.fr f λe2=>?_⟩⟩;rcases h1.2 with ⟨_,rfl⟩ | ⟨_,_,_,_,_,h6,_⟩
  .cases e2
  .exact hg _ h6 e2 rfl
 .refine⟨.inr ⟨e,h2,?_⟩⟩;rcases h1.is with ⟨h3,rfl,h4,h5,h6⟩ | ⟨h3,h4,h5,h6,h7⟩
  .exact h1.fr f (hi e) (hi e) hh
  .refine h1.fr f (hi e) ?_ hh;rcases h4.2 with ⟨_,rfl⟩ | ⟨_,_,_,_,_,h8,_⟩
   .cases h3
   .exact hg _ h8 h3 rfl
theorem Ext.append {P:Program} {h0 h:Q0} {sz n e:Nat} {b g:SL} {cs ds:List AV} {A:Prop} (x:Ext h0 h b g sz n cs) (hd:ds.length=sz) (hp:QL ds=true) (hr:jy P e (n+1)=true) (hh:h0.next<=h.next)
  (ha:Ext h0 (Qx h g sz 1 ds) b (g.app h.next 1) sz (n+1) (cs++ds)->Q5 (λj=>(b.nil=false/\j=b.i)∨h0.next<=j) h (Qx h g sz 1 ds)->A):jz P h g e sz 1 ds A:=by
 rcases x.is with ⟨e1,h1⟩ | ⟨e1,h2,h1⟩
 .exact h1.append hh (by decide) (by rw[hd,Nat.one_mul]) hp hr λg2 f=>ha ⟨.inl ⟨e1,g2⟩⟩ (f.mono λi _ h=>.inr h)
 .exact h1.append hd hp hr hh h2 λg2 f=>ha ⟨.inr ⟨e1,h2,g2⟩⟩ (f.mono λi _ h=>h.imp (λh=>⟨e1,h⟩) id)
end Go.X
namespace Go.X
open Go Go.RowKit
structure Cln (h0 h:Q0) (s:SL) (k:List Nat):Prop where
 byts:qz h s k
 own:s.nil=false->h0.next<=s.i/\s.o=0/\s.cap=k.length/\h.get s.i=some (.cells (ofBytes k) 1 s.ext false)
 nils:s.nil=true->s=QE
structure qy (h0 h:Q0) (s:SL) (k:List Nat):Prop where
 byts:qz h s k
 own:s.nil=false->h0.next<=s.i/\s.o=0/\s.ext=false/\Head h s.i s.cap 1 (ofBytes k)
 nils:s.nil=true->s=QE
theorem qy.fr {h0 h h':Q0} {s:SL} {k:List Nat} {S:Nat->Prop} (x:qy h0 h s k) (f:Q5 S h h') (hs:s.nil=false->¬S s.i):qy h0 h' s k :=
 ⟨x.byts.fr f hs,λe=>by
  obtain⟨h1,h2,h3,h4⟩:=x.own e;exact⟨h1,h2,h3,h4.fr f (x.byts.seg.lt e) (hs e)⟩,x.nils⟩
theorem qy.of {h0 h1 h:Q0} {s:SL} {k:List Nat} (x:qy h1 h s k) (hn:h0.next<=h1.next):qy h0 h s k :=
 ⟨x.byts,λe=>by
  obtain⟨h1,h2,h3,h4⟩:=x.own e;exact⟨zP0 hn h1,h2,h3,h4⟩,x.nils⟩
theorem qy.nil (h0 h:Q0):qy h0 h QE []:=⟨qz.nil _ _,λe=>(by cases e),λ_=>rfl⟩
theorem qSx {P:Program} {h:Q0} {s:SL} {k:List Nat} {e:Nat} {Q:Q0->SL->Prop} (hb:qz h s k) (hr:jy P e k.length=true)
  (hk:∀h' s',Q5 Qa h h'->Cln h h' s' k->s'.nil=false->Q h' s') :
  jz P (h.newO (.cells [] 1 false false)) ⟨false,h.next,0,0,0,false⟩ e 1 s.n (ofBytes k) (Q (Qx (h.newO (.cells [] 1 false false)) ⟨false,h.next,0,0,0,false⟩ 1 s.n (ofBytes k)) (SL.app ⟨false,h.next,0,0,0,false⟩ (h.newO (.cells [] 1 false false)).next s.n)):=by
 rw[hb.len];refine⟨⟨λ_=>zN0 _,λ_ e=>(by cases e),λh1 _ h2=>?_,λ_ _=>?_,λ_ _ _ h=>(by cases h),λ_ _ _ _=>⟨[],qEg (Ql _ _),by simp⟩⟩,qPc k,?_⟩
 .exact absurd h2 (by show ¬ 0+k.length<=0;omega)
 .show jy P e (0+k.length)=true;rw[Nat.zero_add];exact hr
 cases k with
 | nil =>
  refine hk _ _ (Q5.newO _ _ _) ⟨⟨Seg.own (cs:=[]) (more:=[]) (e:=1) (g:=false) (m:=false) (by rfl) (zO0 _) (Ql _ _),λx hx=>(by cases hx)⟩,λ_=>⟨zN0 _,rfl,rfl,Ql _ _⟩,λe=>(by cases e)⟩ rfl
 | cons x k =>
  have e1:Qx (h.newO (.cells [] 1 false false)) ⟨false,h.next,0,0,0,false⟩ 1 (x::k).length (ofBytes (x::k))=(h.newO (.cells [] 1 false false)).newO (.cells (ofBytes (x::k)) 1 true false):=by unfold Qx;rw[show Nat.beq (x::k).length 0=false from rfl];simp only;rw[show Nat.ble (0+(x::k).length) 0=false by rw[Nat.zero_add];rfl,Ql];rfl
  have e2:SL.app ⟨false,h.next,0,0,0,false⟩ (h.newO (.cells [] 1 false false)).next (x::k).length=⟨false,h.next+1,0,(x::k).length,(x::k).length,true⟩:=by unfold SL.app;rw[show Nat.beq (x::k).length 0=false from rfl];simp only;rw[show Nat.ble (0+(x::k).length) 0=false by rw[Nat.zero_add];rfl,Nat.zero_add];rfl
  rw[e1,e2];refine hk _ _ ((Q5.newO _ _ _).trans (Q5.newO _ _ _)) ⟨⟨Seg.own (cs:=ofBytes (x::k)) (more:=[]) (e:=1) (g:=true) (m:=false) (by rw[Qt,zC1]) (zO0 _) (by rw[zS0];exact Ql _ _),hb.byte⟩,λ_=>⟨Nat.le_succ _,rfl,rfl,Ql _ _⟩,λe=>(by cases e)⟩ rfl
theorem rev_own {K:ZK} {h0 h:Q0} {s:SL} {k:List Nat} (w:Cln h0 h s k) (hk:∀h' s',Q5 (λi=>s.nil=false/\i=s.i) h h'->qy h0 h' s' k->(s'.nil=s.nil)->K (.sl s') h'):qJ7 K (.sl s) h:=by
 obtain⟨nil,i,o,len,cap,ext⟩:=s;unfold qJ7;cases nil with
 | true=>exact hk _ _ (Q5.refl _ _) ⟨w.byts,λe=>(by cases e),w.nils⟩ rfl
 | false =>
  obtain⟨h1,h2,h3,h4⟩:=w.own rfl;have h2:o=0:=h2;have h3:cap=k.length:=h3;subst h2;subst h3;have hlen:len=k.length:=by have:=w.byts.len;exact this
  subst hlen;have lt:i<h.next:=w.byts.seg.lt rfl
  cases ext with
  | false =>
   refine hk _ _ (Q5.refl _ _) ⟨w.byts,λ_=>⟨h1,rfl,rfl,ofBytes k,_,h4,by rw[Qt,zC1],List.take_length⟩,λe=>(by cases e)⟩ rfl
  | true =>
   refine⟨_,_,_,h4,lt,λx=>?_⟩;have g:=qD1 h i (some (.cells (ofBytes k++List.replicate (x*1) AV.junk) 1 false false));refine hk _ _ (Q5.put h _ λ_=>⟨rfl,rfl⟩) ⟨⟨Seg.own (more:=List.replicate (x*1) AV.junk) (by rw[Qt,zC1]) lt g,w.byts.byte⟩,λ_=>⟨h1,rfl,rfl,_,_,g,?_,?_⟩,λe=>(by cases e)⟩ rfl
   .rw[zC0,zZ0,Qt];show _=(k.length+x)*1;omega
   .rw[List.take_left]
end Go.X
namespace Go.X
open Go Go.RowKit
def qDp:List AV->List AV->(List AV->FM)->FM
 | [],acc,k=>k acc
 | v::l,acc,k=>revK v λv'=>qDp l (acc++[v']) k
def revSet (i:Nat) (n:QB) (k:FM) (a:QB):FM:=match a with
 | .cells _ _ _ _=>.set i n k
 | _=>.fail 302
def qCm (i:Nat) (k:FM) (a:QB):FM:=match a with
 | .cells c esz g mk=>qDp c [] λc'=>.get i (revSet i (.cells c' esz g mk) k)
 | _=>.fail 303
def qDo (v:AV) (k:FM):FM:=match v with
 | .slice i _ _ _ _=>.get i (qCm i k)
 | _=>k
def revT (v:AV) (k:KV):FM:=match v with
 | .tuple [s,e]=>revK s λs'=>qDo s' (k (.tuple [s',e]))
 | _=>.fail 304
section
variable {P:Program} {W0:World} {p:QQ} {w:World}
theorem qBc:∀(l acc:List AV) {E:Env} {h:Q0} {vs us:List Value} {k:List AV->FM},Rel P W0 E h w->VRs E l vs->VRs E acc us->(qDp l acc k).sat p h ->
  ∃E' h' c,Stp E h E' h'/\Rel P W0 E' h' w/\VRs E' c (us++vs)/\(k c).sat p h'
 | [],acc,E,h,vs,us,k,r,hv,hu,hs=>by
  cases hv;exact⟨E,h,acc,.refl _ _,r,by rw[zS0];exact hu,hs⟩
 | a::l,acc,E,h,vs,us,k,r,hv,hu,hs=>by
  cases hv with
  | cons _ v _ m h1 ht =>
  have hs:(revK a λv'=>qDp l (acc++[v']) k).sat p h:=hs;obtain⟨E1,h1',a1,s1,r1,hv1,hs1⟩:=qZ2 r h1 hs;obtain⟨E2,h2,c,s2,r2,hv2,hs2⟩:=qBc l (acc++[a1]) (vs:=m) (us:=us++[v]) r1 (ht.mono s1.le) ((hu.mono s1.le).append (.cons _ _ _ _ hv1 .nil)) hs1;exact⟨E2,h2,c,s1.trans s2,r2,by rw[zX0] at hv2;exact hv2,hs2⟩
theorem qCn {E:Env} {h:Q0} {a:AV} {v:Value} {k:FM} (r:Rel P W0 E h w) (hv:VR E a v) (hs:(qDo a k).sat p h):∃E' h',Stp E h E' h'/\Rel P W0 E' h' w/\k.sat p h':=by
 unfold qDo at hs;split at hs
 .rename_i i o len cap ext;obtain⟨a0,hg,hs1⟩:=hs;have hs:(qCm i k a0).sat p h:=hs1;unfold qCm at hs;split at hs
  .rename_i c esz g mk;obtain⟨b,ob,hb,hw,hor⟩:=r.obj _ _ hg;cases hor with
   | cells _ _ _ _ cs e fr pre c1 rest hcs hp hc hrest hfr =>
   obtain⟨E1,h1,c',s1,r1,hv1,hs1⟩:=qBc c [] (us:=[]) r hc .nil hs;obtain⟨a2,hg2,hs2⟩:=hs1;have hs2:(revSet i (.cells c' esz g mk) k a2).sat p h1:=hs2;unfold revSet at hs2;split at hs2
   .obtain⟨hi,hs3⟩:=hs2;refine⟨E1,h1.put i (some (.cells c' esz g mk)),s1.trans ⟨.refl _,λ_ _ h=>.inl h,rfl,zN0 _⟩,?_,hs3⟩;have eqw:=qF0 hw
    have:=Rel.set r1 hg2 (s1.le.blk _ _ hb) (a1:=.cells c' esz g mk) (o1:=.cells cs e fr) (λh=>by rcases h with h | ⟨_,h⟩ <;> cases h) (λ_ _ h=>by cases h)
     (.cells _ _ _ _ cs _ fr pre c1 rest hcs (by rw[s1.le.base _ _ hb];exact hp) hv1 (by rw[s1.le.ext _ _ hb];exact hrest) hfr)
    rw[eqw] at this;exact this
   .exact hs2.elim
  .exact hs.elim
 .exact⟨E,h,.refl _ _,r,hs⟩
theorem qDn {E:Env} {h:Q0} {av:AV} {v:Value} {k:KV} (r:Rel P W0 E h w) (hv:VR E av v) (hs:(revT av k).sat p h) :
  ∃E' h' av',Stp E h E' h'/\Rel P W0 E' h' w/\VR E' av' v/\(k av').sat p h':=by
 unfold revT at hs;split at hs
 .rename_i s e;cases hv with
  | tuple _ x hx =>
  generalize hxl:x.toList=xl at hx;cases hx with
  | cons _ v1 _ m1 h1 ht =>
  obtain⟨E1,h1',s1,st1,r1,hv1,hs1⟩:=qZ2 r h1 hs;obtain⟨E2,h2,st2,r2,hs2⟩:=qCn r1 hv1 hs1;refine⟨E2,h2,_,st1.trans st2,r2,.tuple _ _ ?_,hs2⟩;rw[hxl];exact .cons _ _ _ _ (hv1.mono st2.le) ((ht.mono st1.le).mono st2.le)
 .exact hs.elim
end
def revXT (P:Program) (sums:Sums) (lf n:Nat) (g:FuncId):List AV->KV->(QR->FM)->FM:=λargs k kp=>(xCR P Qu sums lf n).call g args (λv=>revT v k) kp
def addTX (P:Program) (lf n:Nat) (g:FuncId) (sums:Sums):Sums:=λf=>match Nat.beq f g with | true=>some (revXT P sums lf n g) | false=>sums f
def qBa:List AV->List AV->(List AV->Q0->Prop)->Q0->Prop
 | [],acc,K,h=>K acc h
 | .slice i o len cap true::l,acc,K,h=>∃c esz mk,h.get i=some (.cells c esz true mk)/\i<h.next/\∀x,qBa l (acc++[.slice i o len (cap+x) false]) K (h.put i (some (.cells (c++List.replicate (x*esz) .junk) esz false mk)))
 | v::l,acc,K,h=>qBa l (acc++[v]) K h
def qB7 (t:SL) (A:Q0->Prop) (h:Q0):Prop:=match t.nil with
 | true=>A h
 | false=>∃c esz g mk,h.get t.i=some (.cells c esz g mk)/\qBa c [] (λc' h2=>(∃c2 e2 g2 m2,h2.get t.i=some (.cells c2 e2 g2 m2))/\t.i<h2.next/\A (h2.put t.i (some (.cells c' esz g mk)))) h
def qCj (K:ZK) (v:ZV) (h:Q0):Prop:=match v with
 | .tup [.sl s,.int q n]=>qJ7 (λv' h'=>match v' with | .sl t=>qB7 t (K (.tup [.sl t,.int q n])) h' | _=>False) (.sl s) h
 | _=>False
def addTZ (P:Program) (lf n:Nat) (g:FuncId) (S:QW):QW:=λf=>match Nat.beq f g with | true=>some (λargs K h=>Qq P S lf n g args (qCj K) h) | false=>S f
theorem revK_z {v:ZV} {K:ZK} {k:KV} {p:QQ} (hp:∀v' h',h'.inf=true->K v' h'->(k v'.av).sat p h') {h:Q0} (hi:h.inf=true) (hv:qJ7 K v h):(revK v.av k).sat p h:=by
 cases v with
 | sl s =>
  rw[qDk];unfold qJ7 at hv;cases hn:s.nil with
  | true =>
   simp only[hn] at hv
   have:=hp _ _ hi hv
   rw[qDk] at this;have e:revK s.av k=k s.av:=by unfold SL.av;rw[hn];cases s.ext <;> rfl
   rw[e];exact this
  | false =>
   cases he:s.ext with
   | false =>
    simp only[hn,he] at hv
    have:=hp _ _ hi hv
    rw[qDk] at this;have e:revK s.av k=k s.av:=by unfold SL.av;rw[hn,he];rfl
    rw[e];exact this
   | true =>
    simp only[hn,he] at hv;obtain⟨c,esz,mk,h1,h2,h3⟩:=hv;have e:s.av=.slice s.i s.o s.len s.cap true:=by unfold SL.av;rw[hn,he]
    rw[e];refine⟨_,h1,λx=>⟨h2,?_⟩⟩
    have:=hp _ _ (by exact hi) (h3 x)
    rw[qDk] at this;exact this
 | _=>exact hv.elim
theorem qCo {p:QQ} {k:List AV->FM} {K:List AV->Q0->Prop} (hp:∀c h',h'.inf=true->K c h'->(k c).sat p h'):∀(l acc:List AV) {h:Q0},h.inf=true->qBa l acc K h->(qDp l acc k).sat p h
 | [],acc,h,hi,hz=>hp acc h hi hz
 | v::l,acc,h,hi,hz=>by
  show (revK v λv'=>qDp l (acc++[v']) k).sat p h;unfold qBa at hz;split at hz
  .rename_i e;cases e
  .rename_i i o len cap l' acc e;cases e;obtain⟨c,esz,mk,h1,h2,h3⟩:=hz;exact⟨_,h1,λx=>⟨h2,qCo hp l _ (by exact hi) (h3 x)⟩⟩
  .rename_i v' l' acc hne e;cases e;have e:∀q:KV,revK v q=q v:=λq=>by
    unfold revK;split
    .exact absurd rfl (hne _ _ _ _)
    .rfl
   rw[e];exact qCo hp l _ hi hz
theorem revIn_z {p:QQ} {t:SL} {A:Q0->Prop} {k:FM} (hp:∀h',h'.inf=true->A h'->k.sat p h') {h:Q0} (hi:h.inf=true) (hz:qB7 t A h):(qDo t.av k).sat p h:=by
 unfold qB7 at hz;cases hn:t.nil with
 | true =>
  rw[hn] at hz;have e:qDo t.av k=k:=by unfold SL.av;rw[hn];cases t.ext <;> rfl
  rw[e];exact hp h hi hz
 | false =>
  rw[hn] at hz;obtain⟨c,esz,g,mk,h1,h2⟩:=hz;have e:t.av=.slice t.i t.o t.len t.cap t.ext:=by unfold SL.av;rw[hn]
  rw[e];exact⟨_,h1,qCo (λc' h' hi' hK=>by
   obtain⟨⟨c2,e2,g2,m2,q1⟩,q2,q3⟩:=hK;exact⟨_,q1,q2,hp _ (by exact hi') q3⟩) c [] hi h2⟩
section
variable {P:Program} {W0:World}
theorem qk.addT {sums:Sums} (hs:qk P W0 sums) (hmo:P.follows .mixedOrders=true) (lf n:Nat) (g:FuncId):qk P W0 (addTX P lf n g sums):=by
 intro f s hf args k kp p E h w vs hb hsat r hv;have hf1:(match Nat.beq f g with | true=>some (revXT P sums lf n g) | false=>sums f)=some s:=hf;cases hfg:Nat.beq f g with
 | false=>rw[hfg] at hf1;exact hs f s hf1 args k kp p E h w vs hb hsat r hv
 | true =>
  rw[hfg] at hf1;cases hf1;have e:=beq_iff.1 hfg;subst e;refine Calls.mono ((qM4 hs (.inr λ_=>zA1 _) hmo n).1 f args _ _ p E h w vs hb hsat r hv) λe w' he=>?_;cases e with
  | returned v =>
   obtain⟨E',h',av,s1,r',hv',hs'⟩:=he;obtain⟨E2,h2,av2,s2,r2,hv2,hk⟩:=qDn r' hv' hs';exact⟨E2,h2,av2,s1.trans s2,r2,hv2,hk⟩
  | panicked c=>exact he
  | outgrown=>exact he.elim
theorem qCl {S:QW} {sums:Sums} (hs:SumFit S sums) (lf n:Nat) {g:FuncId} (hg:g<P.funcs.size):SumFit (addTZ P lf n g S) (addTX P lf n g sums):=by
 constructor
 .intro f hf;have hf1:(match Nat.beq f g with | true=>some (λargs K h=>Qq P S lf n g args (qCj K) h) | false=>S f)=none:=hf;show (match Nat.beq f g with | true=>some (revXT P sums lf n g) | false=>sums f)=none;cases hfg:Nat.beq f g with
  | false=>rw[hfg] at hf1;exact hs.none f hf1
  | true=>rw[hfg] at hf1;cases hf1
 .intro f s hf;have hf1:(match Nat.beq f g with | true=>some (λargs K h=>Qq P S lf n g args (qCj K) h) | false=>S f)=some s:=hf;show ∃x,(match Nat.beq f g with | true=>some (revXT P sums lf n g) | false=>sums f)=some x/\_;cases hfg:Nat.beq f g with
  | false=>rw[hfg] at hf1;exact hs.some f s hf1
  | true =>
   rw[hfg] at hf1;cases hf1;refine⟨_,rfl,λargs K h hi hz kp k p hp=>?_⟩;refine (qH7 hs (lf:=lf) n).call g args (qCj K) h hg hi hz kp (λv=>revT v k) p λv h' hi' hv=>?_;unfold qCj at hv;split at hv
   .rename_i s q n;rw[qQo];show (revK (ZV.av (.sl s)) λs'=>qDo s' (k (.tuple [s',(ZV.int q n).av]))).sat p h';refine revK_z (v:=.sl s) (λv2 h2 hi2 hv2=>?_) hi' hv;cases v2 with
    | sl t =>
     rw[qDk];refine revIn_z (λh3 hi3 hA=>?_) hi2 hv2
     have:=hp _ _ hi3 hA
     rw[qQo] at this;exact this
    | _=>exact hv2.elim
   .exact hv.elim
end
end Go.X
