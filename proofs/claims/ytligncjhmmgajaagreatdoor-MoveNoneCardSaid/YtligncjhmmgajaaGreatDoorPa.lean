/-
 PROVED: Begin and Resume of move,and the law MoveNone,over heaps of which some objects are known. Conditions: the calls below were run (structures).
-/
import Derived.Test.YtligncjhmmgajaaGreatDoorFa
import Derived.Test.YtligncjhmmgajaaGreatDoorFb
set_option linter.unusedVariables false
set_option linter.unusedSimpArgs false
set_option maxRecDepth 1000000
open List renaming mem_of_getElem? -> zC0, getElem?_eq_getElem -> zD0, mem_append_left -> zG0, mem_append_right -> zH0, length_take -> zQ0, length_drop -> zR0
open Nat renaming lt_of_lt_of_le -> zE0, ble_eq_true_of_le -> zF0, le_refl -> zL0, le_trans -> zM0, le_of_ble_eq_true -> zS0
noncomputable section
namespace MnN
open Go Go.X Go.Proofs
def qG (pk:Int) (n:Nat):Bool:=decide (1<=pk) && decide (pk<=4) && decide (n<=65536) && (decide (pk=4) || decide (n=0))
section
variable {S:QC} {lf n:Nat} {h:Q0} {K:ZK} {H:Obs} {A B:Nat}
def choE:List (AV × AV):=mset (AV.int IntKind.i64 4) (AV.func (AFn.plain (Fn.func 113)) [] []) (mset (AV.int IntKind.i64 2) (AV.func (AFn.plain (Fn.func 112)) [] []) (mset (AV.int IntKind.i64 3) (AV.func (AFn.plain (Fn.func 111)) [] []) (mset (AV.int IntKind.i64 1) (AV.func (AFn.plain (Fn.func 111)) [] []) [])))
def choH (h:Q0):Q0:=h.newO (.map choE 4)
theorem jG3 (hS:S 64=none) (hk:K (.mp false h.next) (choH h)):Qu Tryz.prog S lf (n+1) 64 [] K h:=by
 refine Qy hS (by kernel_rfl) ?_;rw[jG4,qMb,qMb,qMb,qMb];have mk:∀(es:List (AV × AV)) (v:Nat) (key:AV) (A:Prop),Jm es key=true->A->ZMap (h.newO (.map es v)) false h.next key A:=λes v key A hf ha=>⟨rfl,Nat.lt_succ_self _,⟨es,v,Qz _ _,hf⟩,ha⟩
 exact mk _ _ _ _ (by kernel_rfl) (mk _ _ _ _ (by kernel_rfl) (mk _ _ _ _ (by kernel_rfl) (mk _ _ _ _ (by kernel_rfl) hk)))
def chkH (h:Q0) (pk:Int) (s:SL):Q0:=choH (h.newO (.cells [AV.int IntKind.i64 pk,s.av] 0 false false))
theorem jEw (pk:Int):(qJ5 choE (AV.int IntKind.i64 pk)=none/\¬(1<=pk/\pk<=4))∨(∃f,qJ5 choE (AV.int IntKind.i64 pk)=some (AV.func (AFn.plain (Fn.func f)) [] [])/\1<=pk/\pk<=4):=by
 match pk with
 | .negSucc m=>exact .inl ⟨by kernel_rfl,by omega⟩
 | .ofNat 0=>exact .inl ⟨by kernel_rfl,by decide⟩
 | .ofNat 1=>exact .inr ⟨111,by kernel_rfl,by decide,by decide⟩
 | .ofNat 2=>exact .inr ⟨112,by kernel_rfl,by decide,by decide⟩
 | .ofNat 3=>exact .inr ⟨111,by kernel_rfl,by decide,by decide⟩
 | .ofNat 4=>exact .inr ⟨113,by kernel_rfl,by decide,by decide⟩
 | .ofNat (m+5)=>exact .inl ⟨by kernel_rfl,λ⟨_,h⟩=>by have:((m+5:Nat):Int)<=4:=h;omega⟩
theorem check_ok (hS:S 27=none) (hS2:S 64=none) (pk:Int) (s:SL) (hk:K (.int .i64 (if qG pk s.n=true then 0 else 161)) (chkH h pk s)) :
  Qu Tryz.prog S lf (n+2) 27 [.agg [.int .i64 pk,.sl s]] K h:=by
 refine Qy hS (by kernel_rfl) ?_;rw[pcheck_nf];have v1:=Var.new h [AV.int IntKind.i64 pk,s.av];have f2:Qv Qn (h.newO (.cells [AV.int IntKind.i64 pk,s.av] 0 false false)) (chkH h pk s):=Qv.newO Qn _ _;have v2:=v1.fr f2 id;have e_:∀m:Nat,(Int.ofNat m:Int)=m:=λ_=>rfl;have yes:qG pk s.n=true->K (.int .i64 0) (chkH h pk s):=λe=>by rw[if_pos e] at hk;exact hk
 have no:qG pk s.n=false->K (.int .i64 161) (chkH h pk s):=λe=>by rw[e] at hk;exact hk
 refine⟨rfl,rfl,v1.ldI pk rfl (jG3 hS2 ⟨false,_,by kernel_rfl,⟨⟨rfl,v2.ldI pk rfl rfl⟩,⟨λe=>(by cases e),λ_=>⟨choE,4,Qz _ _,by kernel_rfl,λv hv=>?_,λhv=>?_⟩⟩⟩⟩)⟩
 .rcases jEw pk with ⟨e,_⟩ | ⟨f,e,h1,h2⟩
  .rw[e] at hv;cases hv
  .rw[e] at hv;cases hv;refine⟨rfl,nay ⟨rfl,rfl,v2.ldL s rfl ?_⟩⟩;by_cases h3:s.n<=65536
   .refine Qt (show decide (65536<Int.ofNat s.n)=false from decide_eq_false (by rw[e_];omega)) ⟨rfl,rfl,v2.ldL s rfl ?_⟩;by_cases h7:s.n=0
    .refine Qt (decide_eq_false (by rw[e_];omega)) (yes ?_);unfold qG;rw[decide_eq_true h1,decide_eq_true h2,decide_eq_true h3,decide_eq_true h7,Bool.or_true];rfl
    .refine QB (decide_eq_true (by rw[e_];omega)) ⟨rfl,rfl,v2.ldI pk rfl ?_⟩;by_cases h4:pk=4
     .refine Qt (show (!decide (pk=4))=false by rw[decide_eq_true h4];rfl) (yes ?_);unfold qG;rw[decide_eq_true h1,decide_eq_true h2,decide_eq_true h3,decide_eq_true h4];rfl
     .refine QB (show (!decide (pk=4))=true by rw[decide_eq_false h4];rfl) (no ?_);unfold qG;rw[decide_eq_false h4,decide_eq_false h7,Bool.or_false,Bool.and_false]
   .refine QB (show decide (65536<Int.ofNat s.n)=true from decide_eq_true (by rw[e_];omega)) (no ?_);unfold qG;rw[decide_eq_false h3,Bool.and_false,Bool.false_and]
 .rcases jEw pk with ⟨_,h1⟩ | ⟨f,e,_⟩
  .refine⟨rfl,no ?_⟩;unfold qG;by_cases h2:1<=pk
   .rw[decide_eq_false (λh3=>h1 ⟨h2,h3⟩),Bool.and_false,Bool.false_and,Bool.false_and]
   .rw[decide_eq_false h2,Bool.false_and,Bool.false_and,Bool.false_and]
  .rw[e] at hv;cases hv
end
end MnN
namespace MnN
open Go Go.X Go.Proofs
section
variable {S:QC} {lf n:Nat} {h:Q0} {K:ZK} {H:Obs} {A B:Nat}
theorem J4 (hS:S 27=none) (hS2:S 64=none) (x:Has h H A B) (pk:Int) (s:SL) (hk:∀h',Has h' H A (B+2)->Qv Qn h h'->K (.int .i64 (if qG pk s.n=true then 0 else 161)) h') :
  Qu Tryz.prog S lf (n+2) 27 [.agg [.int .i64 pk,.sl s]] K h :=
 check_ok hS hS2 pk s (hk _ ((x.newO _).newO _) ((Qv.newO Qn h _).trans (Qv.newO Qn _ _)))
theorem qXp {P:Program} {s:SL} {ds:List AV} {e:Nat} {Q:Q0->SL->Prop} (hlen:s.n=ds.length) (hp:QX ds=true) (hl:ds≠[]) (hr:qLc P e ds.length=true)
  (hk:Q ((h.newO (.cells [] 1 false false)).newO (.cells ds 1 true false)) ⟨false,h.next+1,0,ds.length,ds.length,true⟩) :
  ZApp P (h.newO (.cells [] 1 false false)) ⟨false,h.next,0,0,0,false⟩ e 1 s.n ds (Q (Js (h.newO (.cells [] 1 false false)) ⟨false,h.next,0,0,0,false⟩ 1 s.n ds) (SL.app ⟨false,h.next,0,0,0,false⟩ (h.newO (.cells [] 1 false false)).next s.n)):=by
 rw[hlen];refine⟨⟨λ_=>zL0 _,λ_ e=>(by cases e),λh1 _ h2=>?_,λ_ _=>?_,λ_ _ _ h=>(by cases h),λ_ _ _ _=>⟨[],qI5 (Qz _ _),by simp⟩⟩,hp,?_⟩
 .exact absurd h2 (by show ¬ 0+ds.length<=0;omega)
 .show qLc P e (0+ds.length)=true;rw[Nat.zero_add];exact hr
 cases ds with
 | nil=>exact absurd rfl hl
 | cons x k =>
  have e1:Js (h.newO (.cells [] 1 false false)) ⟨false,h.next,0,0,0,false⟩ 1 (x::k).length (x::k)=(h.newO (.cells [] 1 false false)).newO (.cells (x::k) 1 true false):=by unfold Js;rw[show Nat.beq (x::k).length 0=false from rfl];simp only;rw[show Nat.ble (0+(x::k).length) 0=false by rw[Nat.zero_add];rfl,Qz];rfl
  have e2:SL.app ⟨false,h.next,0,0,0,false⟩ (h.newO (.cells [] 1 false false)).next (x::k).length=⟨false,h.next+1,0,(x::k).length,(x::k).length,true⟩:=by unfold SL.app;rw[show Nat.beq (x::k).length 0=false from rfl];simp only;rw[show Nat.ble (0+(x::k).length) 0=false by rw[Nat.zero_add];rfl,Nat.zero_add];rfl
  rw[e1,e2];exact hk
theorem qI7 (hS:S 35=none) (x:Has h H A B) {s:SL} {k:List Nat} (hb:qP h s k) (hn:k.length<=65536)
  (hk:∀s' h',Has h' H A (B+2)->Qv Qn h h'->K (.sl s') h'):Qu Tryz.prog S lf (n+1) 35 [.sl s] K h:=by
 refine Qy hS (by kernel_rfl) ?_;rw[bclone_nf];cases e:s.isNil with
 | true=>exact QB rfl (hk _ h (x.wide (by omega)) (Qv.refl _ _))
 | false =>
  have f0:Qv Qn h (h.newO (.cells [] 1 false false)):=Qv.newO Qn _ _;refine Qt rfl ((hb.seg.fr f0 λ_=>id).zsrc ?_);have hl:s.n=(ofBytes k).length:=by rw[hb.len,QE]
  cases k with
  | nil =>
   refine qO1 (Q:=λh s=>K (.sl s) h) hb.len ?_;exact hk _ _ ((x.newO _).wide (by omega)) f0
  | cons y k =>
   refine qXp (Q:=λh s=>K (.sl s) h) hl (qTp _) (by simp[ofBytes]) ?_ ?_
   .have hb:qU6 Tryz.prog 5=some 1:=by kernel_rfl
    have hl2:(ofBytes (y::k)).length=(y::k).length:=QE _;rw[hl2];unfold qLc;rw[hb];show cnd (Nat.ble (Nat.mul (y::k).length 1) most) (Nat.ble (y::k).length most) false=true;have hm:524288<=most:=by decide
    rw[zF0 (show Nat.mul (y::k).length 1<=most from zM0 (show (y::k).length*1<=524288 by omega) hm),cnd_t,zF0 (show (y::k).length<=most by omega)]
   .exact hk _ _ ((x.newO _).newO _) (f0.trans (Qv.newO Qn _ _))
theorem qFe (hS:S 31=none) (x:Has h H A B) {s:SL} {l:List Int} (hl:J5 h s l) (hn:l.length<=65536)
  (hk:∀s' h',Has h' H A (B+2)->Qv Qn h h'->J5 h' s' l->(s'.nil=false->h.next<=s'.i)->K (.sl s') h'):Qu Tryz.prog S lf (n+1) 31 [.sl s] K h:=by
 refine Qy hS (by kernel_rfl) ?_;rw[clone_nf];cases e:s.isNil with
 | true =>
  have hnil:s.nil=true:=by
   unfold SL.isNil at e;cases h1:s.nil with
   | true=>rfl
   | false=>rw[h1] at e;cases e
  have h0:l=[]:=by
   have:=hl.len
   unfold SL.n at this;rw[hnil] at this;exact List.eq_nil_of_length_eq_zero this.symm
  subst h0;exact QB rfl (hk _ h (x.wide (by omega)) (Qv.refl _ _) ⟨rfl,λh=>(by cases h),λh=>(by cases h)⟩ λh=>(by cases h))
 | false =>
  have f0:Qv Qn h (h.newO (.cells [] 1 false false)):=Qv.newO Qn _ _;refine Qt rfl ((hl.fr f0 λ_=>id).zsrc ?_);cases l with
  | nil =>
   refine qO1 (Q:=λh s=>K (.sl s) h) hl.len ?_;exact hk _ _ ((x.newO _).wide (by omega)) f0 (J5.own rfl (Nat.lt_succ_self _) (Qz _ _)) λ_=>zL0 _
  | cons y k =>
   refine jAu (Q:=λh s=>K (.sl s) h) hl (by simp) ?_ ?_
   .have hb:qU6 Tryz.prog 3=some 8:=by kernel_rfl
    unfold qLc;rw[hb];show cnd (Nat.ble (Nat.mul (y::k).length 8) most) (Nat.ble (y::k).length most) false=true;have hm:524288<=most:=by decide
    rw[zF0 (show Nat.mul (y::k).length 8<=most from zM0 (show (y::k).length*8<=524288 by omega) hm),cnd_t,zF0 (show (y::k).length<=most by omega)]
   .exact hk _ _ ((x.newO _).newO _) (f0.trans (Qv.newO Qn _ _)) (J5.own rfl (Nat.lt_succ_self _) (Qz _ _)) λ_=>Nat.le_succ _
theorem jEn (hS:S 70=none) (hS1:S 27=none) (hS2:S 64=none) (hS3:S 31=none) (x:Has h H A B) {pk:Int} {s:SL} {l:List Int} (hp:qG pk s.n=true) (hl:J5 h s l) (hn:l.length<=65536)
  (hk:∀i h',Has h' H A (B+6)->Qv Qn h h'->K (.tup [.pv false i 0,.int .i64 0]) h'):Qu Tryz.prog S lf (n+3) 70 [.agg [.int .i64 pk,.sl s]] K h:=by
 refine Qy hS (by kernel_rfl) ?_;rw[pnew_nf];have v1:=Var.new h [AV.int IntKind.i64 pk,s.av];have x1:=x.newO (.cells [AV.int IntKind.i64 pk,s.av] 0 false false);have hv:H h.next=none:=x.none_next
 have f1:Qv Qn h (h.newO (.cells [AV.int IntKind.i64 pk,s.av] 0 false false)):=Qv.newO Qn _ _;refine⟨rfl,v1.ldI pk rfl (v1.ldL s rfl (J4 hS1 hS2 x1 pk s λh2 x2 f2=>?_))⟩;rw[if_pos hp];have v2:=v1.fr f2 id;refine⟨0,by kernel_rfl,nay ⟨rfl,rfl,v2.ldL s rfl ?_⟩⟩;refine qFe hS3 x2 ((hl.fr f1 λ_=>id).fr f2 λ_=>id) hn λs' h3 x3 f3 i3 hi=>?_;have v3:=v2.fr f3 id;refine⟨s',by kernel_rfl,rfl,rfl,v3.zput (zL0 2) ?_⟩;have v4:=v3.put 1 [s'.av];have x4:Has (hput h3 h.next 1 [s'.av]) H A (B+5):=(x3.put hv).wide (by omega);refine⟨rfl,v4.ldI pk rfl (v4.ldL s' rfl ?_)⟩;refine hk _ _ (x4.newO _) ?_;have f5:Qv (λi=>i=h.next) h3 (hput h3 h.next 1 [s'.av]):=v3.put_fr 1 _;have f13:Qv Qn h h3:=(f1.trans f2).trans f3;refine⟨zM0 f13.next (zM0 f5.next (Nat.le_succ _)),λi hi _=>?_⟩;have e1:=f13.same i hi id;have e2:=f5.same i (zE0 hi f13.next) (λe=>by omega);have e3:=(Qv.newO Qn (hput h3 h.next 1 [s'.av]) (.cells [AV.int IntKind.i64 pk,s'.av,AV.int IntKind.i64 (-1),AV.int IntKind.i64 0] 0 false false)).same i (zE0 hi (zM0 f13.next f5.next)) id;exact e3.trans (e2.trans e1)
end
end MnN
namespace MnN
open Go Go.X Go.Proofs
section
variable {S:QC} {lf n:Nat} {h:Q0} {K:ZK} {H:Obs} {A B:Nat}
def qJi (H:Obs) (s:Nat) (r:Int):Prop :=
 (∃c sn,H s=some (.cells [c,sn,.bool true,.int .i64 r] 0 false false)) ∨
 (∃c x r0 cc cx,H s=some (.cells [.ptr c 0,.nilp,.bool false,.int .i64 r0] 0 false false)/\H c=some (.cells cc 0 false false)/\cc[2]?=some (.ptr x 0)/\H x=some (.cells cx 0 false false)/\cx[1]?=some (.int .i64 r))
theorem qLa (hS:S 39=none) (hS1:S 67=none) (x:Has h H A B) {s:Nat} {r:Int} (hr:qJi H s r) (hk:K (.int .i64 r) h):Qu Tryz.prog S lf (n+2) 39 [.pv false s 0] K h:=by
 refine Qy hS (by kernel_rfl) ?_;rw[root_nf];rcases hr with ⟨c,sn,e⟩ | ⟨c,y,r0,cc,cx,e1,e2,e3,e4,e5⟩
 .have v:=x.var e;exact⟨rfl,rfl,rfl,v.ldB true rfl (yea ⟨rfl,rfl,rfl,v.ldI r rfl hk⟩)⟩
 .have v:=x.var e1;have vc:=x.var e2;have vx:=x.var e4;refine⟨rfl,rfl,rfl,v.ldB false rfl (nay ?_)⟩;refine Qy hS1 (by kernel_rfl) ?_;rw[jEi];refine⟨rfl,rfl,rfl,v.ldP true 0 0 rfl (nay ⟨rfl,rfl,rfl,v.ldP false c 0 (by simp) ⟨rfl,rfl,rfl,vc.ldP false y 0 (by rw[qCp];exact e3) ?_⟩⟩)⟩;exact⟨false,y,0,by kernel_rfl,rfl,rfl,rfl,vx.ldI r (by exact e5) hk⟩
theorem topen_has (hS:S 65=none) (hS1:S 39=none) (hS2:S 67=none) (x:Has h H A B) {s:Nat} {r:Int} (hr:qJi H s r) (h0:r≠0) {e:Ent} {b:SL} (he:EntC Tryz.prog S lf 38 H A e [.pv false s 0,.int .i64 r]) (hB:B<=e.next)
  (hv:zOf e.v=.tup [.int .i64 3,.sl b,.int .i64 0]) (hk:∀i h',Has h' (QN e H) (e.next+e.new.length) (e.next+e.new.length+1)->Qv (WrE e) h h'->K (.tup [.pv false i 0,.int .i64 0]) h') :
  Qu Tryz.prog S lf (n+3) 65 [.pv false s 0] K h:=by
 refine Qy hS (by kernel_rfl) ?_;rw[topen_nf];refine nay (qLa hS1 hS2 x hr ⟨r,by kernel_rfl,Qt (decide_eq_false h0) (qLa hS1 hS2 x hr ⟨r,by kernel_rfl,he _ h B _ x hB λh' x' f'=>?_⟩)⟩);rw[hv];refine⟨λi=>match i with | 0=>.int .i64 3 | 1=>b.av | _=>.int .i64 0,by kernel_rfl,3,by kernel_rfl,b,by kernel_rfl,0,by kernel_rfl,?_⟩;refine nay (nay ?_);exact hk _ _ (x'.newO _) (f'.trans (Qv.newO _ _ _))
theorem bopen_has (hS:S 66=none) (hS1:S 39=none) (hS2:S 67=none) (hS3:S 70=none) (hS4:S 27=none) (hS5:S 64=none) (hS6:S 31=none) (x:Has h H A B) {s:Nat} {r:Int} (hr:qJi H s r) (h0:r≠0)
  {pk st:Int} {p:SL} {l:List Int} (hp:qG pk p.n=true) (hl:J5 h p l) (hn:l.length<=65536) (hst:1<=st) (hst2:st<=2305843009213693952)
  {e:Ent} {b:SL} (he:EntC Tryz.prog S lf 38 H A e [.pv false s 0,.int .i64 r]) (hB:B+7<=e.next)
  (hv:zOf e.v=.tup [.int .i64 3,.sl b,.int .i64 0]) (hk:∀i h',Has h' (QN e H) (e.next+e.new.length) (e.next+e.new.length+1)->Qv (WrE e) h h'->K (.tup [.pv false i 0,.int .i64 0]) h') :
  Qu Tryz.prog S lf (n+4) 66 [.pv false s 0,.agg [.int .i64 pk,.sl p],.int .u64 st] K h:=by
 refine Qy hS (by kernel_rfl) ?_;rw[bopen_nf];have v1:=Var.new h [AV.int IntKind.i64 pk,p.av];have x1:=x.newO (.cells [AV.int IntKind.i64 pk,p.av] 0 false false);have f1:Qv Qn h (h.newO (.cells [AV.int IntKind.i64 pk,p.av] 0 false false)):=Qv.newO Qn _ _;refine nay (Qt (show cnd false true (decide (st<1))=false by rw[decide_eq_false (by omega)];rfl) (Qt (show cnd false true (decide (2305843009213693952<st))=false by rw[decide_eq_false (by omega)];rfl) ?_));refine⟨rfl,v1.ldI pk rfl (v1.ldL p rfl (jEn hS3 hS4 hS5 hS6 x1 hp (hl.fr f1 λ_=>id) hn λj h2 x2 f2=>?_))⟩;refine⟨λi=>match i with | 0=>.ptr j 0 | _=>.int .i64 0,by kernel_rfl,false,j,0,by kernel_rfl,0,by kernel_rfl,nay ?_⟩;have x2':Has h2 H A (B+7):=x2.wide (by omega);refine qLa hS1 hS2 x2' hr ⟨r,by kernel_rfl,Qt (decide_eq_false h0) (qLa hS1 hS2 x2' hr ⟨r,by kernel_rfl,he _ h2 _ _ x2' hB λh' x' f'=>?_⟩)⟩;rw[hv];refine⟨λi=>match i with | 0=>.int .i64 3 | 1=>b.av | _=>.int .i64 0,by kernel_rfl,3,by kernel_rfl,b,by kernel_rfl,0,by kernel_rfl,?_⟩;refine nay (nay ?_);have f12:Qv (WrE e) h h2:=(f1.trans f2).mono λ_ _ hf=>hf.elim;exact hk _ _ (x'.newO _) ((f12.trans f').trans (Qv.newO _ _ _))
end
end MnN
namespace MnN
open Go Go.X Go.Proofs
section
variable {S:QC} {lf n:Nat} {h:Q0} {K:ZK} {H:Obs} {A B:Nat}
structure jq (S:QC):Prop where
 s195:S 65=none
 s196:S 66=none
 s150:S 39=none
 s179:S 67=none
 s153:S 70=none
 s142:S 27=none
 s211:S 64=none
 s190:S 31=none
 s240:S 35=none
 s187:S 28=none
 s188:S 29=none
 s88:S 33=none
 s116:S 8=none
 s169:S 9=none
def Jd (a b:AV):Nat->AV:=λi=>match i with | 0=>a | _=>b
theorem qPx (w:jq S) {k:Int} (hk1:k=1∨k=2) (hk:K (.int .i64 (3-k)) h):Qu Tryz.prog S lf (n+1) 29 [.int .i64 k] K h:=by
 refine Qy w.s188 (by kernel_rfl) ?_;rw[other_nf];rcases hk1 with rfl | rfl
 .exact⟨hk⟩
 .exact⟨hk⟩
theorem qF4 (w:jq S) (x:Has h H A B) {s:Nat} {r:Int} (hr:qJi H s r) (h0:r≠0) {k:Int} (hk1:k=1∨k=2)
  {pk st:Int} {p:SL} {l:List Int} (hp:qG pk p.n=true) (hl:J5 h p l) (hn:l.length<=65536) (hst:1<=st) (hst2:st<=2305843009213693952)
  {e:Ent} {b:SL} (he:EntC Tryz.prog S lf 38 H A e [.pv false s 0,.int .i64 r]) (hB:B+8<=e.next)
  (hv:zOf e.v=.tup [.int .i64 3,.sl b,.int .i64 0]) (hk:∀t i h',Has h' (QN e H) (e.next+e.new.length) (e.next+e.new.length+1)->Qv (WrE e) h h'->K (.tup [.iface t (.agg [.pv false i 0]),.int .i64 0]) h') :
  Qu Tryz.prog S lf (n+5) 28 [.pv false s 0,.int .i64 k,.agg [.int .i64 pk,.sl p],.int .u64 st] K h:=by
 refine Qy w.s187 (by kernel_rfl) ?_;rw[opened_nf];have v1:=Var.new h [AV.int IntKind.i64 pk,p.av];have x1:=x.newO (.cells [AV.int IntKind.i64 pk,p.av] 0 false false);have f1:Qv Qn h (h.newO (.cells [AV.int IntKind.i64 pk,p.av] 0 false false)):=Qv.newO Qn _ _;have f1':Qv (WrE e) h (h.newO (.cells [AV.int IntKind.i64 pk,p.av] 0 false false)):=Qv.newO _ _ _;rcases hk1 with rfl | rfl
 .refine yea (topen_has (n:=n+1) w.s195 w.s150 w.s179 x1 hr h0 he (by omega) hv λi h' x' f'=>?_);exact⟨Jd (.ptr i 0) (.int .i64 0),by kernel_rfl,false,i,0,by kernel_rfl,0,by kernel_rfl,hk _ _ _ x' (f1'.trans f')⟩
 .refine nay ⟨rfl,v1.ldI pk rfl (v1.ldL p rfl (bopen_has w.s196 w.s150 w.s179 w.s153 w.s142 w.s211 w.s190 x1 hr h0 hp (hl.fr f1 λ_=>id) hn hst hst2 he (by omega) hv λi h' x' f'=>?_))⟩;exact⟨Jd (.ptr i 0) (.int .i64 0),by kernel_rfl,false,i,0,by kernel_rfl,0,by kernel_rfl,hk _ _ _ x' (f1'.trans f')⟩
structure NewB (S:QC) (lf:Nat) (b:Nat) (H:Obs) (A:Nat) (H':Obs) (A':Nat) where
 eS:Ent
 size:Int
 hS:EntC Tryz.prog S lf 34 H A eS [.pv false b 0]
 vS:zOf eS.v=.int .i64 size
 eE:Ent
 sb:SL
 hE:EntC Tryz.prog S lf 71 (QN eS H) (eS.next+eS.new.length) eE [.int .i64 size,.sl ⟨true,0,0,0,0,false⟩]
 vE:zOf eE.v=.tup [.sl sb,.int .i64 0]
 leE:eS.next+eS.new.length<=eE.next
 eW:Ent
 m:Int
 hW:EntC Tryz.prog S lf 68 (QN eE (QN eS H)) (eE.next+eE.new.length) eW [.pv false b 0,.int .i64 3,.sl sb]
 vW:zOf eW.v=.tup [.int .i64 m,.int .i64 0]
 leW:eE.next+eE.new.length<=eW.next
 eR:Ent
 hR:EntC Tryz.prog S lf 69 (QN eW (QN eE (QN eS H))) (eW.next+eW.new.length) eR [.pv false b 0,.int .i64 m]
 vR:zOf eR.v=.int .i64 0
 leR:eW.next+eW.new.length<=eR.next
 sub:∀i o,H' i=some o->QN eR (QN eW (QN eE (QN eS H))) i=some o
 leA:A'<=eR.next+eR.new.length
 dom:∀i o,H' i=some o->i<A'
 keep:∀i,A<=i->i<eS.next->¬WrE eS i/\¬WrE eE i/\¬WrE eW i/\¬WrE eR i
theorem _root_.Go.X.Has.sub {h:Q0} {H H':Obs} {A B A':Nat} (x:Has h H A B) (hs:∀i o,H' i=some o->H i=some o) (hd:∀i o,H' i=some o->i<A') (hl:A'<=A):Has h H' A' B :=
 ⟨λi o hi=>x.get i o (hs i o hi),hd,zM0 hl x.lo,x.hi,x.inf⟩
theorem bnew_has (w:jq S) (x:Has h H A B) {b:Nat} (hr:qJi H b 0) {pk:Int} {p:SL} {l:List Int} (hp:qG pk p.n=true) (hl:J5 h p l) (hn:l.length<=65536) {H':Obs} {A':Nat} (N:NewB S lf b H A H' A') (hB:B+7<=N.eS.next)
  (hk:∀i h',Has h' H' A' (N.eR.next+N.eR.new.length+1)->(∀j,A<=j->j<h.next->h'.get j=h.get j)->h.next<=h'.next->K (.tup [.pv false i 0,.int .i64 0]) h'):Qu Tryz.prog S lf (n+4) 33 [.pv false b 0,.agg [.int .i64 pk,.sl p]] K h:=by
 refine Qy w.s88 (by kernel_rfl) ?_;rw[bnew_nf];have v1:=Var.new h [AV.int IntKind.i64 pk,p.av];have x1:=x.newO (.cells [AV.int IntKind.i64 pk,p.av] 0 false false);have f1:Qv Qn h (h.newO (.cells [AV.int IntKind.i64 pk,p.av] 0 false false)):=Qv.newO Qn _ _;refine nay ⟨rfl,v1.ldI pk rfl (v1.ldL p rfl (jEn (n:=n) w.s153 w.s142 w.s211 w.s190 x1 hp (hl.fr f1 λ_=>id) hn λj h2 x2 f2=>?_))⟩;refine⟨Jd (.ptr j 0) (.int .i64 0),by kernel_rfl,false,j,0,by kernel_rfl,0,by kernel_rfl,nay ?_⟩;have x2':Has h2 H A (B+7):=x2.wide (by omega);refine qLa (n:=n+1) w.s150 w.s179 x2' hr ⟨0,by kernel_rfl,nay ?_⟩;refine N.hS _ h2 _ _ x2' hB λh3 x3 f3=>?_;rw[N.vS];refine⟨N.size,by kernel_rfl,N.hE _ h3 _ _ x3 N.leE λh4 x4 f4=>?_⟩;rw[N.vE];refine⟨Jd N.sb.av (.int .i64 0),by kernel_rfl,N.sb,by kernel_rfl,0,by kernel_rfl,N.hW _ h4 _ _ x4 N.leW λh5 x5 f5=>?_⟩;rw[N.vW];refine⟨Jd (.int .i64 N.m) (.int .i64 0),by kernel_rfl,N.m,by kernel_rfl,0,by kernel_rfl,yea (N.hR _ h5 _ _ x5 N.leR λh6 x6 f6=>?_)⟩;rw[N.vR];refine⟨0,by kernel_rfl,nay ?_⟩;have f12:Qv Qn h h2:=f1.trans f2;refine hk _ _ ((x6.sub N.sub N.dom N.leA).newO _) (λi hi hlt=>?_) ?_
 .have hb:i<N.eS.next:=by have:=x.hi;omega
  obtain⟨a1,a2,a3,a4⟩:=N.keep i hi hb;have l2:=zE0 hlt f12.next
  have l3:=zE0 l2 f3.next
  have l4:=zE0 l3 f4.next
  have l5:=zE0 l4 f5.next
  have l6:=zE0 l5 f6.next
  exact ((Qv.newO Qn h6 _).same i l6 id).trans ((f6.same i l5 a4).trans ((f5.same i l4 a3).trans ((f4.same i l3 a2).trans ((f3.same i l2 a1).trans (f12.same i hlt id)))))
 .exact zM0 f12.next (zM0 f3.next (zM0 f4.next (zM0 f5.next (zM0 f6.next (Nat.le_succ _)))))
end
end MnN
namespace MnN
open Go Go.X Go.Proofs
section
variable {S:QC} {lf n:Nat} {h:Q0} {K:ZK} {H:Obs} {A B:Nat}
structure NewT (S:QC) (lf:Nat) (b:Nat) (H:Obs) (A:Nat) (H':Obs) (A':Nat) where
 eT:Ent
 t:Nat
 hT:EntC Tryz.prog S lf 32 H A eT [.pv false b 0]
 vT:zOf eT.v=.tup [.pv false t 0,.int .i64 0]
 sub:∀i o,H' i=some o->QN eT H i=some o
 leA:A'<=eT.next+eT.new.length
 dom:∀i o,H' i=some o->i<A'
 keep:∀i,A<=i->i<eT.next->¬WrE eT i
theorem NewT.gap {b:Nat} {H':Obs} {A':Nat} (N:NewT S lf b H A H' A') (hd:∀i o,H i=some o->i<A) {i:Nat} (h1:A<=i) (h2:i<N.eT.next):H' i=none:=by
 cases e:H' i with
 | none=>rfl
 | some o =>
  have:=N.sub i o e
  rw[qM h2 (N.keep i h1 h2)] at this
  have:=hd i o this
  omega
theorem NewB.gap {b:Nat} {H':Obs} {A':Nat} (N:NewB S lf b H A H' A') (hd:∀i o,H i=some o->i<A) {i:Nat} (h1:A<=i) (h2:i<N.eS.next):H' i=none:=by
 cases e:H' i with
 | none=>rfl
 | some o =>
  have:=N.sub i o e
  obtain⟨a1,a2,a3,a4⟩:=N.keep i h1 h2;have l1:=N.leE;have l2:=N.leW;have l3:=N.leR;rw[qM (by omega) a4,qM (by omega) a3,qM (by omega) a2,qM h2 a1] at this
  have:=hd i o this
  omega
structure Beg (S:QC) (lf:Nat) (s:Nat) (H:Obs) (A:Nat) (H':Obs) (A':Nat) where
 r:Int
 root:qJi H s r
 r0:r≠0
 eG:Ent
 bG:SL
 hG:EntC Tryz.prog S lf 38 H A eG [.pv false s 0,.int .i64 r]
 vG:zOf eG.v=.tup [.int .i64 3,.sl bG,.int .i64 0]
 eB:Ent
 b:Nat
 hB:EntC Tryz.prog S lf 30 (QN eG H) (eG.next+eG.new.length) eB [.pv false s 0,.int .i64 0]
 vB:zOf eB.v=.tup [.pv false b 0,.int .i64 0]
 leB:eG.next+eG.new.length+1<=eB.next
 keep:∀i,A<=i->i<eG.next->¬WrE eG i/\¬WrE eB i
 root':qJi (QN eB (QN eG H)) b 0
 nT:NewT S lf b (QN eB (QN eG H)) (eB.next+eB.new.length) H' A'
 leT:eB.next+eB.new.length+3<=nT.eT.next
 nB:NewB S lf b (QN eB (QN eG H)) (eB.next+eB.new.length) H' A'
 leN:eB.next+eB.new.length+10<=nB.eS.next
 B':Nat
 leT':nT.eT.next+nT.eT.new.length<=B'
 leN':nB.eR.next+nB.eR.new.length+1<=B'
theorem begin_has (w:jq S) (x:Has h H A B) {s:Nat} {H':Obs} {A':Nat} (G:Beg S lf s H A H' A') {to:Int} (hto:to=1∨to=2)
  {pk st:Int} {p:SL} {l:List Int} (hp:qG pk p.n=true) (hl:J5 h p l) (hn:l.length<=65536) (hst:1<=st) (hst2:st<=1152921504606846976)
  (hpi:p.nil=false->¬WrE G.eG p.i/\¬WrE G.eB p.i) (hB:B+11<=G.eG.next)
  (hk:∀m h',Has h' H' A' G.B'->K (.tup [.pv false m 0,.any .nilIface]) h') :
  Qu Tryz.prog S lf (n+6) 8 [.pv false s 0,.int .i64 to,.agg [.int .i64 pk,.sl p],.int .u64 st] K h:=by
 refine Qy w.s116 (by kernel_rfl) ?_;rw[qP5];have v1:=Var.new h [AV.int IntKind.i64 pk,p.av];have x1:=x.newO (.cells [AV.int IntKind.i64 pk,p.av] 0 false false);have f1:Qv Qn h (h.newO (.cells [AV.int IntKind.i64 pk,p.av] 0 false false)):=Qv.newO Qn _ _;have hvA:A<=h.next:=x.lo
 have hvG:h.next<G.eG.next:=by have:=x.hi;omega
 obtain⟨kG,kB⟩:=G.keep _ hvA hvG;have hlt1:(decide (st<1))=false:=decide_eq_false (by omega);have hlt2:(decide (1152921504606846976<st))=false:=decide_eq_false (by omega)
 have step:∀(KK:ZV->Q0->Prop),(∀t i h3,Has h3 (QN G.eG H) (G.eG.next+G.eG.new.length) (G.eG.next+G.eG.new.length+1)->Qv (WrE G.eG) h h3->Var h3 h.next [AV.int IntKind.i64 pk,p.av]->KK (.tup [.iface t (.agg [.pv false i 0]),.int .i64 0]) h3) ->
   ∀h2,Has h2 H A (B+3)->Qv Qn h h2->Var h2 h.next [AV.int IntKind.i64 pk,p.av] ->
   Qu Tryz.prog S lf (n+5) 28 [.pv false s 0,.int .i64 (3-to),.agg [.int .i64 pk,.sl p],.int .u64 st] KK h2:=by
  intro KK hKK h2 x2 f2 v2;refine qF4 w x2 G.root G.r0 (k:=3-to) (by rcases hto with rfl | rfl <;> decide) hp (hl.fr f2 λ_=>id) hn hst (by omega) G.hG (by omega) G.vG λt i h3 x3 f3=>?_;have f2':Qv (WrE G.eG) h h2:=f2.mono λ_ _ hf=>hf.elim;exact hKK t i h3 x3 (f2'.trans f3) (v2.fr f3 kG)
 have hnone:(QN G.eB (QN G.eG H)) h.next=none:=by rw[qM (by have:=G.leB;omega) kB,qM hvG kG];exact x.none_next
 rcases hto with rfl | rfl
 .refine nay (nay (Qt (by rw[hlt1];rfl) (Qt (by rw[hlt2];rfl) ?_)));refine⟨rfl,v1.ldI pk rfl (v1.ldL p rfl (J4 (n:=n+3) w.s142 w.s211 x1 pk p λh2 x2 f2=>?_))⟩;rw[if_pos hp];have v2:=v1.fr f2 id;refine⟨0,by kernel_rfl,nay ⟨rfl,v2.ldI pk rfl (v2.ldL p rfl (qPx w (.inl rfl) ⟨3-1,by kernel_rfl,⟨⟨rfl,v2.ldI pk rfl (v2.ldL p rfl rfl)⟩,?_⟩⟩))⟩⟩;refine step _ (λt i h3 x3 f3 v3=>?_) h2 (x2.wide (by omega)) (f1.trans f2) v2;refine⟨Jd (.iface t (.agg [.ptr i 0])) (.int .i64 0),by kernel_rfl,0,by kernel_rfl,nay ?_⟩;refine G.hB _ h3 _ _ x3 G.leB λh4 x4 f4=>?_;rw[G.vB];refine⟨Jd (.ptr G.b 0) (.int .i64 0),by kernel_rfl,false,G.b,0,by kernel_rfl,0,by kernel_rfl,nay ⟨rfl,rfl,?_⟩⟩;have v4:=v3.fr f4 kB;have l4:J5 h4 p l:=(hl.fr f3 λe=>(hpi e).1).fr f4 λe=>(hpi e).2;refine v4.ldL p rfl (qFe w.s190 x4 l4 hn λs4 h5 x5 f5 l5 i5=>?_);have v5:=v4.fr f5 id;refine⟨s4,by kernel_rfl,rfl,rfl,v5.zput (zL0 2) ?_⟩;have v6:Var (hput h5 h.next 1 [s4.av]) h.next [AV.int .i64 pk,s4.av]:=v5.put 1 [s4.av]
  have x6:Has (hput h5 h.next 1 [s4.av]) _ _ _:=x5.put hnone;have hm:(hput h5 h.next 1 [s4.av]).next=h5.next:=qH7 _ _ _ _
  refine⟨rfl,v6.ldI pk rfl (v6.ldL s4 rfl ⟨rfl,?_⟩)⟩;have vm:=Var.new (hput h5 h.next 1 [s4.av]) [AV.ptr s 0,AV.ptr G.b 0,AV.int IntKind.i64 1,AV.iface t (AV.agg [AV.ptr i 0]),AV.nilIface,AV.nils,AV.int IntKind.i64 pk,s4.av,AV.int IntKind.u64 st,AV.bool false,AV.bool false];have x7:=x6.newO (.cells [AV.ptr s 0,AV.ptr G.b 0,AV.int IntKind.i64 1,AV.iface t (AV.agg [AV.ptr i 0]),AV.nilIface,AV.nils,AV.int IntKind.i64 pk,s4.av,AV.int IntKind.u64 st,AV.bool false,AV.bool false] 0 false false);have m1:G.eB.next+G.eB.new.length<=(hput h5 h.next 1 [s4.av]).next:=x6.lo
  have m2:(hput h5 h.next 1 [s4.av]).next<=G.eB.next+G.eB.new.length+2:=x6.hi
  refine yea (G.nT.hT _ _ _ _ x7 (by have:=G.leT;omega) λh8 x8 f8=>?_);rw[G.nT.vT];refine⟨Jd (.ptr G.nT.t 0) (.int .i64 0),by kernel_rfl,false,G.nT.t,0,by kernel_rfl,0,by kernel_rfl,rfl,rfl,rfl,?_⟩;have vm8:=vm.fr f8 (G.nT.keep _ m1 (by have:=G.leT;omega));refine vm8.zput (show 5<=11 by decide) (nay ?_);exact hk _ _ (((x8.sub G.nT.sub G.nT.dom G.nT.leA).wide G.leT').put (G.nT.gap x4.dom m1 (by have:=G.leT;omega)))
 .refine nay (yea (nay (Qt (by rw[hlt1];rfl) (Qt (by rw[hlt2];rfl) ?_))));refine⟨rfl,v1.ldI pk rfl (v1.ldL p rfl (J4 (n:=n+3) w.s142 w.s211 x1 pk p λh2 x2 f2=>?_))⟩;rw[if_pos hp];have v2:=v1.fr f2 id;refine⟨0,by kernel_rfl,nay ⟨rfl,v2.ldI pk rfl (v2.ldL p rfl (qPx w (.inr rfl) ⟨3-2,by kernel_rfl,⟨⟨rfl,v2.ldI pk rfl (v2.ldL p rfl rfl)⟩,?_⟩⟩))⟩⟩;refine step _ (λt i h3 x3 f3 v3=>?_) h2 (x2.wide (by omega)) (f1.trans f2) v2;refine⟨Jd (.iface t (.agg [.ptr i 0])) (.int .i64 0),by kernel_rfl,0,by kernel_rfl,nay ?_⟩;refine G.hB _ h3 _ _ x3 G.leB λh4 x4 f4=>?_;rw[G.vB];refine⟨Jd (.ptr G.b 0) (.int .i64 0),by kernel_rfl,false,G.b,0,by kernel_rfl,0,by kernel_rfl,nay ⟨rfl,rfl,?_⟩⟩;have v4:=v3.fr f4 kB;have l4:J5 h4 p l:=(hl.fr f3 λe=>(hpi e).1).fr f4 λe=>(hpi e).2;refine v4.ldL p rfl (qFe w.s190 x4 l4 hn λs4 h5 x5 f5 l5 i5=>?_);have v5:=v4.fr f5 id;refine⟨s4,by kernel_rfl,rfl,rfl,v5.zput (zL0 2) ?_⟩;have v6:Var (hput h5 h.next 1 [s4.av]) h.next [AV.int .i64 pk,s4.av]:=v5.put 1 [s4.av]
  have x6:Has (hput h5 h.next 1 [s4.av]) _ _ _:=x5.put hnone;have hm:(hput h5 h.next 1 [s4.av]).next=h5.next:=qH7 _ _ _ _
  refine⟨rfl,v6.ldI pk rfl (v6.ldL s4 rfl ⟨rfl,?_⟩)⟩;have vm:=Var.new (hput h5 h.next 1 [s4.av]) [AV.ptr s 0,AV.ptr G.b 0,AV.int IntKind.i64 2,AV.iface t (AV.agg [AV.ptr i 0]),AV.nilIface,AV.nils,AV.int IntKind.i64 pk,s4.av,AV.int IntKind.u64 st,AV.bool false,AV.bool false];have x7:=x6.newO (.cells [AV.ptr s 0,AV.ptr G.b 0,AV.int IntKind.i64 2,AV.iface t (AV.agg [AV.ptr i 0]),AV.nilIface,AV.nils,AV.int IntKind.i64 pk,s4.av,AV.int IntKind.u64 st,AV.bool false,AV.bool false] 0 false false);have m1:G.eB.next+G.eB.new.length<=(hput h5 h.next 1 [s4.av]).next:=x6.lo
  have m2:(hput h5 h.next 1 [s4.av]).next<=G.eB.next+G.eB.new.length+2:=x6.hi
  have v7:=v6.fr (Qv.newO Qn _ (.cells [AV.ptr s 0,AV.ptr G.b 0,AV.int IntKind.i64 2,AV.iface t (AV.agg [AV.ptr i 0]),AV.nilIface,AV.nils,AV.int IntKind.i64 pk,s4.av,AV.int IntKind.u64 st,AV.bool false,AV.bool false] 0 false false)) id;refine nay ⟨rfl,v7.ldI pk rfl (v7.ldL s4 rfl ?_)⟩;have hp4:qG pk s4.n=true:=by rw[l5.len,<- hl.len];exact hp
  have l6:J5 (hput h5 h.next 1 [s4.av]) s4 l:=l5.fr (v5.put_fr 1 [s4.av]) λe=>by have:=i5 e;have:=x4.lo;have:=G.leB;omega
  refine bnew_has (n:=n+1) w x7 G.root' hp4 (l6.fr (Qv.newO Qn _ _) λ_=>id) hn G.nB (by have:=G.leN;omega) λq h8 x8 f8 n8=>?_;refine⟨Jd (.ptr q 0) (.int .i64 0),by kernel_rfl,false,q,0,by kernel_rfl,0,by kernel_rfl,rfl,rfl,rfl,?_⟩;have vm8:Var h8 (hput h5 h.next 1 [s4.av]).next [AV.ptr s 0,AV.ptr G.b 0,AV.int IntKind.i64 2,AV.iface t (AV.agg [AV.ptr i 0]),AV.nilIface,AV.nils,AV.int IntKind.i64 pk,s4.av,AV.int IntKind.u64 st,AV.bool false,AV.bool false]:=⟨zE0 vm.lt n8,(f8 _ m1 vm.lt).trans vm.get⟩
  refine vm8.zput (show 5<=11 by decide) (nay ?_);exact hk _ _ ((x8.wide G.leN').put (G.nB.gap x4.dom m1 (by have:=G.leN;omega)))
end
end MnN
namespace MnN
open Go Go.X Go.Proofs
theorem wrap_i64 {a:Int} (h1:-9223372036854775808<=a) (h2:a<=9223372036854775807):IntKind.i64.wrap a=a:=by
 unfold IntKind.wrap;show (if (true && decide (a % (2 ^ 64:Int) >= (2 ^ 63:Int)))=true then a % (2 ^ 64:Int)-(2 ^ 64:Int) else a % (2 ^ 64:Int))=_;rw[Bool.true_and];by_cases h:a % (2 ^ 64:Int) >= (2 ^ 63:Int)
 .rw[decide_eq_true h,if_pos rfl];omega
 .rw[decide_eq_false h,if_neg (by decide)];omega
theorem wrap_u64 {a:Nat} (h:a<18446744073709551616):IntKind.u64.wrap (Int.ofNat a)=Int.ofNat a:=by unfold IntKind.wrap;show (if (false && _)=true then _ else (Int.ofNat a) % (2 ^ 64:Int))=_;rw[Bool.false_and,if_neg (by decide)];show (a:Int) % (2 ^ 64:Int)=(a:Int);omega
theorem qJr {a:Nat} (h:a<18446744073709551616):toU .u64 (Int.ofNat a)=a:=by unfold toU;show ((Int.ofNat a) % (2 ^ 64:Int)).toNat=a;show ((a:Int) % (2 ^ 64:Int)).toNat=a;omega
theorem toU_i64 {a:Nat} (h:a<18446744073709551616):toU .i64 (Int.ofNat a)=a:=by unfold toU;show ((a:Int) % (2 ^ 64:Int)).toNat=a;omega
def qv (l:List Nat):Nat:=l.foldl (λv x=>v*256+x) 0
theorem qE2 (l:List Nat) (x:Nat):qv (l++[x])=qv l*256+x:=by unfold qv;rw[List.foldl_append];rfl
theorem qJq:∀(n:Nat) (l:List Nat),l.length=n->(∀x,x∈l->x<256)->qv l<256 ^ n:=by
 intro n
 induction n with
 | zero=>intro l hl _;have:=List.eq_nil_of_length_eq_zero hl;subst this;decide
 | succ n ih =>
  intro l hl hb;obtain⟨i,x,rfl⟩:∃i x,l=i++[x]:=⟨l.dropLast,l.getLast (by intro e;subst e;simp at hl),(List.dropLast_concat_getLast _).symm⟩
  have:=ih i (by simpa using hl) λy hy=>hb y (zG0 _ hy)
  have hx:=hb x (zH0 _ (List.mem_singleton.2 rfl));rw[qE2,Nat.pow_succ];omega
theorem qYq {a b:Nat} (hb:b<256):Nat.lor (a*256) b=a*256+b:=by
 have:=Nat.shiftLeft_add_eq_or_of_lt (i:=8) (b:=b) (by omega) a
 rw[Nat.shiftLeft_eq] at this;exact this.symm
theorem Ji {h:Q0} {s:SL} {k:List Nat} (hb:qP h s k) (hn:s.nil=false) (he:s.ext=false) {l r m:Nat} (h1:l<=r) (h2:r<=k.length) (hm:r<=m) :
  qP h (s.cut 1 l r m s.ext) ((k.take r).drop l)/\(s.cut 1 l r m s.ext).nil=false:=by
 rw[he,SL.cut_false];refine⟨⟨⟨?_,λ_=>hb.seg.lt hn,λ_=>?_⟩,λx hx=>hb.byte x (List.mem_of_mem_take (List.mem_of_mem_drop hx))⟩,hn⟩
 .rw[QE,zR0,zQ0];unfold SL.n;rw[hn];show _=(r-l)*1;omega
 .obtain⟨c,hc,e1,e2⟩:=hb.seg.src hn;have hl:=hb.len;rw[SL.n_of hn] at hl;refine⟨c,hc,?_,?_⟩
  .show List.take ((r-l)*1) (c.drop (match Nat.beq l m with | true=>s.o | false=>s.o+l*1))=ofBytes ((k.take r).drop l);cases hbm:Nat.beq l m with
   | true =>
    have:=Nat.eq_of_beq_eq_true hbm
    have hrl:r-l=0:=by omega
    rw[hrl,show (k.take r).drop l=[] from List.drop_eq_nil_of_le (by rw[zQ0];omega)];rfl
   | false =>
    rw[Nat.mul_one,Nat.mul_one,<- List.drop_drop];rw[Nat.mul_one] at e1;have e3:ofBytes ((k.take r).drop l)=((ofBytes k).take r).drop l:=by rw[qS,qS,List.map_drop,List.map_take]
    rw[e3,<- e1,List.take_take,List.drop_take];congr 1;omega
  .show (r-l)*1<=(c.drop (match Nat.beq l m with | true=>s.o | false=>s.o+l*1)).length;rw[zR0] at e2 ⊢;cases hbm:Nat.beq l m with
   | true =>
    have:=Nat.eq_of_beq_eq_true hbm
    omega
   | false =>show (r-l)*1<=c.length-(s.o+l*1);omega
end MnN
namespace MnN
open Go Go.X Go.Proofs
section
variable {C:Qx} {lf:Nat} {h:Q0} {K:ZK}
theorem loop1 {s v4:Nat} {v2 sub:SL} {l:List Nat} (hb:qP h sub l) (hn:sub.nil=false) (h4:l.length=4) (hlf:4<lf) {z0:ZT}
  (hz0:ZAt 150 [(0,.pv false s 0),(2,.sl v2),(4,.pv false v4 0),(9,.int .i64 0),(10,.int .u64 0),(41,.sl sub),(42,.int .i64 4),(43,.int .i64 0)] z0)
  {X0:ZT->Q0->Prop} {E:List (Nat × (ZT->Q0->Prop))} (hX:∀z,ZAt 150 [(0,.pv false s 0),(2,.sl v2),(4,.pv false v4 0),(9,.int .i64 (Int.ofNat (qv l))),(10,.int .u64 0)] z->X0 z h) :
  J6 lf (zAt Tryz.prog C lf 9 [1,1,1,1,1,0,1,0,0]) z0 ⟨(0,X0)::E,Qf Tryz.prog 9 K⟩ h:=by
 have ln:=hb.len;have hub:∀j,j<=l.length->qv (l.take j)<256 ^ j:=λj hj=>qJq j _ (by rw[zQ0];omega) λx hx=>hb.byte x (List.mem_of_mem_take hx)
 refine J6.inv (λq z h'=>∃j:Nat,ZAt 150 [(0,.pv false s 0),(2,.sl v2),(4,.pv false v4 0),(9,.int .i64 (Int.ofNat (qv (l.take j)))),(10,.int .u64 0),(41,.sl sub),(42,.int .i64 4),(43,.int .i64 (j:Int))] z/\h'=h/\j+q=4) (n:=4) hlf
  ⟨0,hz0,rfl,rfl⟩ ?_
 rintro q z h' kk hq ⟨j,hz,rfl,hj⟩ ih;refine j9 _ hz λd=>(qNf _ _ _ _ _ _ _ _ _ _ _ _ _ _ _ _ _ _).mpr ?_;rw[qG3];refine⟨λhlt=>?_,λhge=>?_⟩
 .have hlt2:j<l.length:=by
   have:(j:Int)<4:=hlt
   omega
  obtain⟨b,hbj⟩:∃b,l[j]?=some b:=⟨_,zD0 hlt2⟩;have hb8:b<256:=hb.byte b (zC0 hbj);have hu:=hub j (by omega);have hu2:qv (l.take j)*256+256<=4294967296:=by
   have hj7:j=0∨j=1∨j=2∨j=3:=by omega
   rcases hj7 with rfl | rfl | rfl | rfl <;> simp only[Nat.reducePow] at hu <;> omega
  refine⟨hn,⟨j,rfl,by rw[<- SL.n_of hn,ln];exact hlt2,⟨rfl,⟨_,by rw[Nat.mul_one];exact hb.at' hn hbj,?_⟩⟩⟩⟩;refine⟨8,rfl,?_⟩;have e1:(Int.ofNat (qv (l.take j))*Int.ofNat (Nat.pow 2 (cnd (Nat.ble 8 64) 8 64)))=Int.ofNat (qv (l.take j)*256):=rfl;have c1:∀m:Nat,m<4294967296->IntKind.i64.wrap (Int.ofNat m)=Int.ofNat m:=λm hm=>wrap_i64 (by show (-9223372036854775808:Int)<=(m:Int);omega) (by show (m:Int)<=9223372036854775807;omega);rw[qA6,e1,c1 _ (by omega),qA6,c1 _ (by omega),qA6,toU_i64 (by omega),toU_i64 (by omega),qYq hb8,c1 _ (by omega),qA6,wrap_i64 (by omega) (by omega)];refine ih (q-1) _ _ (by omega) ⟨j+1,⟨rfl,rfl,rfl,rfl,?_,rfl,rfl,rfl,rfl,trivial⟩,rfl,by omega⟩;rw[List.take_add_one,hbj];show ZV.int .i64 (.ofNat (qv (l.take j)*256+b))=.int .i64 (.ofNat (qv (l.take j++[b])));rw[qE2]
 .have:¬((j:Int)<4):=hge
  have hjl:j=l.length:=by omega
  rw[hjl,List.take_length] at *
  exact hX _ ⟨rfl,rfl,rfl,rfl,rfl,rfl,trivial⟩
theorem loop2 {s v4:Nat} {v2 sub:SL} {rt:Int} {l:List Nat} (hb:qP h sub l) (hn:sub.nil=false) (h8:l.length=8) (hlf:8<lf) {z0:ZT}
  (hz0:ZAt 150 [(0,.pv false s 0),(2,.sl v2),(4,.pv false v4 0),(9,.int .i64 rt),(10,.int .u64 0),(54,.sl sub),(55,.int .i64 8),(56,.int .i64 0)] z0)
  {X0:ZT->Q0->Prop} {E:List (Nat × (ZT->Q0->Prop))} (hX:∀z,ZAt 150 [(0,.pv false s 0),(2,.sl v2),(4,.pv false v4 0),(9,.int .i64 rt),(10,.int .u64 (Int.ofNat (qv l)))] z->X0 z h) :
  J6 lf (zAt Tryz.prog C lf 9 [1,1,1,1,1,1,0,1,0,0]) z0 ⟨(2,X0)::E,Qf Tryz.prog 9 K⟩ h:=by
 have ln:=hb.len;have hub:∀j,j<=l.length->qv (l.take j)<256 ^ j:=λj hj=>qJq j _ (by rw[zQ0];omega) λx hx=>hb.byte x (List.mem_of_mem_take hx)
 refine J6.inv (λq z h'=>∃j:Nat,ZAt 150 [(0,.pv false s 0),(2,.sl v2),(4,.pv false v4 0),(9,.int .i64 rt),(10,.int .u64 (Int.ofNat (qv (l.take j)))),(54,.sl sub),(55,.int .i64 8),(56,.int .i64 (j:Int))] z/\h'=h/\j+q=8) (n:=8) hlf
  ⟨0,hz0,rfl,rfl⟩ ?_
 rintro q z h' kk hq ⟨j,hz,rfl,hj⟩ ih;refine j9 _ hz λd=>(qLd _ _ _ _ _ _ _ _ _ _ _ _ _ _ _ _ _ _).mpr ?_;rw[qG3];refine⟨λhlt=>?_,λhge=>?_⟩
 .have hlt2:j<l.length:=by
   have:(j:Int)<8:=hlt
   omega
  obtain⟨b,hbj⟩:∃b,l[j]?=some b:=⟨_,zD0 hlt2⟩;have hb8:b<256:=hb.byte b (zC0 hbj);have hu:=hub j (by omega);have hu2:qv (l.take j)*256+256<=18446744073709551616:=by
   have hj7:j=0∨j=1∨j=2∨j=3∨j=4∨j=5∨j=6∨j=7:=by omega
   rcases hj7 with rfl | rfl | rfl | rfl | rfl | rfl | rfl | rfl <;> simp only[Nat.reducePow] at hu <;> omega
  refine⟨hn,⟨j,rfl,by rw[<- SL.n_of hn,ln];exact hlt2,⟨rfl,⟨_,by rw[Nat.mul_one];exact hb.at' hn hbj,?_⟩⟩⟩⟩;refine⟨8,rfl,?_⟩;have e1:(Int.ofNat (qv (l.take j))*Int.ofNat (Nat.pow 2 (cnd (Nat.ble 8 64) 8 64)))=Int.ofNat (qv (l.take j)*256):=rfl;rw[qA6,e1,wrap_u64 (by omega),qA6,wrap_u64 (by omega),qA6,qJr (by omega),qJr (by omega),qYq hb8,wrap_u64 (by omega),qA6,wrap_i64 (by omega) (by omega)];refine ih (q-1) _ _ (by omega) ⟨j+1,⟨rfl,rfl,rfl,rfl,rfl,?_,rfl,rfl,rfl,trivial⟩,rfl,by omega⟩;rw[List.take_add_one,hbj];show ZV.int .u64 (.ofNat (qv (l.take j)*256+b))=.int .u64 (.ofNat (qv (l.take j++[b])));rw[qE2]
 .have:¬((j:Int)<8):=hge
  have hjl:j=l.length:=by omega
  rw[hjl,List.take_length] at *
  exact hX _ ⟨rfl,rfl,rfl,rfl,rfl,rfl,trivial⟩
end
end MnN
namespace MnN
open Go Go.X Go.Proofs
theorem jFb {e:Ent} {H:Obs} (h1:e.wr=[]) (h2:e.new=[]):QN e H=H:=by unfold QN;rw[h1,h2];rfl
section
variable {S:QC} {lf n:Nat} {h:Q0} {K:ZK} {H:Obs} {A B:Nat}
theorem jGd (w:jq S) (x:Has h H A B) {s:Nat} {pk:Int} {p v2:SL} (hp:qG pk p.n=false) (hk:∀h',Has h' H A (B+3)->K (.tup [.pv true 0 0,.iface 32 (.int .i64 161)]) h') :
  Qu Tryz.prog S lf (n+3) 9 [.pv false s 0,.agg [.int .i64 pk,.sl p],.sl v2] K h:=by
 refine Qy w.s169 (by kernel_rfl) ?_;rw[qHs];have v1:=Var.new h [AV.int IntKind.i64 pk,p.av];refine nay ⟨rfl,v1.ldI pk rfl (v1.ldL p rfl (J4 w.s142 w.s211 (x.newO _) pk p λh2 x2 f2=>?_))⟩;rw[hp];exact⟨161,by kernel_rfl,yea (hk _ x2)⟩
theorem qYv (w:jq S) (x:Has h H A B) {s:Nat} {pk:Int} {p v2:SL} (hp:qG pk p.n=true) (h13:v2.n<13) (hk:∀h',Has h' H A (B+3)->K (.tup [.pv true 0 0,.iface 32 (.int .i64 212)]) h') :
  Qu Tryz.prog S lf (n+3) 9 [.pv false s 0,.agg [.int .i64 pk,.sl p],.sl v2] K h:=by
 refine Qy w.s169 (by kernel_rfl) ?_;rw[qHs];have v1:=Var.new h [AV.int IntKind.i64 pk,p.av];refine nay ⟨rfl,v1.ldI pk rfl (v1.ldL p rfl (J4 w.s142 w.s211 (x.newO _) pk p λh2 x2 f2=>?_))⟩;rw[if_pos hp];refine⟨0,by kernel_rfl,nay (QB (decide_eq_true ?_) (hk _ x2))⟩;show ((v2.n:Nat):Int)<13;omega
structure SizeE (S:QC) (lf s:Nat) (H:Obs) (A:Nat) where
 e:Ent
 size:Nat
 hE:EntC Tryz.prog S lf 34 H A e [.pv false s 0]
 vE:zOf e.v=.int .i64 (Int.ofNat size)
 le:size<=4096
 wr:e.wr=[]
 new:e.new=[]
theorem size16 {size:Nat} (h:size<=4096) {Q:Int->Int->Prop} (hq:Q (Int.ofNat (size / 16)) (Int.ofNat (14+size / 16))):ZW IntKind.i64 (Int.tdiv (Int.ofNat size) 16) λr_1=>ZW IntKind.i64 (14+r_1) λr_2=>Q r_1 r_2:=by
 have e1:Int.tdiv (Int.ofNat size) 16=Int.ofNat (size / 16):=rfl;rw[qA6,e1,wrap_i64 (by show (-9223372036854775808:Int)<=((size / 16:Nat):Int);omega) (by show ((size / 16:Nat):Int)<=9223372036854775807;omega),qA6];have e2:(14:Int)+Int.ofNat (size / 16)=Int.ofNat (14+size / 16):=by show (14:Int)+((size / 16:Nat):Int)=((14+size / 16:Nat):Int);omega
 rw[e2,wrap_i64 (by show (-9223372036854775808:Int)<=((14+size / 16:Nat):Int);omega) (by show ((14+size / 16:Nat):Int)<=9223372036854775807;omega)];exact hq
theorem jB0 (w:jq S) (x:Has h H A B) {s:Nat} {pk:Int} {p v2:SL} (hp:qG pk p.n=true) (h13:13<=v2.n) (Z:SizeE S lf s H A) (hB:B+3<=Z.e.next) (hl:14+Z.size / 16<v2.n)
  (hk:∀h',Has h' H Z.e.next Z.e.next->K (.tup [.pv true 0 0,.iface 32 (.int .i64 212)]) h') :
  Qu Tryz.prog S lf (n+3) 9 [.pv false s 0,.agg [.int .i64 pk,.sl p],.sl v2] K h:=by
 refine Qy w.s169 (by kernel_rfl) ?_;rw[qHs];have v1:=Var.new h [AV.int IntKind.i64 pk,p.av];refine nay ⟨rfl,v1.ldI pk rfl (v1.ldL p rfl (J4 w.s142 w.s211 (x.newO _) pk p λh2 x2 f2=>?_))⟩;rw[if_pos hp];refine⟨0,by kernel_rfl,nay (Qt (decide_eq_false (by show ¬((v2.n:Nat):Int)<13;omega)) ?_)⟩;refine Z.hE _ h2 _ _ x2 (by omega) λh3 x3 f3=>?_;rw[jFb Z.wr Z.new,Z.new] at x3;rw[Z.vE];refine⟨Int.ofNat Z.size,by kernel_rfl,λh=>(by cases h),size16 Z.le (QB ?_ (hk _ x3))⟩;rw[decide_eq_true (show Int.ofNat (14+Z.size / 16)<Int.ofNat v2.n by show ((14+Z.size / 16:Nat):Int)<((v2.n:Nat):Int);omega)];rfl
theorem jGe (w:jq S) (x:Has h H A B) {s:Nat} {pk:Int} {p v2:SL} {k:List Nat} (hp:qG pk p.n=true) (hb:qP h v2 k) (hn:v2.nil=false) (he:v2.ext=false) (hc:k.length<=v2.cap) (h13:13<=k.length)
  (Z:SizeE S lf s H A) (hB:B+3<=Z.e.next) (hl:k.length<=14+Z.size / 16) (hlf:8<lf)
  (hk:∀v h',A<=v->v<Z.e.next->Has h' H Z.e.next Z.e.next->Qv Qn h h'->Var h' v [AV.int IntKind.i64 pk,p.av]->H v=none ->
   ∀z,ZAt 150 [(0,.pv false s 0),(2,.sl v2),(4,.pv false v 0),(9,.int .i64 (Int.ofNat (qv ((k.take 5).drop 1)))),(10,.int .u64 (Int.ofNat (qv ((k.take 13).drop 5))))] z ->
   zAt Tryz.prog (Qu Tryz.prog S lf (n+2)) lf 9 [1,1,1,1,1,1,1] z (Qf Tryz.prog 9 K) ⟨[],Qf Tryz.prog 9 K⟩ h') :
  Qu Tryz.prog S lf (n+3) 9 [.pv false s 0,.agg [.int .i64 pk,.sl p],.sl v2] K h:=by
 refine Qy w.s169 (by kernel_rfl) ?_;rw[qHs];have v1:=Var.new h [AV.int IntKind.i64 pk,p.av];have f1:Qv Qn h (h.newO (.cells [AV.int IntKind.i64 pk,p.av] 0 false false)):=Qv.newO Qn _ _;have hln:=hb.len;refine nay ⟨rfl,v1.ldI pk rfl (v1.ldL p rfl (J4 w.s142 w.s211 (x.newO _) pk p λh2 x2 f2=>?_))⟩;rw[if_pos hp];refine⟨0,by kernel_rfl,nay (Qt (decide_eq_false (by show ¬((v2.n:Nat):Int)<13;omega)) ?_)⟩;refine Z.hE _ h2 _ _ x2 (by omega) λh3 x3 f3=>?_;rw[jFb Z.wr Z.new,Z.new] at x3;have f3':Qv Qn h2 h3:=f3.mono λi _ hw=>by obtain⟨y,hy,_⟩:=hw;rw[Z.wr] at hy;cases hy
 have f13:Qv Qn h h3:=(f1.trans f2).trans f3';rw[Z.vE];have b3:qP h3 v2 k:=hb.fr f13 λ_=>id;obtain⟨ba,na⟩:=Ji b3 hn he (l:=1) (r:=5) (m:=v2.cap) (by decide) (by omega) (by omega);obtain⟨bb,nb⟩:=Ji b3 hn he (l:=5) (r:=13) (m:=v2.cap) (by decide) (by omega) (by omega);have la:((k.take 5).drop 1).length=4:=by rw[zR0,zQ0];omega
 have lb:((k.take 13).drop 5).length=8:=by rw[zR0,zQ0];omega
 refine⟨Int.ofNat Z.size,by kernel_rfl,λh=>(by cases h),size16 Z.le (Qt ?_ ?_)⟩
 .rw[decide_eq_false (show ¬Int.ofNat (14+Z.size / 16)<Int.ofNat v2.n by show ¬((14+Z.size / 16:Nat):Int)<((v2.n:Nat):Int);omega)];rfl
 refine⟨1,rfl,⟨5,rfl,⟨⟨λe=>(by rw[hn] at e;cases e),λ_=>⟨show 1<=5 by decide,by show 5<=v2.cap;omega⟩⟩,?_⟩⟩⟩;have vv:Var h3 h.next [AV.int IntKind.i64 pk,p.av]:=(v1.fr f2 id).fr f3' id
 refine loop1 (C:=Qu Tryz.prog S lf (n+2)) (K:=K) (v4:=h.next) ba na la (by omega) ⟨rfl,rfl,rfl,rfl,rfl,rfl,rfl,by show ZV.int .i64 (Int.ofNat (SL.n _))=_;rw[ba.len,la];rfl,rfl,trivial⟩ (E:=[]) λz hz=>?_;refine j9 _ hz λd=>(qTd _ _ _ _ _ _ _ _ _ _ _ _).mpr ?_;refine⟨5,rfl,⟨13,rfl,⟨⟨λe=>(by rw[hn] at e;cases e),λ_=>⟨show 5<=13 by decide,by show 13<=v2.cap;omega⟩⟩,?_⟩⟩⟩;refine loop2 (C:=Qu Tryz.prog S lf (n+2)) (K:=K) (v4:=h.next) bb nb lb (by omega) ⟨rfl,rfl,rfl,rfl,rfl,rfl,rfl,by show ZV.int .i64 (Int.ofNat (SL.n _))=_;rw[bb.len,lb];rfl,rfl,trivial⟩ (E:=[]) λz hz=>?_;exact hk h.next h3 x.lo (by have:=x.hi;omega) x3 f13 vv x.none_next z hz
end
end MnN
namespace MnN
open Go Go.X Go.Proofs
section
variable {S:QC} {lf n:Nat} {h:Q0} {K:ZK} {H:Obs} {A:Nat}
structure Liv (S:QC) (lf:Nat) (s:Nat) (r:Nat) (H:Obs) (A0 A:Nat) (Hg:Obs) (Ag:Nat) where
 eB:Ent
 b:Nat
 hB:EntC Tryz.prog S lf 30 H A eB [.pv false s 0,.int .i64 (Int.ofNat r)]
 vB:zOf eB.v=.tup [.pv false b 0,.int .i64 0]
 leB:A+6<=eB.next
 rootb:qJi (QN eB H) b (Int.ofNat r)
 eG:Ent
 bG:SL
 hG:EntC Tryz.prog S lf 38 (QN eB H) (eB.next+eB.new.length) eG [.pv false b 0,.int .i64 (Int.ofNat r)]
 vG:zOf eG.v=.tup [.int .i64 3,.sl bG,.int .i64 0]
 leG:eB.next+eB.new.length+8<=eG.next
 rs:Int
 roots:qJi (QN eG (QN eB H)) s rs
 rs0:rs≠0
 eF:Ent
 bF:SL
 hF:EntC Tryz.prog S lf 38 (QN eG (QN eB H)) (eG.next+eG.new.length) eF [.pv false s 0,.int .i64 rs]
 vF:zOf eF.v=.tup [.int .i64 3,.sl bF,.int .i64 0]
 leF:eG.next+eG.new.length+9<=eF.next
 sub:∀i o,Hg i=some o->QN eF (QN eG (QN eB H)) i=some o
 leA:Ag<=eF.next+eF.new.length
 dom:∀i o,Hg i=some o->i<Ag
 keep:∀i,A0<=i->i<eB.next->¬WrE eB i/\¬WrE eG i/\¬WrE eF i
theorem wrapN (m:Nat) (h:m<4294967296):IntKind.i64.wrap (Int.ofNat m)=Int.ofNat m:=wrap_i64 (by show (-9223372036854775808:Int)<=(m:Int);omega) (by show (m:Int)<=9223372036854775807;omega)
theorem tail_bad {C:Qx} {s v:Nat} {v2:SL} {k:List Nat} (hb:qP h v2 k) (hn:v2.nil=false) {c rt st:Nat} (h0:k[0]?=some c)
  (hbad:(c≠1/\c≠2)∨rt<2∨st<1∨2305843009213693952<st) {z:ZT} (hz:ZAt 150 [(0,.pv false s 0),(2,.sl v2),(4,.pv false v 0),(9,.int .i64 (Int.ofNat rt)),(10,.int .u64 (Int.ofNat st))] z)
  (hk:K (.tup [.pv true 0 0,.iface 32 (.int .i64 212)]) h):zAt Tryz.prog C lf 9 [1,1,1,1,1,1,1] z (Qf Tryz.prog 9 K) ⟨[],Qf Tryz.prog 9 K⟩ h:=by
 refine j9 _ hz λd=>(qE5 _ _ _ _ _ _ _ _ _ _ _ _).mpr ?_;have hc:c<256:=hb.byte c (zC0 h0);have hl:0<v2.len:=by
  have:=hb.len
  rw[SL.n_of hn] at this
  have:=(List.getElem?_eq_some_iff.1 h0).1
  omega
 refine⟨hn,⟨0,rfl,hl,⟨rfl,⟨_,by rw[Nat.zero_mul];exact hb.at' hn h0,?_⟩⟩⟩⟩;rw[qA6,wrapN _ (by omega)]
 have two:∀Q1 Q2 Q3:Prop,K (.tup [.pv true 0 0,.iface 32 (.int .i64 212)]) h->(rt<2∨st<1∨2305843009213693952<st) ->
   @cnd Prop (cnd false true (decide (Int.ofNat rt<2))) (K (.tup [.pv true 0 0,.iface 32 (.int .i64 212)]) h) (@cnd Prop (cnd false true (decide (Int.ofNat st<1))) (K (.tup [.pv true 0 0,.iface 32 (.int .i64 212)]) h) (@cnd Prop (cnd false true (decide (2305843009213693952<Int.ofNat st))) (K (.tup [.pv true 0 0,.iface 32 (.int .i64 212)]) h) Q1)):=by
  intro Q1 Q2 Q3 hk hor;by_cases a1:rt<2
  .exact QB (by rw[decide_eq_true (show Int.ofNat rt<2 by show (rt:Int)<2;omega)];rfl) hk
  .refine Qt (by rw[decide_eq_false (show ¬Int.ofNat rt<2 by show ¬(rt:Int)<2;omega)];rfl) ?_;by_cases a2:st<1
   .exact QB (by rw[decide_eq_true (show Int.ofNat st<1 by show (st:Int)<1;omega)];rfl) hk
   .refine Qt (by rw[decide_eq_false (show ¬Int.ofNat st<1 by show ¬(st:Int)<1;omega)];rfl) ?_;have a3:2305843009213693952<st:=by omega
    exact QB (by rw[decide_eq_true (show 2305843009213693952<Int.ofNat st by show 2305843009213693952<(st:Int);omega)];rfl) hk
 by_cases c1:c=1
 .subst c1;exact nay (two _ True True hk (hbad.resolve_left λh=>h.1 rfl))
 .refine QB (by rw[decide_eq_false (show ¬Int.ofNat c=1 by show ¬(c:Int)=1;omega)];rfl) ?_;by_cases c2:c=2
  .subst c2;exact nay (two _ True True hk (hbad.resolve_left λh=>h.2 rfl))
  .exact QB (by rw[decide_eq_false (show ¬Int.ofNat c=2 by show ¬(c:Int)=2;omega)];rfl) hk
theorem tail_none
  (w:jq S) {A0:Nat} (x:Has h H A A) {s v:Nat} (hvA:A0<=v) (hv2:v<A) (hvn:H v=none) {pk:Int} {p v2:SL} {l:List Int} {k:List Nat} (vv:Var h v [AV.int IntKind.i64 pk,p.av])
  (hp:qG pk p.n=true) (hl:J5 h p l) (hn5:l.length<=65536) (hb:qP h v2 k) (hn:v2.nil=false) (he:v2.ext=false) (hc:k.length<=v2.cap) (h13:13<=k.length) (hk5:k.length<=65536)
  (hv2n:v2.i≠v) {c rt st:Nat} (h0:k[0]?=some c) (hc12:c=1∨c=2) (hrt:2<=rt) (hst:1<=st) (hst2:st<=2305843009213693952)
  {z:ZT} (hz:ZAt 150 [(0,.pv false s 0),(2,.sl v2),(4,.pv false v 0),(9,.int .i64 (Int.ofNat rt)),(10,.int .u64 (Int.ofNat st))] z)
  {EN:Int} (hEN:¬EN=0) (hN:∀m h' B' KK,B'<=A+6->Has h' H A B'->(∀h2,Has h2 H A (B'+1)->Qv Qn h' h2->KK (.tup [.pv true 0 0,.int .i64 EN]) h2)->Qu Tryz.prog S lf (m+2) 30 [.pv false s 0,.int .i64 (Int.ofNat rt)] KK h')
  (hk:∀h',Has h' H A (A+6)->K (.tup [.pv true 0 0,.iface 32 (.int .i64 EN)]) h') :
  zAt Tryz.prog (Qu Tryz.prog S lf (n+5)) lf 9 [1,1,1,1,1,1,1] z (Qf Tryz.prog 9 K) ⟨[],Qf Tryz.prog 9 K⟩ h:=by
 refine j9 _ hz λd=>(qE5 _ _ _ _ _ _ _ _ _ _ _ _).mpr ?_;have hl0:0<v2.len:=by
  have:=hb.len
  rw[SL.n_of hn] at this;omega
 refine⟨hn,⟨0,rfl,hl0,⟨rfl,⟨_,by rw[Nat.zero_mul];exact hb.at' hn h0,?_⟩⟩⟩⟩;rw[qA6,wrapN _ (by omega)];rcases hc12 with rfl | rfl
 .refine nay ?_;refine Qt (by rw[decide_eq_false (show ¬Int.ofNat rt<2 by show ¬(rt:Int)<2;omega)];rfl) (Qt (by rw[decide_eq_false (show ¬Int.ofNat st<1 by show ¬(st:Int)<1;omega)];rfl) (Qt (by rw[decide_eq_false (show ¬ 2305843009213693952<Int.ofNat st by show ¬ 2305843009213693952<(st:Int);omega)];rfl) ?_));refine⟨rfl,rfl,vv.ldL p rfl (qFe w.s190 x hl hn5 λs2 h1 x1 f1 l1 i1=>?_)⟩;have v1:=vv.fr f1 id;refine⟨s2,by kernel_rfl,rfl,rfl,v1.zput (zL0 2) ?_⟩;have va:Var (hput h1 v 1 [s2.av]) v [AV.int .i64 pk,s2.av]:=v1.put 1 [s2.av];have fa:Qv (λi=>i=v) h1 (hput h1 v 1 [s2.av]):=v1.put_fr 1 _;have xa:Has (hput h1 v 1 [s2.av]) H A (A+2):=x1.put hvn;have ba:qP (hput h1 v 1 [s2.av]) v2 k:=(hb.fr f1 λ_=>id).fr fa λ_ e=>hv2n e;have hnx:h.next=A:=Nat.le_antisymm x.hi x.lo
  have la:J5 (hput h1 v 1 [s2.av]) s2 l:=l1.fr fa λe e2=>by have:=i1 e;omega
  have hln:=hb.len;obtain⟨bc,nc⟩:=Ji ba hn he (l:=13) (r:=v2.n) (m:=v2.cap) (by omega) (by omega) (by omega);have lbc:((k.take v2.n).drop 13).length<=65536:=by rw[zR0,zQ0];omega
  refine⟨rfl,va.ldI pk rfl (va.ldL s2 rfl ⟨13,rfl,⟨⟨λe=>(by rw[hn] at e;cases e),λ_=>⟨show 13<=v2.n by omega,show v2.n<=v2.cap by omega⟩⟩,?_⟩⟩)⟩;refine qI7 w.s240 xa bc lbc λs4 h3 x3 f3=>?_;have v3:=va.fr f3 id;have l3:=la.fr f3 λ_=>id;refine⟨s4,by kernel_rfl,⟨⟨rfl,v3.ldI pk rfl (v3.ldL s2 rfl rfl)⟩,?_⟩⟩;have vm:=Var.new h3 [AV.ptr s 0,AV.nilp,AV.int IntKind.i64 1,AV.nilIface,AV.nilIface,s4.av,AV.int IntKind.i64 pk,s2.av,AV.int IntKind.u64 (Int.ofNat st),AV.bool true,AV.bool false];have f4:Qv Qn h3 (h3.newO (.cells [AV.ptr s 0,AV.nilp,AV.int IntKind.i64 1,AV.nilIface,AV.nilIface,s4.av,AV.int IntKind.i64 pk,s2.av,AV.int IntKind.u64 (Int.ofNat st),AV.bool true,AV.bool false] 0 false false)):=Qv.newO Qn _ _;have x4:Has (h3.newO (.cells [AV.ptr s 0,AV.nilp,AV.int IntKind.i64 1,AV.nilIface,AV.nilIface,s4.av,AV.int IntKind.i64 pk,s2.av,AV.int IntKind.u64 (Int.ofNat st),AV.bool true,AV.bool false] 0 false false)) H A (A+5):=x3.newO _;have m1:A<=h3.next:=x3.lo
  have m2:h3.next<=A+4:=x3.hi
  refine hN _ _ _ _ (by omega) x4 λh5 x5 f5=>?_;refine⟨Jd .nilp (.int .i64 EN),by kernel_rfl,true,0,0,by kernel_rfl,EN,by kernel_rfl,rfl,rfl,rfl,?_⟩;have vm5:=vm.fr f5 id;refine vm5.zput (show 2<=11 by decide) (QB (by rw[decide_eq_false hEN];rfl) ?_);exact hk _ (x5.put (x3.none_next))
 .refine yea (nay ?_);refine Qt (by rw[decide_eq_false (show ¬Int.ofNat rt<2 by show ¬(rt:Int)<2;omega)];rfl) (Qt (by rw[decide_eq_false (show ¬Int.ofNat st<1 by show ¬(st:Int)<1;omega)];rfl) (Qt (by rw[decide_eq_false (show ¬ 2305843009213693952<Int.ofNat st by show ¬ 2305843009213693952<(st:Int);omega)];rfl) ?_));refine⟨rfl,rfl,vv.ldL p rfl (qFe w.s190 x hl hn5 λs2 h1 x1 f1 l1 i1=>?_)⟩;have v1:=vv.fr f1 id;refine⟨s2,by kernel_rfl,rfl,rfl,v1.zput (zL0 2) ?_⟩;have va:Var (hput h1 v 1 [s2.av]) v [AV.int .i64 pk,s2.av]:=v1.put 1 [s2.av];have fa:Qv (λi=>i=v) h1 (hput h1 v 1 [s2.av]):=v1.put_fr 1 _;have xa:Has (hput h1 v 1 [s2.av]) H A (A+2):=x1.put hvn;have ba:qP (hput h1 v 1 [s2.av]) v2 k:=(hb.fr f1 λ_=>id).fr fa λ_ e=>hv2n e;have hnx:h.next=A:=Nat.le_antisymm x.hi x.lo
  have la:J5 (hput h1 v 1 [s2.av]) s2 l:=l1.fr fa λe e2=>by have:=i1 e;omega
  have hln:=hb.len;obtain⟨bc,nc⟩:=Ji ba hn he (l:=13) (r:=v2.n) (m:=v2.cap) (by omega) (by omega) (by omega);have lbc:((k.take v2.n).drop 13).length<=65536:=by rw[zR0,zQ0];omega
  refine⟨rfl,va.ldI pk rfl (va.ldL s2 rfl ⟨13,rfl,⟨⟨λe=>(by rw[hn] at e;cases e),λ_=>⟨show 13<=v2.n by omega,show v2.n<=v2.cap by omega⟩⟩,?_⟩⟩)⟩;refine qI7 w.s240 xa bc lbc λs4 h3 x3 f3=>?_;have v3:=va.fr f3 id;have l3:=la.fr f3 λ_=>id;refine⟨s4,by kernel_rfl,⟨⟨rfl,v3.ldI pk rfl (v3.ldL s2 rfl rfl)⟩,?_⟩⟩;have vm:=Var.new h3 [AV.ptr s 0,AV.nilp,AV.int IntKind.i64 2,AV.nilIface,AV.nilIface,s4.av,AV.int IntKind.i64 pk,s2.av,AV.int IntKind.u64 (Int.ofNat st),AV.bool true,AV.bool false];have f4:Qv Qn h3 (h3.newO (.cells [AV.ptr s 0,AV.nilp,AV.int IntKind.i64 2,AV.nilIface,AV.nilIface,s4.av,AV.int IntKind.i64 pk,s2.av,AV.int IntKind.u64 (Int.ofNat st),AV.bool true,AV.bool false] 0 false false)):=Qv.newO Qn _ _;have x4:Has (h3.newO (.cells [AV.ptr s 0,AV.nilp,AV.int IntKind.i64 2,AV.nilIface,AV.nilIface,s4.av,AV.int IntKind.i64 pk,s2.av,AV.int IntKind.u64 (Int.ofNat st),AV.bool true,AV.bool false] 0 false false)) H A (A+5):=x3.newO _;have m1:A<=h3.next:=x3.lo
  have m2:h3.next<=A+4:=x3.hi
  refine hN _ _ _ _ (by omega) x4 λh5 x5 f5=>?_;refine⟨Jd .nilp (.int .i64 EN),by kernel_rfl,true,0,0,by kernel_rfl,EN,by kernel_rfl,rfl,rfl,rfl,?_⟩;have vm5:=vm.fr f5 id;refine vm5.zput (show 2<=11 by decide) (QB (by rw[decide_eq_false hEN];rfl) ?_);exact hk _ (x5.put (x3.none_next))
theorem tail_live
  (w:jq S) {A0:Nat} (x:Has h H A A) {s v:Nat} (hvA:A0<=v) (hv2:v<A) (hvn:H v=none) {pk:Int} {p v2:SL} {l:List Int} {k:List Nat} (vv:Var h v [AV.int IntKind.i64 pk,p.av])
  (hp:qG pk p.n=true) (hl:J5 h p l) (hn5:l.length<=65536) (hb:qP h v2 k) (hn:v2.nil=false) (he:v2.ext=false) (hc:k.length<=v2.cap) (h13:13<=k.length) (hk5:k.length<=65536)
  (hv2n:v2.i≠v) {c rt st:Nat} (h0:k[0]?=some c) (hc12:c=1∨c=2) (hrt:2<=rt) (hst:1<=st) (hst2:st<=2305843009213693952)
  {z:ZT} (hz:ZAt 150 [(0,.pv false s 0),(2,.sl v2),(4,.pv false v 0),(9,.int .i64 (Int.ofNat rt)),(10,.int .u64 (Int.ofNat st))] z)
  {Hg:Obs} {Ag:Nat} (L:Liv S lf s rt H A0 A Hg Ag) (hk:∀m h',Has h' Hg Ag (L.eF.next+L.eF.new.length+1)->K (.tup [.pv false m 0,.any .nilIface]) h') :
  zAt Tryz.prog (Qu Tryz.prog S lf (n+5)) lf 9 [1,1,1,1,1,1,1] z (Qf Tryz.prog 9 K) ⟨[],Qf Tryz.prog 9 K⟩ h:=by
 refine j9 _ hz λd=>(qE5 _ _ _ _ _ _ _ _ _ _ _ _).mpr ?_;have hl0:0<v2.len:=by
  have:=hb.len
  rw[SL.n_of hn] at this;omega
 refine⟨hn,⟨0,rfl,hl0,⟨rfl,⟨_,by rw[Nat.zero_mul];exact hb.at' hn h0,?_⟩⟩⟩⟩;rw[qA6,wrapN _ (by omega)];rcases hc12 with rfl | rfl
 .refine nay ?_;refine Qt (by rw[decide_eq_false (show ¬Int.ofNat rt<2 by show ¬(rt:Int)<2;omega)];rfl) (Qt (by rw[decide_eq_false (show ¬Int.ofNat st<1 by show ¬(st:Int)<1;omega)];rfl) (Qt (by rw[decide_eq_false (show ¬ 2305843009213693952<Int.ofNat st by show ¬ 2305843009213693952<(st:Int);omega)];rfl) ?_));refine⟨rfl,rfl,vv.ldL p rfl (qFe w.s190 x hl hn5 λs2 h1 x1 f1 l1 i1=>?_)⟩;have v1:=vv.fr f1 id;refine⟨s2,by kernel_rfl,rfl,rfl,v1.zput (zL0 2) ?_⟩;have va:Var (hput h1 v 1 [s2.av]) v [AV.int .i64 pk,s2.av]:=v1.put 1 [s2.av];have fa:Qv (λi=>i=v) h1 (hput h1 v 1 [s2.av]):=v1.put_fr 1 _;have xa:Has (hput h1 v 1 [s2.av]) H A (A+2):=x1.put hvn;have ba:qP (hput h1 v 1 [s2.av]) v2 k:=(hb.fr f1 λ_=>id).fr fa λ_ e=>hv2n e;have hnx:h.next=A:=Nat.le_antisymm x.hi x.lo
  have la:J5 (hput h1 v 1 [s2.av]) s2 l:=l1.fr fa λe e2=>by have:=i1 e;omega
  have hln:=hb.len;obtain⟨bc,nc⟩:=Ji ba hn he (l:=13) (r:=v2.n) (m:=v2.cap) (by omega) (by omega) (by omega);have lbc:((k.take v2.n).drop 13).length<=65536:=by rw[zR0,zQ0];omega
  refine⟨rfl,va.ldI pk rfl (va.ldL s2 rfl ⟨13,rfl,⟨⟨λe=>(by rw[hn] at e;cases e),λ_=>⟨show 13<=v2.n by omega,show v2.n<=v2.cap by omega⟩⟩,?_⟩⟩)⟩;refine qI7 w.s240 xa bc lbc λs4 h3 x3 f3=>?_;have v3:=va.fr f3 id;have l3:=la.fr f3 λ_=>id;refine⟨s4,by kernel_rfl,⟨⟨rfl,v3.ldI pk rfl (v3.ldL s2 rfl rfl)⟩,?_⟩⟩;have vm:=Var.new h3 [AV.ptr s 0,AV.nilp,AV.int IntKind.i64 1,AV.nilIface,AV.nilIface,s4.av,AV.int IntKind.i64 pk,s2.av,AV.int IntKind.u64 (Int.ofNat st),AV.bool true,AV.bool false];have f4:Qv Qn h3 (h3.newO (.cells [AV.ptr s 0,AV.nilp,AV.int IntKind.i64 1,AV.nilIface,AV.nilIface,s4.av,AV.int IntKind.i64 pk,s2.av,AV.int IntKind.u64 (Int.ofNat st),AV.bool true,AV.bool false] 0 false false)):=Qv.newO Qn _ _;have x4:Has (h3.newO (.cells [AV.ptr s 0,AV.nilp,AV.int IntKind.i64 1,AV.nilIface,AV.nilIface,s4.av,AV.int IntKind.i64 pk,s2.av,AV.int IntKind.u64 (Int.ofNat st),AV.bool true,AV.bool false] 0 false false)) H A (A+5):=x3.newO _;have m1:A<=h3.next:=x3.lo
  have m2:h3.next<=A+4:=x3.hi
  have hvB:v<L.eB.next:=by have:=L.leB;omega
  obtain⟨kv1,kv2,kv3⟩:=L.keep v hvA hvB;obtain⟨km1,km2,km3⟩:=L.keep h3.next (by omega) (by have:=L.leB;omega)
  have ks:s2.nil=false->¬WrE L.eB s2.i/\¬WrE L.eG s2.i/\¬WrE L.eF s2.i:=λe=>L.keep _ (by have:=i1 e;omega) (by have:=l3.lt e;have:=L.leB;omega);refine L.hB _ _ _ _ x4 (by have:=L.leB;omega) λh5 x5 f5=>?_;rw[L.vB];have vm5:=vm.fr f5 km1;have v5:=(v3.fr f4 id).fr f5 kv1;have l5:=(l3.fr f4 λ_=>id).fr f5 λe=>(ks e).1;have hm5:QN L.eB H h3.next=none:=by rw[qM (by have:=L.leB;omega) km1];exact x3.none_next
  refine⟨Jd (.ptr L.b 0) (.int .i64 0),by kernel_rfl,false,L.b,0,by kernel_rfl,0,by kernel_rfl,rfl,rfl,rfl,vm5.zput (show 2<=11 by decide) (nay ⟨rfl,rfl,rfl,?_⟩)⟩;have vm6:=vm5.put 1 [AV.ptr L.b 0];have f6:Qv (λi=>i=h3.next) h5 (hput h5 h3.next 1 [AV.ptr L.b 0]):=vm5.put_fr 1 _;have hne:v≠h3.next:=by omega
  have hns:s2.nil=false->s2.i≠h3.next:=λe=>Nat.ne_of_lt (l3.lt e)
  have v6:=v5.fr f6 hne;have l6:=l5.fr f6 hns;have x6:Has (hput h5 h3.next 1 [AV.ptr L.b 0]) _ _ _:=x5.put hm5;have hp2:qG pk s2.n=true:=by rw[l1.len,<- hl.len];exact hp
  refine vm6.ldP false L.b 0 rfl ⟨rfl,v6.ldI pk rfl (v6.ldL s2 rfl ?_)⟩;refine qF4 (n:=n) w x6 L.rootb (by show ¬((rt:Int)=0);omega) (k:=1) (.inl rfl) hp2 l6 hn5 (by show (1:Int)<=(st:Int);omega) (by show (st:Int)<=2305843009213693952;omega) L.hG L.leG L.vG λt i h7 x7 f7=>?_;have vm7:=vm6.fr f7 km2;have v7:=v6.fr f7 kv2;have l7:=l6.fr f7 λe=>(ks e).2.1;have hm7:QN L.eG (QN L.eB H) h3.next=none:=by rw[qM (by have:=L.leB;have:=L.leG;omega) km2];exact hm5
  refine⟨Jd (.iface t (.agg [.ptr i 0])) (.int .i64 0),by kernel_rfl,0,by kernel_rfl,rfl,rfl,rfl,rfl,rfl,vm7.zput (show 5<=11 by decide) (nay ?_)⟩;have vm8:=vm7.put 4 [AV.iface t (AV.agg [AV.ptr i 0])];have f8:Qv (λi=>i=h3.next) h7 (hput h7 h3.next 4 [AV.iface t (AV.agg [AV.ptr i 0])]):=vm7.put_fr 4 _;have v8:=v7.fr f8 hne;have l8:=l7.fr f8 hns;have x8:Has (hput h7 h3.next 4 [AV.iface t (AV.agg [AV.ptr i 0])]) _ _ _:=x7.put hm7;refine⟨rfl,v8.ldI pk rfl (v8.ldL s2 rfl (qPx w (.inl rfl) ⟨3-1,by kernel_rfl,⟨⟨rfl,v8.ldI pk rfl (v8.ldL s2 rfl rfl)⟩,?_⟩⟩))⟩;refine qF4 (n:=n) w x8 L.roots L.rs0 (k:=3-1) (.inr rfl) hp2 l8 hn5 (by show (1:Int)<=(st:Int);omega) (by show (st:Int)<=2305843009213693952;omega) L.hF (by have:=L.leF;omega) L.vF λt2 i2 h9 x9 f9=>?_;have vm9:=vm8.fr f9 km3;have hm9:QN L.eF (QN L.eG (QN L.eB H)) h3.next=none:=by rw[qM (by have:=L.leB;have:=L.leG;have:=L.leF;omega) km3];exact hm7
  refine⟨Jd (.iface t2 (.agg [.ptr i2 0])) (.int .i64 0),by kernel_rfl,0,by kernel_rfl,rfl,rfl,rfl,rfl,rfl,vm9.zput (show 4<=11 by decide) (nay ?_)⟩;exact hk _ _ ((x9.put hm9).sub L.sub L.dom L.leA)
 .refine yea (nay ?_);refine Qt (by rw[decide_eq_false (show ¬Int.ofNat rt<2 by show ¬(rt:Int)<2;omega)];rfl) (Qt (by rw[decide_eq_false (show ¬Int.ofNat st<1 by show ¬(st:Int)<1;omega)];rfl) (Qt (by rw[decide_eq_false (show ¬ 2305843009213693952<Int.ofNat st by show ¬ 2305843009213693952<(st:Int);omega)];rfl) ?_));refine⟨rfl,rfl,vv.ldL p rfl (qFe w.s190 x hl hn5 λs2 h1 x1 f1 l1 i1=>?_)⟩;have v1:=vv.fr f1 id;refine⟨s2,by kernel_rfl,rfl,rfl,v1.zput (zL0 2) ?_⟩;have va:Var (hput h1 v 1 [s2.av]) v [AV.int .i64 pk,s2.av]:=v1.put 1 [s2.av];have fa:Qv (λi=>i=v) h1 (hput h1 v 1 [s2.av]):=v1.put_fr 1 _;have xa:Has (hput h1 v 1 [s2.av]) H A (A+2):=x1.put hvn;have ba:qP (hput h1 v 1 [s2.av]) v2 k:=(hb.fr f1 λ_=>id).fr fa λ_ e=>hv2n e;have hnx:h.next=A:=Nat.le_antisymm x.hi x.lo
  have la:J5 (hput h1 v 1 [s2.av]) s2 l:=l1.fr fa λe e2=>by have:=i1 e;omega
  have hln:=hb.len;obtain⟨bc,nc⟩:=Ji ba hn he (l:=13) (r:=v2.n) (m:=v2.cap) (by omega) (by omega) (by omega);have lbc:((k.take v2.n).drop 13).length<=65536:=by rw[zR0,zQ0];omega
  refine⟨rfl,va.ldI pk rfl (va.ldL s2 rfl ⟨13,rfl,⟨⟨λe=>(by rw[hn] at e;cases e),λ_=>⟨show 13<=v2.n by omega,show v2.n<=v2.cap by omega⟩⟩,?_⟩⟩)⟩;refine qI7 w.s240 xa bc lbc λs4 h3 x3 f3=>?_;have v3:=va.fr f3 id;have l3:=la.fr f3 λ_=>id;refine⟨s4,by kernel_rfl,⟨⟨rfl,v3.ldI pk rfl (v3.ldL s2 rfl rfl)⟩,?_⟩⟩;have vm:=Var.new h3 [AV.ptr s 0,AV.nilp,AV.int IntKind.i64 2,AV.nilIface,AV.nilIface,s4.av,AV.int IntKind.i64 pk,s2.av,AV.int IntKind.u64 (Int.ofNat st),AV.bool true,AV.bool false];have f4:Qv Qn h3 (h3.newO (.cells [AV.ptr s 0,AV.nilp,AV.int IntKind.i64 2,AV.nilIface,AV.nilIface,s4.av,AV.int IntKind.i64 pk,s2.av,AV.int IntKind.u64 (Int.ofNat st),AV.bool true,AV.bool false] 0 false false)):=Qv.newO Qn _ _;have x4:Has (h3.newO (.cells [AV.ptr s 0,AV.nilp,AV.int IntKind.i64 2,AV.nilIface,AV.nilIface,s4.av,AV.int IntKind.i64 pk,s2.av,AV.int IntKind.u64 (Int.ofNat st),AV.bool true,AV.bool false] 0 false false)) H A (A+5):=x3.newO _;have m1:A<=h3.next:=x3.lo
  have m2:h3.next<=A+4:=x3.hi
  have hvB:v<L.eB.next:=by have:=L.leB;omega
  obtain⟨kv1,kv2,kv3⟩:=L.keep v hvA hvB;obtain⟨km1,km2,km3⟩:=L.keep h3.next (by omega) (by have:=L.leB;omega)
  have ks:s2.nil=false->¬WrE L.eB s2.i/\¬WrE L.eG s2.i/\¬WrE L.eF s2.i:=λe=>L.keep _ (by have:=i1 e;omega) (by have:=l3.lt e;have:=L.leB;omega);refine L.hB _ _ _ _ x4 (by have:=L.leB;omega) λh5 x5 f5=>?_;rw[L.vB];have vm5:=vm.fr f5 km1;have v5:=(v3.fr f4 id).fr f5 kv1;have l5:=(l3.fr f4 λ_=>id).fr f5 λe=>(ks e).1;have hm5:QN L.eB H h3.next=none:=by rw[qM (by have:=L.leB;omega) km1];exact x3.none_next
  refine⟨Jd (.ptr L.b 0) (.int .i64 0),by kernel_rfl,false,L.b,0,by kernel_rfl,0,by kernel_rfl,rfl,rfl,rfl,vm5.zput (show 2<=11 by decide) (nay ⟨rfl,rfl,rfl,?_⟩)⟩;have vm6:=vm5.put 1 [AV.ptr L.b 0];have f6:Qv (λi=>i=h3.next) h5 (hput h5 h3.next 1 [AV.ptr L.b 0]):=vm5.put_fr 1 _;have hne:v≠h3.next:=by omega
  have hns:s2.nil=false->s2.i≠h3.next:=λe=>Nat.ne_of_lt (l3.lt e)
  have v6:=v5.fr f6 hne;have l6:=l5.fr f6 hns;have x6:Has (hput h5 h3.next 1 [AV.ptr L.b 0]) _ _ _:=x5.put hm5;have hp2:qG pk s2.n=true:=by rw[l1.len,<- hl.len];exact hp
  refine vm6.ldP false L.b 0 rfl ⟨rfl,v6.ldI pk rfl (v6.ldL s2 rfl ?_)⟩;refine qF4 (n:=n) w x6 L.rootb (by show ¬((rt:Int)=0);omega) (k:=2) (.inr rfl) hp2 l6 hn5 (by show (1:Int)<=(st:Int);omega) (by show (st:Int)<=2305843009213693952;omega) L.hG L.leG L.vG λt i h7 x7 f7=>?_;have vm7:=vm6.fr f7 km2;have v7:=v6.fr f7 kv2;have l7:=l6.fr f7 λe=>(ks e).2.1;have hm7:QN L.eG (QN L.eB H) h3.next=none:=by rw[qM (by have:=L.leB;have:=L.leG;omega) km2];exact hm5
  refine⟨Jd (.iface t (.agg [.ptr i 0])) (.int .i64 0),by kernel_rfl,0,by kernel_rfl,rfl,rfl,rfl,rfl,rfl,vm7.zput (show 5<=11 by decide) (nay ?_)⟩;have vm8:=vm7.put 4 [AV.iface t (AV.agg [AV.ptr i 0])];have f8:Qv (λi=>i=h3.next) h7 (hput h7 h3.next 4 [AV.iface t (AV.agg [AV.ptr i 0])]):=vm7.put_fr 4 _;have v8:=v7.fr f8 hne;have l8:=l7.fr f8 hns;have x8:Has (hput h7 h3.next 4 [AV.iface t (AV.agg [AV.ptr i 0])]) _ _ _:=x7.put hm7;refine⟨rfl,v8.ldI pk rfl (v8.ldL s2 rfl (qPx w (.inr rfl) ⟨3-2,by kernel_rfl,⟨⟨rfl,v8.ldI pk rfl (v8.ldL s2 rfl rfl)⟩,?_⟩⟩))⟩;refine qF4 (n:=n) w x8 L.roots L.rs0 (k:=3-2) (.inl rfl) hp2 l8 hn5 (by show (1:Int)<=(st:Int);omega) (by show (st:Int)<=2305843009213693952;omega) L.hF (by have:=L.leF;omega) L.vF λt2 i2 h9 x9 f9=>?_;have vm9:=vm8.fr f9 km3;have hm9:QN L.eF (QN L.eG (QN L.eB H)) h3.next=none:=by rw[qM (by have:=L.leB;have:=L.leG;have:=L.leF;omega) km3];exact hm7
  refine⟨Jd (.iface t2 (.agg [.ptr i2 0])) (.int .i64 0),by kernel_rfl,0,by kernel_rfl,rfl,rfl,rfl,rfl,rfl,vm9.zput (show 4<=11 by decide) (nay ?_)⟩;exact hk _ _ ((x9.put hm9).sub L.sub L.dom L.leA)
end
end MnN
namespace MnN
open Go Go.X Go.Proofs
section
variable {S:QC} {lf n:Nat} {h:Q0} {K:ZK} {H:Obs} {A B:Nat}
def qXr (H:Obs) (s:Nat) (es:List (AV × AV)):Prop :=
 ∃c x r0 cc cx mp ver,H s=some (.cells [.ptr c 0,.nilp,.bool false,.int .i64 r0] 0 false false)/\H c=some (.cells cc 0 false false)/\cc[2]?=some (.ptr x 0)/\H x=some (.cells cx 0 false false)/\cx[3]?=some (.map mp)/\H mp=some (.map es ver)
theorem jDv (h189:S 30=none) (h179:S 67=none) (x:Has h H A B) {s:Nat} {es:List (AV × AV)} (hP:qXr H s es) {r:Int} (hf:Jm es (.int .i64 r)=true) (hl:qJ5 es (.int .i64 r)=none) (h0:r≠0)
  (hk:∀h',Has h' H A (B+1)->Qv Qn h h'->K (.tup [.pv true 0 0,.int .i64 111]) h'):Qu Tryz.prog S lf (n+2) 30 [.pv false s 0,.int .i64 r] K h:=by
 obtain⟨c,y,r0,cc,cx,mp,ver,e1,e2,e3,e4,e5,e6⟩:=hP;refine Qy h189 (by kernel_rfl) ?_;rw[beside_nf];have v:=x.var e1;have vc:=x.var e2;have vx:=x.var e4;refine Qy h179 (by kernel_rfl) ?_;rw[jEi];refine⟨rfl,rfl,rfl,v.ldP true 0 0 rfl (nay ⟨rfl,rfl,rfl,v.ldP false c 0 (by simp) ⟨rfl,rfl,rfl,vc.ldP false y 0 (by rw[qCp];exact e3) ?_⟩⟩)⟩;refine⟨false,y,0,by kernel_rfl,rfl,rfl,rfl,vx.ldM false mp (by exact e5) ⟨λe=>(by cases e),λ_=>⟨es,ver,x.get _ _ e6,hf,λv hv=>?_,λ_=>?_⟩⟩⟩
 .rw[hl] at hv;cases hv
 .have v1:=Var.new h [AV.int IntKind.i64 0,AV.int IntKind.u64 0];refine⟨rfl,v1.zput (zL0 2) (QB (by rw[decide_eq_false h0];rfl) ?_)⟩;refine hk _ ((x.newO _).put x.none_next) ?_;have f1:Qv Qn h (h.newO (.cells [AV.int IntKind.i64 0,AV.int IntKind.u64 0] 0 false false)):=Qv.newO Qn _ _;have f2:=v1.put_fr 0 [AV.int IntKind.i64 0,AV.int IntKind.u64 0];refine⟨zM0 f1.next f2.next,λi hi _=>?_⟩;exact (f2.same i (zE0 hi f1.next) (λe=>by omega)).trans (f1.same i hi id)
end
end MnN
namespace MnN
open Go Go.X Go.Proofs MnL
def hitN (te tp:TypeId):Nat:=cnd (cnd (Nat.beq te 32) (Nat.beq tp 103) false) 3 0
structure j7 (S:QC):Prop where
 s3:S 3=none
 s5:S 5=none
 s20:S 20=none
 s10:S 10=none
 s11:S 11=none
 s12:S 12=none
 s13:S 13=none
 s36:S 36=some (zAsI hitN)
 s4:S 4=some (λargs K h=>args=[]/\K (.bool true) h)
section
variable {S:QC} {lf n:Nat} {h:Q0} {K:ZK} {H:Obs} {A B:Nat}
def qZ (v:Int) (m:Nat):Nat:=if v<0 then (-(v+1)).toNat % m else v.toNat % m
theorem qNh (hS:S 20=none) {v:Int} {m:Nat} (hm:0<m) (h1:-9223372036854775808<=v) (h2:v<=9223372036854775807) (k:K (.int .i64 (Int.ofNat (qZ v m))) h):Qu Tryz.prog S lf (n+1) 20 [.int .i64 v,.int .i64 (Int.ofNat m)] K h:=by
 refine Qy hS (by kernel_rfl) ?_;rw[pick_nf,qG3];have hm0:¬((Int.ofNat m)=0):=by show ¬((m:Int)=0);omega
 unfold qZ at k;refine⟨λhlt=>?_,λhge=>?_⟩
 .rw[qA6,qA6,wrap_i64 (a:=v+1) (by omega) (by omega),wrap_i64 (a:=-(v+1)) (by omega) (by omega)];rw[if_pos hlt] at k;refine⟨λe=>hm0 e,?_⟩;have e:-(v+1)=((-(v+1)).toNat:Int):=by omega
  rw[e];exact k
 .rw[if_neg hge] at k;refine⟨λe=>hm0 e,?_⟩;have e:v=(v.toNat:Int):=by omega
  rw[e];exact k
theorem qWa {v:Int} {m:Nat} (hm:0<m):qZ v m<m:=by unfold qZ;split <;> exact Nat.mod_lt _ hm
def szL:List Nat:=[512,1024,2048,4096]
def szOf (m:Nat):Nat:=szL.getD m 0
theorem sized_has (w:j7 S) (x:Has h H A B) {v:Int} (h1:-9223372036854775808<=v) (h2:v<=9223372036854775807)
  (hk:∀h',Has h' H A (B+1)->K (.tup [.int .i64 (Int.ofNat (szOf (qZ v 4))),.int .i64 32]) h'):Qu Tryz.prog S lf (n+2) 5 [.int .i64 v,.int .i64 0] K h:=by
 refine Qy w.s5 (by kernel_rfl) ?_;rw[qVx];have hm:qZ v 4<4:=qWa (by decide);have p0:qZ 0 65505=0:=rfl;have e4:(4:Int)=Int.ofNat 4:=rfl;have e5:(65505:Int)=Int.ofNat 65505:=rfl;have arr:∀g:Q0,Var (g.newO (.cells [AV.int IntKind.i64 512,AV.int IntKind.i64 1024,AV.int IntKind.i64 2048,AV.int IntKind.i64 4096] 1 false false)) g.next [AV.int IntKind.i64 512,AV.int IntKind.i64 1024,AV.int IntKind.i64 2048,AV.int IntKind.i64 4096]->True:=λ_ _=>trivial
 have ld:∀(g:Q0) (Q:Int->Prop),Q (Int.ofNat (szOf (qZ v 4)))->Qg (g.newO (.cells [AV.int IntKind.i64 512,AV.int IntKind.i64 1024,AV.int IntKind.i64 2048,AV.int IntKind.i64 4096] 1 false false)) g.next (0+qZ v 4*1) IntKind.i64 Q:=by
  intro g Q q;refine⟨Int.ofNat (szOf (qZ v 4)),?_,q⟩;rw[qMj (Qz _ _)];generalize qZ v 4=m at hm
  match m,hm with
  | 0,_=>rfl
  | 1,_=>rfl
  | 2,_=>rfl
  | 3,_=>rfl
  | m+4,h=>omega
 have w32:IntKind.i64.wrap (32+Int.ofNat (qZ 0 65505))=32:=by rw[p0];decide
 rw[e4,e5];refine⟨?_,?_,?_⟩
 .refine qNh w.s20 (by decide) h1 h2 ⟨Int.ofNat (qZ v 4),by kernel_rfl,rfl,qM3.2 ⟨hm,rfl,ld _ _ ?_⟩⟩;refine qNh w.s20 (v:=0) (m:=65505) (by decide) (by decide) (by decide) ⟨Int.ofNat (qZ 0 65505),by kernel_rfl,⟨rfl,ld _ _ rfl⟩,?_⟩;rw[qA6,w32];exact hk _ (x.newO _)
 .refine qNh w.s20 (by decide) h1 h2 ⟨Int.ofNat (qZ v 4),by kernel_rfl,rfl,qM3.2 ⟨hm,rfl,ld _ _ ?_⟩⟩;refine qNh w.s20 (v:=0) (m:=65505) (by decide) (by decide) (by decide) ⟨Int.ofNat (qZ 0 65505),by kernel_rfl,⟨rfl,ld _ _ rfl⟩,?_⟩;rw[qA6,w32];exact hk _ (x.newO _)
 .refine qNh w.s20 (by decide) h1 h2 ⟨Int.ofNat (qZ v 4),by kernel_rfl,?_⟩;refine qNh w.s20 (v:=0) (m:=65505) (by decide) (by decide) (by decide) ⟨Int.ofNat (qZ 0 65505),by kernel_rfl,?_⟩;rw[qA6,w32,qA6,w32];exact⟨rfl,rfl,qM3.2 ⟨hm,rfl,ld _ _ (hk _ (x.newO _))⟩⟩
theorem qF2 (w:j7 S) (x:Has h H A B) (pk:Int) (p:SL) (hk:∀h',Has h' H A (B+1)->K (.int .i64 (if qG pk p.n=true then 0 else 161)) h') :
  Qu Tryz.prog S lf (n+1) 10 [.agg [.int .i64 pk,.sl p]] K h:=by
 refine Qy w.s10 (by kernel_rfl) ?_;rw[rcheck_nf];have v1:=Var.new h [AV.int IntKind.i64 pk,p.av];have x1:=hk _ (x.newO (.cells [AV.int IntKind.i64 pk,p.av] 0 false false));have no:qG pk p.n=false->K (.int .i64 161) (h.newO (.cells [AV.int IntKind.i64 pk,p.av] 0 false false)):=λe=>by rw[e] at x1;exact x1
 have yes:qG pk p.n=true->K (.int .i64 0) (h.newO (.cells [AV.int IntKind.i64 pk,p.av] 0 false false)):=λe=>by rw[e] at x1;exact x1
 refine⟨rfl,rfl,v1.ldI pk rfl ?_⟩;by_cases c1:pk<1
 .exact QB (decide_eq_true c1) (no (by unfold qG;rw[decide_eq_false (show ¬ 1<=pk by omega)];rfl))
 refine Qt (decide_eq_false c1) ⟨rfl,rfl,v1.ldI pk rfl ?_⟩;by_cases c2:4<pk
 .exact QB (by rw[decide_eq_true c2];rfl) (no (by unfold qG;rw[decide_eq_false (show ¬pk<=4 by omega),Bool.and_false];rfl))
 refine Qt (by rw[decide_eq_false c2];rfl) ⟨rfl,rfl,v1.ldL p rfl ?_⟩;have a1:decide (1<=pk)=true:=decide_eq_true (by omega);have a2:decide (pk<=4)=true:=decide_eq_true (by omega);by_cases c3:0<p.n
 .refine QB (decide_eq_true (by show (0:Int)<(p.n:Int);omega)) ⟨rfl,rfl,v1.ldI pk rfl ?_⟩;by_cases c4:pk=4
  .subst c4;refine Qt (by kernel_rfl) ⟨rfl,rfl,v1.ldL p rfl ?_⟩;by_cases c5:65536<p.n
   .exact QB (by rw[decide_eq_true (show (65536:Int)<Int.ofNat p.n by show (65536:Int)<(p.n:Int);omega)];rfl) (no (by unfold qG;rw[decide_eq_false (show ¬p.n<=65536 by omega)];rfl))
   .exact Qt (by rw[decide_eq_false (show ¬(65536:Int)<Int.ofNat p.n by show ¬(65536:Int)<(p.n:Int);omega)];rfl) (yes (by unfold qG;rw[decide_eq_true (show p.n<=65536 by omega)];rfl))
  .exact QB (by rw[decide_eq_false c4];rfl) (no (by unfold qG;rw[decide_eq_false c4,decide_eq_false (show ¬p.n=0 by omega)];simp))
 .refine Qt (decide_eq_false (by show ¬(0:Int)<(p.n:Int);omega)) (yes ?_);have e0:p.n=0:=by omega
  unfold qG;rw[a1,a2,e0];simp
theorem jGo (w:j7 S) (k:K (.int .i64 0) h):Qu Tryz.prog S lf (n+1) 11 [.any .nilIface] K h:=by refine Qy w.s11 (by kernel_rfl) ?_;rw[qZn];exact⟨rfl,yea k⟩
theorem Jq (w:j7 S) (x:Has h H A B) {e:Int} (hk:∀h',Has h' H A (B+1)->K (.int .i64 e) h'):Qu Tryz.prog S lf (n+2) 11 [.any (.iface 32 (.int .i64 e))] K h:=by
 refine Qy w.s11 (by kernel_rfl) ?_;rw[qZn];have v1:=Var.new h [AV.int IntKind.i64 0];have x1:=(x.newO (.cells [AV.int IntKind.i64 0] 0 false false)).put (v:=h.next) (o:=0) (vs:=[AV.int IntKind.i64 0]) x.none_next;have v2:Var (hput (h.newO (.cells [AV.int IntKind.i64 0] 0 false false)) h.next 0 [AV.int IntKind.i64 0]) h.next [AV.int IntKind.i64 0]:=v1.put_all rfl
 refine⟨rfl,nay ⟨rfl,v1.zput (zL0 1) ?_⟩⟩;refine qEx (by kernel_rfl) w.s36 ⟨32,103,e,h.next,0,rfl,by kernel_rfl,?_,?_⟩
 .exact (v2.zput (A:=True) (zL0 1) trivial).1
 .have v3:Var (hput (hput (h.newO (.cells [AV.int IntKind.i64 0] 0 false false)) h.next 0 [AV.int IntKind.i64 0]) h.next 0 [AV.int IntKind.i64 e]) h.next [AV.int IntKind.i64 e]:=v2.put_all rfl
  refine⟨true,by kernel_rfl,nay ⟨rfl,v3.ldI e rfl ?_⟩⟩;exact hk _ (x1.put x.none_next)
end
end MnN
namespace MnN
open Go Go.X Go.Proofs MnL
section
variable {S:QC} {lf n:Nat} {h:Q0} {K:ZK} {H:Obs} {A B:Nat}
theorem qHj (w:j7 S) {s:SL} {l:List Nat} (hb:qP h s l) (hn:s.nil=false) (h8:l.length<=8) (hlf:8<lf) (k:K (.int .u64 (.ofNat (qv l))) h) :
  Qu Tryz.prog S lf (n+1) 12 [.sl s] K h:=by
 refine Qy w.s12 (by kernel_rfl) ?_;rw[told_nf];have ln:=hb.len;have hub:∀j,j<=l.length->qv (l.take j)<256 ^ j:=λj hj=>qJq j _ (by rw[zQ0];omega) λx hx=>hb.byte x (List.mem_of_mem_take hx)
 refine J6.inv (λq z h'=>∃j:Nat,ZAt 20 [(0,.sl s),(3,.int .u64 (Int.ofNat (qv (l.take j)))),(4,.int .i64 (j:Int))] z/\h'=h/\j+q=l.length) (n:=l.length) (by omega)
  ⟨0,⟨rfl,rfl,rfl,rfl,trivial⟩,rfl,by omega⟩ ?_
 rintro q z h' kk hq ⟨j,hz,rfl,hj⟩ ih;refine j9 _ hz λd=>(qYi _ _ _ _ _ _ _ _ _ _ _).mpr ?_;rw[qG3,ln];refine⟨λhlt=>?_,λhge=>?_⟩
 .have hlt2:j<l.length:=by
   have:(j:Int)<((l.length:Nat):Int):=hlt
   omega
  obtain⟨b,hbj⟩:∃b,l[j]?=some b:=⟨_,zD0 hlt2⟩;have hb8:b<256:=hb.byte b (zC0 hbj);have hu:=hub j (by omega);have hu2:qv (l.take j)*256+256<=18446744073709551616:=by
   have hj7:j=0∨j=1∨j=2∨j=3∨j=4∨j=5∨j=6∨j=7:=by omega
   rcases hj7 with rfl | rfl | rfl | rfl | rfl | rfl | rfl | rfl <;> simp only[Nat.reducePow] at hu <;> omega
  refine⟨8,rfl,?_⟩;have e1:(Int.ofNat (qv (l.take j))*Int.ofNat (Nat.pow 2 (cnd (Nat.ble 8 64) 8 64)))=Int.ofNat (qv (l.take j)*256):=rfl;rw[qA6,e1,wrap_u64 (by omega)];refine⟨hn,⟨j,rfl,by rw[<- SL.n_of hn,ln];exact hlt2,⟨rfl,⟨_,by rw[Nat.mul_one];exact hb.at' hn hbj,?_⟩⟩⟩⟩;rw[qA6,wrap_u64 (by omega),qA6,qJr (by omega),qJr (by omega),qYq hb8,wrap_u64 (by omega),qA6,wrap_i64 (by omega) (by omega)];refine ih (q-1) _ _ (by omega) ⟨j+1,⟨rfl,rfl,?_,rfl,trivial⟩,rfl,by omega⟩;rw[List.take_add_one,hbj];show ZV.int .u64 (.ofNat (qv (l.take j)*256+b))=.int .u64 (.ofNat (qv (l.take j++[b])));rw[qE2]
 .have:¬((j:Int)<((l.length:Nat):Int)):=hge
  have hjl:j=l.length:=by omega
  rw[hjl,List.take_length] at hz;refine j9 (n:=20) [(3,.int .u64 (Int.ofNat (qv l)))] ⟨rfl,?_,trivial⟩ λd=>(told_a111 _ _ _ _ _ _).mpr k;rw[hjl,List.take_length];rfl
theorem jEx (w:j7 S) {s:SL} {L:List Int} (hn:s.nil=false) (hl:s.len=L.length) (hL:∀j y,L[j]?=some y->cellAt h s.i (s.o+j*4)=some (.int .i64 y)) (hlf:L.length<lf) (h5:L.length<=65536) {v1:Int}
  (k:K (.bool (decide (v1∈L))) h):Qu Tryz.prog S lf (n+1) 13 [.sl s,.int .i64 v1] K h:=by
 refine Qy w.s13 (by kernel_rfl) ?_;rw[lives_nf];have sn:s.n=L.length:=by rw[SL.n_of hn,hl]
 refine J6.inv (λq z h'=>∃j:Nat,ZAt 19 [(0,.sl s),(1,.int .i64 v1),(5,.int .i64 (j:Int))] z/\h'=h/\j+q=L.length/\v1 ∉ L.take j) (n:=L.length) hlf
  ⟨0,⟨rfl,rfl,rfl,rfl,trivial⟩,rfl,by omega,by simp⟩ ?_
 rintro q z h' kk hq ⟨j,hz,rfl,hj,hnot⟩ ih;refine j9 _ hz λd=>(qZv _ _ _ _ _ _ _ _ _ _ _).mpr ?_;rw[qG3,sn];refine⟨λhlt=>?_,λhge=>?_⟩
 .have hlt2:j<L.length:=by
   have:(j:Int)<((L.length:Nat):Int):=hlt
   omega
  obtain⟨y,hy⟩:∃y,L[j]?=some y:=⟨_,zD0 hlt2⟩;refine⟨hn,⟨j,rfl,by rw[hl];exact hlt2,⟨rfl,⟨rfl,⟨y,hL j y hy,?_⟩⟩⟩⟩⟩;rw[qG3];refine⟨λe=>?_,λe=>?_⟩
  .subst e;rw[decide_eq_true (zC0 hy)] at k;exact k
  .rw[qA6,wrap_i64 (by omega) (by omega)];refine ih (q-1) _ _ (by omega) ⟨j+1,⟨rfl,rfl,rfl,rfl,trivial⟩,rfl,by omega,?_⟩;rw[List.take_add_one,hy];simp only[Option.toList,List.mem_append,List.mem_singleton];exact λhh=>hh.elim hnot λh=>e h.symm
 .have:¬((j:Int)<((L.length:Nat):Int)):=hge
  have hjl:j=L.length:=by omega
  rw[hjl,List.take_length] at hnot;rw[decide_eq_false hnot] at k;exact j9 (n:=19) [] ⟨rfl,trivial⟩ λd=>(lives_a11 _ _ _ _ _).mpr k
end
end MnN
namespace MnN
open Go Go.X Go.Proofs MnL
abbrev fin3 (K:ZK):ZT->Q0->Prop:=Qf Tryz.prog 3 K
abbrev Jt (e:Int):AV:=.iface 32 (.int .i64 e)
def tabL:List Int:=[0,1,56,2,57,49,28,3,61,58,42,50,38,29,17,4,62,47,59,36,45,43,51,22,53,39,33,30,24,18,12,5,63,55,48,27,60,41,37,16,46,35,44,21,52,32,23,11,54,26,40,15,34,20,31,10,25,14,19,9,13,8,7,6]
def tabO:Q4:=.ro (tabL.map λz=>AV.int .u8 z)
structure stO (o1 o2:Q4) (H:Nat->Option Q4):Prop where
 k1:H 1=some tabO
 k3:H 3=some o1
 k4:H 4=some o2
section
variable {S:QC} {lf n:Nat} {h:Q0} {K:ZK} {H:Obs} {A B:Nat}
theorem stO.get {o1 o2:Q4} (k:stO o1 o2 H) (x:Has h H A B):stO o1 o2 h.get:=⟨x.get _ _ k.k1,x.get _ _ k.k3,x.get _ _ k.k4⟩
theorem jFc (w:j7 S) (x:Has h H A B) {z:ZT} (hz:ZAt 228 [(15,.any (Jt 1)),(17,.any (Jt 1)),(21,.bool true)] z) (hk:∀h',K (.bool true) h') :
  zAt Tryz.prog (Qu Tryz.prog S lf (n+2)) lf 3 [1,1,1,1,1,1,1,1,1,1,1,1,1,1,1] z (fin3 K) ⟨[],fin3 K⟩ h:=by
 refine j9 _ hz λd=>(law_s3 _ _ _ _ _ _ _ _).mpr ?_;refine yea (Jq w x λh1 x1=>⟨1,by kernel_rfl,yea (Jq w x1 λh2 x2=>⟨1,by kernel_rfl,hk h2⟩)⟩)
structure Gath (S:QC) (lf s w:Nat) (H:Obs) (A B:Nat) (o1 o2:Q4) (L:List Int) where
 e:Ent
 h:EntC Tryz.prog S lf 14 H A e [.pv false s 0]
 le:B<=e.next
 gl:SL
 v:zOf e.v=.sl gl
 nn:gl.nil=false
 len:gl.len=L.length
 cs:List AV
 es:Nat
 g:Bool
 m:Bool
 row:QN e H gl.i=some (.cells cs es g m)
 at':∀j y,L[j]?=some y->cs[gl.o+j*4]?=some (.int .i64 y)
 cw:List AV
 hw:H w=some (.cells cw 0 false false)
 ws:cw[1]?=some (.ptr s 0)
 st:stO o1 o2 (QN e H)
def JD (k:List Nat):Nat:=qv ((k.take 5).drop 1)
def jc (k:List Nat):Nat:=qv ((k.take 13).drop 5)
def qKe (sz:Nat) (k:List Nat):Bool:=decide (13<=k.length) && (decide (k.length<=14+sz / 16) && ((decide (k[0]?=some 1) || decide (k[0]?=some 2)) && (decide (2<=JD k) && (decide (1<=jc k) && decide (jc k<=2305843009213693952)))))
inductive Outc (S:QC) (lf s w:Nat) (pol:Bool) (sz:Nat) (k:List Nat) (o1 o2:Q4) (may:Int) (nn:Bool) (vv:AV) (h:Q0):Prop where
 | pol (H:Obs) (A B:Nat) (hp:pol=false) (e1:may=161) (e2:nn=true) (e3:vv=Jt 161) (x:Has h H A B) (h4:stO o1 o2 H)
 | bad (H:Obs) (A B:Nat) (hf:qKe sz k=false) (e1:may=0) (e2:nn=true) (e3:vv=Jt 212) (x:Has h H A B) (h4:stO o1 o2 H)
 | none (H:Obs) (A B:Nat) (L:List Int) (hf:qKe sz k=true) (e1:may=0) (e2:nn=true) (e3:vv=Jt 111) (x:Has h H A B) (h4:stO o1 o2 H) (G:Gath S lf s w H A B o1 o2 L) (hL:L.length<=100) (hm:Int.ofNat (JD k) ∉ L)
 | live (H:Obs) (A B:Nat) (L:List Int) (hf:qKe sz k=true) (e1:may=0) (e2:nn=false) (e3:vv=.nilIface) (x:Has h H A B) (h4:stO o1 o2 H) (G:Gath S lf s w H A B o1 o2 L) (hL:L.length<=100) (hm:Int.ofNat (JD k)∈L)
theorem Outc.has {s w:Nat} {pol:Bool} {sz:Nat} {k:List Nat} {o1 o2:Q4} {may:Int} {nn:Bool} {vv:AV} (o:Outc S lf s w pol sz k o1 o2 may nn vv h):∃H A B,Has h H A B/\stO o1 o2 H:=by
 cases o with
 | pol H A B _ _ _ _ x h4=>exact⟨H,A,B,x,h4⟩
 | bad H A B _ _ _ _ x h4=>exact⟨H,A,B,x,h4⟩
 | none H A B _ _ _ _ _ x h4=>exact⟨H,A,B,x,h4⟩
 | live H A B _ _ _ _ _ x h4=>exact⟨H,A,B,x,h4⟩
theorem jE3 {sz:Nat} {k:List Nat} (h:qKe sz k=true):13<=k.length:=by unfold qKe at h;simp only[Bool.and_eq_true,decide_eq_true_eq] at h;exact h.1
theorem switch_ok (w:j7 S) {s wp:Nat} {sz:Nat} {k:List Nat} {o1 o2:Q4} {v4:SL} (hB:∀g:Q0,stO o1 o2 g.get->5<=g.next->qP g v4 k) (hnil:13<=k.length->v4.nil=false) (hext:v4.nil=false->v4.ext=false) (hcap:v4.nil=false->k.length<=v4.cap)
  {pol:Bool} {may:Int} {nn:Bool} {jj:Nat} {vv:AV} (o:Outc S lf s wp pol sz k o1 o2 may nn vv h) (hlf:200<lf) {z:ZT}
  (hz:ZAt 228 [(4,.sl v4),(12,.pv false wp 0),(15,.any (Jt 1)),(17,.any (Jt 1)),(21,.bool true),(22,.int .i64 may),(23,.pv nn jj 0),(24,.any vv),(25,.bool (qKe sz k))] z) (hk:∀h',K (.bool true) h') :
  zAt Tryz.prog (Qu Tryz.prog S lf (n+3)) lf 3 [1,1,1,1,1,1,1,1,1,1,1,1,1,1] z (fin3 K) ⟨[],fin3 K⟩ h:=by
 refine j9 _ hz λd=>(law_s4 _ _ _ _ _ _ _ _ _ _ _ _ _ _ _ _).mpr ?_;cases o with
 | pol H A B hp e1 e2 e3 x h4 =>
  subst e1;subst e2;subst e3;refine yea (yea (yea (Jq w x λh1 x1=>⟨161,by kernel_rfl,jFc w x1 ⟨rfl,rfl,rfl,rfl,trivial⟩ hk⟩)))
 | bad H A B hf e1 e2 e3 x h4 =>
  subst e1;subst e2;subst e3;rw[hf];refine nay (yea (yea (yea (Jq w x λh1 x1=>⟨212,by kernel_rfl,jFc w x1 ⟨rfl,rfl,rfl,rfl,trivial⟩ hk⟩))))
 | none H A B L hf e1 e2 e3 x h4 G hL hm =>
  subst e1;subst e2;subst e3;rw[hf];have h13:=jE3 hf;have hn:=hnil h13;have hc:=hcap hn;have vw:=x.var G.hw;refine nay (nay ⟨rfl,rfl,rfl,vw.ldP false s 0 G.ws ⟨1,rfl,5,rfl,⟨λe=>(by rw[hn] at e;cases e),λ_=>⟨show 1<=5 by decide,show 5<=v4.cap by omega⟩⟩,?_⟩⟩);refine G.h _ h _ _ x G.le λh1 x1 f1=>?_;rw[G.v];refine⟨G.gl,by kernel_rfl,?_⟩;have h5:5<=h1.next:=zE0 (x1.dom 4 _ G.st.k4) x1.lo
  obtain⟨bc,nc⟩:=Ji (hB h1 (G.st.get x1) h5) hn (hext hn) (l:=1) (r:=5) (m:=v4.cap) (by omega) (by omega) (by omega);refine qHj w bc nc (by rw[zR0,zQ0];omega) (by omega) ?_;have hu:JD k<4294967296:=qJq 4 _ (by rw[zR0,zQ0];omega) λy hy=>(hB h1 (G.st.get x1) h5).byte y (List.mem_of_mem_take (List.mem_of_mem_drop hy));refine⟨Int.ofNat (JD k),by kernel_rfl,?_⟩;rw[qA6,wrapN _ hu];refine jEx w (L:=L) G.nn G.len (λj y hy=>?_) (by omega) (by omega) ?_
  .rw[qMj (x1.get _ _ G.row)];exact G.at' j y hy
  rw[decide_eq_false hm];refine⟨false,by kernel_rfl,yea (nay (yea (yea (Jq w x1 λh2 x2=>⟨111,by kernel_rfl,jFc w x2 ⟨rfl,rfl,rfl,rfl,trivial⟩ hk⟩))))⟩
 | live H A B L hf e1 e2 e3 x h4 G hL hm =>
  subst e1;subst e2;subst e3;rw[hf];have h13:=jE3 hf;have hn:=hnil h13;have hc:=hcap hn;have vw:=x.var G.hw;refine nay (nay ⟨rfl,rfl,rfl,vw.ldP false s 0 G.ws ⟨1,rfl,5,rfl,⟨λe=>(by rw[hn] at e;cases e),λ_=>⟨show 1<=5 by decide,show 5<=v4.cap by omega⟩⟩,?_⟩⟩);refine G.h _ h _ _ x G.le λh1 x1 f1=>?_;rw[G.v];refine⟨G.gl,by kernel_rfl,?_⟩;have h5:5<=h1.next:=zE0 (x1.dom 4 _ G.st.k4) x1.lo
  obtain⟨bc,nc⟩:=Ji (hB h1 (G.st.get x1) h5) hn (hext hn) (l:=1) (r:=5) (m:=v4.cap) (by omega) (by omega) (by omega);refine qHj w bc nc (by rw[zR0,zQ0];omega) (by omega) ?_;have hu:JD k<4294967296:=qJq 4 _ (by rw[zR0,zQ0];omega) λy hy=>(hB h1 (G.st.get x1) h5).byte y (List.mem_of_mem_take (List.mem_of_mem_drop hy));refine⟨Int.ofNat (JD k),by kernel_rfl,?_⟩;rw[qA6,wrapN _ hu];refine jEx w (L:=L) G.nn G.len (λj y hy=>?_) (by omega) (by omega) ?_
  .rw[qMj (x1.get _ _ G.row)];exact G.at' j y hy
  rw[decide_eq_true hm];refine⟨true,by kernel_rfl,yea (yea (yea ⟨rfl,yea (jFc w x1 ⟨rfl,rfl,rfl,rfl,trivial⟩ hk)⟩))⟩
end
end MnN
namespace MnN
open Go Go.X Go.Proofs MnL
section
variable {S:QC} {lf n:Nat} {h:Q0} {K:ZK} {H:Obs} {A B:Nat}
theorem formed_ok (w:j7 S) {wp sz:Nat} (hsz:sz<=4096) {k:List Nat} {v4:SL} (hB:qP h v4 k) (hnil:13<=k.length->v4.nil=false) (hext:v4.nil=false->v4.ext=false) (hcap:v4.nil=false->k.length<=v4.cap)
  {may:Int} {nn:Bool} {jj:Nat} {vv:AV} (hlf:200<lf) {z:ZT}
  (hz:ZAt 228 [(0,.int .i64 (Int.ofNat sz)),(4,.sl v4),(12,.pv false wp 0),(15,.any (Jt 1)),(17,.any (Jt 1)),(21,.bool true),(22,.int .i64 may),(23,.pv nn jj 0),(24,.any vv)] z)
  (cont:∀z',ZAt 228 [(4,.sl v4),(12,.pv false wp 0),(15,.any (Jt 1)),(17,.any (Jt 1)),(21,.bool true),(22,.int .i64 may),(23,.pv nn jj 0),(24,.any vv),(25,.bool (qKe sz k))] z' ->
   zAt Tryz.prog (Qu Tryz.prog S lf (n+3)) lf 3 [1,1,1,1,1,1,1,1,1,1,1,1,1,1] z' (fin3 K) ⟨[],fin3 K⟩ h) :
  zAt Tryz.prog (Qu Tryz.prog S lf (n+3)) lf 3 [1,1,1,1,1,1,1,1,1,1,1,1,1] z (fin3 K) ⟨[],fin3 K⟩ h:=by
 refine j9 _ hz λd=>(law_s2 _ _ _ _ _ _ (ov [(12,.pv false wp 0),(15,.any (Jt 1)),(17,.any (Jt 1)),(21,.bool true),(22,.int .i64 may),(23,.pv nn jj 0),(24,.any vv)] d)).mpr ?_;unfold MnL.law_s2F;have ln:=hB.len;rw[ln];unfold qKe at cont;by_cases c1:13<=k.length
 .have hn:=hnil c1;have he:=hext hn;have hc:=hcap hn;rw[decide_eq_true c1,Bool.true_and] at cont;refine QB (decide_eq_true (by show (13:Int)<=(k.length:Int);omega)) ⟨λe=>(by cases e),size16 hsz ?_⟩;by_cases c2:k.length<=14+sz / 16
  .rw[decide_eq_true c2,Bool.true_and] at cont;have e2:decide (Int.ofNat k.length<=Int.ofNat (14+sz / 16))=true:=decide_eq_true (by show (k.length:Int)<=((14+sz / 16:Nat):Int);omega);refine QB (by rw[e2];rfl) ?_;obtain⟨c,h0⟩:∃c,k[0]?=some c:=⟨_,zD0 (by omega)⟩;have hl0:0<v4.len:=by rw[SL.n_of hn] at ln;omega
   have ld0:∀(Q:Int->Prop),Q (Int.ofNat c)->Qg h v4.i (v4.o+0*1) IntKind.u8 Q:=λQ q=>⟨_,by rw[Nat.zero_mul];exact hB.at' hn h0,q⟩;obtain⟨b1,n1⟩:=Ji hB hn he (l:=1) (r:=5) (m:=v4.cap) (by omega) (by omega) (by omega);obtain⟨b2,n2⟩:=Ji hB hn he (l:=5) (r:=13) (m:=v4.cap) (by omega) (by omega) (by omega);have l1:((k.take 5).drop 1).length=4:=by rw[zR0,zQ0];omega
   have l2:((k.take 13).drop 5).length=8:=by rw[zR0,zQ0];omega
   have q1:(v4.nil=true->(1:Nat)=0/\(5:Nat)=0)/\(v4.nil=false->Nat.le 1 5/\Nat.le 5 v4.cap):=⟨λe=>(by rw[hn] at e;cases e),λ_=>⟨show 1<=5 by decide,show 5<=v4.cap by omega⟩⟩;have q2:(v4.nil=true->(5:Nat)=0/\(13:Nat)=0)/\(v4.nil=false->Nat.le 5 13/\Nat.le 13 v4.cap):=⟨λe=>(by rw[hn] at e;cases e),λ_=>⟨show 5<=13 by decide,show 13<=v4.cap by omega⟩⟩;have hc1:∀m:Nat,decide (some c=some m)=decide (c=m):=λm=>by simp
   rw[h0,hc1,hc1] at cont;refine⟨hn,0,rfl,hl0,rfl,ld0 _ ?_⟩;have tail:(decide (c=1) || decide (c=2))=true->True:=λ_=>trivial;by_cases d1:c=1
   .subst d1
    have cont2:∀z',ZAt 228 [(4,.sl v4),(12,.pv false wp 0),(15,.any (Jt 1)),(17,.any (Jt 1)),(21,.bool true),(22,.int .i64 may),(23,.pv nn jj 0),(24,.any vv),(25,.bool (decide (2<=JD k) && (decide (1<=jc k) && decide (jc k<=2305843009213693952))))] z' ->
      zAt Tryz.prog (Qu Tryz.prog S lf (n+3)) lf 3 [1,1,1,1,1,1,1,1,1,1,1,1,1,1] z' (fin3 K) ⟨[],fin3 K⟩ h:=cont
    refine yea ⟨1,rfl,5,rfl,q1,qHj w b1 n1 (by omega) (by omega) ⟨Int.ofNat (JD k),by kernel_rfl,?_⟩⟩;by_cases c3:2<=JD k
    .rw[decide_eq_true c3,Bool.true_and] at cont2;refine QB (by rw[decide_eq_true (show (2:Int)<=Int.ofNat (JD k) by show (2:Int)<=(JD k:Int);omega)];rfl) ⟨5,rfl,13,rfl,q2,qHj w b2 n2 (by omega) (by omega) ⟨Int.ofNat (jc k),by kernel_rfl,?_⟩⟩;by_cases c4:1<=jc k
     .rw[decide_eq_true c4,Bool.true_and] at cont2;refine QB (by rw[decide_eq_true (show (1:Int)<=Int.ofNat (jc k) by show (1:Int)<=(jc k:Int);omega)];rfl) ⟨5,rfl,13,rfl,q2,qHj w b2 n2 (by omega) (by omega) ⟨Int.ofNat (jc k),by kernel_rfl,cont2 _ ⟨rfl,rfl,rfl,rfl,rfl,rfl,rfl,rfl,rfl,?_,trivial⟩⟩⟩;by_cases c5:jc k<=2305843009213693952
      .rw[decide_eq_true c5];show ZV.bool (cnd true (decide (Int.ofNat (jc k)<=2305843009213693952)) false)=_;rw[decide_eq_true (show Int.ofNat (jc k)<=(2305843009213693952:Int) by show (jc k:Int)<=(2305843009213693952:Int);omega)];rfl
      .rw[decide_eq_false c5];show ZV.bool (cnd true (decide (Int.ofNat (jc k)<=2305843009213693952)) false)=_;rw[decide_eq_false (show ¬Int.ofNat (jc k)<=(2305843009213693952:Int) by show ¬(jc k:Int)<=(2305843009213693952:Int);omega)];rfl
     .rw[decide_eq_false c4,Bool.false_and] at cont2;exact Qt (by rw[decide_eq_false (show ¬(1:Int)<=Int.ofNat (jc k) by show ¬(1:Int)<=(jc k:Int);omega)];rfl) (cont2 _ ⟨rfl,rfl,rfl,rfl,rfl,rfl,rfl,rfl,rfl,rfl,trivial⟩)
    .rw[decide_eq_false c3,Bool.false_and] at cont2;exact Qt (by rw[decide_eq_false (show ¬(2:Int)<=Int.ofNat (JD k) by show ¬(2:Int)<=(JD k:Int);omega)];rfl) (cont2 _ ⟨rfl,rfl,rfl,rfl,rfl,rfl,rfl,rfl,rfl,rfl,trivial⟩)
   .refine Qt (decide_eq_false (by show ¬(c:Int)=1;omega)) ⟨hn,0,rfl,hl0,rfl,ld0 _ ?_⟩;by_cases d2:c=2
    .subst d2
     have cont2:∀z',ZAt 228 [(4,.sl v4),(12,.pv false wp 0),(15,.any (Jt 1)),(17,.any (Jt 1)),(21,.bool true),(22,.int .i64 may),(23,.pv nn jj 0),(24,.any vv),(25,.bool (decide (2<=JD k) && (decide (1<=jc k) && decide (jc k<=2305843009213693952))))] z' ->
       zAt Tryz.prog (Qu Tryz.prog S lf (n+3)) lf 3 [1,1,1,1,1,1,1,1,1,1,1,1,1,1] z' (fin3 K) ⟨[],fin3 K⟩ h:=cont
     refine yea ⟨1,rfl,5,rfl,q1,qHj w b1 n1 (by omega) (by omega) ⟨Int.ofNat (JD k),by kernel_rfl,?_⟩⟩;by_cases c3:2<=JD k
     .rw[decide_eq_true c3,Bool.true_and] at cont2;refine QB (by rw[decide_eq_true (show (2:Int)<=Int.ofNat (JD k) by show (2:Int)<=(JD k:Int);omega)];rfl) ⟨5,rfl,13,rfl,q2,qHj w b2 n2 (by omega) (by omega) ⟨Int.ofNat (jc k),by kernel_rfl,?_⟩⟩;by_cases c4:1<=jc k
      .rw[decide_eq_true c4,Bool.true_and] at cont2;refine QB (by rw[decide_eq_true (show (1:Int)<=Int.ofNat (jc k) by show (1:Int)<=(jc k:Int);omega)];rfl) ⟨5,rfl,13,rfl,q2,qHj w b2 n2 (by omega) (by omega) ⟨Int.ofNat (jc k),by kernel_rfl,cont2 _ ⟨rfl,rfl,rfl,rfl,rfl,rfl,rfl,rfl,rfl,?_,trivial⟩⟩⟩;by_cases c5:jc k<=2305843009213693952
       .rw[decide_eq_true c5];show ZV.bool (cnd true (decide (Int.ofNat (jc k)<=2305843009213693952)) false)=_;rw[decide_eq_true (show Int.ofNat (jc k)<=(2305843009213693952:Int) by show (jc k:Int)<=(2305843009213693952:Int);omega)];rfl
       .rw[decide_eq_false c5];show ZV.bool (cnd true (decide (Int.ofNat (jc k)<=2305843009213693952)) false)=_;rw[decide_eq_false (show ¬Int.ofNat (jc k)<=(2305843009213693952:Int) by show ¬(jc k:Int)<=(2305843009213693952:Int);omega)];rfl
      .rw[decide_eq_false c4,Bool.false_and] at cont2;exact Qt (by rw[decide_eq_false (show ¬(1:Int)<=Int.ofNat (jc k) by show ¬(1:Int)<=(jc k:Int);omega)];rfl) (cont2 _ ⟨rfl,rfl,rfl,rfl,rfl,rfl,rfl,rfl,rfl,rfl,trivial⟩)
     .rw[decide_eq_false c3,Bool.false_and] at cont2;exact Qt (by rw[decide_eq_false (show ¬(2:Int)<=Int.ofNat (JD k) by show ¬(2:Int)<=(JD k:Int);omega)];rfl) (cont2 _ ⟨rfl,rfl,rfl,rfl,rfl,rfl,rfl,rfl,rfl,rfl,trivial⟩)
    .rw[decide_eq_false d1,decide_eq_false d2,Bool.false_or,Bool.false_and] at cont;exact Qt (by rw[decide_eq_false (show ¬Int.ofNat c=2 by show ¬(c:Int)=2;omega)];rfl) (cont _ ⟨rfl,rfl,rfl,rfl,rfl,rfl,rfl,rfl,rfl,rfl,trivial⟩)
  .rw[decide_eq_false c2,Bool.false_and] at cont;exact Qt (by rw[decide_eq_false (show ¬Int.ofNat k.length<=Int.ofNat (14+sz / 16) by show ¬(k.length:Int)<=((14+sz / 16:Nat):Int);omega)];rfl) (cont _ ⟨rfl,rfl,rfl,rfl,rfl,rfl,rfl,rfl,rfl,rfl,trivial⟩)
 .rw[decide_eq_false c1,Bool.false_and] at cont;exact Qt (decide_eq_false (by show ¬(13:Int)<=(k.length:Int);omega)) (cont _ ⟨rfl,rfl,rfl,rfl,rfl,rfl,rfl,rfl,rfl,rfl,trivial⟩)
end
end MnN
namespace MnN
open Go Go.X Go.Proofs MnL
structure Live1 (S:QC) (lf s wp r:Nat) (H:Obs) (A0 A:Nat) (o1 o2:Q4) (L:List Int) where
 Hg:Obs
 Ag:Nat
 lv:Liv S lf s r H A0 A Hg Ag
 h4:stO o1 o2 Hg
 G:Gath S lf s wp Hg Ag (lv.eF.next+lv.eF.new.length+1) o1 o2 L
structure Two (S:QC) (lf sz s wp:Nat) (H:Obs) (A B:Nat) (o1 o2:Q4) where
 Z:SizeE S lf s H A
 hsz:Z.size=sz
 hB:B+3<=Z.e.next
 es:List (AV × AV)
 pages:qXr H s es
 fits:∀r:Nat,Jm es (.int .i64 (.ofNat r))=true
 L:List Int
 hL:L.length<=100
 look:∀r:Nat,Int.ofNat r ∉ L->qJ5 es (.int .i64 (.ofNat r))=none
 G0:Gath S lf s wp H Z.e.next (Z.e.next+6) o1 o2 L
 far:∀r:Nat,2<=r->Int.ofNat r ∉ L->∀m KK (h':Q0),Z.e.next<=h'.next->h'.next<=Z.e.next+6->Qu Tryz.prog (λ_=>none) lf 5 30 [.pv false s 0,.int .i64 (Int.ofNat r)] KK h'->Qu Tryz.prog S lf (m+1) 30 [.pv false s 0,.int .i64 (Int.ofNat r)] KK h'
 live:∀r:Nat,Int.ofNat r∈L->Nonempty (Live1 S lf s wp r H A Z.e.next o1 o2 L)
 h4:stO o1 o2 H
 hA:6<=A
theorem form_bad {sz:Nat} {k:List Nat} {c:Nat} (h0:k[0]?=some c) (h1:13<=k.length) (h2:k.length<=14+sz / 16) (hf:qKe sz k=false):(c≠1/\c≠2)∨JD k<2∨jc k<1∨2305843009213693952<jc k:=by
 unfold qKe at hf;rw[decide_eq_true h1,decide_eq_true h2,Bool.true_and,Bool.true_and,h0] at hf;by_cases a:(c≠1/\c≠2)
 .exact .inl a
 by_cases b:JD k<2
 .exact .inr (.inl b)
 by_cases d:jc k<1
 .exact .inr (.inr (.inl d))
 by_cases e:2305843009213693952<jc k
 .exact .inr (.inr (.inr e))
 rw[decide_eq_true (show 2<=JD k by omega),decide_eq_true (show 1<=jc k by omega),decide_eq_true (show jc k<=2305843009213693952 by omega)] at hf
 have:(decide (some c=some 1) || decide (some c=some 2))=true:=by
  rw[Bool.or_eq_true,decide_eq_true_eq,decide_eq_true_eq];by_cases g:c=1
  .exact .inl (by rw[g])
  .exact .inr (by rw[show c=2 by omega])
 rw[this] at hf;cases hf
theorem form_good {sz:Nat} {k:List Nat} {c:Nat} (h0:k[0]?=some c) (hf:qKe sz k=true):(c=1∨c=2)/\2<=JD k/\1<=jc k/\jc k<=2305843009213693952/\13<=k.length/\k.length<=14+sz / 16:=by unfold qKe at hf;rw[h0] at hf;simp only[Bool.and_eq_true,Bool.or_eq_true,decide_eq_true_eq,Option.some.injEq] at hf;obtain⟨a,b,c,d,e,f⟩:=hf;exact⟨c,d,e,f,a,b⟩
section
variable {S:QC} {lf n:Nat} {h:Q0} {K:ZK} {H:Obs} {A B:Nat}
theorem qNg (w:jq S) {sz s wp B0:Nat} (hsz:sz<=4096) {o1 o2:Q4} (T:Two S lf sz s wp H A B0 o1 o2) (x:Has h H A B) (hB0:B<=B0) {pk:Int} {p v4:SL} {l:List Int} {k:List Nat}
  (hl:J5 h p l) (hb:qP h v4 k) (hnil:13<=k.length->v4.nil=false) (hext:v4.nil=false->v4.ext=false) (hcap:v4.nil=false->k.length<=v4.cap) (hi4:v4.nil=false->v4.i<6) (hlf:200<lf)
  (hkE:∀e h',Outc S lf s wp (qG pk p.n) sz k o1 o2 (if qG pk p.n=true then 0 else 161) true (Jt e) h'->K (.tup [.pv true 0 0,.iface 32 (.int .i64 e)]) h')
  (hkO:∀m h',Outc S lf s wp (qG pk p.n) sz k o1 o2 (if qG pk p.n=true then 0 else 161) false .nilIface h'->K (.tup [.pv false m 0,.any .nilIface]) h') :
  Qu Tryz.prog S lf (n+6) 9 [.pv false s 0,.agg [.int .i64 pk,.sl p],.sl v4] K h:=by
 have ln:=hb.len;have hB:=T.hB;cases hp:qG pk p.n with
 | false=>exact jGd w x hp λh' x'=>hkE 161 h' (.pol H A _ hp (by rw[hp];rfl) rfl rfl x' T.h4)
 | true =>
  rw[hp] at hkE hkO;by_cases c1:13<=k.length
  .have hn:=hnil c1;have he:=hext hn;have hc:=hcap hn;by_cases c2:k.length<=14+sz / 16
   .have hn5:l.length<=65536:=by
     have:=hl.len
     unfold qG at hp;simp only[Bool.and_eq_true,decide_eq_true_eq] at hp;omega
    refine jGe (n:=n+3) w x hp hb hn he hc c1 T.Z (by omega) (by rw[T.hsz];exact c2) (by omega) λv h' hvA hv2 x2 f2 vv hvn z hz=>?_;obtain⟨c,h0⟩:∃c,k[0]?=some c:=⟨_,zD0 (by omega)⟩;have hb2:=hb.fr f2 λ_=>id;have hl2:=hl.fr f2 λ_=>id;have hz2:ZAt 150 [(0,.pv false s 0),(2,.sl v4),(4,.pv false v 0),(9,.int .i64 (Int.ofNat (JD k))),(10,.int .u64 (Int.ofNat (jc k)))] z:=hz;have hA6:=T.hA;have hne:v4.i≠v:=by have:=hi4 hn;omega
    cases hf:qKe sz k with
    | false=>exact tail_bad hb2 hn h0 (form_bad h0 c1 c2 hf) hz2 (hkE 212 _ (.bad H _ _ hf rfl rfl rfl x2 T.h4))
    | true =>
     obtain⟨g1,g2,g3,g4,_,_⟩:=form_good h0 hf;by_cases hm:Int.ofNat (JD k)∈T.L
     .obtain⟨V⟩:=T.live (JD k) hm;exact tail_live w x2 hvA hv2 hvn vv hp hl2 hn5 hb2 hn he hc c1 (by omega) hne h0 g1 g2 g3 g4 hz2 V.lv λm h3 x3=>hkO m h3 (.live V.Hg V.Ag _ T.L hf rfl rfl rfl x3 V.h4 V.G T.hL hm)
     .refine tail_none (EN:=111) w x2 hvA hv2 hvn vv hp hl2 hn5 hb2 hn he hc c1 (by omega) hne h0 g1 g2 g3 g4 hz2 (by decide) (λm h3 B3 KK hle x3 hKK=>T.far (JD k) g2 hm (m+1) KK h3 x3.lo (by have:=x3.hi;omega) (jDv (S:=λ_=>none) (n:=3) rfl rfl x3 T.pages (T.fits _) (T.look _ hm) (by show ¬((JD k:Int)=0);omega) hKK)) λh3 x3=>?_;exact hkE 111 h3 (.none H _ _ T.L hf rfl rfl rfl x3 T.h4 T.G0 T.hL hm)
   .refine jB0 (n:=n+3) w x hp (by omega) T.Z (by omega) (by rw[T.hsz];omega) λh' x'=>hkE 212 h' (.bad H _ _ ?_ rfl rfl rfl x' T.h4);unfold qKe;rw[decide_eq_false c2,Bool.false_and,Bool.and_false]
  .refine qYv (n:=n+3) w x hp (by omega) λh' x'=>hkE 212 h' (.bad H _ _ ?_ rfl rfl rfl x' T.h4);unfold qKe;rw[decide_eq_false c1,Bool.false_and]
end
end MnN
namespace MnN
open Go Go.X Go.Proofs MnL
section
variable {S:QC} {lf n:Nat} {h:Q0} {K:ZK} {H:Obs} {A B:Nat}
def toB (to st:Int):Bool:=(decide (to=1) || decide (to=2)) && (decide (1<=st) && decide (st<=1152921504606846976))
theorem begin_bad (w:jq S) (x:Has h H A B) {s:Nat} {to st:Int} (hb:toB to st=false) {pk:Int} {p:SL} (hk:∀h',Has h' H A (B+1)->K (.tup [.pv true 0 0,.iface 32 (.int .i64 1)]) h') :
  Qu Tryz.prog S lf (n+1) 8 [.pv false s 0,.int .i64 to,.agg [.int .i64 pk,.sl p],.int .u64 st] K h:=by
 refine Qy w.s116 (by kernel_rfl) ?_;rw[qP5];have k1:=hk _ (x.newO (.cells [AV.int IntKind.i64 pk,p.av] 0 false false));refine nay ?_;unfold toB at hb
 have st2:∀Q:Prop,(decide (1<=st) && decide (st<=1152921504606846976))=false ->
   @cnd Prop (cnd false true (decide (st<1))) (K (ZV.tup [ZV.pv true 0 0,ZV.iface 32 (ZV.int IntKind.i64 1)]) (Q0.newO h (Q4.cells [AV.int IntKind.i64 pk,SL.av p] 0 false false)))
    (@cnd Prop (cnd false true (decide (1152921504606846976<st))) (K (ZV.tup [ZV.pv true 0 0,ZV.iface 32 (ZV.int IntKind.i64 1)]) (Q0.newO h (Q4.cells [AV.int IntKind.i64 pk,SL.av p] 0 false false))) Q):=by
  intro Q e;by_cases c1:st<1
  .exact QB (by rw[decide_eq_true c1];rfl) k1
  .refine Qt (by rw[decide_eq_false c1];rfl) ?_;rw[decide_eq_true (show 1<=st by omega),Bool.true_and] at e
   have:=of_decide_eq_false e
   exact QB (by rw[decide_eq_true (show 1152921504606846976<st by omega)];rfl) k1
 by_cases c1:to=1
 .subst c1;exact nay (st2 _ hb)
 .refine QB (by rw[decide_eq_false c1];rfl) ?_;by_cases c2:to=2
  .subst c2;exact nay (st2 _ hb)
  .exact QB (by rw[decide_eq_false c2];rfl) k1
theorem begin_pol (w:jq S) (x:Has h H A B) {s:Nat} {to st:Int} (hb:toB to st=true) {pk:Int} {p:SL} (hp:qG pk p.n=false) (hk:∀h',Has h' H A (B+3)->K (.tup [.pv true 0 0,.iface 32 (.int .i64 161)]) h') :
  Qu Tryz.prog S lf (n+3) 8 [.pv false s 0,.int .i64 to,.agg [.int .i64 pk,.sl p],.int .u64 st] K h:=by
 refine Qy w.s116 (by kernel_rfl) ?_;rw[qP5];have v1:=Var.new h [AV.int IntKind.i64 pk,p.av];unfold toB at hb;simp only[Bool.and_eq_true,Bool.or_eq_true,decide_eq_true_eq] at hb;obtain⟨hto,hst,hst2⟩:=hb;have hlt1:(decide (st<1))=false:=decide_eq_false (by omega);have hlt2:(decide (1152921504606846976<st))=false:=decide_eq_false (by omega);refine nay ?_;rcases hto with rfl | rfl
 .refine nay (Qt (by rw[hlt1];rfl) (Qt (by rw[hlt2];rfl) ⟨rfl,v1.ldI pk rfl (v1.ldL p rfl (J4 (n:=n) w.s142 w.s211 (x.newO _) pk p λh2 x2 f2=>?_))⟩));rw[hp];exact⟨161,by kernel_rfl,yea (hk _ x2)⟩
 .refine yea (nay (Qt (by rw[hlt1];rfl) (Qt (by rw[hlt2];rfl) ⟨rfl,v1.ldI pk rfl (v1.ldL p rfl (J4 (n:=n) w.s142 w.s211 (x.newO _) pk p λh2 x2 f2=>?_))⟩)));rw[hp];exact⟨161,by kernel_rfl,yea (hk _ x2)⟩
structure Args (pk:Int) (p v4:SL) (l:List Int) (k:List Nat) (o1 o2:Q4):Prop where
 hP:∀g:Q0,stO o1 o2 g.get->6<=g.next->J5 g p l
 hB:∀g:Q0,stO o1 o2 g.get->5<=g.next->qP g v4 k
 pi:p.nil=false->p.i=3
 nil4:13<=k.length->v4.nil=false
 ext4:v4.nil=false->v4.ext=false
 cap4:v4.nil=false->k.length<=v4.cap
 i4:v4.nil=false->v4.i<6
structure Keep (pk:Int) (p:SL) (wp s:Nat) (H:Obs) (A:Nat) (o1 o2:Q4):Prop where
 ks:stO o1 o2 H
 k5:H 5=some (.cells [.int .i64 pk,p.av] 0 false false)
 kw:∃cw,H wp=some (.cells cw 0 false false)/\cw[1]?=some (.ptr s 0)
 lo:6<=A
end
end MnN
namespace MnN
open Go Go.X Go.Proofs MnL
structure SzA (S:QC) (lf sz:Nat) (pk:Int) (p:SL) (o1 o2:Q4) (H0:Obs) where
 e7:Ent
 s7:SL
 h7:EntC Tryz.prog S lf 7 H0 6 e7 []
 v7:zOf e7.v=.sl s7
 le7:8<=e7.next
 e6:Ent
 wp:Nat
 h6:EntC Tryz.prog S lf 6 (QN e7 H0) (e7.next+e7.new.length) e6 [.int .i64 (Int.ofNat sz),.int .i64 64,.int .i64 1,.agg [.int .i64 1,.sl ⟨true,0,0,0,0,false⟩],.sl s7]
 v6:zOf e6.v=.tup [.pv false wp 0,.int .i64 0]
 le6:e7.next+e7.new.length<=e6.next
 H:Obs
 A:Nat
 sub:∀i o,H i=some o->QN e6 (QN e7 H0) i=some o
 dom:∀i o,H i=some o->i<A
 leA:A<=e6.next+e6.new.length
 s:Nat
 B0:Nat
 T:Two S lf sz s wp H A B0 o1 o2
 hB0:e6.next+e6.new.length+20<=B0
 kp:Keep pk p wp s H A o1 o2
 H':Obs
 A':Nat
 Bg:Beg S lf s H A H' A'
 hBg:e6.next+e6.new.length+20<=Bg.eG.next
 w3:¬WrE Bg.eG 3/\¬WrE Bg.eB 3
 B1:Nat
 T':Two S lf sz s wp H' A' B1 o1 o2
 hB1:Bg.B'+5<=B1
 kp':Keep pk p wp s H' A' o1 o2
def jv (to st pk:Int) (n:Nat):Int:=if toB to st=true then (if qG pk n=true then 0 else 161) else 1
section
variable {S:QC} {lf n:Nat} {h:Q0} {K:ZK} {A B:Nat}
theorem qM9 (w2:j7 S) {sz s wp:Nat} (hsz:sz<=4096) {o1 o2:Q4} {pk:Int} {p v4:SL} {l:List Int} {k:List Nat} (a:Args pk p v4 l k o1 o2) {pol:Bool} {may:Int} {nn:Bool} {jj:Nat} {vv:AV} (o:Outc S lf s wp pol sz k o1 o2 may nn vv h) (hlf:200<lf) {z:ZT}
  (hz:ZAt 228 [(0,.int .i64 (Int.ofNat sz)),(4,.sl v4),(12,.pv false wp 0),(15,.any (Jt 1)),(17,.any (Jt 1)),(21,.bool true),(22,.int .i64 may),(23,.pv nn jj 0),(24,.any vv)] z) (hk:∀h',K (.bool true) h') :
  zAt Tryz.prog (Qu Tryz.prog S lf (n+6)) lf 3 [1,1,1,1,1,1,1,1,1,1,1,1,1] z (fin3 K) ⟨[],fin3 K⟩ h:=by
 obtain⟨H,A,B,x,h4⟩:=o.has;have h5:5<=h.next:=zE0 (x.dom 4 _ h4.k4) x.lo
 exact formed_ok (n:=n+3) w2 hsz (a.hB h (h4.get x) h5) a.nil4 a.ext4 a.cap4 hlf hz λz' hz'=>switch_ok (n:=n+3) w2 a.hB a.nil4 a.ext4 a.cap4 o hlf hz' hk
theorem s1_ok (w:jq S) (w2:j7 S) {sz:Nat} (hsz:sz<=4096) {o1 o2:Q4} {H0:Obs} {pk:Int} {p v4:SL} {l:List Int} {k:List Nat} (a:Args pk p v4 l k o1 o2) (R:SzA S lf sz pk p o1 o2 H0) (hn5:qG pk p.n=true->l.length<=65536)
  (x:Has h R.H R.A B) (hB:B<=R.e6.next+R.e6.new.length+5) (hlf:200<lf) {to st:Int} {z:ZT}
  (hz:ZAt 228 [(0,.int .i64 (Int.ofNat sz)),(1,.int .i64 to),(3,.int .u64 st),(4,.sl v4),(7,.pv false 5 0),(12,.pv false R.wp 0),(15,.any (Jt 1)),(17,.any (Jt 1)),(18,.int .i64 (jv to st pk p.n))] z) (hk:∀h',K (.bool true) h') :
  zAt Tryz.prog (Qu Tryz.prog S lf (n+6)) lf 3 [1,1,1,1,1,1,1,1,1] z (fin3 K) ⟨[],fin3 K⟩ h:=by
 refine j9 _ hz λd=>(law_s1 _ _ _ _ _ _ _ _ _ _ _ _ _ _).mpr ?_;obtain⟨cw,hw,ws⟩:=R.kp.kw;have vw:=x.var hw;have v5:=x.var R.kp.k5;have b0:=R.hB0;have b1:=R.hBg;refine⟨rfl,rfl,rfl,vw.ldP false R.s 0 ws ⟨rfl,v5.ldI pk rfl (v5.ldL p rfl ?_)⟩⟩;cases ht:toB to st with
 | false =>
  have e1:jv to st pk p.n=1:=by unfold jv;rw[ht];rfl
  rw[e1];refine begin_bad (n:=n+5) w x ht λh1 x1=>⟨Jd .nilp (Jt 1),by kernel_rfl,true,0,0,by kernel_rfl,?_⟩;refine Jq (n:=n+4) w2 x1 λh2 x2=>⟨1,by kernel_rfl,yea ⟨rfl,?_⟩⟩;have v5b:=x2.var R.kp.k5;refine v5b.ldI pk rfl (v5b.ldL p rfl (qF2 (n:=n+5) w2 x2 pk p λh3 x3=>?_));have v6b:=x3.var R.kp.k5;obtain⟨cw2,hw2,ws2⟩:=R.kp.kw;have vw2:=x3.var hw2;have h6b:6<=h3.next:=zM0 R.kp.lo x3.lo
  refine⟨(if qG pk p.n=true then 0 else 161),by kernel_rfl,rfl,rfl,rfl,vw2.ldP false R.s 0 ws2 ⟨rfl,v6b.ldI pk rfl (v6b.ldL p rfl ?_)⟩⟩;refine qNg (n:=n) w hsz R.T x3 (by omega) (a.hP h3 (R.kp.ks.get x3) h6b) (a.hB h3 (R.kp.ks.get x3) (by omega)) a.nil4 a.ext4 a.cap4 a.i4 hlf (λe h' o=>?_) λm h' o=>?_
  .refine⟨Jd .nilp (Jt e),by kernel_rfl,true,0,0,by kernel_rfl,?_⟩;exact qM9 w2 hsz a o hlf ⟨rfl,rfl,rfl,rfl,rfl,rfl,rfl,rfl,rfl,rfl,trivial⟩ hk
  .refine⟨Jd (.ptr m 0) .nilIface,by kernel_rfl,false,m,0,by kernel_rfl,?_⟩;exact qM9 w2 hsz a o hlf ⟨rfl,rfl,rfl,rfl,rfl,rfl,rfl,rfl,rfl,rfl,trivial⟩ hk
 | true =>
  cases hp:qG pk p.n with
  | false =>
   have e1:jv to st pk p.n=161:=by unfold jv;rw[ht,hp];rfl
   rw[e1];refine begin_pol (n:=n+3) w x ht hp λh1 x1=>⟨Jd .nilp (Jt 161),by kernel_rfl,true,0,0,by kernel_rfl,?_⟩;refine Jq (n:=n+4) w2 x1 λh2 x2=>⟨161,by kernel_rfl,yea ⟨rfl,?_⟩⟩;have v5b:=x2.var R.kp.k5;refine v5b.ldI pk rfl (v5b.ldL p rfl (qF2 (n:=n+5) w2 x2 pk p λh3 x3=>?_));have v6b:=x3.var R.kp.k5;obtain⟨cw2,hw2,ws2⟩:=R.kp.kw;have vw2:=x3.var hw2;have h6b:6<=h3.next:=zM0 R.kp.lo x3.lo
   refine⟨(if qG pk p.n=true then 0 else 161),by kernel_rfl,rfl,rfl,rfl,vw2.ldP false R.s 0 ws2 ⟨rfl,v6b.ldI pk rfl (v6b.ldL p rfl ?_)⟩⟩;refine qNg (n:=n) w hsz R.T x3 (by omega) (a.hP h3 (R.kp.ks.get x3) h6b) (a.hB h3 (R.kp.ks.get x3) (by omega)) a.nil4 a.ext4 a.cap4 a.i4 hlf (λe h' o=>?_) λm h' o=>?_
   .refine⟨Jd .nilp (Jt e),by kernel_rfl,true,0,0,by kernel_rfl,?_⟩;exact qM9 w2 hsz a o hlf ⟨rfl,rfl,rfl,rfl,rfl,rfl,rfl,rfl,rfl,rfl,trivial⟩ hk
   .refine⟨Jd (.ptr m 0) .nilIface,by kernel_rfl,false,m,0,by kernel_rfl,?_⟩;exact qM9 w2 hsz a o hlf ⟨rfl,rfl,rfl,rfl,rfl,rfl,rfl,rfl,rfl,rfl,trivial⟩ hk
  | true =>
   have e1:jv to st pk p.n=0:=by unfold jv;rw[ht,hp];rfl
   rw[e1];have hb:=ht;unfold toB at hb;simp only[Bool.and_eq_true,Bool.or_eq_true,decide_eq_true_eq] at hb;obtain⟨hto,hst,hst2⟩:=hb;have h6:6<=h.next:=zM0 R.kp.lo x.lo
   refine begin_has (n:=n) w x R.Bg hto hp (a.hP h (R.kp.ks.get x) h6) (hn5 hp) hst hst2 (λe=>by rw[a.pi e];exact R.w3) (by omega) λm h1 x1=>⟨Jd (.ptr m 0) .nilIface,by kernel_rfl,false,m,0,by kernel_rfl,?_⟩;refine jGo (n:=n+5) w2 ⟨0,by kernel_rfl,yea ⟨rfl,?_⟩⟩;have b2:=R.hB1;have v5b:=x1.var R.kp'.k5;refine v5b.ldI pk rfl (v5b.ldL p rfl (qF2 (n:=n+5) w2 x1 pk p λh3 x3=>?_));have v6b:=x3.var R.kp'.k5;obtain⟨cw2,hw2,ws2⟩:=R.kp'.kw;have vw2:=x3.var hw2;have h6b:6<=h3.next:=zM0 R.kp'.lo x3.lo
   refine⟨(if qG pk p.n=true then 0 else 161),by kernel_rfl,rfl,rfl,rfl,vw2.ldP false R.s 0 ws2 ⟨rfl,v6b.ldI pk rfl (v6b.ldL p rfl ?_)⟩⟩;refine qNg (n:=n) w hsz R.T' x3 (by omega) (a.hP h3 (R.kp'.ks.get x3) h6b) (a.hB h3 (R.kp'.ks.get x3) (by omega)) a.nil4 a.ext4 a.cap4 a.i4 hlf (λe h' o=>?_) λm h' o=>?_
   .refine⟨Jd .nilp (Jt e),by kernel_rfl,true,0,0,by kernel_rfl,?_⟩;exact qM9 w2 hsz a o hlf ⟨rfl,rfl,rfl,rfl,rfl,rfl,rfl,rfl,rfl,rfl,trivial⟩ hk
   .refine⟨Jd (.ptr m 0) .nilIface,by kernel_rfl,false,m,0,by kernel_rfl,?_⟩;exact qM9 w2 hsz a o hlf ⟨rfl,rfl,rfl,rfl,rfl,rfl,rfl,rfl,rfl,rfl,trivial⟩ hk
theorem s0_ok (w:jq S) (w2:j7 S) {sz:Nat} (hsz:sz<=4096) {o1 o2:Q4} {H0:Obs} {pk:Int} {p v4:SL} {l:List Int} {k:List Nat} (a:Args pk p v4 l k o1 o2) (R:SzA S lf sz pk p o1 o2 H0) (hn5:qG pk p.n=true->l.length<=65536)
  (x:Has h R.H R.A B) (hB:B<=R.e6.next+R.e6.new.length) (hlf:200<lf) {to st:Int} {z:ZT}
  (hz:ZAt 228 [(0,.int .i64 (Int.ofNat sz)),(1,.int .i64 to),(3,.int .u64 st),(4,.sl v4),(7,.pv false 5 0),(12,.pv false R.wp 0)] z) (hk:∀h',K (.bool true) h') :
  zAt Tryz.prog (Qu Tryz.prog S lf (n+6)) lf 3 [1,1,1,1,1] z (fin3 K) ⟨[],fin3 K⟩ h:=by
 refine j9 _ hz λd=>(law_s0 _ _ _ _ _ _ _ _ _ _ _).mpr ?_;have v5:=x.var R.kp.k5;refine⟨rfl,v5.ldI pk rfl (v5.ldL p rfl ?_)⟩;refine Qy w.s116 (by kernel_rfl) ?_;rw[qP5];have x1:=x.newO (.cells [AV.int IntKind.i64 pk,p.av] 0 false false);have v6:=x1.var R.kp.k5;refine yea ⟨Jd .nilp (Jt 1),by kernel_rfl,true,0,0,by kernel_rfl,rfl,v6.ldI pk rfl (v6.ldL p rfl ?_)⟩;refine Qy w.s169 (by kernel_rfl) ?_;rw[qHs];have x2:=x1.newO (.cells [AV.int IntKind.i64 pk,p.av] 0 false false);have v7:=x2.var R.kp.k5;refine yea ⟨Jd .nilp (Jt 1),by kernel_rfl,true,0,0,by kernel_rfl,?_⟩
 have fin:∀{h'':Q0} {B'':Nat},Has h'' R.H R.A B''->B''<=R.e6.next+R.e6.new.length+5->∀z',ZAt 228 [(0,.int .i64 (Int.ofNat sz)),(1,.int .i64 to),(3,.int .u64 st),(4,.sl v4),(7,.pv false 5 0),(12,.pv false R.wp 0),(15,.any (Jt 1)),(17,.any (Jt 1)),(18,.int .i64 (jv to st pk p.n))] z' ->
   zAt Tryz.prog (Qu Tryz.prog S lf (n+6)) lf 3 [1,1,1,1,1,1,1,1,1] z' (fin3 K) ⟨[],fin3 K⟩ h'':=λx'' hB'' z' hz'=>s1_ok w w2 hsz a R hn5 x'' hB'' hlf hz' hk
 have want:∀(e:Int),jv to st pk p.n=e->ZV.int .i64 e=.int .i64 (jv to st pk p.n):=λe h=>by rw[h]
 by_cases c1:to=1
 .refine Qt (by rw[decide_eq_true c1];rfl) ?_;have hto:(decide (to=1) || decide (to=2))=true:=by rw[decide_eq_true c1];rfl
  by_cases d1:st<1
  .exact QB (by rw[decide_eq_true d1];rfl) (fin x2 (by omega) _ ⟨rfl,rfl,rfl,rfl,rfl,rfl,rfl,rfl,rfl,want 1 (by unfold jv toB;rw[hto,decide_eq_false (show ¬ 1<=st by omega)];rfl),trivial⟩)
  refine Qt (by rw[decide_eq_false d1];rfl) ?_;by_cases d2:1152921504606846976<st
  .exact QB (by rw[decide_eq_true d2];rfl) (fin x2 (by omega) _ ⟨rfl,rfl,rfl,rfl,rfl,rfl,rfl,rfl,rfl,want 1 (by unfold jv toB;rw[hto,decide_eq_false (show ¬st<=1152921504606846976 by omega),Bool.and_false];rfl),trivial⟩)
  have ht:toB to st=true:=by unfold toB;rw[hto,decide_eq_true (show 1<=st by omega),decide_eq_true (show st<=1152921504606846976 by omega)];rfl
  refine Qt (by rw[decide_eq_false d2];rfl) ⟨rfl,v7.ldI pk rfl (v7.ldL p rfl (qF2 (n:=n+5) w2 x2 pk p λh3 x3=>?_))⟩;by_cases hp:qG pk p.n=true
  .rw[if_pos hp];exact⟨0,by kernel_rfl,nay (fin x3 (by omega) _ ⟨rfl,rfl,rfl,rfl,rfl,rfl,rfl,rfl,rfl,want 0 (by unfold jv;rw[if_pos ht,if_pos hp]),trivial⟩)⟩
  .rw[if_neg hp];exact⟨161,by kernel_rfl,yea (fin x3 (by omega) _ ⟨rfl,rfl,rfl,rfl,rfl,rfl,rfl,rfl,rfl,want 161 (by unfold jv;rw[if_pos ht,if_neg hp]),trivial⟩)⟩
 .refine QB (by rw[decide_eq_false c1];rfl) ?_;by_cases c2:to=2
  .refine Qt (by rw[decide_eq_true c2];rfl) ?_;have hto:(decide (to=1) || decide (to=2))=true:=by rw[decide_eq_true c2,Bool.or_true]
   by_cases d1:st<1
   .exact QB (by rw[decide_eq_true d1];rfl) (fin x2 (by omega) _ ⟨rfl,rfl,rfl,rfl,rfl,rfl,rfl,rfl,rfl,want 1 (by unfold jv toB;rw[hto,decide_eq_false (show ¬ 1<=st by omega)];rfl),trivial⟩)
   refine Qt (by rw[decide_eq_false d1];rfl) ?_;by_cases d2:1152921504606846976<st
   .exact QB (by rw[decide_eq_true d2];rfl) (fin x2 (by omega) _ ⟨rfl,rfl,rfl,rfl,rfl,rfl,rfl,rfl,rfl,want 1 (by unfold jv toB;rw[hto,decide_eq_false (show ¬st<=1152921504606846976 by omega),Bool.and_false];rfl),trivial⟩)
   have ht:toB to st=true:=by unfold toB;rw[hto,decide_eq_true (show 1<=st by omega),decide_eq_true (show st<=1152921504606846976 by omega)];rfl
   refine Qt (by rw[decide_eq_false d2];rfl) ⟨rfl,v7.ldI pk rfl (v7.ldL p rfl (qF2 (n:=n+5) w2 x2 pk p λh3 x3=>?_))⟩;by_cases hp:qG pk p.n=true
   .rw[if_pos hp];exact⟨0,by kernel_rfl,nay (fin x3 (by omega) _ ⟨rfl,rfl,rfl,rfl,rfl,rfl,rfl,rfl,rfl,want 0 (by unfold jv;rw[if_pos ht,if_pos hp]),trivial⟩)⟩
   .rw[if_neg hp];exact⟨161,by kernel_rfl,yea (fin x3 (by omega) _ ⟨rfl,rfl,rfl,rfl,rfl,rfl,rfl,rfl,rfl,want 161 (by unfold jv;rw[if_pos ht,if_neg hp]),trivial⟩)⟩
  .exact QB (by rw[decide_eq_false c2];rfl) (fin x2 (by omega) _ ⟨rfl,rfl,rfl,rfl,rfl,rfl,rfl,rfl,rfl,want 1 (by unfold jv toB;rw[decide_eq_false c1,decide_eq_false c2];rfl),trivial⟩)
theorem law_ok (w:jq S) (w2:j7 S) {o1 o2:Q4} {Hs H0:Obs} {pk:Int} {p v4:SL} {l:List Int} {k:List Nat} (a:Args pk p v4 l k o1 o2) {v0 to st:Int} (h1:-9223372036854775808<=v0) (h2:v0<=9223372036854775807) (hn5:qG pk p.n=true->l.length<=65536)
  (hH0:∀i o,H0 i=some o->(i=5/\o=.cells [.int .i64 pk,p.av] 0 false false)∨Hs i=some o) (R:SzA S lf (szOf (qZ v0 4)) pk p o1 o2 H0) (x:Has h Hs 5 5) (hlf:200<lf) (hk:∀h',K (.bool true) h') :
  Qu Tryz.prog S lf (n+7) 3 [.int .i64 v0,.int .i64 to,.agg [.int .i64 pk,.sl p],.int .u64 st,.sl v4] K h:=by
 refine Qy w2.s3 (by kernel_rfl) ?_;rw[law_nf];have hn:h.next=5:=Nat.le_antisymm x.hi x.lo
 have hsz:szOf (qZ v0 4)<=4096:=by
  have:qZ v0 4<4:=qWa (by decide)
  generalize qZ v0 4=m at this
  match m,this with
  | 0,_=>decide
  | 1,_=>decide
  | 2,_=>decide
  | 3,_=>decide
  | m+4,h=>omega
 have x0:Has (h.newO (.cells [AV.int IntKind.i64 pk,p.av] 0 false false)) H0 6 6:=by
  refine⟨λi o hi=>?_,λi o hi=>?_,Nat.le_of_eq (show 6=h.next+1 by rw[hn]),Nat.le_of_eq (show h.next+1=6 by rw[hn]),x.inf⟩
  .rcases hH0 i o hi with ⟨rfl,rfl⟩ | h3
   .have:=Qz h (.cells [AV.int IntKind.i64 pk,p.av] 0 false false)
    rwa [hn] at this
   .have:=x.dom i o h3
    rw[Jw (by omega)];exact x.get i o h3
  .rcases hH0 i o hi with ⟨rfl,_⟩ | h3
   .omega
   .have:=x.dom i o h3;omega
 refine qEx (by kernel_rfl) w2.s4 ⟨rfl,true,by kernel_rfl,?_⟩;refine sized_has (n:=n+4) w2 x0 h1 h2 λh3 x3=>⟨Jd (.int .i64 (Int.ofNat (szOf (qZ v0 4)))) (.int .i64 32),by kernel_rfl,Int.ofNat (szOf (qZ v0 4)),by kernel_rfl,32,by kernel_rfl,?_⟩;refine R.h7 _ h3 _ _ x3 (by have:=R.le7;omega) λh4 x4 f4=>?_;rw[R.v7];refine⟨R.s7,by kernel_rfl,R.h6 _ h4 _ _ x4 R.le6 λh5 x5 f5=>?_⟩;rw[R.v6];refine⟨Jd (.ptr R.wp 0) (.int .i64 0),by kernel_rfl,false,R.wp,0,by kernel_rfl,0,by kernel_rfl,nay (nay (nay ?_))⟩;rw[hn];exact s0_ok w w2 hsz a R hn5 (x5.sub R.sub R.dom R.leA) (zL0 _) hlf ⟨rfl,rfl,rfl,rfl,rfl,rfl,rfl,trivial⟩ hk
end
end MnN
namespace MnN
open Go Go.X Go.Proofs
theorem lb {a b:Nat} (h:Nat.ble a b=true):a<=b:=zS0 h
def upN (l:List Nat) (a:Nat):Nat:=match l with | []=>a | c::r=>cnd (Nat.ble a c) c (upN r a)
def upB (l:List Nat) (A c:Nat):Bool:=match l with | []=>false | d::r=>cnd (Nat.beq d c) true (cnd (ltb d A) (upB r A c) false)
theorem qYf {A c x:Nat} (h1:A<=x) (h2:x<=c):∀{l:List Nat},upB l A c=true->upN l x=c
 | [],h=>by cases h
 | d::r,h=>by
  have h:cnd (Nat.beq d c) true (cnd (ltb d A) (upB r A c) false)=true:=h;show cnd (Nat.ble x d) d (upN r x)=c;cases hb:Nat.beq d c with
  | true =>
   have:=Nat.eq_of_beq_eq_true hb
   subst this;rw[zF0 h2,Q6]
  | false =>
   rw[hb,Q8] at h;cases hl:ltb d A with
   | false=>rw[hl] at h;cases h
   | true =>
    rw[hl,Q6] at h;have hlt:=Qo.1 hl
    have:Nat.ble x d=false:=by
     cases q:Nat.ble x d with
     | false=>rfl
     | true=>have:=zS0 q;omega
    rw[this,Q8];exact qYf h1 h2 h
def QR (o:Option Q4):List AV:=match o with | some (.cells c _ _ _)=>c | _=>[]
def mapD (o:Option Q4):List (AV × AV):=match o with | some (.map es _)=>es | _=>[]
def obA (o1 o2:Q4) (pk:Int) (p:SL) (l:List (Nat × Q4)):List (Nat × Q4):=(1,tabO)::(3,o1)::(4,o2)::(5,.cells [.int .i64 pk,p.av] 0 false false)::l
theorem Qh {P:Program} {S:QC} {lf:Nat} {f:FuncId} {args:List ZV} {H:Obs} {A:Nat} (l:List Nat) (i:Nat) (e:Ent) (tab:List Ent) (hS:S f=alZ (upN l) (some (zRep tab)))
  (hk:(upB l A e.next,ltb f P.funcs.size,tab[i]?,(tab.take i).all (λx=>cnd (Nat.beq x.next e.next) (!eqL qx x.args e.args) true),eqL qx e.args (avs args),rdB e.rd H,jW e.wr e.next,Nat.ble (e.next+e.new.length) 65536)=(true,true,some e,true,true,rdR e.rd,true,true)) :
  EntC P S lf f H A e args:=by
 simp only[Prod.mk.injEq] at hk;obtain⟨k0,k1,k2,k3,k4,k5,k6,k7⟩:=hk;exact entC_of i e tab hS (λx h1 h2=>qYf h1 h2 k0) (by simp only[Prod.mk.injEq];exact⟨k1,k2,k3,k4,k5,k6,k7⟩)
theorem wr2 {e:Ent} {lo hi:Nat} (h:e.wr.all (λx=>cnd (ltb x.1 lo) true (Nat.ble hi x.1))=true) (i:Nat) (h1:lo<=i) (h2:i<hi):¬WrE e i:=wrE_gap h i h1 h2
theorem jN {H:Obs} {s:Nat} {r:Int} (c x:Nat) (r0:Int) (h:(H s,H c,(QR (H c))[2]?,H x,(QR (H x))[1]?)=(some (.cells [.ptr c 0,.nilp,.bool false,.int .i64 r0] 0 false false),some (.cells (QR (H c)) 0 false false),some (.ptr x 0),some (.cells (QR (H x)) 0 false false),some (.int .i64 r))):qJi H s r:=by simp only[Prod.mk.injEq] at h;obtain⟨h1,h2,h3,h4,h5⟩:=h;exact .inr ⟨c,x,r0,_,_,h1,h2,h3,h4,h5⟩
theorem qNj {H:Obs} {s:Nat} {es:List (AV × AV)} (c x:Nat) (r0:Int) (mp ver:Nat) (h:(H s,H c,(QR (H c))[2]?,H x,(QR (H x))[3]?,H mp)=(some (.cells [.ptr c 0,.nilp,.bool false,.int .i64 r0] 0 false false),some (.cells (QR (H c)) 0 false false),some (.ptr x 0),some (.cells (QR (H x)) 0 false false),some (.map mp),some (.map es ver))):qXr H s es:=by simp only[Prod.mk.injEq] at h;obtain⟨h1,h2,h3,h4,h5,h6⟩:=h;exact⟨c,x,r0,_,_,mp,ver,h1,h2,h3,h4,h5,h6⟩
theorem at2 {cs:List AV} {o:Nat} {a b:Int} (h:(cs[o]?,cs[o+4]?)=(some (.int .i64 a),some (.int .i64 b))):∀(j:Nat) y,[a,b][j]?=some y->cs[o+j*4]?=some (.int .i64 y):=by
 simp only[Prod.mk.injEq] at h;intro j y hj
 match j,hj with
 | 0,hj=>cases hj;exact h.1
 | 1,hj=>cases hj;exact h.2
theorem at3 {cs:List AV} {o:Nat} {a b c:Int} (h:(cs[o]?,cs[o+4]?,cs[o+8]?)=(some (.int .i64 a),some (.int .i64 b),some (.int .i64 c))):∀(j:Nat) y,[a,b,c][j]?=some y->cs[o+j*4]?=some (.int .i64 y):=by
 simp only[Prod.mk.injEq] at h;intro j y hj
 match j,hj with
 | 0,hj=>cases hj;exact h.1
 | 1,hj=>cases hj;exact h.2.1
 | 2,hj=>cases hj;exact h.2.2
theorem in2 {P:Nat->Prop} (h2:P 2) (h3:P 3):∀r:Nat,Int.ofNat r∈([2,3]:List Int)->P r:=by
 intro r hr
 match r,hr with
 | 0,h=>simp at h
 | 1,h=>simp at h
 | 2,_=>exact h2
 | 3,_=>exact h3
 | n+4,h =>
  have:((n+4:Nat):Int)=2∨((n+4:Nat):Int)=3:=by simpa using h
  omega
theorem in3 {P:Nat->Prop} (h2:P 2) (h3:P 3) (h4:P 4):∀r:Nat,Int.ofNat r∈([2,3,4]:List Int)->P r:=by
 intro r hr
 match r,hr with
 | 0,h=>simp at h
 | 1,h=>simp at h
 | 2,_=>exact h2
 | 3,_=>exact h3
 | 4,_=>exact h4
 | n+5,h =>
  have:((n+5:Nat):Int)=2∨((n+5:Nat):Int)=3∨((n+5:Nat):Int)=4:=by simpa using h
  omega
theorem out2 {P:Nat->Prop} (h0:P 0) (h1:P 1) (h:∀n,P (n+4)):∀r:Nat,Int.ofNat r ∉ ([2,3]:List Int)->P r:=by
 intro r hr
 match r,hr with
 | 0,_=>exact h0
 | 1,_=>exact h1
 | 2,h=>exact absurd (by decide) h
 | 3,h=>exact absurd (by decide) h
 | n+4,_=>exact h n
theorem out3 {P:Nat->Prop} (h0:P 0) (h1:P 1) (h:∀n,P (n+5)):∀r:Nat,Int.ofNat r ∉ ([2,3,4]:List Int)->P r:=by
 intro r hr
 match r,hr with
 | 0,_=>exact h0
 | 1,_=>exact h1
 | 2,h=>exact absurd (by decide) h
 | 3,h=>exact absurd (by decide) h
 | 4,h=>exact absurd (by decide) h
 | n+5,_=>exact h n
theorem qUt {S:QC} {lf s N:Nat} {c:Nat->List AV->Bool} {a:List ZV->ZK->Q0->Prop} (hS:S 30=some λargs K h=>@cnd Prop (c h.next (avs args)) (a args K h) (Qu Tryz.prog (λ_=>none) lf 5 30 args K h)) {r:Nat}
  (hc:∀x,N<=x->x<=N+6->c x [.ptr s 0,.int .i64 (Int.ofNat r)]=false) (m:Nat) (KK:ZK) (h':Q0) (h1:N<=h'.next) (h2:h'.next<=N+6) (hz:Qu Tryz.prog (λ_=>none) lf 5 30 [.pv false s 0,.int .i64 (Int.ofNat r)] KK h') :
  Qu Tryz.prog S lf (m+1) 30 [.pv false s 0,.int .i64 (Int.ofNat r)] KK h':=by
 refine qEx (by kernel_rfl) hS ?_;show @cnd Prop (c h'.next (avs [.pv false s 0,.int .i64 (Int.ofNat r)])) _ _;rw[show avs [.pv false s 0,.int .i64 (Int.ofNat r)]=[.ptr s 0,.int .i64 (Int.ofNat r)] from rfl,hc _ h1 h2];exact hz
theorem qUp {tab:List Ent} {l:List Nat} {N c s r:Nat} (hu:upB l N c=true) (hN:N+6<=c) (ht:(tab.all λe=>cnd (Nat.beq e.next c) (eqL qx e.args [.ptr s 0,.int .i64 (Int.ofNat r)]) false |> not)=true) (x:Nat) (h1:N<=x) (h2:x<=N+6):qHe tab (upN l) x [.ptr s 0,.int .i64 (Int.ofNat r)]=false:=by
 unfold qHe;rw[qYf h1 (by omega) hu];rw[Bool.eq_false_iff];intro h;obtain⟨e,he,h3⟩:=List.any_eq_true.1 h
 have:=List.all_eq_true.1 ht e he
 rw[h3] at this;cases this
theorem qX {lf:Nat} {args:List ZV} {H:Obs} {A:Nat} (l:List Nat) (i:Nat) (e:Ent) (tab:List Ent) {S:QC} (hS:S 30=some λargs K h=>@cnd Prop (qHe tab (upN l) h.next (avs args)) ((λargs K h=>Nat.ble h.next (upN l h.next)=true/\zRep tab args K (qHo (upN l h.next) h)) args K h) (Qu Tryz.prog (λ_=>none) lf 5 30 args K h))
  (hk:(upB l A e.next,ltb 30 Tryz.prog.funcs.size,tab[i]?,(tab.take i).all (λx=>cnd (Nat.beq x.next e.next) (!eqL qx x.args e.args) true),eqL qx e.args (avs args),rdB e.rd H,jW e.wr e.next,Nat.ble (e.next+e.new.length) 65536)=(true,true,some e,true,true,rdR e.rd,true,true)) :
  EntC Tryz.prog S lf 30 H A e args:=by
 simp only[Prod.mk.injEq] at hk;obtain⟨k0,k1,k2,k3,k4,k5,k6,k7⟩:=hk;refine entC_of2 i e tab (Nf:=upN l) hS (λK h h1 h2 hb hz=>?_) (λx h1 h2=>qYf h1 h2 k0) (by simp only[Prod.mk.injEq];exact⟨k1,k2,k3,k4,k5,k6,k7⟩);have hc:qHe tab (upN l) h.next (avs args)=true:=by unfold qHe;rw[qYf h1 h2 k0];refine List.any_eq_true.2 ⟨e,zC0 k2,?_⟩;rw[beq_iff.2 rfl,Q6];exact k4
 show @cnd Prop (qHe tab (upN l) h.next (avs args)) _ _;rw[hc];exact⟨hb,hz⟩
end MnN
