/-
 PROVED: the law 'MoveNone' returns true,from every world that fits its row (the row lays the table math/bits.deBruijn64tab). Conditions: none but the row's own.
-/
import Derived.Test.YtligncjhmmgajaaGreatDoorL0
import Derived.Test.YtligncjhmmgajaaGreatDoorMoveNoneJ
import Derived.Test.YtligncjhmmgajaaGreatDoorCards
import Derived.Deep.Strs
import Derived.ReadAgain
import Derived.Carry
import Derived.DataShut
import Derived.HandedShaped
import Derived.JoinedCond
import Derived.Test.YtligncjhmmgajaaGreatDoorTi
import Derived.WalkKit
import Derived.ProofKit
import Derived.OpenShut
import Derived.Deep.DeepHandedRow
import Derived.Lib.LaidTab
import Derived.LaidLaws
import Derived.LaidHandle
set_option linter.unusedVariables false
set_option linter.unusedSimpArgs false
set_option maxRecDepth 100000
namespace Go.Proofs.YtligncjhmmgajaaGreatDoor.moveNone
open Go.ChangeShapes Go.WideShapes Go.ChangeAt Go.RowKit
theorem own:ownKnob Tryz.prog.godebug=none:=by kernel_rfl
theorem gTab:Tryz.prog.globalNamed "math/bits.deBruijn64tab"=some 1:=by kernel_rfl
theorem hG:Tryz.prog.globals.size=3:=by kernel_rfl
theorem gType:∃t e,((Tryz.prog.globals[1]?).map (·.type))=some t/\Tryz.prog.underlying t=some (.array 64 e)/\Tryz.prog.underlying e=some (.int .u8)/\Tryz.prog.cellsOf e=1/\Tryz.prog.cellsOf t=64 :=
 ⟨403,5,by kernel_rfl,by kernel_rfl,by kernel_rfl,by kernel_rfl,by kernel_rfl⟩
theorem table {W:World} (h:laidMetH Tryz.prog Rows.moveNoneRow.laid W):Lib.TabIs Tryz.prog W "math/bits.deBruijn64tab" .u8 [0,1,56,2,57,49,28,3,61,58,42,50,38,29,17,4,62,47,59,36,45,43,51,22,53,39,33,30,24,18,12,5,63,55,48,27,60,41,37,16,46,35,44,21,52,32,23,11,54,26,40,15,34,20,31,10,25,14,19,9,13,8,7,6]:=by obtain⟨t,e,h1,h2,h3,h4,h5⟩:=gType;exact Lib.tabIs_of_head (rest:=[]) gTab h1 h2 h3 h4 h5 h.1
theorem et:Tryz.prog.globalNamed "errors.errorType"=some 0:=by kernel_rfl
theorem rt:(Tryz.prog.cutTypes.find? (·.1 == "internal/reflectlite.rtype")).map (·.2)=some 240:=by kernel_rfl
theorem oneRow:((List.range 656).filter λt=>Tryz.prog.rowNamed t [101,114,114,111,114])=[40]:=by kernel_rfl
theorem size:Tryz.prog.types.size=656:=by kernel_rfl
theorem handle {W:World} (h:laidMetH Tryz.prog Rows.moveNoneRow.laid W):W.cell? ⟨0,0,none⟩=some (.iface 240 (.agg #[.pointer (some ⟨3,40,none⟩)])):=by
 have h':laidMet Tryz.prog [("math/bits.deBruijn64tab",Rows.laid_math_bits_deBruijn64tab)] W/\handlesMet Tryz.prog [("errors.errorType",Rows.laid_errors_errorType)] W:=h;obtain⟨name,u,ty,e1,e2,e3,e4,e5⟩:=h'.2 _ (List.mem_singleton.2 rfl);have en:name=[101,114,114,111,114]:=(Option.some.inj e1).symm;subst en;obtain rfl:=Option.some.inj (rt.symm.trans e2);have hm:ty∈(List.range 656).filter λt=>Tryz.prog.rowNamed t [101,114,114,111,114]:=List.mem_filter.2 ⟨List.mem_range.2 (by rw[<- size];exact e3),e4⟩;rw[oneRow] at hm;obtain rfl:=List.mem_singleton.1 hm;have hh:typeHandle Tryz.prog 40=.pointer (some ⟨3,40,none⟩):=by kernel_rfl
 rw[hh] at e5;simpa using World.var?_cell et e5 0
theorem cap_of {t e:TypeId} {W:World} {base:Nat} {a:Option Addr} {l c:Nat} (ht:Tryz.prog.underlying t=some (.slice e)) (h:Value.okWide Tryz.prog W .any base t (.slice a l c)):l<=c:=by
 simp only[Value.okWide,ht,Cell.okWide,Cell.ok] at h;cases a with
 | some a=>exact h.1
 | none =>
  match l,c,h with
  | 0,_,_=>exact Nat.zero_le _
theorem kindT:∃g0 g1:Field,Tryz.prog.underlying 25=some (.struct #[g0,g1])/\(g0.offset,Tryz.prog.cellsOf g0.type,g1.offset,Tryz.prog.cellsOf g1.type)=(0,1,1,1)/\Tryz.prog.underlying g0.type=some (.int .i64)/\Tryz.prog.underlying g1.type=some (.slice 3) :=
 ⟨_,_,Tryz.underlying25,by kernel_rfl,by kernel_rfl,by kernel_rfl⟩
theorem open_pol {H:Type} {enc:TypeId × Value->H} {W:World} {b0:Nat} {v:Value} {d:DataW H} {p:List MemPlace} (hv:Value.okWide Tryz.prog W .any b0 25 v) (h:DataW.Trod enc Tryz.prog W 0 (λ_=>true) true 25 v d p) :
  ∃(pk:Int) (u:Value) (l:List Int),v=.agg #[.int .i64 pk,u]/\MnN.Src W u .i64 l:=by
 obtain⟨g0,g1,hs,hf,w0,w1⟩:=kindT;simp only[Prod.mk.injEq] at hf;obtain⟨a1,a2,a3,a4⟩:=hf;obtain⟨cs,rfl,hsz⟩:=okWide_struct hs hv;have hsz:cs.size=2:=hsz.trans (by kernel_rfl);obtain⟨l⟩:=cs
 match l,hsz with
 | [c0,c1],_ =>obtain⟨fuel,hf⟩:=h;obtain⟨z0,z1,m,_,_,k0,k1⟩:=trod_struct2 hs hf;rw[a1,a2] at k0;rw[a3,a4] at k1;have k0:DataW.trod enc Tryz.prog W 0 (λ_=>true) true m g0.type [c0]=some z0:=k0;have k1:DataW.trod enc Tryz.prog W 0 (λ_=>true) true m g1.type [c1]=some z1:=k1;obtain⟨pk,rfl,_⟩:=Go.X.jEh w0 k0;obtain⟨s,ws,e1,hi,_⟩:=Go.X.abs_ints w1 Tryz.underlying3 (show Tryz.prog.cellsOf 3=1 by kernel_rfl) k1;exact⟨pk,c1,ws,rfl,MnN.src_of e1 hi.len (λe=>hi.lt e) λe=>hi.src e⟩
theorem laidOut:laidOutB Tryz.prog=true:=by kernel_rfl
set_option maxRecDepth 100000 in
theorem contract (H:Type) (enc:TypeId × Value->H) (W:World) (base:Nat) (args:Array Value) (ds gs:List (DataW H)) (before:List MemPlace)
  (hval:∀(j:Nat) t v,Tryz.f3.params[j]?=some t->args[j]?=some v->Value.okWide Tryz.prog W .any base t v)
  (hW:DataW.Whole enc Tryz.prog Tryz.f3.params.toList Rows.moveNoneSpec.vars false W args.toList ds gs before) (hsh:W.ShapedOpen Tryz.prog) (hL:laidMetH Tryz.prog Rows.moveNoneRow.laid W) :
  Calls Tryz.prog 3 args W λe W'=>∃v,e=.returned v/\Rows.moveNoneSpec.post enc Tryz.prog Tryz.f3 false true false false W args v W':=by
 have hW':=hW;obtain⟨p,q,hA0,hV,rfl,hfz,hnd⟩:=hW;have hA:DataW.TrodAll enc Tryz.prog W 0 (λ_=>true) true Tryz.f3.params.toList args.toList ds p:=hA0;rw[Tryz.params3] at hA hval;obtain⟨v0,vs',d0,ds',p0,p',ea,rfl,rfl,h0,hA1⟩:=trodAll_cons hA;obtain⟨v1,v2,v3,v4,d1,d2,d3,d4,p1,p2,p3,p4,eb,rfl,rfl,h1,h2,h3,h4⟩:=trodAll_four (args:=⟨vs'⟩) hA1;obtain rfl:args=#[v0,v1,v2,v3,v4]:=by obtain⟨la⟩:=args;have ea:la=v0::vs':=ea;have eb:vs'=[v1,v2,v3,v4]:=congrArg Array.toList eb;rw[ea,eb]
 obtain⟨rfl,rfl⟩:=trodVars_none hV;obtain⟨z,rfl,rfl,rfl,w0⟩:=open_int Tryz.underlying3 (hval 0 3 v0 rfl rfl) h0;obtain⟨to,rfl,rfl,rfl,w1⟩:=open_int Tryz.underlying3 (hval 1 3 v1 rfl rfl) h1;obtain⟨st,rfl,rfl,rfl,w3⟩:=open_int Tryz.underlying26 (hval 3 26 v3 rfl rfl) h3;obtain⟨pk,u,l,rfl,pu⟩:=open_pol (hval 2 25 v2 rfl rfl) h2;obtain⟨ad,ln,cp,rfl⟩:=okWide_slice Tryz.underlying27 (hval 4 27 v4 rfl rfl);have hcp:=cap_of Tryz.underlying27 (hval 4 27 _ rfl rfl);have h4':=h4;obtain⟨fu,hf⟩:=h4';obtain⟨s,k,e1,hb,_⟩:=Go.X.abs_bytes Tryz.underlying27 Tryz.underlying5 (show Tryz.prog.cellsOf 5=1 by kernel_rfl) hf;have hsz:=Go.X.jBw (g:=2) hsh (by rw[hG];exact Nat.lt_succ_self _) (by kernel_rfl);have pv:MnN.Src W (.slice ad ln cp) .u8 (k.map Int.ofNat):=MnN.src_of e1 (by rw[List.length_map];exact hb.len) (λe=>hb.seg.lt e) λe=>by obtain⟨c,q1,q2,q3⟩:=hb.seg.src e;rw[Nat.mul_one] at q2 q3;exact⟨c,q1,by rw[q2,Go.X.qS,List.map_map];rfl,q3⟩
 have bz:=bounds_i64 w0;clear hA0;simp only[List.append_nil] at hW';refine (MnN.law_all hsz (table hL) (handle hL) bz.1 bz.2 pu pv (λx hx=>hb.byte x hx) (λa n c e=>by cases e;exact hcp)).mono λe W' ⟨he,hg⟩=>?_;subst he;have hlt:=hW'.lt;refine⟨_,rfl,Go.X.jGj rfl hW' hg (λ_ _ _=>(trodAll_cons_mk (shut_bool Tryz.underlying4 _) trodAll_mk0)) rfl (λsp hsp=>?_) (ok_one (by kernel_rfl) rfl (okWide_bool_mk Tryz.underlying4 _))⟩;have t2:=WideElems.Trod_stays laidOut (by kernel_rfl) (of_decide_eq_true (by kernel_rfl)) h2 (λx hx=>hg.same (hlt x (by simp[hx]))) (λx hx=>hsp x (by simp[hx]));have t4:=WideElems.Trod_stays laidOut (by kernel_rfl) (of_decide_eq_true (by kernel_rfl)) h4 (λx hx=>hg.same (hlt x (by simp[hx]))) (λx hx=>hsp x (by simp[hx]))
 have:=trodAll_cons_mk (shut_int Tryz.underlying3 w0) (trodAll_cons_mk (shut_int Tryz.underlying3 w1) (trodAll_cons_mk t2 (trodAll_cons_mk (shut_int Tryz.underlying26 w3) (trodAll_cons_mk t4 trodAll_mk0))))
 simp only[List.nil_append,List.append_nil,List.append_assoc] at this ⊢;exact this

noncomputable def layE:Obj->Obj:=fun
 | .cells _ t frozen=>.cells #[.iface 240 (.agg #[.pointer (some ⟨3,40,none⟩)])] t frozen
 | o=>o
noncomputable def layT:Obj->Obj:=fun
 | .cells _ t frozen=>.cells (MnN.tabL.map λz=>Value.int .u8 z).toArray t frozen
 | o=>o
noncomputable def qSc (os:Os):World :=
 { World.holding Tryz.prog os ⟨#[],#[.int .i64 0,.int .i64 0,.agg #[.int .i64 0,.slice none 0 0],.int .u64 0,.slice none 0 0],[]⟩ with heap:=((World.holding Tryz.prog os ⟨#[],#[.int .i64 0,.int .i64 0,.agg #[.int .i64 0,.slice none 0 0],.int .u64 0,.slice none 0 0],[]⟩).heap.modify 0 layE).modify 1 layT }
theorem laid_met (os:Os):laidMetH Tryz.prog Rows.moveNoneRow.laid ((qSc os).forCall (λ_ _=>0) ⟨#[],#[.int .i64 0,.int .i64 0,.agg #[.int .i64 0,.slice none 0 0],.int .u64 0,.slice none 0 0],[]⟩).memory :=
 laidMetH_of_parts (laidMet_of_run' 8 (by kernel_rfl) (by kernel_rfl)) (by kernel_rfl)
theorem reads (os:Os) {H:Type} (enc:TypeId × Value->H):∃places,DataW.whole enc Tryz.prog ((qSc os).forCall (λ_ _=>0) ⟨#[],#[.int .i64 0,.int .i64 0,.agg #[.int .i64 0,.slice none 0 0],.int .u64 0,.slice none 0 0],[]⟩).memory Tryz.f3.params.toList Rows.moveNoneSpec.vars false #[.int .i64 0,.int .i64 0,.agg #[.int .i64 0,.slice none 0 0],.int .u64 0,.slice none 0 0].toList 8=some ([.lit (.int .i64 0),.lit (.int .i64 0),.agg [.lit (.int .i64 0),.nil],.lit (.int .u64 0),.nil],[],places) :=
 ⟨[],by kernel_rfl⟩
set_option maxRecDepth 100000 in
theorem lifted (os:Os) (started:os.Started) (H:Type) (enc:TypeId × Value->H) (F:Stop.Interp) :
  ReturnsInHanded {} Tryz.checked os 3 .any ((OpenSpec.ofChange Rows.moveNoneSpec).preRow enc Tryz.prog Tryz.f3 Rows.moveNoneRow.domain false Rows.moveNoneRow.laid) (((OpenSpec.ofChange Rows.moveNoneSpec).at F).post enc Tryz.prog Tryz.f3 false true false false):=by
 obtain⟨places,hx⟩:=reads os enc
 refine returnsInHanded_of_row (C:=Tryz.checked) (s:=OpenSpec.ofChange Rows.moveNoneSpec) own started (by kernel_rfl) Tryz.func3
  (witness_row_at (enc:=enc) (C:=Tryz.checked) false (qSc os) #[.int .i64 0,.int .i64 0,.agg #[.int .i64 0,.slice none 0 0],.int .u64 0,.slice none 0 0] rfl (by kernel_rfl) (by kernel_rfl) (by kernel_rfl)
   (OpenSpec.preRow_of_cond 8 hx (by kernel_rfl) (λk hk=>by cases hk) (by kernel_rfl) (laid_met os))) ?_
 intro W base args ds gs before hval hW _ _ _ hL hsh _;exact contract H enc W base args ds gs before hval hW hsh hL

theorem said:Rows.MoveNoneSaid :=
 OpenClaim.holds_of_cond 3 Tryz.f3 rfl rfl rfl rfl rfl rfl rfl ⟨rfl,rfl,rfl,rfl,rfl⟩ rfl rfl rfl rfl rfl (by kernel_rfl) Tryz.func3 closed
  (of_decide_eq_true (by kernel_rfl)) (by unfold Func.isWrapper;first | (rw[if_pos (by decide +kernel)];kernel_rfl) | (rw[if_neg (by decide +kernel)];exact⟨rfl,rfl⟩))
  (λos started H enc _ F=>by rw[OpenClaim.pre_eq_preRow];exact lifted os started H enc F)

end Go.Proofs.YtligncjhmmgajaaGreatDoor.moveNone
