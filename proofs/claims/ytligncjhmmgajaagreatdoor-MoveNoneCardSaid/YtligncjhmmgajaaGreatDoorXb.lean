/-
 PROVED: the evaluator of the model's code over abstract values (definitions). No condition.
-/
import Derived.Test.YtligncjhmmgajaaGreatDoorXa
set_option linter.unusedVariables false
set_option linter.unusedSimpArgs false
noncomputable section
namespace Go.X
def AV.onBool (w:AV) (kbool:Bool->FM) (d:FM):FM :=
 AV.rec (motive_1:=λ_=>FM) (motive_2:=λ_=>PUnit) (d) (λb=>kbool b) (λ_ _=>d) (λ_=>d) (d) (λ_ _=>d) (d) (λ_ _ _ _ _=>d) (d) (d) (λ_=>d) (λ_ _ _ _ _=>d) (d) (λ_ _ _=>d) (d) (λ_ _=>d) (λ_ _=>d) PUnit.unit (λ_ _ _ _=>PUnit.unit) w
def AV.onInt (w:AV) (kint:IntKind->Int->FM) (d:FM):FM :=
 AV.rec (motive_1:=λ_=>FM) (motive_2:=λ_=>PUnit) (d) (λ_=>d) (λq n=>kint q n) (λ_=>d) (d) (λ_ _=>d) (d) (λ_ _ _ _ _=>d) (d) (d) (λ_=>d) (λ_ _ _ _ _=>d) (d) (λ_ _ _=>d) (d) (λ_ _=>d) (λ_ _=>d) PUnit.unit (λ_ _ _ _=>PUnit.unit) w
def AV.onStr (w:AV) (kstr:List Nat->FM) (d:FM):FM :=
 AV.rec (motive_1:=λ_=>FM) (motive_2:=λ_=>PUnit) (d) (λ_=>d) (λ_ _=>d) (λs=>kstr s) (d) (λ_ _=>d) (d) (λ_ _ _ _ _=>d) (d) (d) (λ_=>d) (λ_ _ _ _ _=>d) (d) (λ_ _ _=>d) (d) (λ_ _=>d) (λ_ _=>d) PUnit.unit (λ_ _ _ _=>PUnit.unit) w
def AV.onPtr (w:AV) (kptr:Nat->Nat->FM) (d:FM):FM :=
 AV.rec (motive_1:=λ_=>FM) (motive_2:=λ_=>PUnit) (d) (λ_=>d) (λ_ _=>d) (λ_=>d) (d) (λi o=>kptr i o) (d) (λ_ _ _ _ _=>d) (d) (d) (λ_=>d) (λ_ _ _ _ _=>d) (d) (λ_ _ _=>d) (d) (λ_ _=>d) (λ_ _=>d) PUnit.unit (λ_ _ _ _=>PUnit.unit) w
def AV.onMap (w:AV) (kmap:Nat->FM) (d:FM):FM :=
 AV.rec (motive_1:=λ_=>FM) (motive_2:=λ_=>PUnit) (d) (λ_=>d) (λ_ _=>d) (λ_=>d) (d) (λ_ _=>d) (d) (λ_ _ _ _ _=>d) (d) (d) (λi=>kmap i) (λ_ _ _ _ _=>d) (d) (λ_ _ _=>d) (d) (λ_ _=>d) (λ_ _=>d) PUnit.unit (λ_ _ _ _=>PUnit.unit) w
def AV.onMapN (w:AV) (knilMap:FM) (kmap:Nat->FM) (d:FM):FM :=
 AV.rec (motive_1:=λ_=>FM) (motive_2:=λ_=>PUnit) (d) (λ_=>d) (λ_ _=>d) (λ_=>d) (d) (λ_ _=>d) (d) (λ_ _ _ _ _=>d) (d) (knilMap) (λi=>kmap i) (λ_ _ _ _ _=>d) (d) (λ_ _ _=>d) (d) (λ_ _=>d) (λ_ _=>d) PUnit.unit (λ_ _ _ _=>PUnit.unit) w
def AV.onFunc (w:AV) (kfunc:AFn->List AV->List AV->FM) (d:FM):FM :=
 AV.rec (motive_1:=λ_=>FM) (motive_2:=λ_=>PUnit) (d) (λ_=>d) (λ_ _=>d) (λ_=>d) (d) (λ_ _=>d) (d) (λ_ _ _ _ _=>d) (d) (d) (λ_=>d) (λf first captured _ _=>kfunc f first captured) (d) (λ_ _ _=>d) (d) (λ_ _=>d) (λ_ _=>d) PUnit.unit (λ_ _ _ _=>PUnit.unit) w
def AV.onIface (w:AV) (kiface:TypeId->AV->FM) (d:FM):FM :=
 AV.rec (motive_1:=λ_=>FM) (motive_2:=λ_=>PUnit) (d) (λ_=>d) (λ_ _=>d) (λ_=>d) (d) (λ_ _=>d) (d) (λ_ _ _ _ _=>d) (d) (d) (λ_=>d) (λ_ _ _ _ _=>d) (d) (λt v _=>kiface t v) (d) (λ_ _=>d) (λ_ _=>d) PUnit.unit (λ_ _ _ _=>PUnit.unit) w
def AV.onAgg (w:AV) (kagg:List AV->FM) (d:FM):FM :=
 AV.rec (motive_1:=λ_=>FM) (motive_2:=λ_=>PUnit) (d) (λ_=>d) (λ_ _=>d) (λ_=>d) (d) (λ_ _=>d) (d) (λ_ _ _ _ _=>d) (d) (d) (λ_=>d) (λ_ _ _ _ _=>d) (d) (λ_ _ _=>d) (d) (λcs _=>kagg cs) (λ_ _=>d) PUnit.unit (λ_ _ _ _=>PUnit.unit) w
def AV.onTuple (w:AV) (ktuple:List AV->FM) (d:FM):FM :=
 AV.rec (motive_1:=λ_=>FM) (motive_2:=λ_=>PUnit) (d) (λ_=>d) (λ_ _=>d) (λ_=>d) (d) (λ_ _=>d) (d) (λ_ _ _ _ _=>d) (d) (d) (λ_=>d) (λ_ _ _ _ _=>d) (d) (λ_ _ _=>d) (d) (λ_ _=>d) (λvs _=>ktuple vs) PUnit.unit (λ_ _ _ _=>PUnit.unit) w
def AV.onSlice (w:AV) (knils:FM) (kemp:FM) (kslice:Nat->Nat->Nat->Nat->Bool->FM) (d:FM):FM :=
 AV.rec (motive_1:=λ_=>FM) (motive_2:=λ_=>PUnit) (d) (λ_=>d) (λ_ _=>d) (λ_=>d) (d) (λ_ _=>d) (knils) (λi o len cap ext=>kslice i o len cap ext) (kemp) (d) (λ_=>d) (λ_ _ _ _ _=>d) (d) (λ_ _ _=>d) (d) (λ_ _=>d) (λ_ _=>d) PUnit.unit (λ_ _ _ _=>PUnit.unit) w
def AV.onSeq (w:AV) (kstr:List Nat->FM) (knils:FM) (kemp:FM) (kslice:Nat->Nat->Nat->Nat->Bool->FM) (d:FM):FM :=
 AV.rec (motive_1:=λ_=>FM) (motive_2:=λ_=>PUnit) (d) (λ_=>d) (λ_ _=>d) (λs=>kstr s) (d) (λ_ _=>d) (knils) (λi o len cap ext=>kslice i o len cap ext) (kemp) (d) (λ_=>d) (λ_ _ _ _ _=>d) (d) (λ_ _ _=>d) (d) (λ_ _=>d) (λ_ _=>d) PUnit.unit (λ_ _ _ _=>PUnit.unit) w
def AV.onIfaceN (w:AV) (knilIface:FM) (kiface:TypeId->AV->FM) (d:FM):FM :=
 AV.rec (motive_1:=λ_=>FM) (motive_2:=λ_=>PUnit) (d) (λ_=>d) (λ_ _=>d) (λ_=>d) (d) (λ_ _=>d) (d) (λ_ _ _ _ _=>d) (d) (d) (λ_=>d) (λ_ _ _ _ _=>d) (d) (λt v _=>kiface t v) (knilIface) (λ_ _=>d) (λ_ _=>d) PUnit.unit (λ_ _ _ _=>PUnit.unit) w
def AV.onIntStr (w:AV) (kint:IntKind->Int->FM) (kstr:List Nat->FM) (d:FM):FM :=
 AV.rec (motive_1:=λ_=>FM) (motive_2:=λ_=>PUnit) (d) (λ_=>d) (λq n=>kint q n) (λs=>kstr s) (d) (λ_ _=>d) (d) (λ_ _ _ _ _=>d) (d) (d) (λ_=>d) (λ_ _ _ _ _=>d) (d) (λ_ _ _=>d) (d) (λ_ _=>d) (λ_ _=>d) PUnit.unit (λ_ _ _ _=>PUnit.unit) w
def AV.onSlicePtr (w:AV) (kslice:Nat->Nat->Nat->Nat->Bool->FM) (kptr:Nat->Nat->FM) (d:FM):FM :=
 AV.rec (motive_1:=λ_=>FM) (motive_2:=λ_=>PUnit) (d) (λ_=>d) (λ_ _=>d) (λ_=>d) (d) (λi o=>kptr i o) (d) (λi o len cap ext=>kslice i o len cap ext) (d) (d) (λ_=>d) (λ_ _ _ _ _=>d) (d) (λ_ _ _=>d) (d) (λ_ _=>d) (λ_ _=>d) PUnit.unit (λ_ _ _ _=>PUnit.unit) w
def AV.onStrAgg (w:AV) (kstr:List Nat->FM) (kagg:List AV->FM) (d:FM):FM :=
 AV.rec (motive_1:=λ_=>FM) (motive_2:=λ_=>PUnit) (d) (λ_=>d) (λ_ _=>d) (λs=>kstr s) (d) (λ_ _=>d) (d) (λ_ _ _ _ _=>d) (d) (d) (λ_=>d) (λ_ _ _ _ _=>d) (d) (λ_ _ _=>d) (d) (λcs _=>kagg cs) (λ_ _=>d) PUnit.unit (λ_ _ _ _=>PUnit.unit) w
def AV.lenO (w:AV):Option Nat :=
 AV.rec (motive_1:=λ_=>Option Nat) (motive_2:=λ_=>PUnit) (none) (λ_=>none) (λ_ _=>none) (λs=>some s.length) (none) (λ_ _=>none) (some Nat.zero) (λi o len cap ext=>some len) (some Nat.zero) (none) (λ_=>none) (λ_ _ _ _ _=>none) (none) (λ_ _ _=>none) (none) (λ_ _=>none) (λ_ _=>none) PUnit.unit (λ_ _ _ _=>PUnit.unit) w
def AV.cellsK (w:AV) (k:List AV->FM):FM :=
 AV.rec (motive_1:=λ_=>FM) (motive_2:=λ_=>PUnit) (.fail 16) (λ_=>k [w]) (λ_ _=>k [w]) (λ_=>k [w]) (k [w]) (λ_ _=>k [w]) (k [w]) (λ_ _ _ _ _=>k [w]) (k [w]) (k [w]) (λ_=>k [w]) (λ_ _ _ _ _=>k [w]) (k [w]) (λ_ _ _=>k [w]) (k [w]) (λcs _=>k cs) (λ_ _=>k [w]) PUnit.unit (λ_ _ _ _=>PUnit.unit) w
def AV.plainC (w:AV):Bool :=
 AV.rec (motive_1:=λ_=>Bool) (motive_2:=λ_=>PUnit) (false) (λ_=>true) (λ_ _=>true) (λ_=>true) (true) (λ_ _=>true) (true) (λ_ _ _ _ _=>true) (true) (true) (λ_=>true) (λ_ _ _ _ _=>true) (true) (λ_ _ _=>true) (true) (λ_ _=>false) (λ_ _=>false) PUnit.unit (λ_ _ _ _=>PUnit.unit) w
def QX (l:List AV):Bool:=List.rec (motive:=λ_=>Bool) true (λv _ ih=>cnd v.plainC ih false) l
def AV.isNilp (w:AV):Bool :=
 AV.rec (motive_1:=λ_=>Bool) (motive_2:=λ_=>PUnit) (false) (λ_=>false) (λ_ _=>false) (λ_=>false) (true) (λ_ _=>false) (false) (λ_ _ _ _ _=>false) (false) (false) (λ_=>false) (λ_ _ _ _ _=>false) (false) (λ_ _ _=>false) (false) (λ_ _=>false) (λ_ _=>false) PUnit.unit (λ_ _ _ _=>PUnit.unit) w
def AV.onFuncN (w:AV) (knilFunc:FM) (kfunc:AFn->List AV->List AV->FM) (d:FM):FM :=
 AV.rec (motive_1:=λ_=>FM) (motive_2:=λ_=>PUnit) (d) (λ_=>d) (λ_ _=>d) (λ_=>d) (d) (λ_ _=>d) (d) (λ_ _ _ _ _=>d) (d) (d) (λ_=>d) (λf first captured _ _=>kfunc f first captured) (knilFunc) (λ_ _ _=>d) (d) (λ_ _=>d) (λ_ _=>d) PUnit.unit (λ_ _ _ _=>PUnit.unit) w
def AV.onNat (w:AV) (k:Nat->FM) (d:FM):FM:=w.onInt (λ_ n=>Int.rec (motive:=λ_=>FM) (λm=>k m) (λ_=>d) n) d
def Qj {α:Type} (o:Option α) (d:FM) (k:α->FM):FM:=Option.rec (motive:=λ_=>FM) d k o
def Q4.onRead (w:Q4) (k:List AV->FM) (d:FM):FM :=
 Q4.rec (motive:=λ_=>FM) (λc _ _ _=>k c) (λ_ _=>d) (λ_ _ _ _=>d) d d (λ_ _=>d) (λ_=>d) (λ_=>d) (λc=>k c) w
def Q4.onCells (w:Q4) (k:List AV->Nat->Bool->Bool->FM) (d:FM):FM :=
 Q4.rec (motive:=λ_=>FM) k (λ_ _=>d) (λ_ _ _ _=>d) d d (λ_ _=>d) (λ_=>d) (λ_=>d) (λ_=>d) w
def Q4.onMap (w:Q4) (k:List (AV × AV)->Nat->FM) (d:FM):FM :=
 Q4.rec (motive:=λ_=>FM) (λ_ _ _ _=>d) k (λ_ _ _ _=>d) d d (λ_ _=>d) (λ_=>d) (λ_=>d) (λ_=>d) w
def Q4.onMapIter (w:Q4) (km:Nat->Nat->List (AV × AV)->AV->FM) (kn:FM) (d:FM):FM :=
 Q4.rec (motive:=λ_=>FM) (λ_ _ _ _=>d) (λ_ _=>d) km kn d (λ_ _=>d) (λ_=>d) (λ_=>d) (λ_=>d) w
def Q4.onStrIter (w:Q4) (ks:List Nat->Nat->FM) (d:FM):FM :=
 Q4.rec (motive:=λ_=>FM) (λ_ _ _ _=>d) (λ_ _=>d) (λ_ _ _ _=>d) d d ks (λ_=>d) (λ_=>d) (λ_=>d) w
def Q4.onLoop (w:Q4) (k:ALoop->FM) (d:FM):FM :=
 Q4.rec (motive:=λ_=>FM) (λ_ _ _ _=>d) (λ_ _=>d) (λ_ _ _ _=>d) d d (λ_ _=>d) k (λ_=>d) (λ_=>d) w
def Q4.onDeferred (w:Q4) (k:List qk->FM) (d:FM):FM :=
 Q4.rec (motive:=λ_=>FM) (λ_ _ _ _=>d) (λ_ _=>d) (λ_ _ _ _=>d) d d (λ_ _=>d) (λ_=>d) (λo=>Qj o d k) (λ_=>d) w
def q9 (i:Nat) (k:List AV->FM):FM:=.get i λo=>o.onRead k (.fail 9)
def onCells (i:Nat) (k:List AV->Nat->Bool->Bool->FM):FM:=.get i λo=>o.onCells k (.fail 10)
def nthL {α:Type} (l:List α):Nat->Option α :=
 List.rec (motive:=λ_=>Nat->Option α) (λ_=>none) (λh _ ih n=>Nat.rec (motive:=λ_=>Option α) (some h) (λm _=>ih m) n) l
def jO {α:Type} (n:Nat):List α->List α :=
 Nat.rec (motive:=λ_=>List α->List α) (λl=>l) (λ_ ih l=>List.rec (motive:=λ_=>List α) [] (λ_ t _=>ih t) l) n
def j3 {α:Type} (n:Nat):List α->(List α->FM)->FM :=
 Nat.rec (motive:=λ_=>List α->(List α->FM)->FM) (λ_ k=>k []) (λ_ ih l k=>List.rec (motive:=λ_=>FM) (.fail 12) (λh t _=>ih t λr=>k (h::r)) l) n
def jB6 {α:Type} (vs:List α):List α->(List α->FM)->FM :=
 List.rec (motive:=λ_=>List α->(List α->FM)->FM) (λl k=>k l)
  (λv _ ih l k=>List.rec (motive:=λ_=>FM) (.fail 14) (λ_ t _=>ih t λr=>k (v::r)) l) vs
def putK {α:Type} (vs:List α) (n:Nat):List α->(List α->FM)->FM :=
 Nat.rec (motive:=λ_=>List α->(List α->FM)->FM) (λl k=>jB6 vs l k)
  (λ_ ih l k=>List.rec (motive:=λ_=>FM) (.fail 15) (λh t _=>ih t λr=>k (h::r)) l) n
def Jj {α:Type} (a b:List α):(List α->FM)->FM :=
 List.rec (motive:=λ_=>(List α->FM)->FM) (λk=>k b) (λh _ ih k=>ih λr=>k (h::r)) a
def repK {α:Type} (z:List α) (n:Nat):(List α->FM)->FM :=
 Nat.rec (motive:=λ_=>(List α->FM)->FM) (λk=>k []) (λ_ ih k=>ih λr=>Jj z r k) n
def Jf {α:Type} (l:List α):Nat->(Nat->FM)->FM :=
 List.rec (motive:=λ_=>Nat->(Nat->FM)->FM) (λa k=>k a) (λ_ _ ih a k=>Qc (Nat.add a 1) λa'=>ih a' k) l
def TT.undef:TT:=N16.all (N16.all (N16.all (.tuple [])))
def TT.args {β:Type} (l:List AV):Nat->TT->(TT->β)->β :=
 List.rec (motive:=λ_=>Nat->TT->(TT->β)->β) (λ_ t k=>k t) (λv _ ih n t k=>TT.putK n v t λt'=>ih (Nat.succ n) t' k) l
def qPz:Value->AV
 | .bool b=>.bool b
 | .int k n=>.int k n
 | .string s=>.str (s.data.toList.map UInt8.toNat)
 | .pointer none=>.nilp
 | .slice none 0 0=>.nils
 | .map none=>.nilMap
 | .func f #[] #[]=>.func (.plain f) [] []
 | .nilFunc=>.nilFunc
 | .nilIface=>.nilIface
 | .tuple #[]=>.tuple []
 | _=>.junk
def qPy:Value->AV
 | .agg cs=>.agg (cs.toList.map qPz)
 | v=>qPz v
def ofValue:Value->AV
 | .iface t v=>.iface t (qPy v)
 | v=>qPy v
def qSl (G:Nat) (t:TT) (x:Operand):AV :=
 Operand.rec (motive:=λ_=>AV) (λs=>cnd (ltb s 4096) (TT.at s t) .junk) (λv=>ofValue v) (λg=>cnd (ltb g G) (.ptr g Nat.zero) .junk) (λf=>.func (.plain (.func f)) [] []) x
def evalOs (G:Nat) (t:TT) (l:List Operand):List AV :=
 List.rec (motive:=λ_=>List AV) [] (λx _ ih=>qSl G t x::ih) l
def ltI (a b:Int):Bool :=
 Int.rec (motive:=λ_=>Bool) (λm=>Int.rec (motive:=λ_=>Bool) (λp=>ltb m p) (λ_=>false) b)
  (λm=>Int.rec (motive:=λ_=>Bool) (λ_=>true) (λp=>ltb p m) b) a
def addI (a b:Int):Int :=
 Int.rec (motive:=λ_=>Int) (λm=>Int.rec (motive:=λ_=>Int) (λp=>.ofNat (Nat.add m p)) (λp=>cnd (Nat.ble (Nat.succ p) m) (.ofNat (Nat.sub m (Nat.succ p))) (.negSucc (Nat.sub p m))) b)
  (λm=>Int.rec (motive:=λ_=>Int) (λp=>cnd (Nat.ble (Nat.succ m) p) (.ofNat (Nat.sub p (Nat.succ m))) (.negSucc (Nat.sub m p))) (λp=>.negSucc (Nat.succ (Nat.add m p))) b) a
def negI (a:Int):Int :=
 Int.rec (motive:=λ_=>Int) (λm=>Nat.rec (motive:=λ_=>Int) (.ofNat Nat.zero) (λp _=>.negSucc p) m) (λm=>.ofNat (Nat.succ m)) a
def qh (q:IntKind):Nat:=IntKind.rec (motive:=λ_=>Nat) 8 16 32 64 8 16 32 64 q
def ksigned (q:IntKind):Bool:=IntKind.rec (motive:=λ_=>Bool) true true true true false false false false q
def wrapI (q:IntKind) (n:Int):Int :=
 cnd (ksigned q)
  (Int.rec (motive:=λ_=>Int) (λm=>cnd (ltb m (Nat.pow 2 (Nat.sub (qh q) 1))) n (q.wrap n)) (λm=>cnd (ltb m (Nat.pow 2 (Nat.sub (qh q) 1))) n (q.wrap n)) n)
  (Int.rec (motive:=λ_=>Int) (λm=>.ofNat (Nat.mod m (Nat.pow 2 (qh q)))) (λ_=>q.wrap n) n)
def toU (q:IntKind) (n:Int):Nat :=
 Int.rec (motive:=λ_=>Nat) (λm=>Nat.mod m (Nat.pow 2 (qh q))) (λm=>Nat.sub (Nat.sub (Nat.pow 2 (qh q)) 1) (Nat.mod m (Nat.pow 2 (qh q)))) n
def jr (q:IntKind) (n:Int) (k:AV->FM):FM:=jY (wrapI q n) λm=>k (.int q m)
def je (b:Bool) (k:AV->FM):FM:=cnd b (k (.bool true)) (k (.bool false))
abbrev BinK:=IntKind->Int->Int->(AV->FM)->FM
def bAdd:BinK:=λq a b k=>jr q (addI a b) k
def bSub:BinK:=λq a b k=>jr q (addI a (negI b)) k
def bMul:BinK:=λq a b k=>jr q (a*b) k
def bQuo:BinK:=λq a b k=>cnd (eqI b 0) (.fail 30) (jr q (a.tdiv b) k)
def bRem:BinK:=λq a b k=>cnd (eqI b 0) (.fail 31) (jY (a.tmod b) λm=>k (.int q m))
def bAnd:BinK:=λq a b k=>jr q (.ofNat (Nat.land (toU q a) (toU q b))) k
def bOr:BinK:=λq a b k=>jr q (.ofNat (Nat.lor (toU q a) (toU q b))) k
def bXor:BinK:=λq a b k=>jr q (.ofNat (Nat.xor (toU q a) (toU q b))) k
def jDw:BinK:=λq a b k=>jr q (.ofNat (Nat.land (toU q a) (Nat.xor (toU q b) (Nat.sub (Nat.pow 2 (qh q)) 1)))) k
def bShl:BinK:=λq a b k=>Int.rec (motive:=λ_=>FM) (λm=>jr q (a*Int.ofNat (Nat.pow 2 (cnd (Nat.ble m (qh q)) m (qh q)))) k) (λ_=>.fail 32) b
def bShr:BinK:=λq a b k=>Int.rec (motive:=λ_=>FM) (λm=>jY (a.fdiv (Int.ofNat (Nat.pow 2 (cnd (Nat.ble m (qh q)) m (qh q))))) λr=>k (.int q r)) (λ_=>.fail 33) b
def bEql:BinK:=λ_ a b k=>je (eqI a b) k
def bNeq:BinK:=λ_ a b k=>je (eqI a b).not k
def bLss:BinK:=λ_ a b k=>je (ltI a b) k
def bLeq:BinK:=λ_ a b k=>je (ltI b a).not k
def bGtr:BinK:=λ_ a b k=>je (ltI b a) k
def bGeq:BinK:=λ_ a b k=>je (ltI a b).not k
end Go.X
namespace Go.X
section
variable (P:Program)
def Qd (t:TypeId):Nat:=match P.underlying t with
 | some .bool=>1
 | some (.int _)=>2
 | some .string=>3
 | some (.pointer _)=>4
 | some .unsafePointer=>5
 | some (.interface _)=>6
 | some (.struct _)=>7
 | some (.array _ _)=>8
 | some (.slice _)=>9
 | some (.map _ _)=>10
 | some (.func _ _ _)=>11
 | some _=>12
 | none=>0
def szO (t:TypeId):Option Nat:=match P.info? t with | some i=>some i.size | none=>none
def qU6 (t:TypeId):Option Nat:=match P.info? t with | some i=>some i.bytes | none=>none
def cmpO (t:TypeId):Option Bool:=match P.info? t with | some i=>some i.comparable | none=>none
def Jb (t:TypeId):Option AV:=match P.info? t with
 | some i=>match i.zero with | some z=>some (ofValue z) | none=>none
 | none=>none
def qSd (t:TypeId):Option Bool:=match P.underlying t with | some (.struct _)=>some true | some (.array _ _)=>some true | some _=>some false | none=>none
def qFo (t:TypeId) (f:Nat):Option Field:=match P.underlying t with | some (.struct fs)=>fs[f]? | _=>none
def qL (t:TypeId):Option TypeId:=match P.underlying t with | some (.slice e)=>some e | _=>none
def Jz (t:TypeId):Option (Nat × TypeId):=match P.underlying t with | some (.array n e)=>some (n,e) | _=>none
def jDk (t:TypeId):Option TypeId:=match P.underlying t with | some (.pointer e)=>some e | _=>none
def qNv (t:TypeId):Option (TypeId × TypeId):=match P.underlying t with | some (.map k e)=>some (k,e) | _=>none
def qJf (t:TypeId):Option (Array (String × TypeId)):=match P.underlying t with | some (.interface ms)=>some ms | _=>none
def qA (t:TypeId) (cs:List AV) (off:Nat) (k:AV->FM):FM :=
 Qj (qSd P t) (.fail 17) λb=>cnd b (Qj (szO P t) (.fail 17) λn=>j3 n (jO off cs) λl=>k (.agg l)) (Qj (nthL cs off) (.fail 17) k)
abbrev KV:=AV->FM
abbrev Qw:=FuncId->List AV->KV->(QD->FM)->FM
abbrev Qs:=Nat->List AV->KV->FM
def qPp (t:TypeId) (i o:Nat) (k:KV):FM:=q9 i λc=>qA P t c o k
def qU3 (n:Nat) (v:AV) (k:List AV->FM):FM:=v.cellsK λcs=>Jf cs Nat.zero λm=>cnd (Nat.beq m n) (k cs) (.fail 18)
def qGs (i o:Nat) (cs:List AV) (m:FM):FM :=
 cnd (QX cs) (onCells i λc e g mk=>putK cs o c λc'=>.set i (.cells c' e g mk) m) (.fail 19)
def qYm (t:TypeId) (i o:Nat) (v:AV) (m:FM):FM:=Qj (szO P t) (.fail 18) λn=>qU3 n v λcs=>qGs i o cs m
def qJ (d:Nat) (x:Option AV) (k:Nat->FM):FM:=Option.rec (motive:=λ_=>FM) (k d) (λv=>v.onNat k (.fail 20)) x
def leb3 (a b c:Nat):Bool:=cnd (Nat.ble a b) (Nat.ble b c) false
def noneM {α:Type} (o:Option α) (m:FM):FM:=Option.rec (motive:=λ_=>FM) m (λ_=>.fail 15) o
def qVw (e:TypeId) (o n:Nat) (k:Nat->FM):FM:=Qj (szO P e) (.fail 18) λsz=>Qc (Nat.add o (Nat.mul n sz)) k
def slStr (s:List Nat) (lo hi:Option AV) (k:KV):FM :=
 Jf s Nat.zero λlen=>qJ Nat.zero lo λl=>qJ len hi λh=>cnd (leb3 l h len) (j3 h s λs'=>k (.str (jO l s'))) (.fail 21)
def qHn (r:AV) (lo hi mx:Option AV) (k:KV):FM :=
 qJ Nat.zero lo λl=>qJ Nat.zero hi λh=>Option.rec (motive:=λ_=>FM) (cnd (Nat.beq (Nat.add l h) Nat.zero) (k r) (.fail 22))
  (λmv=>Qj hi (.fail 22) λ_=>mv.onNat (λm=>cnd (Nat.beq (Nat.add l (Nat.add h m)) Nat.zero) (k r) (.fail 22)) (.fail 22)) mx
def j4 (e:TypeId) (i o len cap:Nat) (ext:Bool) (lo hi mx:Option AV) (k:KV):FM :=
 qJ Nat.zero lo λl=>Option.rec (motive:=λ_=>FM)
   (qJ len hi λh=>cnd (leb3 l h cap)
    (cnd (Nat.beq l cap) (cnd ext (k .emp) (k (.slice i o Nat.zero Nat.zero false)))
     (qVw P e o l λo'=>Qc (Nat.sub h l) λn=>Qc (Nat.sub cap l) λc=>k (.slice i o' n c ext)))
    (.fail 23))
   (λmv=>mv.onNat (λm=>Qj hi (.fail 24) λhv=>hv.onNat (λh=>cnd (cnd (leb3 l h m) (Nat.ble m cap) false)
    (cnd (Nat.beq m l) (k (.slice i o Nat.zero Nat.zero false))
     (qVw P e o l λo'=>Qc (Nat.sub h l) λn=>Qc (Nat.sub m l) λc=>k (.slice i o' n c false)))
    (.fail 24)) (.fail 25)) (.fail 25)) mx
def qX8 (t:TypeId) (x:AV) (lo hi mx:Option AV) (k:KV):FM :=
 x.onSeq (λs=>cnd (Nat.beq (Qd P t) 3) (noneM mx (slStr s lo hi k)) (.fail 26))
  (cnd (Nat.beq (Qd P t) 9) (Qj (qL P t) (.fail 26) λe=>Qj (szO P e) (.fail 26) λ_=>qHn .nils lo hi mx k) (.fail 26))
  (cnd (Nat.beq (Qd P t) 9) (Qj (qL P t) (.fail 26) λe=>Qj (szO P e) (.fail 26) λ_=>qHn .emp lo hi mx k) (.fail 26))
  (λi o len cap ext=>Qj (qL P t) (.fail 26) λe=>Qj (szO P e) (.fail 26) λ_=>j4 P e i o len cap ext lo hi mx k)
  (x.onPtr (λi o=>Qj (Jz P t) (.fail 27) λne=>Qj (szO P ne.2) (.fail 26) λ_=>j4 P ne.2 i o ne.1 ne.1 false lo hi mx k) (.fail 28))
def ofBytes (l:List Nat):List AV:=List.rec (motive:=λ_=>List AV) [] (λb _ ih=>.int .u8 (.ofNat b)::ih) l
def Ju (l:List AV):(List Nat->FM)->FM :=
 List.rec (motive:=λ_=>(List Nat->FM)->FM) (λk=>k [])
  (λv _ ih k=>v.onInt (λq n=>IntKind.rec (motive:=λ_=>FM) (.fail 29) (.fail 29) (.fail 29) (.fail 29)
   (Int.rec (motive:=λ_=>FM) (λb=>cnd (ltb b 256) (ih λr=>k (b::r)) (.fail 29)) (λ_=>.fail 29) n) (.fail 29) (.fail 29) (.fail 29) q) (.fail 29)) l
def qUs (n sz:Nat) (x:AV) (k:List AV->FM):FM :=
 x.onSeq (λs=>cnd (Nat.beq sz 1) (j3 n s λs'=>k (ofBytes s')) (.fail 34)) (cnd (Nat.beq n Nat.zero) (k []) (.fail 34)) (cnd (Nat.beq n Nat.zero) (k []) (.fail 34))
  (λi o _ _ _=>q9 i λc=>j3 (Nat.mul n sz) (jO o c) k) (.fail 35)
def most:Nat:=1099511627776
def qLb (e:TypeId) (n:Nat) (m:FM):FM:=Qj (qU6 P e) (.fail 36) λb=>cnd (cnd (Nat.ble (Nat.mul n b) most) (Nat.ble n most) false) m (.fail 36)
def qPq (e:TypeId) (cs:List AV) (sz m:Nat) (mk:Bool) (k:KV):FM :=
 Qj (Jb P e) (.fail 36) λz=>z.cellsK λzs=>Jf zs Nat.zero λzn=>cnd (Nat.beq zn sz) (.new (.cells cs sz true mk) λj=>k (.slice j Nat.zero m m true)) (.fail 36)
def jFq (e:TypeId) (n:Nat) (k:List AV->Nat->FM):FM :=
 Qj (szO P e) (.fail 104) λsz=>Qj (Jb P e) (.fail 104) λz=>z.cellsK λzs=>Jf zs Nat.zero λm=>cnd (Nat.beq m sz) (repK zs n λcs=>k cs sz) (.fail 104)
def addC (e:TypeId) (z:Bool) (n sz:Nat) (x:AV) (k:List AV->FM):FM:=cnd z (jFq P e n λcs _=>k cs) (qUs n sz x k)
def AV.natO (w:AV):Option Nat :=
 AV.rec (motive_1:=λ_=>Option Nat) (motive_2:=λ_=>PUnit) (none) (λ_=>none) (λ_ n=>Int.rec (motive:=λ_=>Option Nat) (λm=>some m) (λ_=>none) n) (λ_=>none) (none) (λ_ _=>none) (none) (λ_ _ _ _ _=>none) (none) (none) (λ_=>none) (λ_ _ _ _ _=>none) (none) (λ_ _ _=>none) (none) (λ_ _=>none) (λ_ _=>none) PUnit.unit (λ_ _ _ _=>PUnit.unit) w
def lenZ (z:Bool) (x:AV):Option Nat:=cnd z x.natO x.lenO
def roomZ (e:TypeId) (z:Bool) (n:Nat) (m:FM):FM:=cnd z (qLb P e n m) m
def qN0 (e:TypeId) (sz:Nat) (i o len cap:Nat) (ext:Bool) (z:Bool) (n:Nat) (x:AV) (k:KV):FM :=
 Qc (Nat.add len n) λm =>
 cnd (Nat.ble m cap)
  (addC P e z n sz x λcs=>qGs i (Nat.add o (Nat.mul len sz)) cs (k (.slice i o m cap ext)))
  (qLb P e m (cnd ext
   (onCells i λc es g mk=>Jf c Nat.zero λcl=>cnd (cnd g (cnd (Nat.beq es sz) (Nat.beq (Nat.add o (Nat.mul cap sz)) cl) false) false)
    (j3 (Nat.mul len sz) (jO o c) λcs=>addC P e z n sz x λds=>cnd (QX ds) (Jj cs ds λcd=>.set i .tomb (qPq P e cd sz m mk k)) (.fail 37)) (.fail 37))
   (q9 i λc=>j3 (Nat.mul len sz) (jO o c) λcs=>addC P e z n sz x λds=>Jj cs ds λcd=>qPq P e cd sz m false k)))
def qJp (st xt:TypeId) (s x:AV) (k:KV):FM :=
 Qj (qL P st) (.fail 37) λe=>Qj (szO P e) (.fail 37) λsz=>cnd (cnd (Nat.beq (Qd P xt) 9) true (cnd (Nat.beq (Qd P xt) 3) true (Nat.beq (Qd P xt) 2))) (Qj (lenZ (Nat.beq (Qd P xt) 2) x) (.fail (Nat.add 38000000 (Nat.add (Nat.mul 1000 st) xt))) λn =>
  roomZ P e (Nat.beq (Qd P xt) 2) n (cnd (Nat.beq n Nat.zero) (s.onSlice (k .nils) (k .emp) (λi o len cap ext=>cnd (Nat.ble len cap) (k s) (.fail 39)) (.fail 40))
  (s.onSlice (qLb P e n (addC P e (Nat.beq (Qd P xt) 2) n sz x λcs=>qPq P e cs sz n false k)) (.fail 39)
   (λi o len cap ext=>qN0 P e sz i o len cap ext (Nat.beq (Qd P xt) 2) n x k) (.fail 40)))) (.fail (Nat.add 39000000 (Nat.add (Nat.mul 1000 st) xt)))
def qQ (n:Nat) (k:KV):FM:=Qc n λm=>k (.int .i64 (.ofNat m))
def xLen (t:TypeId) (x:AV) (k:KV):FM :=
 x.onMapN (cnd (Nat.beq (Qd P t) 10) (qQ Nat.zero k) (.fail 41)) (λi=>cnd (Nat.beq (Qd P t) 10) (.get i λo=>o.onMap (λes _=>Jf es Nat.zero λn=>qQ n k) (.fail 41)) (.fail 41))
  (x.onStr (λs=>cnd (Nat.beq (Qd P t) 3) (Jf s Nat.zero λn=>qQ n k) (.fail 42))
   (x.onSlice (cnd (Nat.beq (Qd P t) 9) (qQ Nat.zero k) (.fail 42)) (cnd (Nat.beq (Qd P t) 9) (qQ Nat.zero k) (.fail 42))
    (λ_ _ len _ _=>cnd (Nat.beq (Qd P t) 9) (qQ len k) (.fail 42))
    (Option.rec (motive:=λ_=>FM) (Qj (jDk P t) (.fail 43) λa=>Qj (Jz P a) (.fail 43) λne=>qQ ne.1 k) (λne=>qQ ne.1 k) (Jz P t))))
def jF4 (t:TypeId) (d s:AV) (k:KV):FM :=
 Qj (qL P t) (.fail 44) λe=>Qj (szO P e) (.fail 44) λsz=>Qj d.lenO (.fail 45) λn=>Qj s.lenO (.fail 46) λm =>
  Qc (cnd (Nat.ble m n) m n) λj =>
  cnd (Nat.beq j Nat.zero) (d.onSlice (qQ Nat.zero k) (qQ Nat.zero k) (λ_ _ _ _ _=>qQ Nat.zero k) (.fail 47))
  (qUs j sz s λcs=>d.onSlice (.fail 47) (.fail 47) (λi o _ _ _=>qGs i o cs (qQ j k)) (.fail 47))
def qy (a:List Nat):List Nat->Bool :=
 List.rec (motive:=λ_=>List Nat->Bool) (λb=>List.rec (motive:=λ_=>Bool) true (λ_ _ _=>false) b)
  (λx _ ih b=>List.rec (motive:=λ_=>Bool) false (λy s _=>cnd (Nat.beq x y) (ih s) false) b) a
def qj (a:List Nat):List Nat->Bool :=
 List.rec (motive:=λ_=>List Nat->Bool) (λb=>List.rec (motive:=λ_=>Bool) false (λ_ _ _=>true) b)
  (λx _ ih b=>List.rec (motive:=λ_=>Bool) false (λy s _=>cnd (ltb x y) true (cnd (Nat.beq x y) (ih s) false)) b) a
def qJe (a b:AV) (k:Bool->FM):FM :=
 a.onIntStr (λq n=>b.onInt (λr m=>cnd (Nat.beq (QT q) (QT r)) (k (eqI n m)) (.fail 48)) (.fail 48)) (λs=>b.onStr (λr=>k (qy s r)) (.fail 48)) (.fail 48)
def qG0 (key:AV) (l:List (AV × AV)):(Option AV->FM)->FM :=
 List.rec (motive:=λ_=>(Option AV->FM)->FM) (λk=>k none) (λe _ ih k=>qJe key e.1 λb=>cnd b (k (some e.2)) (ih k)) l
def qZx (a b:AV):Bool :=
 AV.rec (motive_1:=λ_=>Bool) (motive_2:=λ_=>PUnit) false (λ_=>false)
  (λ_ n=>AV.rec (motive_1:=λ_=>Bool) (motive_2:=λ_=>PUnit) false (λ_=>false) (λ_ m=>ltI n m) (λ_=>false) false (λ_ _=>false) false (λ_ _ _ _ _=>false) false false (λ_=>false) (λ_ _ _ _ _=>false) false (λ_ _ _=>false) false (λ_ _=>false) (λ_ _=>false) PUnit.unit (λ_ _ _ _=>PUnit.unit) b)
  (λs=>AV.rec (motive_1:=λ_=>Bool) (motive_2:=λ_=>PUnit) false (λ_=>false) (λ_ _=>false) (λr=>qj s r) false (λ_ _=>false) false (λ_ _ _ _ _=>false) false false (λ_=>false) (λ_ _ _ _ _=>false) false (λ_ _ _=>false) false (λ_ _=>false) (λ_ _=>false) PUnit.unit (λ_ _ _ _=>PUnit.unit) b)
  false (λ_ _=>false) false (λ_ _ _ _ _=>false) false false (λ_=>false) (λ_ _ _ _ _=>false) false (λ_ _ _=>false) false (λ_ _=>false) (λ_ _=>false) PUnit.unit (λ_ _ _ _=>PUnit.unit) a
def qFc (key v:AV) (l:List (AV × AV)):(List (AV × AV)->FM)->FM :=
 List.rec (motive:=λ_=>(List (AV × AV)->FM)->FM) (λk=>k [(key,v)]) (λe t ih k=>cnd (qZx key e.1) (k ((key,v)::e::t)) (ih λr=>k (e::r))) l
def Je (key v:AV) (l:List (AV × AV)):(List (AV × AV)->FM)->FM :=
 List.rec (motive:=λ_=>(List (AV × AV)->FM)->FM) (λk=>k []) (λe t ih k=>qJe key e.1 λb=>cnd b (k ((key,v)::t)) (ih λr=>k (e::r))) l
def delK (key:AV) (l:List (AV × AV)):(List (AV × AV)->FM)->FM :=
 List.rec (motive:=λ_=>(List (AV × AV)->FM)->FM) (λk=>k []) (λe t ih k=>qJe key e.1 λb=>cnd b (k t) (ih λr=>k (e::r))) l
def qMf {α:Type} (l:List α):Nat->(List α->FM)->FM :=
 List.rec (motive:=λ_=>Nat->(List α->FM)->FM) (λ_ k=>k []) (λh t ih n k=>Nat.rec (motive:=λ_=>FM) (k t) (λm _=>ih m λr=>k (h::r)) n) l
def mapK (t:TypeId) (k:TypeId->FM):FM :=
 Qj (qNv P t) (.fail 48) λke=>cnd (cnd (Nat.beq (Qd P ke.1) 2) true (Nat.beq (Qd P ke.1) 3)) (k ke.2) (.fail 48)
def fitK (t:TypeId) (key:AV) (m:FM):FM :=
 Qj (qNv P t) (.fail 48) λke=>key.onIntStr (λ_ _=>cnd (Nat.beq (Qd P ke.1) 2) m (.fail 48)) (λ_=>cnd (Nat.beq (Qd P ke.1) 3) m (.fail 48)) (.fail 48)
def qVn (t:TypeId) (m key:AV) (k:KV):FM :=
 mapK P t λ_=>fitK P t key (m.onMapN (k (.tuple [])) (λi=>.get i λo=>o.onMap (λes v=>delK key es λes'=>.set i (.map es' (Nat.succ v)) (k (.tuple []))) (.fail 48)) (.fail 49))
def qJo (t:TypeId) (m key v:AV) (k:KV):FM :=
 mapK P t λ_=>fitK P t key (m.onMap (λi=>.get i λo=>o.onMap (λes ver=>qG0 key es λr =>
  Option.rec (motive:=λ_=>FM) (qFc key v es λes'=>.set i (.map es' (Nat.succ ver)) (k (.tuple [])))
   (λ_=>Je key v es λes'=>.set i (.map es' (Nat.succ ver)) (k (.tuple []))) r) (.fail 48)) (.fail 49))
def qGd (t:TypeId) (k:KV):FM:=Qj (Jb P t) (.fail 132) k
def jC (e:TypeId) (ok:Bool) (r:Option AV) (k:KV):FM :=
 Option.rec (motive:=λ_=>FM) (qGd P e λz=>cnd ok (k (.tuple [z,.bool false])) (k z)) (λv=>cnd ok (k (.tuple [v,.bool true])) (k v)) r
def qQn (t:TypeId) (m key:AV) (ok:Bool) (k:KV):FM :=
 mapK P t λe=>fitK P t key (m.onMapN (jC P e ok none k) (λi=>.get i λo=>o.onMap (λes _=>qG0 key es λr=>jC P e ok r k) (.fail 134)) (.fail 135))
def jAt (l:List AV) (k:AV->FM):FM:=List.rec (motive:=λ_=>FM) (.fail 50) (λa _ _=>k a) l
def jDz (l:List AV) (k:AV->AV->FM):FM:=List.rec (motive:=λ_=>FM) (.fail 50) (λa t _=>jAt t λb=>k a b) l
def qTk (l:List AV) (k:AV->AV->FM):FM:=List.rec (motive:=λ_=>FM) (.fail 50) (λa t _=>List.rec (motive:=λ_=>FM) (.fail 50) (λb r _=>List.rec (motive:=λ_=>FM) (k a b) (λ_ _ _=>.fail 50) r) t) l
def kEq (q r:IntKind) (m:FM):FM:=cnd (Nat.beq (QT q) (QT r)) m (.fail 55)
abbrev BltK:=List AV->Array TypeId->KV->FM
def jFj:BltK:=λl ts k=>Qj ts[0]? (.fail 50) λst=>Qj ts[1]? (.fail 50) λxt=>jDz l λs x=>qJp P st xt s x k
def blLen:BltK:=λl ts k=>Qj ts[0]? (.fail 50) λt=>jAt l λx=>xLen P t x k
def blCap:BltK:=λl ts k=>Qj ts[0]? (.fail 50) λt=>jAt l λx=>cnd (Nat.beq (Qd P t) 9) (x.onSlice (qQ Nat.zero k) (.fail 51) (λ_ _ _ c ext=>cnd ext (.fail 52) (qQ c k)) (.fail 53)) (.fail 53)
def blCopy:BltK:=λl ts k=>Qj ts[0]? (.fail 50) λt=>jDz l λd s=>jF4 P t d s k
def xClear (t:TypeId) (x:AV) (k:KV):FM :=
 Qj (qL P t) (.fail 155) λe=>x.onSlice (k (.tuple [])) (k (.tuple [])) (λi o len _ _=>cnd (Nat.beq len Nat.zero) (k (.tuple [])) (jFq P e len λcs _=>qGs i o cs (k (.tuple [])))) (.fail 155)
def blClear:BltK:=λl ts k=>Qj ts[0]? (.fail 50) λt=>jAt l λx=>xClear P t x k
def jFi:BltK:=λl ts k=>Qj ts[0]? (.fail 50) λt=>jDz l λm key=>qVn P t m key k
def blMin:BltK:=λl _ k=>qTk l λa b=>a.onInt (λq x=>b.onInt (λr y=>kEq q r (k (.int q (cnd (ltI y x) y x)))) (.fail 54)) (.fail 54)
def blMax:BltK:=λl _ k=>qTk l λa b=>a.onInt (λq x=>b.onInt (λr y=>kEq q r (k (.int q (cnd (ltI x y) y x)))) (.fail 54)) (.fail 54)
end
end Go.X
namespace Go.X
section
variable (P:Program)
def QK (t:TypeId) (n:Nat) (m:FM):FM:=cnd (Nat.beq (Qd P t) n) m (.fail 60)
def jG0 (i o j p:Nat) (k:Bool->FM):FM :=
 cnd (Nat.beq i j) (k (Nat.beq o p))
  (.get i λx=>x.onCells (λ_ _ _ mk=>cnd mk (.fail 61) (.get j λy=>y.onCells (λ_ _ _ mk'=>cnd mk' (.fail 61) (k false)) (.fail 61))) (.fail 61))
def jE6 (t:TypeId) (i o j p:Nat) (k:Bool->FM):FM :=
 cnd (Nat.beq (Qd P t) 4) (Qj (jDk P t) (.fail 60) λe=>Qj (szO P e) (.fail 60) λn=>cnd (Nat.beq n Nat.zero) (.fail 60) (jG0 i o j p k)) (.fail 60)
def eq1 (t:TypeId) (a b:AV) (k:Bool->FM):FM :=
 a.onBool (λx=>b.onBool (λy=>QK P t 1 (k (cnd x y (cnd y false true)))) (.fail 62))
 (a.onIntStr (λq n=>b.onInt (λr m=>QK P t 2 (kEq q r (k (eqI n m)))) (.fail 62)) (λs=>b.onStr (λr=>QK P t 3 (k (qy s r))) (.fail 62))
 (a.onPtr (λi o=>cnd b.isNilp (QK P t 4 (k false)) (b.onPtr (λj p=>jE6 P t i o j p k) (.fail 62)))
 (cnd a.isNilp (QK P t 4 (cnd b.isNilp (k true) (b.onPtr (λ_ _=>k false) (.fail 62))))
 (a.onSlice (QK P t 9 (b.onSlice (k true) (k false) (λ_ _ _ _ _=>k false) (.fail 62))) (QK P t 9 (b.onSlice (k false) (.fail 62) (λ_ _ _ _ _=>.fail 62) (.fail 62)))
  (λ_ _ _ _ _=>QK P t 9 (b.onSlice (k false) (.fail 62) (λ_ _ _ _ _=>.fail 62) (.fail 62)))
 (a.onMapN (QK P t 10 (b.onMapN (k true) (λ_=>k false) (.fail 62))) (λ_=>QK P t 10 (b.onMapN (k false) (λ_=>.fail 62) (.fail 62)))
 (a.onFuncN (QK P t 11 (b.onFuncN (k true) (λ_ _ _=>k false) (.fail 62))) (λ_ _ _=>QK P t 11 (b.onFuncN (k false) (λ_ _ _=>.fail 62) (.fail 62))) (.fail 62)))))))
def qMd (l:List Field):Option (List (TypeId × Nat)):=match l with
 | []=>some []
 | f::r=>if f.name = "_" then none else match qMd r with | some s=>some ((f.type,f.offset)::s) | none=>none
def qNi (t:TypeId):Option (List (TypeId × Nat)):=match P.underlying t with
 | some (.struct fs)=>if P.stoodInHeld t then none else qMd fs.toList
 | some (.array n e)=>match szO P e with | some sz=>some ((List.range n).map λi=>(e,i*sz)) | none=>none
 | _=>none
def eqA (n:Nat):TypeId->AV->AV->(Bool->FM)->FM :=
 Nat.rec (motive:=λ_=>TypeId->AV->AV->(Bool->FM)->FM) (λ_ _ _ _=>.fail 64)
  (λ_ ih t a b k=>a.onAgg (λcs=>b.onAgg (λds=>Qj (qNi P t) (.fail 65) λl =>
   List.rec (motive:=λ_=>FM) (k true) (λx _ ihl=>qA P x.1 cs x.2 λu=>qA P x.1 ds x.2 λv=>ih x.1 u v λr=>cnd r ihl (k false)) l) (.fail 66)) (eq1 P t a b k)) n
def xEql (lit:Bool) (t:TypeId) (a b:AV) (k:Bool->FM):FM :=
 a.onIfaceN (QK P t 6 (b.onIfaceN (cnd lit (k true) (.fail 63)) (λ_ _=>k false) (.fail 63)))
  (λt1 v1=>QK P t 6 (b.onIfaceN (k false) (λt2 v2=>cnd (Nat.beq t1 t2) (Qj (cmpO P t1) (.fail 63) λc=>cnd c (eq1 P t1 v1 v2 k) (.fail 63)) (k false)) (.fail 63)))
  (a.onAgg (λ_=>cnd (P.eqGuardType P.depth t) (.fail 65) (eqA P 6 t a b k)) (eq1 P t a b k))
inductive CvK where | toInt (q:IntKind) | toString | bytes | toBytes (e:TypeId) | toUnsafe (e:TypeId) | mark | no
def cvOf (src dst:TypeId):CvK:=match P.underlying src,P.underlying dst with
 | some (.int _),some (.int q)=>.toInt q
 | some .string,some .string=>.toString
 | some (.slice e),some .string=>match P.underlying e with | some (.int .u8)=>.bytes | _=>.no
 | some .string,some (.slice e)=>match P.underlying e with | some (.int .u8)=>.toBytes e | _=>.no
 | some (.pointer e),some .unsafePointer=>.toUnsafe e
 | some (.slice _),some (.slice e)=>if src=dst then match P.underlying e with | some (.int .u8)=>.mark | _=>.no else .no
 | _,_=>.no
def cvToBytes (e:TypeId) (x:AV) (k:KV):FM:=x.onStr (λs=>Jf s Nat.zero λn=>.new (.cells (ofBytes s) 1 true true) λi=>k (.slice i Nat.zero n n true)) (.fail 64)
def cvBytes (x:AV) (k:KV):FM :=
 x.onSlice (k (.str [])) (k (.str [])) (λi o len _ _=>q9 i λc=>j3 len (jO o c) λl=>Ju l λs=>k (.str s)) (.fail 65)
def jg (src dst:TypeId) (x:AV) (k:KV):FM :=
 CvK.rec (motive:=λ_=>FM) (λq=>x.onInt (λ_ n=>jr q n k) (.fail 63)) (x.onStr (λs=>k (.str s)) (.fail 64)) (cvBytes x k) (λe=>cvToBytes e x k)
  (λe=>x.onPtr (λi o=>Qj (szO P e) (.fail 67) λn=>cnd (Nat.beq n Nat.zero) (.fail 67) (q9 i λc=>Jf c Nat.zero λm=>cnd (ltb o m) (k (.ptr i o)) (.fail 67))) (.fail 67))
  (x.onSlice (.fail 68) (.fail 68) (λi _ _ _ _=>onCells i λc e g _=>.set i (.cells c e g true) (k x)) (.fail 68)) (.fail (Nat.add 66000000 (Nat.add (Nat.mul 1000 src) dst))) (cvOf P src dst)
inductive MtK where | direct (f:FuncId) | load (f:FuncId) (el:TypeId) | field (f:FuncId) (ft:TypeId) (off:Nat) | no
def qW0 (m:Method):MtK:=match m.path.toList,m.func with
 | [s],some (f,true)=>if s.deref then .no else match P.underlying s.struct with
  | some (.struct fs)=>match fs[s.index]? with
   | some fd=>match P.underlying fd.type with | some (.pointer _)=>.field f fd.type fd.offset | _=>.no
   | none=>.no
  | _=>.no
 | _,_=>.no
def methodOf (t:TypeId) (name:String):MtK:=match P.info? t with
 | some ti=>match ti.methods.find? (λm=>m.name == name) with
  | some m=>if m.path.toList.isEmpty then match m.func,P.underlying t with
   | some (f,true),some (.pointer _)=>.direct f
   | some (f,false),some (.pointer el)=>.load f el
   | some (f,false),some _=>.direct f
   | _,_=>.no
   else qW0 P m
  | none=>.no
 | none=>.no
def qZu (fn:Func):Bool:=match fn.resultTypes.toList with
 | [t]=>match P.underlying t with | some (.slice _)=>true | _=>false
 | _=>false
def jGy (f:FuncId):Nat:=match P.funcs[f]? with
 | none=>0
 | some fn=>if fn.body.isSome || fn.name == "runtime.NumGoroutine" || (Extern.findNext fn).isSome then 0
  else if fn.name == "maps.clone" then 1 else if fn.name == "sync/atomic.CompareAndSwapInt32" then 2 else if fn.name == "sync/atomic.AddInt32" then 3
  else if fn.name == "internal/race.Disable" then 4 else if fn.name == "internal/race.Enable" then 5
  else if fn.name == "internal/race.Acquire" then 6 else if fn.name == "internal/race.ReleaseMerge" then 7 else if fn.name == "internal/race.Release" then 8
  else if fn.name == "internal/bytealg.Compare" then 9 else if fn.name == "internal/bytealg.MakeNoZero" && qZu P fn then 10
  else if fn.name == "internal/bytealg.IndexByteString" then 11 else if fn.name == "internal/bytealg.CountString" then 12 else 0
def qn (f:FuncId):Bool:=match P.funcs[f]? with | some fn=>fn.body.isSome && !(fn.name == "runtime.NumGoroutine") | none=>false
abbrev ExtK:=List AV->KV->FM
def just1 (l:List AV) (k:AV->FM):FM:=List.rec (motive:=λ_=>FM) (.fail 50) (λa t _=>List.rec (motive:=λ_=>FM) (k a) (λ_ _ _=>.fail 50) t) l
def just3 (l:List AV) (k:AV->AV->AV->FM):FM:=List.rec (motive:=λ_=>FM) (.fail 50) (λa t _=>qTk t λb c=>k a b c) l
def exClone:ExtK:=λl k=>just1 l λa=>a.onIface (λt v=>v.onMap (λi=>.get i λo=>o.onMap (λes _=>.new (.map es Nat.zero) λj=>k (.iface t (.map j))) (.fail 180)) (.fail 181)) (.fail 182)
def exCas:ExtK:=λl k=>just3 l λa x y=>a.onPtr (λi o=>onCells i λc e g mk=>Qj (nthL c o) (.fail 183) λz =>
 z.onInt (λq n=>x.onInt (λr m=>y.onInt (λs b=>kEq q .i32 (kEq r .i32 (kEq s .i32 (cnd (eqI n m) (putK [.int s b] o c λc'=>.set i (.cells c' e g mk) (k (.bool true))) (k (.bool false)))))) (.fail 184)) (.fail 184)) (.fail 184)) (.fail 185)
def exAdd:ExtK:=λl k=>qTk l λa y=>a.onPtr (λi o=>onCells i λc e g mk=>Qj (nthL c o) (.fail 183) λz =>
 z.onInt (λq n=>y.onInt (λr m=>kEq q .i32 (kEq r .i32 (jr q (addI n m) λv=>putK [v] o c λc'=>.set i (.cells c' e g mk) (k v)))) (.fail 184)) (.fail 184)) (.fail 185)
def exNone:ExtK:=λ_ k=>k (.tuple [])
def jE5:ExtK:=λl k=>jAt l λa=>a.onPtr (λ_ _=>k (.tuple [])) (.fail 186)
def jJ (x:AV) (k:List Nat->FM):FM:=x.onSlice (k []) (k []) (λi o len _ _=>q9 i λc=>j3 len (jO o c) λl=>Ju l k) (.fail 186)
def exCmp:ExtK:=λl k=>qTk l λa b=>jJ a λx=>jJ b λy=>k (.int .i64 (cnd (qj x y) (.negSucc Nat.zero) (cnd (qy x y) (.ofNat Nat.zero) (.ofNat 1))))
def junks (n:Nat):List AV:=Nat.rec (motive:=λ_=>List AV) [] (λ_ ih=>.junk::ih) n
def exMake:ExtK:=λl k=>just1 l λa=>a.onInt (λq n=>kEq q .i64 (Int.rec (motive:=λ_=>FM) (λm=>Qc m λm=>cnd (Nat.ble m most) (.new (.cells (junks m) 1 true false) λi=>k (.slice i Nat.zero m m true)) (.fail 188)) (λ_=>.fail 188) n)) (.fail 188)
def idxB (c:Nat) (s:List Nat):Nat->Int :=
 List.rec (motive:=λ_=>Nat->Int) (λ_=>.negSucc Nat.zero) (λb _ ih n=>cnd (Nat.beq b c) (.ofNat n) (Qc (Nat.succ n) λn'=>ih n')) s
def exIdx:ExtK:=λl k=>qTk l λa b=>a.onStr (λs=>b.onInt (λq n=>kEq q .u8 (Int.rec (motive:=λ_=>FM)
 (λm=>jY (idxB (Nat.mod m 256) s Nat.zero) λr=>k (.int .i64 r)) (λ_=>.fail 187) n)) (.fail 187)) (.fail 187)
def cntB (c:Nat) (s:List Nat):Nat->Nat :=
 List.rec (motive:=λ_=>Nat->Nat) (λn=>n) (λb _ ih n=>cnd (Nat.beq b c) (Qc (Nat.succ n) λn'=>ih n') (ih n)) s
def exCount:ExtK:=λl k=>qTk l λa b=>a.onStr (λs=>b.onInt (λq n=>kEq q .u8 (Int.rec (motive:=λ_=>FM)
 (λm=>Qc (cntB (Nat.mod m 256) s Nat.zero) λr=>k (.int .i64 (.ofNat r))) (λ_=>.fail 187) n)) (.fail 187)) (.fail 187)
def exNo:ExtK:=λ_ _=>.fail 187
def extK (n:Nat):ExtK :=
 cnd (Nat.beq n 1) exClone (cnd (Nat.beq n 2) exCas (cnd (Nat.beq n 3) exAdd (cnd (Nat.beq n 4) exNone (cnd (Nat.beq n 5) exNone (cnd (Nat.beq n 6) jE5 (cnd (Nat.beq n 7) jE5 (cnd (Nat.beq n 8) jE5 (cnd (Nat.beq n 9) exCmp (cnd (Nat.beq n 10) exMake (cnd (Nat.beq n 11) exIdx (cnd (Nat.beq n 12) exCount exNo)))))))))))
def qHi (call:Qw) (f:FuncId) (args:List AV) (k:KV) (kp:QD->FM):FM :=
 cnd (qn P f) (call f args k kp) (extK (jGy P f) args k)
def qEz (call:Qw) (recv:AV) (name:String) (args:List AV) (k:KV) (kp:QD->FM):FM :=
 recv.onIface (λt v=>MtK.rec (motive:=λ_=>FM) (λf=>qHi P call f (v::args) k kp)
  (λf el=>v.onPtr (λi o=>qPp P el i o λv'=>qHi P call f (v'::args) k kp) (.fail 70))
  (λf ft off=>v.onAgg (λcs=>qA P ft cs off λv'=>qHi P call f (v'::args) k kp) (.fail 70)) (.fail 71) (methodOf P t name)) (.fail 72)
def fnM (f:Fn) (kf:FuncId->FM) (km:String->FM) (d:FM):FM :=
 Fn.rec (motive:=λ_=>FM) kf km (λ_ _=>d) (λ_ _ _ _=>d) (λ_=>d) f
def afnM (f:AFn) (kf:FuncId->FM) (km:String->FM) (ky:Nat->FM) (d:FM):FM :=
 AFn.rec (motive:=λ_=>FM) (λg=>fnM g kf km d) ky f
def consM (l:List AV) (d:FM) (k:AV->List AV->FM):FM:=List.rec (motive:=λ_=>FM) d (λh t _=>k h t) l
def qN8 (call:Qw) (round:Qs) (f:AFn) (args captured:List AV) (k:KV) (kp:QD->FM):FM :=
 afnM f (λg=>Jj args captured λl=>qHi P call g l k kp) (λname=>consM args (.fail 73) λr rest=>qEz P call r name rest k kp)
  (λl=>round l args k) (.fail 74)
structure OC where
 call:Qw
 round:Qs
 t:TT
 g:Nat
def OC.ev (c:OC) (x:Operand):AV:=qSl c.g c.t x
def OC.evs (c:OC) (l:List Operand):List AV:=evalOs c.g c.t l
def OC.evo (c:OC) (x:Option Operand):Option AV:=Option.rec (motive:=λ_=>Option AV) none (λy=>some (c.ev y)) x
abbrev OpK:=OC->KV->(qk->FM)->(QD->FM)->FM
def oMove (x:Operand):OpK:=λc k _ _=>k (c.ev x)
def oPick (x a b:Operand):OpK:=λc k _ _=>(c.ev x).onBool (λt=>cnd t (k (c.ev a)) (k (c.ev b))) (.fail 100)
def newVar (v:AV) (k:KV):FM:=v.cellsK λcs=>.new (.cells cs Nat.zero false false) λi=>k (.ptr i Nat.zero)
def oAlloc (e:TypeId):OpK:=λ_ k _ _=>Qj (Jb P e) (.fail 101) λz=>newVar z k
def oBox (_e:TypeId) (x:Operand):OpK:=λc k _ _=>newVar (c.ev x) k
def jDb (c:OC) (place:Nat->Option (Nat × Nat)) (parts:List (Nat × Operand)):List AV->(List AV->FM)->FM :=
 List.rec (motive:=λ_=>List AV->(List AV->FM)->FM) (λcs k=>k cs)
  (λp _ ih cs k=>Qj (place p.1) (.fail 102) λos=>qU3 os.2 (c.ev p.2) λps=>putK ps os.1 cs λcs'=>ih cs' k) parts
def qNb (l:List Field):Option (List (Nat × Nat)):=match l with
 | []=>some []
 | f::r=>match szO P f.type,qNb r with | some n,some s=>some ((f.offset,n)::s) | _,_=>none
def placeOf (t:TypeId):Option (Nat->Option (Nat × Nat)):=match P.underlying t with
 | some (.struct fs)=>match qNb P fs.toList with | some l=>some λi=>l[i]? | none=>none
 | some (.array _ e)=>match szO P e with | some n=>some λi=>some (i*n,n) | none=>none
 | _=>none
def qZl (t:TypeId) (parts:Array (Nat × Operand)):OpK:=λc k _ _ =>
 Qj (Jb P t) (.fail 103) λz=>Qj (placeOf P t) (.fail 103) λpl=>z.cellsK λzs=>jDb c pl parts.toList zs λcs=>k (.agg cs)
def rowK (e:TypeId) (n:Nat) (k:List AV->Nat->FM):FM:=jFq P e n k
def qJ3 (t:TypeId) (len:Nat) (parts:Array (Nat × Operand)):OpK:=λc k _ _ =>
 Qj (qL P t) (.fail 104) λe=>qLb P e len (rowK P e len λcs0 sz=>cnd (Nat.ble (Nat.mul len sz) 16777216)
  (jDb c (λi=>some (Nat.mul i sz,sz)) parts.toList cs0 λcs=>.new (.cells cs sz false false) λi=>k (.slice i Nat.zero len len false)) (.fail 104))
def oUpdate (t:TypeId) (m key v:Operand):OpK:=λc k _ _=>qJo P t (c.ev m) (c.ev key) (c.ev v) k
def oLoad (t:TypeId) (a:Operand):OpK:=λc k _ _=>(c.ev a).onPtr (λi o=>qPp P t i o k) (.fail 107)
def jEo (t:TypeId) (a v:Operand):OpK:=λc k _ _=>(c.ev a).onPtr (λi o=>qYm P t i o (c.ev v) (k (.tuple []))) (.fail 108)
def qL4 (x:Operand):OpK:=λc k _ _ =>
 (c.ev x).onPtr (λi o=>k (.ptr i o)) ((c.ev x).onIface (λt v=>k (.iface t v)) ((c.ev x).onFunc (λf a b=>afnM f (λ_=>k (.func f a b)) (λ_=>.fail 109) (λ_=>k (.func f a b)) (.fail 109)) (.fail 109)))
def catK (a b:List Nat) (k:KV):FM :=
 Jf a Nat.zero λn=>Jf b Nat.zero λm=>cnd (Nat.ble (Nat.add n m) most) (Jj a b λs=>k (.str s)) (.fail 110)
def strBin (op:BinOp) (a b:List Nat) (k:KV):FM :=
 BinOp.rec (motive:=λ_=>FM) (catK a b k) (.fail 110) (.fail 110) (.fail 110) (.fail 110) (.fail 110) (.fail 110) (.fail 110) (.fail 110) (.fail 110) (.fail 110)
  (je (qy a b) k) (je (qy a b).not k) (je (qj a b) k) (je (qj b a).not k) (je (qj b a) k) (je (qj a b).not k) op
def intBin (op:BinOp) (q r:IntKind) (n m:Int) (k:KV):FM :=
 BinOp.rec (motive:=λ_=>FM) (kEq q r (bAdd q n m k)) (kEq q r (bSub q n m k)) (kEq q r (bMul q n m k)) (kEq q r (bQuo q n m k)) (kEq q r (bRem q n m k))
  (kEq q r (bAnd q n m k)) (kEq q r (bOr q n m k)) (kEq q r (bXor q n m k)) (bShl q n m k) (bShr q n m k) (kEq q r (jDw q n m k))
  (kEq q r (bEql q n m k)) (kEq q r (bNeq q n m k)) (kEq q r (bLss q n m k)) (kEq q r (bLeq q n m k)) (kEq q r (bGtr q n m k)) (kEq q r (bGeq q n m k)) op
def eqBin (lit:Bool) (op:BinOp) (t:TypeId) (a b:AV) (k:KV):FM :=
 BinOp.rec (motive:=λ_=>FM) (.fail 111) (.fail 111) (.fail 111) (.fail 111) (.fail 111) (.fail 111) (.fail 111) (.fail 111) (.fail 111) (.fail 111) (.fail 111)
  (xEql P lit t a b λr=>je r k) (xEql P lit t a b λr=>je r.not k) (.fail 111) (.fail 111) (.fail 111) (.fail 111) op
def qTo (lit:Bool) (op:BinOp) (t:TypeId) (a b:AV) (k:KV):FM :=
 a.onIntStr (λq n=>b.onInt (λr m=>intBin op q r n m k) (.fail 112)) (λs=>b.onStr (λr=>strBin op s r k) (.fail 113)) (eqBin P lit op t a b k)
def isLit (x:Operand):Bool:=Operand.rec (motive:=λ_=>Bool) (λ_=>false) (λ_=>true) (λ_=>false) (λ_=>false) x
def oBinOp (op:BinOp) (t:TypeId) (x y:Operand) (_yt:TypeId):OpK:=λc k _ _=>qTo P (cnd (isLit x) true (isLit y)) op t (c.ev x) (c.ev y) k
def oUnOp (op:UnOp) (_t:TypeId) (x:Operand):OpK:=λc k _ _ =>
 UnOp.rec (motive:=λ_=>FM) ((c.ev x).onInt (λq n=>jr q (negI n) k) (.fail 114))
  ((c.ev x).onInt (λq n=>jr q (.ofNat (Nat.xor (Nat.sub (Nat.pow 2 (qh q)) 1) (toU q n))) k) (.fail 114))
  ((c.ev x).onBool (λb=>je b.not k) (.fail 114)) (.fail 114) op
def oConvert (s d:TypeId) (x:Operand):OpK:=λc k _ _=>jg P s d (c.ev x) k
def qFv (t:TypeId) (x:Operand):OpK:=λc k _ _=>cnd (Nat.beq (Qd P t) 6) (.fail 115) (cnd (Nat.beq (Qd P t) 0) (.fail 115) (k (.iface t (c.ev x))))
def qR0 (f:Fn) (first captured:Array Operand):OpK:=λc k _ _=>k (.func (.plain f) (c.evs first.toList) (c.evs captured.toList))
def qWr (t:TypeId) (r:Option Operand):OpK:=λc k _ _ =>
 Option.rec (motive:=λ_=>FM) (.new (.map [] Nat.zero) λi=>k (.map i)) (λx=>Qj (qNv P t) (.fail 115) λ_=>(c.ev x).onInt (λ_ _=>.new (.map [] Nat.zero) λi=>k (.map i)) (.fail 115)) r
def qNm (t:TypeId) (l m:Operand):OpK:=λc k _ _ =>
 Qj (qL P t) (.fail 115) λe=>(c.ev l).onNat (λn=>(c.ev m).onNat (λp =>
  cnd (Nat.ble n p) (qLb P e p (rowK P e p λcs sz=>.new (.cells cs sz false false) λi=>Qc n λn'=>Qc p λp'=>k (.slice i Nat.zero n' p' false))) (.fail 116)) (.fail 117)) (.fail 117)
def oSlice (t:TypeId) (x:Operand) (lo hi mx:Option Operand):OpK:=λc k _ _=>qX8 P t (c.ev x) (c.evo lo) (c.evo hi) (c.evo mx) k
def qI2 (t:TypeId) (x:Operand) (f:Nat):OpK:=λc k _ _ =>
 (c.ev x).onPtr (λi o=>Qj (qFo P t f) (.fail 118) λfd=>Qj (szO P fd.type) (.fail 118) λn=>cnd (Nat.beq n Nat.zero) (.fail 118) (Qc (Nat.add o fd.offset) λo'=>k (.ptr i o'))) (.fail 119)
def jEr (t:TypeId) (x:Operand) (f:Nat):OpK:=λc k _ _ =>
 (c.ev x).onAgg (λcs=>Qj (qFo P t f) (.fail 120) λfd=>qA P fd.type cs fd.offset k) (.fail 121)
def ixAt (e:TypeId) (i o len:Nat) (ix:AV) (k:KV):FM :=
 ix.onNat (λn=>cnd (ltb n len) (Qj (szO P e) (.fail 122) λsz=>Qc (Nat.add o (Nat.mul n sz)) λo'=>k (.ptr i o')) (.fail 122)) (.fail 123)
def qI1 (t:TypeId) (x ix:Operand):OpK:=λc k _ _ =>
 (c.ev x).onSlicePtr (λi o len _ _=>Qj (qL P t) (.fail 124) λe=>ixAt P e i o len (c.ev ix) k)
  (λi o=>Qj (Jz P t) (.fail 125) λne=>ixAt P ne.2 i o ne.1 (c.ev ix) k) (.fail 126)
def jEq (t:TypeId) (x ix:Operand):OpK:=λc k _ _ =>
 (c.ev x).onStrAgg (λs=>QK P t 3 ((c.ev ix).onNat (λn=>Qj (nthL s n) (.fail 127) λb=>k (.int .u8 (.ofNat b))) (.fail 128)))
  (λcs=>(c.ev ix).onNat (λn=>Qj (Jz P t) (.fail 129) λne=>cnd (ltb n ne.1) (Qj (szO P ne.2) (.fail 129) λsz=>qA P ne.2 cs (Nat.mul n sz) k) (.fail 130)) (.fail 128)) (.fail 131)
def oLookup (t:TypeId) (x ix:Operand) (ok:Bool):OpK:=λc k _ _=>qQn P t (c.ev x) (c.ev ix) ok k
def jEp (t:TypeId) (x:Operand):OpK:=λc k _ _ =>
 (c.ev x).onMapN (QK P t 10 (.new .nilIter λi=>k (.ptr i Nat.zero)))
  (λm=>QK P t 10 (.get m λo=>o.onMap (λes ver=>.new (.mapIter m ver es .junk) λi=>k (.ptr i Nat.zero)) (.fail 136)))
  ((c.ev x).onStr (λs=>QK P t 3 (.new (.strIter s Nat.zero) λi=>k (.ptr i Nat.zero))) (.fail 137))
def qL5 (i:Nat) (k:KV):FM:=.set i .tomb (k (.tuple [.bool false]))
def qE9 (i m ver:Nat) (e:AV × AV) (left:List (AV × AV)) (k:KV):FM :=
 .set i (.mapIter m ver left (.tuple [e.1,e.2])) (k (.tuple [.bool true,e.1,e.2]))
def nxMap (i m ver:Nat) (left:List (AV × AV)) (k:KV):FM :=
 .get m λo=>o.onMap (λ_ v=>cnd (Nat.beq v ver)
  (List.rec (motive:=λ_=>FM) (qL5 i k) (λe t _=>List.rec (motive:=λ_=>FM) (qE9 i m ver e [] k)
   (λ_ _ _=>Jf left Nat.zero λn=>.choose n λj=>Qj (nthL left j) (.fail 138) λe=>qMf left j λleft'=>qE9 i m ver e left' k) t) left)
  (.fail 139)) (.fail 140)
def nxStr (i:Nat) (s:List Nat) (pos:Nat) (k:KV):FM :=
 Option.rec (motive:=λ_=>FM) (qL5 i k) (λb=>cnd (ltb b 128) (Qc (Nat.succ pos) λp=>.set i (.strIter s p) (k (.tuple [.bool true,.int .i64 (.ofNat pos),.int .i32 (.ofNat b)]))) (.fail 141)) (nthL s pos)
def oNext (it:Operand) (s:Bool):OpK:=λc k _ _ =>
 (c.ev it).onPtr (λi o=>cnd (Nat.beq o Nat.zero) (.get i λx=>cnd s (x.onStrIter (λs pos=>nxStr i s pos k) (.fail 142)) (x.onMapIter (λm ver left _=>nxMap i m ver left k) (qL5 i k) (.fail 142))) (.fail 143)) (.fail 143)
def jEs (it:Operand):OpK:=λc k _ _ =>
 (c.ev it).onPtr (λi o=>cnd (Nat.beq o Nat.zero) (.get i λx=>x.onMapIter (λm ver _ cur=>.get m λo'=>o'.onMap (λ_ v=>cnd (Nat.beq v ver) (cur.onTuple (λl=>k (.tuple l)) (.fail 144)) (.fail 144)) (.fail 145)) (.fail 146) (.fail 146)) (.fail 147)) (.fail 147)
def jE (want:Array (String × TypeId)) (t:TypeId):Option Bool:=match P.info? t with
 | some ti=>some (want.toList.all λ(n,s)=>ti.methods.any λm=>m.name == n && m.sig == s)
 | none=>none
def jb (as:TypeId) (ok r:Bool) (v:AV) (k:KV):FM :=
 cnd r (cnd ok (k (.tuple [v,.bool true])) (k v)) (cnd ok (qGd P as λz=>k (.tuple [z,.bool false])) (.fail 148))
def qJ2 (x:Operand) (_xt as:TypeId) (ok:Bool):OpK:=λc k _ _ =>
 cnd (Nat.beq (Qd P as) 0) (.fail 149) ((c.ev x).onIfaceN (jb P as ok false .junk k)
  (λt v=>Option.rec (motive:=λ_=>FM) (jb P as ok (Nat.beq t as) v k)
   (λwant=>Qj (jE P want t) (.fail 149) λr=>jb P as ok r (.iface t v) k) (qJf P as)) (.fail 150))
def qP0 (t:Operand) (ix:Nat):OpK:=λc k _ _=>(c.ev t).onTuple (λvs=>Qj (nthL vs ix) (.fail 151) k) (.fail 152)
def bltK (b:Builtin) (l:List AV) (ts:Array TypeId) (k:KV):FM :=
 Builtin.rec (motive:=λ_=>FM) (jFj P l ts k) (blCap P l ts k) (blClear P l ts k) (.fail 154) (.fail 154) (blCopy P l ts k) (jFi P l ts k) (.fail 154) (blLen P l ts k) (.fail 154) (blMax l ts k) (blMin l ts k)
  (.fail 154) (.fail 154) (.fail 154) (.fail 154) (.fail 154) (.fail 154) (.fail 154) (.fail 154) (.fail 154) (.fail 154) (.fail 154) (.fail 154) (.fail 154) (.fail 154) b
def oCall (cl:Call):OpK:=λc k _ kp =>
 Callee.rec (motive:=λ_=>FM)
  (λf=>(c.ev f).onFunc (λg first captured=>Jj first (c.evs cl.args.toList) λl=>qN8 P c.call c.round g l captured k kp) (.fail 153))
  (λr name=>qEz P c.call (c.ev r) name (c.evs cl.args.toList) k kp)
  (λb=>bltK P b (c.evs cl.args.toList) cl.argTypes k) cl.callee
def jEt (cl:Call):OpK:=λc _ kd _ =>
 Callee.rec (motive:=λ_=>FM) (λf=>(c.ev f).onFunc (λg first captured=>Jj first (c.evs cl.args.toList) λl=>afnM g (λ_=>Jj l captured λl'=>kd ⟨g,l'⟩) (λ_=>.fail 155) (λ_=>.fail 155) (.fail 155)) (.fail 155)) (λ_ _=>.fail 156) (λ_=>.fail 156) cl.callee
def oPanic (x:Operand):OpK:=λc _ _ kp=>(c.ev x).onIface (λt v=>kp [(.iface t v,false)]) (.fail 157)
def oNo (w:Nat):OpK:=λ_ _ _ _=>.fail w
def opK (o:Op):OpK :=
 Op.rec (motive:=λ_=>OpK) oMove oMove oPick (oAlloc P) oBox (qZl P) (qJ3 P) (oUpdate P) (oLoad P) (jEo P) (λ_=>oNo 210) (λ_=>oNo 211) qL4 (oBinOp P) oUnOp (oConvert P)
  (λ_ _=>oNo 216) (qFv P) qR0 (qWr P) (λ_ _=>oNo 220) (qNm P) (oSlice P) (qI2 P) (jEr P) (qI1 P) (jEq P) (oLookup P) (oUpdate P)
  (λ_ _ _=>oNo 229) (λ_ _ _ _=>oNo 230) (jEp P) oNext jEs (qJ2 P) qP0 (oCall P) (λ_=>oNo 237) jEt oPanic (λ_ _=>oNo 240) (λ_ _ _=>oNo 241) (λ_ _=>oNo 242) o
end
end Go.X
namespace Go.X
section
variable (P:Program)
structure LH where
 junk:List Nat
 its:List Nat
 win:Nat
structure qI where
 loop:FuncId->Option LH
 join:FuncId->Nat
abbrev qm:=FuncId->Option (List AV->KV->(QD->FM)->FM)
def putDst (N:Nat) (dst:Option Tmp) (v:AV) (st:St) (k:St->FM):FM :=
 Option.rec (motive:=λ_=>FM) (k st) (λs=>cnd (ltb s N) (TT.putK s v st.tmps λt=>k ⟨t,st.defers,st.u⟩) (.fail 158)) dst
def guardOf (ops:Array Oper) (o:Oper):Option (Option Tmp × Bool):=match o.guard with
 | none=>none
 | some (j,w)=>match ops[j]? with | some x=>some (x.dst,w) | none=>some (none,w)
def qOt (want:Bool) (v:AV) (k:Bool->FM):FM :=
 v.onBool (λb=>k (cnd b want (cnd want false true))) (v.onTuple (λ_=>k false) (.fail 159))
def jf (ops:Array Oper) (t:TT) (o:Oper) (k:Bool->FM):FM :=
 Option.rec (motive:=λ_=>FM) (k true) (λg=>Option.rec (motive:=λ_=>FM) (k false) (λs=>cnd (ltb s 4096) (qOt g.2 (TT.at s t) k) (.fail 159)) g.1) (guardOf ops o)
def xOps (call:Qw) (round:Qs) (N:Nat) (dok:Bool) (ops:Array Oper) (l:List Oper):St->(St->FM)->(St->QD->FM)->FM :=
 List.rec (motive:=λ_=>St->(St->FM)->(St->QD->FM)->FM) (λst k _=>k st)
  (λo _ ih st k kp=>jf ops st.tmps o λb=>cnd b
   (opK P o.op ⟨call,round,st.tmps,P.globals.size⟩ (λv=>putDst N o.dst v st λst'=>ih st' k kp)
    (λd=>cnd dok (putDst N o.dst (.tuple []) ⟨st.tmps,d::st.defers,st.u⟩ λst'=>ih st' k kp) (.fail 157)) (kp st))
   (putDst N o.dst (.tuple []) st λst'=>ih st' k kp)) l
def QU (ops:Array Oper) (i:Nat):Oper:=ops.getD i default
def qSe (ops:Array Oper) (i:Nat):List Nat:=match guardOf ops (QU ops i) with | some (some s,_)=>[s] | _=>[]
def slotsOf (ops:Array Oper) (i:Nat):List Nat :=
 qSe ops i++(QU ops i).op.operands.toList.filterMap fun | .tmp t=>some t | _=>none
def QL (ops:Array Oper) (i:Nat):Option Nat:=(QU ops i).dst
def befL:List Oper->List Nat->List Nat
 | [],acc=>acc
 | o::r,acc=>befL r (acc++[o.after.toList.foldl (λs e=>if Region.binds .any e then s ||| 2 ^ e.on ||| acc.getD e.on 0 else s) 0])
def qPo (ops:Array Oper):List Nat:=befL ops.toList []
def ordL (ms:List Nat) (j i:Nat):Bool:=(ms.getD i 0).testBit j
def qOd (N:Nat) (ops:Array Oper):Bool :=
 ops.toList.zipIdx.all λ(o,i)=>(o.after.toList.all λe=>!Region.binds .any e || decide (e.on<i)) && (match o.dst with | some s=>decide (s<N) | none=>true) && (slotsOf ops i).all λs=>decide (s<4096)
def fillT (sl:List Nat):List AV->TT->(TT->FM)->FM :=
 List.rec (motive:=λ_=>List AV->TT->(TT->FM)->FM) (λ_ t k=>k t)
  (λs _ ih vs t k=>List.rec (motive:=λ_=>FM) (.fail 150) (λv r _=>TT.putK s v t λt'=>ih r t' k) vs) sl
def qLi (call:Qw) (round:Qs) (ops:Array Oper) (i:Nat) (vs:List AV):FM :=
 fillT (slotsOf ops i) vs TT.undef λt=>jf ops t (QU ops i) λb=>cnd b
  (opK P (QU ops i).op ⟨call,round,t,P.globals.size⟩ (λv=>.ret (.val v)) (λ_=>.fail 155) (λ_=>.fail 156)) (.ret (.val (.tuple [])))
def qQk (call:Qw) (round:Qs) (N:Nat) (dok:Bool) (ops:Array Oper) (draw:Bool) (st:St) (k:St->FM) (kp:St->QD->FM):FM :=
 cnd draw (cnd (qOd N ops) (.regn ops.size (ordL (qPo ops)) (slotsOf ops) (QL ops) (qLi P call round ops) st k) (.fail 154))
  (xOps P call round N dok ops ops.toList st k kp)
def jC2 (ops:Array Oper):Bool:=cnd (Nat.beq ops.size 0) false (Nat.beq ((qPo ops).getD (Nat.pred ops.size) 0) (2 ^ Nat.pred ops.size-1))
def jEc (call:Qw) (round:Qs) (N:Nat) (dok:Bool) (ops:Array Oper) (draw:Bool) (st:St) (k:St->FM) (kp:St->QD->FM):FM :=
 cnd (cnd draw (cnd (qOd N ops) (jC2 ops) false) false)
  (.regn (Nat.pred ops.size) (ordL (qPo ops)) (slotsOf ops) (QL ops) (qLi P call round ops) st λst'=>xOps P call round N dok ops (ops.toList.drop (Nat.pred ops.size)) st' k kp)
  (qQk P call round N dok ops draw st k kp)
def extsL (n:Nat) (ord:Nat->Nat->Bool) (fuel:Nat):List Nat->List (List Nat) :=
 Nat.rec (motive:=λ_=>List Nat->List (List Nat)) (λ_=>[[]]) (λ_ ih done =>
  (List.range n).flatMap λi=>cnd (done.contains i) [] (cnd ((List.range n).all λj=>!ord j i || done.contains j) ((ih (done++[i])).map (i::·)) [])) fuel
def qY6 (ops:Array Oper):List (List Nat):=extsL ops.size (ordL (qPo ops)) ops.size []
def panF (H:qI) (f:Operand):Bool:=match f with | .func g=>Nat.beq (H.join g) 4 | _=>false
def panOp (H:qI) (o:Oper):Bool:=match o.op with
 | .call c=>(match c.callee with | .value f=>panF H f | _=>false)
 | .panic _=>true
 | _=>false
def jEd (H:qI) (call:Qw) (round:Qs) (N:Nat) (dok:Bool) (ops:Array Oper) (draw:Bool) (st:St) (k:St->FM) (kp:St->QD->FM):FM :=
 cnd (cnd draw (cnd (qOd N ops) (ops.toList.any (panOp H)) false) false)
  (.choose (qY6 ops).length λi=>xOps P call round N dok ops (((qY6 ops).getD i []).map (QU ops)) st k kp)
  (qQk P call round N dok ops draw st k kp)
abbrev KC:=qd->St->FM
abbrev qKo:=St->KC->FM
def jk (e:qd) (st:St) (k:St->FM) (ke:KC):FM :=
 qd.rec (motive:=λ_=>FM) (k st) (λi=>ke (.exit i) st) (λl=>ke (.goto l) st) (ke .ret st) (λch=>ke (.panic ch) st) e
def qP3 (id:Nat) (e:qd) (st:St) (ke:KC):FM :=
 qd.rec (motive:=λ_=>FM) (ke .normal st) (λi=>cnd (Nat.beq i id) (ke .normal st) (ke (.exit i) st)) (λl=>ke (.goto l) st) (ke .ret st) (λch=>ke (.panic ch) st) e
def jF2 (body:qKo) (n:Nat):qKo :=
 Nat.rec (motive:=λ_=>qKo) (λ_ _=>.fail 200) (λ_ ih st k=>body st λe st'=>jk e st' (λst2=>ih st2 k) k) n
def junkK (l:List Nat):TT->(TT->FM)->FM :=
 List.rec (motive:=λ_=>TT->(TT->FM)->FM) (λt k=>k t) (λs _ ih t k=>cnd (ltb s 4096) (TT.putK s .junk t λt'=>ih t' k) (.fail 199)) l
def dropO (a w:Nat) (m:FM):FM:=cnd (Nat.beq w Nat.zero) m (.drop a w m)
def curK (t:TT) (l:List Nat) (m:FM):FM :=
 List.rec (motive:=λ_=>FM) m (λs _ ih=>(TT.at s t).onPtr (λi _=>.get i λo=>o.onMapIter (λm ver left _=>.set i (.mapIter m ver left .junk) ih) ih ih) ih) l
def xLoopM (body:qKo) (n:Nat) (jw:LH):qKo:=λst k =>
 .loop n (λs=>.here λa=>body s λe s'=>curK s'.tmps jw.its (junkK jw.junk s'.tmps λt=>dropO a jw.win (.ret (.st e ⟨t,s'.defers,s'.u⟩)))) st λe s=>k e s
def xLoops (H:qI) (fn:FuncId) (body:qKo) (n:Nat):qKo :=
 Option.rec (motive:=λ_=>qKo) (jF2 body n) (λjw=>xLoopM body n jw) (H.loop fn)
def qMh (l:Nat) (st:St) (k:KC):FM :=
 .get l λo=>o.onLoop (λr=>LSt.rec (motive:=λ_=>FM) (.set l .tomb (k r.pending st)) (.fail 202) (.set l .tomb (k r.pending st)) (.fail 202) r.state) (.fail 203)
def qZ8 (call:Qw) (round:Qs) (N:Nat) (fn:FuncId) (f:AFn) (first captured:List AV) (params:Array Tmp) (assign body:Code) (t:TT) (dblock:Nat) (st':St) (k:KC):FM :=
 .new (.loop ⟨.ready,.normal,fn,t,N::params.toList,assign,body,dblock⟩) λl =>
  Jj first [.func (.yield l) [] []] λargs=>afnM f (λg=>Jj args captured λas=>cnd (qn P g) (call g as (λ_=>qMh l st' k) (λ_=>.fail 204)) (.fail 204)) (λ_=>.fail 204) (λ_=>.fail 204) (.fail 204)
def xRange (call:Qw) (round:Qs) (N:Nat) (fn:FuncId) (cur:Option Nat) (g:Operand) (params:Array Tmp) (assign body:Code):qKo:=λst k =>
 (qSl P.globals.size st.tmps g).onFunc (λf first captured =>
  Option.rec (motive:=λ_=>FM)
   (.new (.deferred (some [])) λb=>qZ8 P call round N fn f first captured params assign body st.tmps b ⟨st.tmps,⟨.yield b,[]⟩::st.defers,st.u⟩ k)
   (λl=>.get l λo=>o.onLoop (λr=>qZ8 P call round N fn f first captured params assign body st.tmps r.defers st k) (.fail 205)) cur) (.fail 201)
def qt (call:Qw) (round:Qs) (H:qI) (fn:FuncId) (N:Nat) (cur:Option Nat) (lf:Nat) (c:Code):qKo :=
 Code.rec (motive:=λ_=>qKo)
  (λst k=>k .normal st)
  (λ_ ops draw st k=>cnd (Nat.beq (H.join fn) 3) (jEc P call round N (Option.rec (motive:=λ_=>Bool) true (λ_=>false) cur) ops draw st (λst'=>k .normal st') (λst' ch=>k (.panic ch) st')) (cnd (Nat.beq (H.join fn) 4) (jEd P H call round N (Option.rec (motive:=λ_=>Bool) true (λ_=>false) cur) ops draw st (λst'=>k .normal st') (λst' ch=>k (.panic ch) st')) (qQk P call round N (Option.rec (motive:=λ_=>Bool) true (λ_=>false) cur) ops draw st (λst'=>k .normal st') (λst' ch=>k (.panic ch) st'))))
  (λ_ _ ia ib st k=>ia st λe st'=>jk e st' (λst2=>ib st2 k) k)
  (λx _ _ it ie st k=>(qSl P.globals.size st.tmps x).onBool (λb=>cnd b (it st k) (ie st k)) (.fail 206))
  (λid _ ib st k=>ib st λe st'=>qP3 id e st' k)
  (λ_ ib=>xLoops H fn ib lf)
  (λg params assign body _ _=>xRange P call round N fn cur g params assign body)
  (λid st k=>k (.exit id) st)
  (λ_ _ _ _=>.fail 207)
  (λ_ st k=>k .normal st)
  (λl st k=>k (.goto l) st)
  (λst k=>k .ret st)
  (λ_ _ _=>.fail 208)
  c
def qTn (N:Nat) (ps:List Tmp):List AV->TT->(TT->FM)->FM :=
 List.rec (motive:=λ_=>List AV->TT->(TT->FM)->FM) (λas t k=>List.rec (motive:=λ_=>FM) (k t) (λ_ _ _=>.fail 174) as)
  (λp _ ih as t k=>List.rec (motive:=λ_=>FM) (.fail 174) (λa as' _=>cnd (ltb p N) (TT.putK p a t λt'=>ih as' t' k) (.fail 174)) as) ps
def ALoop.with (r:ALoop) (s:LSt) (e:qd):Q4:=.loop ⟨s,e,r.fn,r.tmps,r.params,r.assign,r.body,r.defers⟩
def Jy (l:Nat) (k:KV) (e:qd):FM :=
 .get l λo=>o.onLoop (λr =>
  qd.rec (motive:=λ_=>FM)
   (.set l (r.with .ready .normal) (k (.bool true)))
   (λi=>.set l (r.with .done (.exit i)) (k (.bool false)))
   (λ_=>.fail 175)
   (.set l (r.with .done .ret) (k (.bool false)))
   (λ_=>.fail 176) e) (.fail 177)
def xRound (call:Qw) (round:Qs) (H:qI) (lf:Nat):Qs:=λl args k =>
 .get l λo=>o.onLoop (λr=>List.rec (motive:=λ_=>FM) (.fail 178) (λN ps _ =>
  qTn N ps args r.tmps λt =>
  qt P call round H r.fn N (some l) lf r.assign ⟨t,[],.na⟩ λe st=>jk e st
   (λst'=>.get l λo'=>o'.onLoop (λr' =>
    LSt.rec (motive:=λ_=>FM)
     (.set l (r'.with .busy r'.pending) (qt P call round H r.fn N (some l) lf r.body st' λe2 _=>Jy l k e2))
     (.fail 170) (.fail 170) (.fail 170) r'.state) (.fail 171)) (λ_ _=>.fail 172)) r.params) (.fail 173)
def jB1 (t:TT) (r:ResultVar) (k:KV):FM :=
 ResultVar.rec (motive:=λ_=>FM) (λs=>cnd (ltb s 4096) (k (TT.at s t)) (.fail 208)) (λa ty=>cnd (ltb a 4096) ((TT.at a t).onPtr (λi o=>qPp P ty i o k) (.fail 209)) (.fail 208)) r
def qR (t:TT) (l:List ResultVar):(List AV->FM)->FM :=
 List.rec (motive:=λ_=>(List AV->FM)->FM) (λk=>k []) (λr _ ih k=>jB1 P t r λv=>ih λvs=>k (v::vs)) l
def results1 (vs:List AV) (k:KV):FM :=
 List.rec (motive:=λ_=>FM) (k (.tuple [])) (λv t _=>List.rec (motive:=λ_=>FM) (k v) (λ_ _ _=>k (.tuple vs)) t) vs
def qQs (u:QY):QY :=
 QY.rec (motive:=λ_=>QY) .na .returning (λch=>List.rec (motive:=λ_=>QY) u (λe _ _=>cnd e.2 .returning u) ch) u
def raisedA (u:QY) (ch:QD):QY :=
 QY.rec (motive:=λ_=>QY) (.panicking ch) (.panicking ch) (λold=>.panicking (ch++old)) u
def qV4 (u:QY) (k:AV->QY->FM):FM :=
 QY.rec (motive:=λ_=>FM) (.fail 196) (k .nilIface u)
  (λch=>List.rec (motive:=λ_=>FM) (k .nilIface u) (λe older _=>cnd e.2 (k .nilIface u) (k e.1 (.panicking ((e.1,true)::older)))) ch) u
def recOp (o:Oper):Option (Option Tmp):=match o.guard,o.op with
 | none,.call c=>match c.callee with | .builtin .recover=>some o.dst | _=>none
 | _,_=>none
def recOf (c:Code):Option (Option Tmp × Array Oper × List Oper × Code):=match c with
 | .seq (.region _ ops false) rest=>match ops.toList with
  | o::os=>match recOp o with | some d=>some (d,ops,os,rest) | none=>none
  | _=>none
 | _=>none
def qL6 (l:List qk) (m:FM):FM:=List.rec (motive:=λ_=>FM) m (λ_ _ _=>.fail 198) l
def qNw (fn:Func) (u:QY) (k:QY->FM):KC:=λe st =>
 qL6 st.defers (qd.rec (motive:=λ_=>FM)
  (qR P st.tmps fn.results.toList λ_=>k (qQs u)) (λ_=>.fail 195) (λ_=>.fail 195)
  (qR P st.tmps fn.results.toList λ_=>k (qQs u)) (λch=>k (raisedA u ch)) e)
def qXo (N:Nat) (args:List AV) (k:TT->FM):FM :=
 cnd (Nat.ble N 4096) (Jf args Nat.zero λn=>cnd (Nat.ble n N) (TT.args args Nat.zero TT.undef k) (.fail 165)) (.fail 164)
def xDefer (call:Qw) (round:Qs) (H:qI) (lf:Nat) (f:FuncId) (args:List AV) (u:QY) (k:QY->FM):FM :=
 cnd (qn P f) (Qj P.funcs[f]? (.fail 160) λfn=>Qj fn.body (.fail 160) λc=>qXo fn.ntmps args λt =>
  Option.rec (motive:=λ_=>FM) (qt P call round H f fn.ntmps none lf c ⟨t,[],.na⟩ (qNw P fn u k))
   (λdr=>qV4 u λv u'=>putDst fn.ntmps dr.1 v ⟨t,[],.na⟩ λst=>xOps P call round fn.ntmps true dr.2.1 dr.2.2.1 st (λst'=>qt P call round H f fn.ntmps none lf dr.2.2.2 st' (qNw P fn u' k)) (λst' ch=>qNw P fn u' k (.panic ch) st')) (recOf c)) (.fail 193)
def qFt (call:Qw) (round:Qs) (H:qI) (lf:Nat) (ds:List qk):QY->(QY->FM)->FM :=
 List.rec (motive:=λ_=>QY->(QY->FM)->FM) (λu k=>k u)
  (λe _ ih u k=>afnM e.fn (λg=>xDefer P call round H lf g e.args u λu'=>ih u' k) (λ_=>.fail 191)
   (λb=>.get b λo=>o.onDeferred (λl=>qL6 l (.set b .tomb (ih u k))) (.fail 192)) (.fail 193)) ds
def endK (fn:Func) (t:TT) (k:KV) (kp:QD->FM) (u:QY):FM :=
 QY.rec (motive:=λ_=>FM) (.fail 194) (qR P t fn.results.toList λvs=>results1 vs k) kp u
def qG9 (call:Qw) (round:Qs) (H:qI) (lf:Nat) (fn:Func) (k:KV) (kp:QD->FM):KC:=λe st =>
 qd.rec (motive:=λ_=>FM)
  (qFt P call round H lf st.defers .returning (endK P fn st.tmps k kp)) (λ_=>.fail 195) (λ_=>.fail 195)
  (qFt P call round H lf st.defers .returning (endK P fn st.tmps k kp))
  (λch=>qFt P call round H lf st.defers (.panicking ch) (endK P fn st.tmps k kp)) e
def qS8 (H:qI) (lf:Nat) (call:Qw) (round:Qs):Qw:=λf args k kp =>
 Qj P.funcs[f]? (.fail 160) λfn=>Qj fn.body (.fail 160) λc=>qXo fn.ntmps args λt =>
  qt P call round H f fn.ntmps none lf c ⟨t,[],.na⟩ (qG9 P call round H lf fn k kp)
def ownOf (v:AV) (i:Nat):Bool :=
 AV.rec (motive_1:=λ_=>Bool) (motive_2:=λ_=>PUnit) false (λ_=>false) (λ_ _=>false) (λ_=>false) false (λj _=>Nat.beq i j) false (λj _ _ _ _=>Nat.beq i j) false false (λj=>Nat.beq i j) (λ_ _ _ _ _=>false) false (λ_ _ _=>false) false (λ_ _=>false) (λ_ _=>false) PUnit.unit (λ_ _ _ _=>PUnit.unit) v
def gcK (a:Nat) (v:AV) (n:Nat) (m:FM):FM :=
 Nat.rec (motive:=λ_=>FM) m (λj ih=>cnd (ownOf v (Nat.add a j)) ih (Qc (Nat.add a j) λi=>.set i .tomb ih)) n
def jC4 (call:Qw):Qw:=λf args k kp=>.here λa =>
 .join (call f args (λv=>.here λb=>gcK a v (Nat.sub b a) (.ret (.val v))) (λch=>.ret (.pan ch .na))) λr=>Res.rec (motive:=λ_=>FM) k (λ_ _=>.fail 167) (λ_ _=>.fail 167) (λch _=>kp ch) r
def jEz (call:Qw):Qw:=λf args k kp =>
 .join (call f args (λv=>.ret (.val v)) (λch=>.ret (.pan ch .na))) λr=>Res.rec (motive:=λ_=>FM) k (λ_ _=>.fail 167) (λ_ _=>.fail 167) (λch _=>kp ch) r
def jEe (H:qI) (sums:qm) (lf:Nat) (call:Qw) (round:Qs):Qw:=λf args k kp =>
 Option.rec (motive:=λ_=>FM) (cnd (cnd (Nat.beq (H.join f) 3) true (cnd (Nat.beq (H.join f) 4) true (Nat.beq (H.join f) 0))) (qS8 P H lf call round f args k kp) (cnd (Nat.beq (H.join f) 1) (jEz (qS8 P H lf call round) f args k kp) (jC4 (qS8 P H lf call round) f args k kp))) (λs=>s args k kp) (sums f)
structure CR where
 call:Qw
 round:Qs
def xCR (H:qI) (sums:qm) (lf:Nat) (n:Nat):CR :=
 Nat.rec (motive:=λ_=>CR) ⟨λ_ _ _ _=>.fail 161,λ_ _ _=>.fail 162⟩
  (λ_ ih=>⟨jEe P H sums lf ih.call ih.round,xRound P ih.call ih.round H lf⟩) n
def qVo (H:qI) (sums:qm) (lf n:Nat) (f:FuncId) (args:List AV):FM :=
 (xCR P H sums lf n).call f args (λv=>.ret (.val v)) (λ_=>.fail 163)
end
end Go.X
namespace Go.X
def bit (n:Nat):Nat:=2 ^ n
def qY7 (l:List Nat):Nat:=l.foldl (λs n=>s ||| bit n) 0
def tmpsOf (l:List Operand):List Nat:=l.filterMap fun | .tmp t=>some t | _=>none
def jBu (m k:Nat):Nat:=m ^^^ (m &&& k)
def liveOps (ops:Array Oper) (out:Nat):Nat :=
 ops.toList.reverse.foldl (λs o=>(match o.dst with | some d=>jBu s (bit d) | none=>s) ||| qY7 (tmpsOf o.op.operands.toList) |||
  (match guardOf ops o with | some (some g,_)=>bit g | _=>0)) out
def J1:Code->Nat
 | .region _ ops _=>ops.toList.foldl (λs o=>s ||| qY7 (tmpsOf o.op.operands.toList) ||| (match o.dst with | some d=>bit d | none=>0)) 0
 | .seq a b=>J1 a ||| J1 b
 | .cond x a b=>qY7 (tmpsOf [x]) ||| J1 a ||| J1 b
 | .block _ c | .loop c | .scope c=>J1 c
 | .rangeFunc g ps a c=>qY7 (tmpsOf [g]) ||| qY7 ps.toList ||| J1 a ||| J1 c
 | _=>0
def look (ends:List (Nat × Nat)) (id:Nat):Nat:=match ends.find? (·.1 == id) with | some e=>e.2 | none=>0
def qSa (ret:Nat):Code->Nat->List (Nat × Nat)->Nat
 | .region _ ops _,out,_=>liveOps ops out
 | .seq a b,out,ends=>qSa ret a (qSa ret b out ends) ends
 | .cond x a b,out,ends=>qY7 (tmpsOf [x]) ||| qSa ret a out ends ||| qSa ret b out ends
 | .block id c,out,ends=>qSa ret c out ((id,out)::ends)
 | .loop c,_,ends=>let l1:=qSa ret c 0 ends;let l2:=qSa ret c l1 ends ||| l1;qSa ret c l2 ends ||| l2
 | .rangeFunc g ps a c,out,_=>out ||| qY7 (tmpsOf [g]) ||| qY7 ps.toList ||| J1 a ||| J1 c ||| ret
 | .exit id,_,ends=>look ends id
 | .ret,_,_=>ret
 | _,out,_=>out
def hasNext:Code->Bool
 | .region _ ops _=>ops.toList.any λo=>match o.op with | .next _ false=>true | _=>false
 | .seq a b=>hasNext a || hasNext b
 | .cond _ a b=>hasNext a || hasNext b
 | .block _ c | .loop c | .scope c=>hasNext c
 | .rangeFunc _ _ a c=>hasNext a || hasNext c
 | _=>false
def jC3 (ret:Nat):Code->Nat->List (Nat × Nat)->Nat
 | .seq a b,out,ends=>jC3 ret a (qSa ret b out ends) ends ||| jC3 ret b out ends
 | .cond _ a b,out,ends=>jC3 ret a out ends ||| jC3 ret b out ends
 | .block id c,out,ends=>jC3 ret c out ((id,out)::ends)
 | .loop c,out,ends=>if hasNext c then qSa ret (.loop c) out ends ||| ends.foldl (λs e=>s ||| e.2) ret ||| jC3 ret c (qSa ret (.loop c) out ends) ends else 0
 | _,_,_=>0
def qOr:Code->Nat
 | .region _ ops _=>ops.toList.foldl (λs o=>match o.op with | .next (.tmp t) false=>s ||| bit t | _=>s) 0
 | .seq a b=>qOr a ||| qOr b
 | .cond _ a b=>qOr a ||| qOr b
 | .block _ c | .loop c | .scope c=>qOr c
 | .rangeFunc _ _ a c=>qOr a ||| qOr c
 | _=>0
def retM (f:Func):Nat:=f.results.toList.foldl (λs r=>match r with | .tmp t=>s ||| bit t | .cell a _=>s ||| bit a) 0
def bitsOf (n m:Nat):List Nat:=(List.range n).filter λi=>m.testBit i
def autoH (f:Func):LH:=match f.body with
 | some c=>⟨bitsOf f.ntmps ((2 ^ f.ntmps-1) ^^^ ((2 ^ f.ntmps-1) &&& jC3 (retM f) c (retM f) [])),bitsOf f.ntmps (qOr c),0⟩
 | none=>⟨[],[],0⟩
end Go.X
