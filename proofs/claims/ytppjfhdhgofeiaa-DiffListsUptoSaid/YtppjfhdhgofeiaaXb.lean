/-
  PROVED: the evaluator of the model's code over abstract values (definitions). No condition.
-/
import Derived.Test.YtppjfhdhgofeiaaXa
noncomputable section
set_option linter.unusedVariables false
set_option linter.unusedSimpArgs false
namespace Go.X
def AV.onBool (w : AV) (kbool : Bool -> FM) (d : FM) : FM :=
  AV.rec (motive_1 := fun _ => FM) (motive_2 := fun _ => PUnit) (d) (fun b => kbool b) (fun _ _ => d) (fun _ => d) (d) (fun _ _ => d) (d) (fun _ _ _ _ _ => d) (d) (d) (fun _ => d) (fun _ _ _ _ _ => d) (d) (fun _ _ _ => d) (d) (fun _ _ => d) (fun _ _ => d) PUnit.unit (fun _ _ _ _ => PUnit.unit) w
def AV.onInt (w : AV) (kint : IntKind -> Int -> FM) (d : FM) : FM :=
  AV.rec (motive_1 := fun _ => FM) (motive_2 := fun _ => PUnit) (d) (fun _ => d) (fun q n => kint q n) (fun _ => d) (d) (fun _ _ => d) (d) (fun _ _ _ _ _ => d) (d) (d) (fun _ => d) (fun _ _ _ _ _ => d) (d) (fun _ _ _ => d) (d) (fun _ _ => d) (fun _ _ => d) PUnit.unit (fun _ _ _ _ => PUnit.unit) w
def AV.onStr (w : AV) (kstr : List Nat -> FM) (d : FM) : FM :=
  AV.rec (motive_1 := fun _ => FM) (motive_2 := fun _ => PUnit) (d) (fun _ => d) (fun _ _ => d) (fun s => kstr s) (d) (fun _ _ => d) (d) (fun _ _ _ _ _ => d) (d) (d) (fun _ => d) (fun _ _ _ _ _ => d) (d) (fun _ _ _ => d) (d) (fun _ _ => d) (fun _ _ => d) PUnit.unit (fun _ _ _ _ => PUnit.unit) w
def AV.onPtr (w : AV) (kptr : Nat -> Nat -> FM) (d : FM) : FM :=
  AV.rec (motive_1 := fun _ => FM) (motive_2 := fun _ => PUnit) (d) (fun _ => d) (fun _ _ => d) (fun _ => d) (d) (fun i o => kptr i o) (d) (fun _ _ _ _ _ => d) (d) (d) (fun _ => d) (fun _ _ _ _ _ => d) (d) (fun _ _ _ => d) (d) (fun _ _ => d) (fun _ _ => d) PUnit.unit (fun _ _ _ _ => PUnit.unit) w
def AV.onMap (w : AV) (kmap : Nat -> FM) (d : FM) : FM :=
  AV.rec (motive_1 := fun _ => FM) (motive_2 := fun _ => PUnit) (d) (fun _ => d) (fun _ _ => d) (fun _ => d) (d) (fun _ _ => d) (d) (fun _ _ _ _ _ => d) (d) (d) (fun i => kmap i) (fun _ _ _ _ _ => d) (d) (fun _ _ _ => d) (d) (fun _ _ => d) (fun _ _ => d) PUnit.unit (fun _ _ _ _ => PUnit.unit) w
def AV.onMapN (w : AV) (knilMap : FM) (kmap : Nat -> FM) (d : FM) : FM :=
  AV.rec (motive_1 := fun _ => FM) (motive_2 := fun _ => PUnit) (d) (fun _ => d) (fun _ _ => d) (fun _ => d) (d) (fun _ _ => d) (d) (fun _ _ _ _ _ => d) (d) (knilMap) (fun i => kmap i) (fun _ _ _ _ _ => d) (d) (fun _ _ _ => d) (d) (fun _ _ => d) (fun _ _ => d) PUnit.unit (fun _ _ _ _ => PUnit.unit) w
def AV.onFunc (w : AV) (kfunc : AFn -> List AV -> List AV -> FM) (d : FM) : FM :=
  AV.rec (motive_1 := fun _ => FM) (motive_2 := fun _ => PUnit) (d) (fun _ => d) (fun _ _ => d) (fun _ => d) (d) (fun _ _ => d) (d) (fun _ _ _ _ _ => d) (d) (d) (fun _ => d) (fun f first captured _ _ => kfunc f first captured) (d) (fun _ _ _ => d) (d) (fun _ _ => d) (fun _ _ => d) PUnit.unit (fun _ _ _ _ => PUnit.unit) w
def AV.onIface (w : AV) (kiface : TypeId -> AV -> FM) (d : FM) : FM :=
  AV.rec (motive_1 := fun _ => FM) (motive_2 := fun _ => PUnit) (d) (fun _ => d) (fun _ _ => d) (fun _ => d) (d) (fun _ _ => d) (d) (fun _ _ _ _ _ => d) (d) (d) (fun _ => d) (fun _ _ _ _ _ => d) (d) (fun t v _ => kiface t v) (d) (fun _ _ => d) (fun _ _ => d) PUnit.unit (fun _ _ _ _ => PUnit.unit) w
def AV.onAgg (w : AV) (kagg : List AV -> FM) (d : FM) : FM :=
  AV.rec (motive_1 := fun _ => FM) (motive_2 := fun _ => PUnit) (d) (fun _ => d) (fun _ _ => d) (fun _ => d) (d) (fun _ _ => d) (d) (fun _ _ _ _ _ => d) (d) (d) (fun _ => d) (fun _ _ _ _ _ => d) (d) (fun _ _ _ => d) (d) (fun cs _ => kagg cs) (fun _ _ => d) PUnit.unit (fun _ _ _ _ => PUnit.unit) w
def AV.onTuple (w : AV) (ktuple : List AV -> FM) (d : FM) : FM :=
  AV.rec (motive_1 := fun _ => FM) (motive_2 := fun _ => PUnit) (d) (fun _ => d) (fun _ _ => d) (fun _ => d) (d) (fun _ _ => d) (d) (fun _ _ _ _ _ => d) (d) (d) (fun _ => d) (fun _ _ _ _ _ => d) (d) (fun _ _ _ => d) (d) (fun _ _ => d) (fun vs _ => ktuple vs) PUnit.unit (fun _ _ _ _ => PUnit.unit) w
def AV.onSlice (w : AV) (knils : FM) (kemp : FM) (kslice : Nat -> Nat -> Nat -> Nat -> Bool -> FM) (d : FM) : FM :=
  AV.rec (motive_1 := fun _ => FM) (motive_2 := fun _ => PUnit) (d) (fun _ => d) (fun _ _ => d) (fun _ => d) (d) (fun _ _ => d) (knils) (fun i o len cap ext => kslice i o len cap ext) (kemp) (d) (fun _ => d) (fun _ _ _ _ _ => d) (d) (fun _ _ _ => d) (d) (fun _ _ => d) (fun _ _ => d) PUnit.unit (fun _ _ _ _ => PUnit.unit) w
def AV.onSeq (w : AV) (kstr : List Nat -> FM) (knils : FM) (kemp : FM) (kslice : Nat -> Nat -> Nat -> Nat -> Bool -> FM) (d : FM) : FM :=
  AV.rec (motive_1 := fun _ => FM) (motive_2 := fun _ => PUnit) (d) (fun _ => d) (fun _ _ => d) (fun s => kstr s) (d) (fun _ _ => d) (knils) (fun i o len cap ext => kslice i o len cap ext) (kemp) (d) (fun _ => d) (fun _ _ _ _ _ => d) (d) (fun _ _ _ => d) (d) (fun _ _ => d) (fun _ _ => d) PUnit.unit (fun _ _ _ _ => PUnit.unit) w
def AV.onIfaceN (w : AV) (knilIface : FM) (kiface : TypeId -> AV -> FM) (d : FM) : FM :=
  AV.rec (motive_1 := fun _ => FM) (motive_2 := fun _ => PUnit) (d) (fun _ => d) (fun _ _ => d) (fun _ => d) (d) (fun _ _ => d) (d) (fun _ _ _ _ _ => d) (d) (d) (fun _ => d) (fun _ _ _ _ _ => d) (d) (fun t v _ => kiface t v) (knilIface) (fun _ _ => d) (fun _ _ => d) PUnit.unit (fun _ _ _ _ => PUnit.unit) w
def AV.onIntStr (w : AV) (kint : IntKind -> Int -> FM) (kstr : List Nat -> FM) (d : FM) : FM :=
  AV.rec (motive_1 := fun _ => FM) (motive_2 := fun _ => PUnit) (d) (fun _ => d) (fun q n => kint q n) (fun s => kstr s) (d) (fun _ _ => d) (d) (fun _ _ _ _ _ => d) (d) (d) (fun _ => d) (fun _ _ _ _ _ => d) (d) (fun _ _ _ => d) (d) (fun _ _ => d) (fun _ _ => d) PUnit.unit (fun _ _ _ _ => PUnit.unit) w
def AV.onSlicePtr (w : AV) (kslice : Nat -> Nat -> Nat -> Nat -> Bool -> FM) (kptr : Nat -> Nat -> FM) (d : FM) : FM :=
  AV.rec (motive_1 := fun _ => FM) (motive_2 := fun _ => PUnit) (d) (fun _ => d) (fun _ _ => d) (fun _ => d) (d) (fun i o => kptr i o) (d) (fun i o len cap ext => kslice i o len cap ext) (d) (d) (fun _ => d) (fun _ _ _ _ _ => d) (d) (fun _ _ _ => d) (d) (fun _ _ => d) (fun _ _ => d) PUnit.unit (fun _ _ _ _ => PUnit.unit) w
def AV.onStrAgg (w : AV) (kstr : List Nat -> FM) (kagg : List AV -> FM) (d : FM) : FM :=
  AV.rec (motive_1 := fun _ => FM) (motive_2 := fun _ => PUnit) (d) (fun _ => d) (fun _ _ => d) (fun s => kstr s) (d) (fun _ _ => d) (d) (fun _ _ _ _ _ => d) (d) (d) (fun _ => d) (fun _ _ _ _ _ => d) (d) (fun _ _ _ => d) (d) (fun cs _ => kagg cs) (fun _ _ => d) PUnit.unit (fun _ _ _ _ => PUnit.unit) w
def AV.lenO (w : AV) : Option Nat :=
  AV.rec (motive_1 := fun _ => Option Nat) (motive_2 := fun _ => PUnit) (none) (fun _ => none) (fun _ _ => none) (fun s => some s.length) (none) (fun _ _ => none) (some Nat.zero) (fun i o len cap ext => some len) (some Nat.zero) (none) (fun _ => none) (fun _ _ _ _ _ => none) (none) (fun _ _ _ => none) (none) (fun _ _ => none) (fun _ _ => none) PUnit.unit (fun _ _ _ _ => PUnit.unit) w
def AV.cellsK (w : AV) (k : List AV -> FM) : FM :=
  AV.rec (motive_1 := fun _ => FM) (motive_2 := fun _ => PUnit) (.fail 16) (fun _ => k [w]) (fun _ _ => k [w]) (fun _ => k [w]) (k [w]) (fun _ _ => k [w]) (k [w]) (fun _ _ _ _ _ => k [w]) (k [w]) (k [w]) (fun _ => k [w]) (fun _ _ _ _ _ => k [w]) (k [w]) (fun _ _ _ => k [w]) (k [w]) (fun cs _ => k cs) (fun _ _ => k [w]) PUnit.unit (fun _ _ _ _ => PUnit.unit) w
def AV.plainC (w : AV) : Bool :=
  AV.rec (motive_1 := fun _ => Bool) (motive_2 := fun _ => PUnit) (false) (fun _ => true) (fun _ _ => true) (fun _ => true) (true) (fun _ _ => true) (true) (fun _ _ _ _ _ => true) (true) (true) (fun _ => true) (fun _ _ _ _ _ => true) (true) (fun _ _ _ => true) (true) (fun _ _ => false) (fun _ _ => false) PUnit.unit (fun _ _ _ _ => PUnit.unit) w
def QL (l : List AV) : Bool := List.rec (motive := fun _ => Bool) true (fun v _ ih => cnd v.plainC ih false) l
def AV.isNilp (w : AV) : Bool :=
  AV.rec (motive_1 := fun _ => Bool) (motive_2 := fun _ => PUnit) (false) (fun _ => false) (fun _ _ => false) (fun _ => false) (true) (fun _ _ => false) (false) (fun _ _ _ _ _ => false) (false) (false) (fun _ => false) (fun _ _ _ _ _ => false) (false) (fun _ _ _ => false) (false) (fun _ _ => false) (fun _ _ => false) PUnit.unit (fun _ _ _ _ => PUnit.unit) w
def AV.onFuncN (w : AV) (knilFunc : FM) (kfunc : AFn -> List AV -> List AV -> FM) (d : FM) : FM :=
  AV.rec (motive_1 := fun _ => FM) (motive_2 := fun _ => PUnit) (d) (fun _ => d) (fun _ _ => d) (fun _ => d) (d) (fun _ _ => d) (d) (fun _ _ _ _ _ => d) (d) (d) (fun _ => d) (fun f first captured _ _ => kfunc f first captured) (knilFunc) (fun _ _ _ => d) (d) (fun _ _ => d) (fun _ _ => d) PUnit.unit (fun _ _ _ _ => PUnit.unit) w
def AV.onNat (w : AV) (k : Nat -> FM) (d : FM) : FM := w.onInt (fun _ n => Int.rec (motive := fun _ => FM) (fun m => k m) (fun _ => d) n) d
def Qn {α : Type} (o : Option α) (d : FM) (k : α -> FM) : FM := Option.rec (motive := fun _ => FM) d k o
def QB.onRead (w : QB) (k : List AV -> FM) (d : FM) : FM :=
  QB.rec (motive := fun _ => FM) (fun c _ _ _ => k c) (fun _ _ => d) (fun _ _ _ _ => d) d d (fun _ _ => d) (fun _ => d) (fun _ => d) (fun c => k c) w
def QB.onCells (w : QB) (k : List AV -> Nat -> Bool -> Bool -> FM) (d : FM) : FM :=
  QB.rec (motive := fun _ => FM) k (fun _ _ => d) (fun _ _ _ _ => d) d d (fun _ _ => d) (fun _ => d) (fun _ => d) (fun _ => d) w
def QB.onMap (w : QB) (k : List (AV × AV) -> Nat -> FM) (d : FM) : FM :=
  QB.rec (motive := fun _ => FM) (fun _ _ _ _ => d) k (fun _ _ _ _ => d) d d (fun _ _ => d) (fun _ => d) (fun _ => d) (fun _ => d) w
def QB.onMapIter (w : QB) (km : Nat -> Nat -> List (AV × AV) -> AV -> FM) (kn : FM) (d : FM) : FM :=
  QB.rec (motive := fun _ => FM) (fun _ _ _ _ => d) (fun _ _ => d) km kn d (fun _ _ => d) (fun _ => d) (fun _ => d) (fun _ => d) w
def QB.onStrIter (w : QB) (ks : List Nat -> Nat -> FM) (d : FM) : FM :=
  QB.rec (motive := fun _ => FM) (fun _ _ _ _ => d) (fun _ _ => d) (fun _ _ _ _ => d) d d ks (fun _ => d) (fun _ => d) (fun _ => d) w
def QB.onLoop (w : QB) (k : qV -> FM) (d : FM) : FM :=
  QB.rec (motive := fun _ => FM) (fun _ _ _ _ => d) (fun _ _ => d) (fun _ _ _ _ => d) d d (fun _ _ => d) k (fun _ => d) (fun _ => d) w
def QB.onDeferred (w : QB) (k : List QT -> FM) (d : FM) : FM :=
  QB.rec (motive := fun _ => FM) (fun _ _ _ _ => d) (fun _ _ => d) (fun _ _ _ _ => d) d d (fun _ _ => d) (fun _ => d) (fun o => Qn o d k) (fun _ => d) w
def qA (i : Nat) (k : List AV -> FM) : FM := .get i fun o => o.onRead k (.fail 9)
def onCells (i : Nat) (k : List AV -> Nat -> Bool -> Bool -> FM) : FM := .get i fun o => o.onCells k (.fail 10)
def nthL {α : Type} (l : List α) : Nat -> Option α :=
  List.rec (motive := fun _ => Nat -> Option α) (fun _ => none) (fun h _ ih n => Nat.rec (motive := fun _ => Option α) (some h) (fun m _ => ih m) n) l
def qF8 {α : Type} (n : Nat) : List α -> List α :=
  Nat.rec (motive := fun _ => List α -> List α) (fun l => l) (fun _ ih l => List.rec (motive := fun _ => List α) [] (fun _ t _ => ih t) l) n
def jx {α : Type} (n : Nat) : List α -> (List α -> FM) -> FM :=
  Nat.rec (motive := fun _ => List α -> (List α -> FM) -> FM) (fun _ k => k []) (fun _ ih l k => List.rec (motive := fun _ => FM) (.fail 12) (fun h t _ => ih t fun r => k (h :: r)) l) n
def qWp {α : Type} (vs : List α) : List α -> (List α -> FM) -> FM :=
  List.rec (motive := fun _ => List α -> (List α -> FM) -> FM) (fun l k => k l)
    (fun v _ ih l k => List.rec (motive := fun _ => FM) (.fail 14) (fun _ t _ => ih t fun r => k (v :: r)) l) vs
def putK {α : Type} (vs : List α) (n : Nat) : List α -> (List α -> FM) -> FM :=
  Nat.rec (motive := fun _ => List α -> (List α -> FM) -> FM) (fun l k => qWp vs l k)
    (fun _ ih l k => List.rec (motive := fun _ => FM) (.fail 15) (fun h t _ => ih t fun r => k (h :: r)) l) n
def jR {α : Type} (a b : List α) : (List α -> FM) -> FM :=
  List.rec (motive := fun _ => (List α -> FM) -> FM) (fun k => k b) (fun h _ ih k => ih fun r => k (h :: r)) a
def repK {α : Type} (z : List α) (n : Nat) : (List α -> FM) -> FM :=
  Nat.rec (motive := fun _ => (List α -> FM) -> FM) (fun k => k []) (fun _ ih k => ih fun r => jR z r k) n
def jQ {α : Type} (l : List α) : Nat -> (Nat -> FM) -> FM :=
  List.rec (motive := fun _ => Nat -> (Nat -> FM) -> FM) (fun a k => k a) (fun _ _ ih a k => Qo (Nat.add a 1) fun a' => ih a' k) l
def TT.undef : TT := N16.all (N16.all (N16.all (.tuple [])))
def TT.args {β : Type} (l : List AV) : Nat -> TT -> (TT -> β) -> β :=
  List.rec (motive := fun _ => Nat -> TT -> (TT -> β) -> β) (fun _ t k => k t) (fun v _ ih n t k => TT.putK n v t fun t' => ih (Nat.succ n) t' k) l
def qMg : Value -> AV
  | .bool b => .bool b
  | .int k n => .int k n
  | .string s => .str (s.data.toList.map UInt8.toNat)
  | .pointer none => .nilp
  | .slice none 0 0 => .nils
  | .map none => .nilMap
  | .func f #[] #[] => .func (.plain f) [] []
  | .nilFunc => .nilFunc
  | .nilIface => .nilIface
  | .tuple #[] => .tuple []
  | _ => .junk
def qMf : Value -> AV
  | .agg cs => .agg (cs.toList.map qMg)
  | v => qMg v
def ofValue : Value -> AV
  | .iface t v => .iface t (qMf v)
  | v => qMf v
def qOb (G : Nat) (t : TT) (x : Operand) : AV :=
  Operand.rec (motive := fun _ => AV) (fun s => cnd (ltb s 4096) (TT.at s t) .junk) (fun v => ofValue v) (fun g => cnd (ltb g G) (.ptr g Nat.zero) .junk) (fun f => .func (.plain (.func f)) [] []) x
def evalOs (G : Nat) (t : TT) (l : List Operand) : List AV :=
  List.rec (motive := fun _ => List AV) [] (fun x _ ih => qOb G t x :: ih) l
def ltI (a b : Int) : Bool :=
  Int.rec (motive := fun _ => Bool) (fun m => Int.rec (motive := fun _ => Bool) (fun p => ltb m p) (fun _ => false) b)
    (fun m => Int.rec (motive := fun _ => Bool) (fun _ => true) (fun p => ltb p m) b) a
def addI (a b : Int) : Int :=
  Int.rec (motive := fun _ => Int) (fun m => Int.rec (motive := fun _ => Int) (fun p => .ofNat (Nat.add m p)) (fun p => cnd (Nat.ble (Nat.succ p) m) (.ofNat (Nat.sub m (Nat.succ p))) (.negSucc (Nat.sub p m))) b)
    (fun m => Int.rec (motive := fun _ => Int) (fun p => cnd (Nat.ble (Nat.succ m) p) (.ofNat (Nat.sub p (Nat.succ m))) (.negSucc (Nat.sub m p))) (fun p => .negSucc (Nat.succ (Nat.add m p))) b) a
def negI (a : Int) : Int :=
  Int.rec (motive := fun _ => Int) (fun m => Nat.rec (motive := fun _ => Int) (.ofNat Nat.zero) (fun p _ => .negSucc p) m) (fun m => .ofNat (Nat.succ m)) a
def q7 (q : IntKind) : Nat := IntKind.rec (motive := fun _ => Nat) 8 16 32 64 8 16 32 64 q
def ksigned (q : IntKind) : Bool := IntKind.rec (motive := fun _ => Bool) true true true true false false false false q
def wrapI (q : IntKind) (n : Int) : Int :=
  cnd (ksigned q)
    (Int.rec (motive := fun _ => Int) (fun m => cnd (ltb m (Nat.pow 2 (Nat.sub (q7 q) 1))) n (q.wrap n)) (fun m => cnd (ltb m (Nat.pow 2 (Nat.sub (q7 q) 1))) n (q.wrap n)) n)
    (Int.rec (motive := fun _ => Int) (fun m => .ofNat (Nat.mod m (Nat.pow 2 (q7 q)))) (fun _ => q.wrap n) n)
def toU (q : IntKind) (n : Int) : Nat :=
  Int.rec (motive := fun _ => Nat) (fun m => Nat.mod m (Nat.pow 2 (q7 q))) (fun m => Nat.sub (Nat.sub (Nat.pow 2 (q7 q)) 1) (Nat.mod m (Nat.pow 2 (q7 q)))) n
def jo (q : IntKind) (n : Int) (k : AV -> FM) : FM := jF (wrapI q n) fun m => k (.int q m)
def jc (b : Bool) (k : AV -> FM) : FM := cnd b (k (.bool true)) (k (.bool false))
abbrev BinK := IntKind -> Int -> Int -> (AV -> FM) -> FM
def bAdd : BinK := fun q a b k => jo q (addI a b) k
def bSub : BinK := fun q a b k => jo q (addI a (negI b)) k
def bMul : BinK := fun q a b k => jo q (a * b) k
def bQuo : BinK := fun q a b k => cnd (eqI b 0) (.fail 30) (jo q (a.tdiv b) k)
def bRem : BinK := fun q a b k => cnd (eqI b 0) (.fail 31) (jF (a.tmod b) fun m => k (.int q m))
def bAnd : BinK := fun q a b k => jo q (.ofNat (Nat.land (toU q a) (toU q b))) k
def bOr : BinK := fun q a b k => jo q (.ofNat (Nat.lor (toU q a) (toU q b))) k
def bXor : BinK := fun q a b k => jo q (.ofNat (Nat.xor (toU q a) (toU q b))) k
def qXs : BinK := fun q a b k => jo q (.ofNat (Nat.land (toU q a) (Nat.xor (toU q b) (Nat.sub (Nat.pow 2 (q7 q)) 1)))) k
def bShl : BinK := fun q a b k => Int.rec (motive := fun _ => FM) (fun m => jo q (a * Int.ofNat (Nat.pow 2 (cnd (Nat.ble m (q7 q)) m (q7 q)))) k) (fun _ => .fail 32) b
def bShr : BinK := fun q a b k => Int.rec (motive := fun _ => FM) (fun m => jF (a.fdiv (Int.ofNat (Nat.pow 2 (cnd (Nat.ble m (q7 q)) m (q7 q))))) fun r => k (.int q r)) (fun _ => .fail 33) b
def bEql : BinK := fun _ a b k => jc (eqI a b) k
def bNeq : BinK := fun _ a b k => jc (eqI a b).not k
def bLss : BinK := fun _ a b k => jc (ltI a b) k
def bLeq : BinK := fun _ a b k => jc (ltI b a).not k
def bGtr : BinK := fun _ a b k => jc (ltI b a) k
def bGeq : BinK := fun _ a b k => jc (ltI a b).not k
end Go.X
namespace Go.X
section
variable (P : Program)
def Qi (t : TypeId) : Nat := match P.underlying t with
  | some .bool => 1
  | some (.int _) => 2
  | some .string => 3
  | some (.pointer _) => 4
  | some .unsafePointer => 5
  | some (.interface _) => 6
  | some (.struct _) => 7
  | some (.array _ _) => 8
  | some (.slice _) => 9
  | some (.map _ _) => 10
  | some (.func _ _ _) => 11
  | some _ => 12
  | none => 0
def szO (t : TypeId) : Option Nat := match P.info? t with | some i => some i.size | none => none
def qJ4 (t : TypeId) : Option Nat := match P.info? t with | some i => some i.bytes | none => none
def cmpO (t : TypeId) : Option Bool := match P.info? t with | some i => some i.comparable | none => none
def jN (t : TypeId) : Option AV := match P.info? t with
  | some i => match i.zero with | some z => some (ofValue z) | none => none
  | none => none
def qN2 (t : TypeId) : Option Bool := match P.underlying t with | some (.struct _) => some true | some (.array _ _) => some true | some _ => some false | none => none
def qE0 (t : TypeId) (f : Nat) : Option Field := match P.underlying t with | some (.struct fs) => fs[f]? | _ => none
def qJ (t : TypeId) : Option TypeId := match P.underlying t with | some (.slice e) => some e | _ => none
def J2 (t : TypeId) : Option (Nat × TypeId) := match P.underlying t with | some (.array n e) => some (n, e) | _ => none
def qXg (t : TypeId) : Option TypeId := match P.underlying t with | some (.pointer e) => some e | _ => none
def qKu (t : TypeId) : Option (TypeId × TypeId) := match P.underlying t with | some (.map k e) => some (k, e) | _ => none
def qHy (t : TypeId) : Option (Array (String × TypeId)) := match P.underlying t with | some (.interface ms) => some ms | _ => none
def jq (t : TypeId) (cs : List AV) (off : Nat) (k : AV -> FM) : FM :=
  Qn (qN2 P t) (.fail 17) fun b => cnd b (Qn (szO P t) (.fail 17) fun n => jx n (qF8 off cs) fun l => k (.agg l)) (Qn (nthL cs off) (.fail 17) k)
abbrev KV := AV -> FM
abbrev Qz := FuncId -> List AV -> KV -> (QR -> FM) -> FM
abbrev Qv := Nat -> List AV -> KV -> FM
def qL6 (t : TypeId) (i o : Nat) (k : KV) : FM := qA i fun c => jq P t c o k
def qQh (n : Nat) (v : AV) (k : List AV -> FM) : FM := v.cellsK fun cs => jQ cs Nat.zero fun m => cnd (Nat.beq m n) (k cs) (.fail 18)
def qJn (i o : Nat) (cs : List AV) (m : FM) : FM :=
  cnd (QL cs) (onCells i fun c e g mk => putK cs o c fun c' => .set i (.cells c' e g mk) m) (.fail 19)
def qTt (t : TypeId) (i o : Nat) (v : AV) (m : FM) : FM := Qn (szO P t) (.fail 18) fun n => qQh n v fun cs => qJn i o cs m
def qF (d : Nat) (x : Option AV) (k : Nat -> FM) : FM := Option.rec (motive := fun _ => FM) (k d) (fun v => v.onNat k (.fail 20)) x
def leb3 (a b c : Nat) : Bool := cnd (Nat.ble a b) (Nat.ble b c) false
def noneM {α : Type} (o : Option α) (m : FM) : FM := Option.rec (motive := fun _ => FM) m (fun _ => .fail 15) o
def qRe (e : TypeId) (o n : Nat) (k : Nat -> FM) : FM := Qn (szO P e) (.fail 18) fun sz => Qo (Nat.add o (Nat.mul n sz)) k
def slStr (s : List Nat) (lo hi : Option AV) (k : KV) : FM :=
  jQ s Nat.zero fun len => qF Nat.zero lo fun l => qF len hi fun h => cnd (leb3 l h len) (jx h s fun s' => k (.str (qF8 l s'))) (.fail 21)
def qGv (r : AV) (lo hi mx : Option AV) (k : KV) : FM :=
  qF Nat.zero lo fun l => qF Nat.zero hi fun h => Option.rec (motive := fun _ => FM) (cnd (Nat.beq (Nat.add l h) Nat.zero) (k r) (.fail 22))
    (fun mv => Qn hi (.fail 22) fun _ => mv.onNat (fun m => cnd (Nat.beq (Nat.add l (Nat.add h m)) Nat.zero) (k r) (.fail 22)) (.fail 22)) mx
def qS (e : TypeId) (i o len cap : Nat) (ext : Bool) (lo hi mx : Option AV) (k : KV) : FM :=
  qF Nat.zero lo fun l => Option.rec (motive := fun _ => FM)
      (qF len hi fun h => cnd (leb3 l h cap)
        (cnd (Nat.beq l cap) (cnd ext (k .emp) (k (.slice i o Nat.zero Nat.zero false)))
          (qRe P e o l fun o' => Qo (Nat.sub h l) fun n => Qo (Nat.sub cap l) fun c => k (.slice i o' n c ext)))
        (.fail 23))
      (fun mv => mv.onNat (fun m => Qn hi (.fail 24) fun hv => hv.onNat (fun h => cnd (cnd (leb3 l h m) (Nat.ble m cap) false)
        (cnd (Nat.beq m l) (k (.slice i o Nat.zero Nat.zero false))
          (qRe P e o l fun o' => Qo (Nat.sub h l) fun n => Qo (Nat.sub m l) fun c => k (.slice i o' n c false)))
        (.fail 24)) (.fail 25)) (.fail 25)) mx
def qTg (t : TypeId) (x : AV) (lo hi mx : Option AV) (k : KV) : FM :=
  x.onSeq (fun s => cnd (Nat.beq (Qi P t) 3) (noneM mx (slStr s lo hi k)) (.fail 26))
    (cnd (Nat.beq (Qi P t) 9) (Qn (qJ P t) (.fail 26) fun e => Qn (szO P e) (.fail 26) fun _ => qGv .nils lo hi mx k) (.fail 26))
    (cnd (Nat.beq (Qi P t) 9) (Qn (qJ P t) (.fail 26) fun e => Qn (szO P e) (.fail 26) fun _ => qGv .emp lo hi mx k) (.fail 26))
    (fun i o len cap ext => Qn (qJ P t) (.fail 26) fun e => Qn (szO P e) (.fail 26) fun _ => qS P e i o len cap ext lo hi mx k)
    (x.onPtr (fun i o => Qn (J2 P t) (.fail 27) fun ne => Qn (szO P ne.2) (.fail 26) fun _ => qS P ne.2 i o ne.1 ne.1 false lo hi mx k) (.fail 28))
def ofBytes (l : List Nat) : List AV := List.rec (motive := fun _ => List AV) [] (fun b _ ih => .int .u8 (.ofNat b) :: ih) l
def qH1 (l : List AV) : (List Nat -> FM) -> FM :=
  List.rec (motive := fun _ => (List Nat -> FM) -> FM) (fun k => k [])
    (fun v _ ih k => v.onInt (fun q n => IntKind.rec (motive := fun _ => FM) (.fail 29) (.fail 29) (.fail 29) (.fail 29)
      (Int.rec (motive := fun _ => FM) (fun b => cnd (ltb b 256) (ih fun r => k (b :: r)) (.fail 29)) (fun _ => .fail 29) n) (.fail 29) (.fail 29) (.fail 29) q) (.fail 29)) l
def qP8 (n sz : Nat) (x : AV) (k : List AV -> FM) : FM :=
  x.onSeq (fun s => cnd (Nat.beq sz 1) (jx n s fun s' => k (ofBytes s')) (.fail 34)) (cnd (Nat.beq n Nat.zero) (k []) (.fail 34)) (cnd (Nat.beq n Nat.zero) (k []) (.fail 34))
    (fun i o _ _ _ => qA i fun c => jx (Nat.mul n sz) (qF8 o c) k) (.fail 35)
def jX : Nat := 1099511627776
def qJh (e : TypeId) (n : Nat) (m : FM) : FM := Qn (qJ4 P e) (.fail 36) fun b => cnd (cnd (Nat.ble (Nat.mul n b) jX) (Nat.ble n jX) false) m (.fail 36)
def qL7 (e : TypeId) (cs : List AV) (sz m : Nat) (mk : Bool) (k : KV) : FM :=
  Qn (jN P e) (.fail 36) fun z => z.cellsK fun zs => jQ zs Nat.zero fun zn => cnd (Nat.beq zn sz) (.new (.cells cs sz true mk) fun j => k (.slice j Nat.zero m m true)) (.fail 36)
def qZe (e : TypeId) (n : Nat) (k : List AV -> Nat -> FM) : FM :=
  Qn (szO P e) (.fail 104) fun sz => Qn (jN P e) (.fail 104) fun z => z.cellsK fun zs => jQ zs Nat.zero fun m => cnd (Nat.beq m sz) (repK zs n fun cs => k cs sz) (.fail 104)
def addC (e : TypeId) (z : Bool) (n sz : Nat) (x : AV) (k : List AV -> FM) : FM := cnd z (qZe P e n fun cs _ => k cs) (qP8 n sz x k)
def AV.natO (w : AV) : Option Nat :=
  AV.rec (motive_1 := fun _ => Option Nat) (motive_2 := fun _ => PUnit) (none) (fun _ => none) (fun _ n => Int.rec (motive := fun _ => Option Nat) (fun m => some m) (fun _ => none) n) (fun _ => none) (none) (fun _ _ => none) (none) (fun _ _ _ _ _ => none) (none) (none) (fun _ => none) (fun _ _ _ _ _ => none) (none) (fun _ _ _ => none) (none) (fun _ _ => none) (fun _ _ => none) PUnit.unit (fun _ _ _ _ => PUnit.unit) w
def lenZ (z : Bool) (x : AV) : Option Nat := cnd z x.natO x.lenO
def roomZ (e : TypeId) (z : Bool) (n : Nat) (m : FM) : FM := cnd z (qJh P e n m) m
def qK1 (e : TypeId) (sz : Nat) (i o len cap : Nat) (ext : Bool) (z : Bool) (n : Nat) (x : AV) (k : KV) : FM :=
  Qo (Nat.add len n) fun m =>
  cnd (Nat.ble m cap)
    (addC P e z n sz x fun cs => qJn i (Nat.add o (Nat.mul len sz)) cs (k (.slice i o m cap ext)))
    (qJh P e m (cnd ext
      (onCells i fun c es g mk => jQ c Nat.zero fun cl => cnd (cnd g (cnd (Nat.beq es sz) (Nat.beq (Nat.add o (Nat.mul cap sz)) cl) false) false)
        (jx (Nat.mul len sz) (qF8 o c) fun cs => addC P e z n sz x fun ds => cnd (QL ds) (jR cs ds fun cd => .set i .tomb (qL7 P e cd sz m mk k)) (.fail 37)) (.fail 37))
      (qA i fun c => jx (Nat.mul len sz) (qF8 o c) fun cs => addC P e z n sz x fun ds => jR cs ds fun cd => qL7 P e cd sz m false k)))
def qH9 (st xt : TypeId) (s x : AV) (k : KV) : FM :=
  Qn (qJ P st) (.fail 37) fun e => Qn (szO P e) (.fail 37) fun sz => cnd (cnd (Nat.beq (Qi P xt) 9) true (cnd (Nat.beq (Qi P xt) 3) true (Nat.beq (Qi P xt) 2))) (Qn (lenZ (Nat.beq (Qi P xt) 2) x) (.fail (Nat.add 38000000 (Nat.add (Nat.mul 1000 st) xt))) fun n =>
    roomZ P e (Nat.beq (Qi P xt) 2) n (cnd (Nat.beq n Nat.zero) (s.onSlice (k .nils) (k .emp) (fun i o len cap ext => cnd (Nat.ble len cap) (k s) (.fail 39)) (.fail 40))
    (s.onSlice (qJh P e n (addC P e (Nat.beq (Qi P xt) 2) n sz x fun cs => qL7 P e cs sz n false k)) (.fail 39)
      (fun i o len cap ext => qK1 P e sz i o len cap ext (Nat.beq (Qi P xt) 2) n x k) (.fail 40)))) (.fail (Nat.add 39000000 (Nat.add (Nat.mul 1000 st) xt)))
def qM (n : Nat) (k : KV) : FM := Qo n fun m => k (.int .i64 (.ofNat m))
def xLen (t : TypeId) (x : AV) (k : KV) : FM :=
  x.onMapN (cnd (Nat.beq (Qi P t) 10) (qM Nat.zero k) (.fail 41)) (fun i => cnd (Nat.beq (Qi P t) 10) (.get i fun o => o.onMap (fun es _ => jQ es Nat.zero fun n => qM n k) (.fail 41)) (.fail 41))
    (x.onStr (fun s => cnd (Nat.beq (Qi P t) 3) (jQ s Nat.zero fun n => qM n k) (.fail 42))
      (x.onSlice (cnd (Nat.beq (Qi P t) 9) (qM Nat.zero k) (.fail 42)) (cnd (Nat.beq (Qi P t) 9) (qM Nat.zero k) (.fail 42))
        (fun _ _ len _ _ => cnd (Nat.beq (Qi P t) 9) (qM len k) (.fail 42))
        (Option.rec (motive := fun _ => FM) (Qn (qXg P t) (.fail 43) fun a => Qn (J2 P a) (.fail 43) fun ne => qM ne.1 k) (fun ne => qM ne.1 k) (J2 P t))))
def qZr (t : TypeId) (d s : AV) (k : KV) : FM :=
  Qn (qJ P t) (.fail 44) fun e => Qn (szO P e) (.fail 44) fun sz => Qn d.lenO (.fail 45) fun n => Qn s.lenO (.fail 46) fun m =>
    Qo (cnd (Nat.ble m n) m n) fun j =>
    cnd (Nat.beq j Nat.zero) (d.onSlice (qM Nat.zero k) (qM Nat.zero k) (fun _ _ _ _ _ => qM Nat.zero k) (.fail 47))
    (qP8 j sz s fun cs => d.onSlice (.fail 47) (.fail 47) (fun i o _ _ _ => qJn i o cs (qM j k)) (.fail 47))
def qv (a : List Nat) : List Nat -> Bool :=
  List.rec (motive := fun _ => List Nat -> Bool) (fun b => List.rec (motive := fun _ => Bool) true (fun _ _ _ => false) b)
    (fun x _ ih b => List.rec (motive := fun _ => Bool) false (fun y s _ => cnd (Nat.beq x y) (ih s) false) b) a
def Qm (a : List Nat) : List Nat -> Bool :=
  List.rec (motive := fun _ => List Nat -> Bool) (fun b => List.rec (motive := fun _ => Bool) false (fun _ _ _ => true) b)
    (fun x _ ih b => List.rec (motive := fun _ => Bool) false (fun y s _ => cnd (ltb x y) true (cnd (Nat.beq x y) (ih s) false)) b) a
def qHx (a b : AV) (k : Bool -> FM) : FM :=
  a.onIntStr (fun q n => b.onInt (fun r m => cnd (Nat.beq (q5 q) (q5 r)) (k (eqI n m)) (.fail 48)) (.fail 48)) (fun s => b.onStr (fun r => k (qv s r)) (.fail 48)) (.fail 48)
def qF6 (key : AV) (l : List (AV × AV)) : (Option AV -> FM) -> FM :=
  List.rec (motive := fun _ => (Option AV -> FM) -> FM) (fun k => k none) (fun e _ ih k => qHx key e.1 fun b => cnd b (k (some e.2)) (ih k)) l
def qUv (a b : AV) : Bool :=
  AV.rec (motive_1 := fun _ => Bool) (motive_2 := fun _ => PUnit) false (fun _ => false)
    (fun _ n => AV.rec (motive_1 := fun _ => Bool) (motive_2 := fun _ => PUnit) false (fun _ => false) (fun _ m => ltI n m) (fun _ => false) false (fun _ _ => false) false (fun _ _ _ _ _ => false) false false (fun _ => false) (fun _ _ _ _ _ => false) false (fun _ _ _ => false) false (fun _ _ => false) (fun _ _ => false) PUnit.unit (fun _ _ _ _ => PUnit.unit) b)
    (fun s => AV.rec (motive_1 := fun _ => Bool) (motive_2 := fun _ => PUnit) false (fun _ => false) (fun _ _ => false) (fun r => Qm s r) false (fun _ _ => false) false (fun _ _ _ _ _ => false) false false (fun _ => false) (fun _ _ _ _ _ => false) false (fun _ _ _ => false) false (fun _ _ => false) (fun _ _ => false) PUnit.unit (fun _ _ _ _ => PUnit.unit) b)
    false (fun _ _ => false) false (fun _ _ _ _ _ => false) false false (fun _ => false) (fun _ _ _ _ _ => false) false (fun _ _ _ => false) false (fun _ _ => false) (fun _ _ => false) PUnit.unit (fun _ _ _ _ => PUnit.unit) a
def qEq (key v : AV) (l : List (AV × AV)) : (List (AV × AV) -> FM) -> FM :=
  List.rec (motive := fun _ => (List (AV × AV) -> FM) -> FM) (fun k => k [(key, v)]) (fun e t ih k => cnd (qUv key e.1) (k ((key, v) :: e :: t)) (ih fun r => k (e :: r))) l
def jP (key v : AV) (l : List (AV × AV)) : (List (AV × AV) -> FM) -> FM :=
  List.rec (motive := fun _ => (List (AV × AV) -> FM) -> FM) (fun k => k []) (fun e t ih k => qHx key e.1 fun b => cnd b (k ((key, v) :: t)) (ih fun r => k (e :: r))) l
def delK (key : AV) (l : List (AV × AV)) : (List (AV × AV) -> FM) -> FM :=
  List.rec (motive := fun _ => (List (AV × AV) -> FM) -> FM) (fun k => k []) (fun e t ih k => qHx key e.1 fun b => cnd b (k t) (ih fun r => k (e :: r))) l
def qJ0 {α : Type} (l : List α) : Nat -> (List α -> FM) -> FM :=
  List.rec (motive := fun _ => Nat -> (List α -> FM) -> FM) (fun _ k => k []) (fun h t ih n k => Nat.rec (motive := fun _ => FM) (k t) (fun m _ => ih m fun r => k (h :: r)) n) l
def mapK (t : TypeId) (k : TypeId -> FM) : FM :=
  Qn (qKu P t) (.fail 48) fun ke => cnd (cnd (Nat.beq (Qi P ke.1) 2) true (Nat.beq (Qi P ke.1) 3)) (k ke.2) (.fail 48)
def fitK (t : TypeId) (key : AV) (m : FM) : FM :=
  Qn (qKu P t) (.fail 48) fun ke => key.onIntStr (fun _ _ => cnd (Nat.beq (Qi P ke.1) 2) m (.fail 48)) (fun _ => cnd (Nat.beq (Qi P ke.1) 3) m (.fail 48)) (.fail 48)
def qQ3 (t : TypeId) (m key : AV) (k : KV) : FM :=
  mapK P t fun _ => fitK P t key (m.onMapN (k (.tuple [])) (fun i => .get i fun o => o.onMap (fun es v => delK key es fun es' => .set i (.map es' (Nat.succ v)) (k (.tuple []))) (.fail 48)) (.fail 49))
def qH8 (t : TypeId) (m key v : AV) (k : KV) : FM :=
  mapK P t fun _ => fitK P t key (m.onMap (fun i => .get i fun o => o.onMap (fun es ver => qF6 key es fun r =>
    Option.rec (motive := fun _ => FM) (qEq key v es fun es' => .set i (.map es' (Nat.succ ver)) (k (.tuple [])))
      (fun _ => jP key v es fun es' => .set i (.map es' (Nat.succ ver)) (k (.tuple []))) r) (.fail 48)) (.fail 49))
def qFn (t : TypeId) (k : KV) : FM := Qn (jN P t) (.fail 132) k
def ji (e : TypeId) (ok : Bool) (r : Option AV) (k : KV) : FM :=
  Option.rec (motive := fun _ => FM) (qFn P e fun z => cnd ok (k (.tuple [z, .bool false])) (k z)) (fun v => cnd ok (k (.tuple [v, .bool true])) (k v)) r
def qM2 (t : TypeId) (m key : AV) (ok : Bool) (k : KV) : FM :=
  mapK P t fun e => fitK P t key (m.onMapN (ji P e ok none k) (fun i => .get i fun o => o.onMap (fun es _ => qF6 key es fun r => ji P e ok r k) (.fail 134)) (.fail 135))
def qVs (l : List AV) (k : AV -> FM) : FM := List.rec (motive := fun _ => FM) (.fail 50) (fun a _ _ => k a) l
def qXu (l : List AV) (k : AV -> AV -> FM) : FM := List.rec (motive := fun _ => FM) (.fail 50) (fun a t _ => qVs t fun b => k a b) l
def qUy (l : List AV) (k : AV -> AV -> FM) : FM := List.rec (motive := fun _ => FM) (.fail 50) (fun a t _ => List.rec (motive := fun _ => FM) (.fail 50) (fun b r _ => List.rec (motive := fun _ => FM) (k a b) (fun _ _ _ => .fail 50) r) t) l
def kEq (q r : IntKind) (m : FM) : FM := cnd (Nat.beq (q5 q) (q5 r)) m (.fail 55)
abbrev BltK := List AV -> Array TypeId -> KV -> FM
def qY8 : BltK := fun l ts k => Qn ts[0]? (.fail 50) fun st => Qn ts[1]? (.fail 50) fun xt => qXu l fun s x => qH9 P st xt s x k
def blLen : BltK := fun l ts k => Qn ts[0]? (.fail 50) fun t => qVs l fun x => xLen P t x k
def blCap : BltK := fun l ts k => Qn ts[0]? (.fail 50) fun t => qVs l fun x => cnd (Nat.beq (Qi P t) 9) (x.onSlice (qM Nat.zero k) (.fail 51) (fun _ _ _ c ext => cnd ext (.fail 52) (qM c k)) (.fail 53)) (.fail 53)
def blCopy : BltK := fun l ts k => Qn ts[0]? (.fail 50) fun t => qXu l fun d s => qZr P t d s k
def xClear (t : TypeId) (x : AV) (k : KV) : FM :=
  Qn (qJ P t) (.fail 155) fun e => x.onSlice (k (.tuple [])) (k (.tuple [])) (fun i o len _ _ => cnd (Nat.beq len Nat.zero) (k (.tuple [])) (qZe P e len fun cs _ => qJn i o cs (k (.tuple [])))) (.fail 155)
def blClear : BltK := fun l ts k => Qn ts[0]? (.fail 50) fun t => qVs l fun x => xClear P t x k
def qY7 : BltK := fun l ts k => Qn ts[0]? (.fail 50) fun t => qXu l fun m key => qQ3 P t m key k
def blMin : BltK := fun l _ k => qUy l fun a b => a.onInt (fun q x => b.onInt (fun r y => kEq q r (k (.int q (cnd (ltI y x) y x)))) (.fail 54)) (.fail 54)
def blMax : BltK := fun l _ k => qUy l fun a b => a.onInt (fun q x => b.onInt (fun r y => kEq q r (k (.int q (cnd (ltI x y) y x)))) (.fail 54)) (.fail 54)
end
end Go.X
namespace Go.X
section
variable (P : Program)
def QS (t : TypeId) (n : Nat) (m : FM) : FM := cnd (Nat.beq (Qi P t) n) m (.fail 60)
def jAo (i o j p : Nat) (k : Bool -> FM) : FM :=
  cnd (Nat.beq i j) (k (Nat.beq o p))
    (.get i fun x => x.onCells (fun _ _ _ mk => cnd mk (.fail 61) (.get j fun y => y.onCells (fun _ _ _ mk' => cnd mk' (.fail 61) (k false)) (.fail 61))) (.fail 61))
def qYx (t : TypeId) (i o j p : Nat) (k : Bool -> FM) : FM :=
  cnd (Nat.beq (Qi P t) 4) (Qn (qXg P t) (.fail 60) fun e => Qn (szO P e) (.fail 60) fun n => cnd (Nat.beq n Nat.zero) (.fail 60) (jAo i o j p k)) (.fail 60)
def eq1 (t : TypeId) (a b : AV) (k : Bool -> FM) : FM :=
  a.onBool (fun x => b.onBool (fun y => QS P t 1 (k (cnd x y (cnd y false true)))) (.fail 62))
  (a.onIntStr (fun q n => b.onInt (fun r m => QS P t 2 (kEq q r (k (eqI n m)))) (.fail 62)) (fun s => b.onStr (fun r => QS P t 3 (k (qv s r))) (.fail 62))
  (a.onPtr (fun i o => cnd b.isNilp (QS P t 4 (k false)) (b.onPtr (fun j p => qYx P t i o j p k) (.fail 62)))
  (cnd a.isNilp (QS P t 4 (cnd b.isNilp (k true) (b.onPtr (fun _ _ => k false) (.fail 62))))
  (a.onSlice (QS P t 9 (b.onSlice (k true) (k false) (fun _ _ _ _ _ => k false) (.fail 62))) (QS P t 9 (b.onSlice (k false) (.fail 62) (fun _ _ _ _ _ => .fail 62) (.fail 62)))
    (fun _ _ _ _ _ => QS P t 9 (b.onSlice (k false) (.fail 62) (fun _ _ _ _ _ => .fail 62) (.fail 62)))
  (a.onMapN (QS P t 10 (b.onMapN (k true) (fun _ => k false) (.fail 62))) (fun _ => QS P t 10 (b.onMapN (k false) (fun _ => .fail 62) (.fail 62)))
  (a.onFuncN (QS P t 11 (b.onFuncN (k true) (fun _ _ _ => k false) (.fail 62))) (fun _ _ _ => QS P t 11 (b.onFuncN (k false) (fun _ _ _ => .fail 62) (.fail 62))) (.fail 62)))))))
def qJy (l : List Field) : Option (List (TypeId × Nat)) := match l with
  | [] => some []
  | f :: r => if f.name = "_" then none else match qJy r with | some s => some ((f.type, f.offset) :: s) | none => none
def qRr (t : TypeId) : Option (List (TypeId × Nat)) := match P.underlying t with
  | some (.struct fs) => if P.stoodInHeld t then none else qJy fs.toList
  | some (.array n e) => match szO P e with | some sz => some ((List.range n).map fun i => (e, i * sz)) | none => none
  | _ => none
def eqA (n : Nat) : TypeId -> AV -> AV -> (Bool -> FM) -> FM :=
  Nat.rec (motive := fun _ => TypeId -> AV -> AV -> (Bool -> FM) -> FM) (fun _ _ _ _ => .fail 64)
    (fun _ ih t a b k => a.onAgg (fun cs => b.onAgg (fun ds => Qn (qRr P t) (.fail 65) fun l =>
      List.rec (motive := fun _ => FM) (k true) (fun x _ ihl => jq P x.1 cs x.2 fun u => jq P x.1 ds x.2 fun v => ih x.1 u v fun r => cnd r ihl (k false)) l) (.fail 66)) (eq1 P t a b k)) n
def xEql (lit : Bool) (t : TypeId) (a b : AV) (k : Bool -> FM) : FM :=
  a.onIfaceN (QS P t 6 (b.onIfaceN (cnd lit (k true) (.fail 63)) (fun _ _ => k false) (.fail 63)))
    (fun t1 v1 => QS P t 6 (b.onIfaceN (k false) (fun t2 v2 => cnd (Nat.beq t1 t2) (Qn (cmpO P t1) (.fail 63) fun c => cnd c (eq1 P t1 v1 v2 k) (.fail 63)) (k false)) (.fail 63)))
    (a.onAgg (fun _ => cnd (P.eqGuardType P.depth t) (.fail 65) (eqA P 6 t a b k)) (eq1 P t a b k))
inductive CvK where | toInt (q : IntKind) | toString | bytes | toBytes (e : TypeId) | toUnsafe (e : TypeId) | mark | no
def cvOf (src dst : TypeId) : CvK := match P.underlying src, P.underlying dst with
  | some (.int _), some (.int q) => .toInt q
  | some .string, some .string => .toString
  | some (.slice e), some .string => match P.underlying e with | some (.int .u8) => .bytes | _ => .no
  | some .string, some (.slice e) => match P.underlying e with | some (.int .u8) => .toBytes e | _ => .no
  | some (.pointer e), some .unsafePointer => .toUnsafe e
  | some (.slice _), some (.slice e) => if src = dst then match P.underlying e with | some (.int .u8) => .mark | _ => .no else .no
  | _, _ => .no
def cvToBytes (e : TypeId) (x : AV) (k : KV) : FM := x.onStr (fun s => jQ s Nat.zero fun n => .new (.cells (ofBytes s) 1 true true) fun i => k (.slice i Nat.zero n n true)) (.fail 64)
def cvBytes (x : AV) (k : KV) : FM :=
  x.onSlice (k (.str [])) (k (.str [])) (fun i o len _ _ => qA i fun c => jx len (qF8 o c) fun l => qH1 l fun s => k (.str s)) (.fail 65)
def j4 (src dst : TypeId) (x : AV) (k : KV) : FM :=
  CvK.rec (motive := fun _ => FM) (fun q => x.onInt (fun _ n => jo q n k) (.fail 63)) (x.onStr (fun s => k (.str s)) (.fail 64)) (cvBytes x k) (fun e => cvToBytes e x k)
    (fun e => x.onPtr (fun i o => Qn (szO P e) (.fail 67) fun n => cnd (Nat.beq n Nat.zero) (.fail 67) (qA i fun c => jQ c Nat.zero fun m => cnd (ltb o m) (k (.ptr i o)) (.fail 67))) (.fail 67))
    (x.onSlice (.fail 68) (.fail 68) (fun i _ _ _ _ => onCells i fun c e g _ => .set i (.cells c e g true) (k x)) (.fail 68)) (.fail (Nat.add 66000000 (Nat.add (Nat.mul 1000 src) dst))) (cvOf P src dst)
inductive MtK where | direct (f : FuncId) | load (f : FuncId) (el : TypeId) | field (f : FuncId) (ft : TypeId) (off : Nat) | no
def qR2 (m : Method) : MtK := match m.path.toList, m.func with
  | [s], some (f, true) => if s.deref then .no else match P.underlying s.struct with
    | some (.struct fs) => match fs[s.index]? with
      | some fd => match P.underlying fd.type with | some (.pointer _) => .field f fd.type fd.offset | _ => .no
      | none => .no
    | _ => .no
  | _, _ => .no
def methodOf (t : TypeId) (name : String) : MtK := match P.info? t with
  | some ti => match ti.methods.find? (fun m => m.name == name) with
    | some m => if m.path.toList.isEmpty then match m.func, P.underlying t with
      | some (f, true), some (.pointer _) => .direct f
      | some (f, false), some (.pointer el) => .load f el
      | some (f, false), some _ => .direct f
      | _, _ => .no
      else qR2 P m
    | none => .no
  | none => .no
def qUs (fn : Func) : Bool := match fn.resultTypes.toList with
  | [t] => match P.underlying t with | some (.slice _) => true | _ => false
  | _ => false
def jAm (f : FuncId) : Nat := match P.funcs[f]? with
  | none => 0
  | some fn => if fn.body.isSome || fn.name == "runtime.NumGoroutine" || (Extern.findNext fn).isSome then 0
    else if fn.name == "maps.clone" then 1 else if fn.name == "sync/atomic.CompareAndSwapInt32" then 2 else if fn.name == "sync/atomic.AddInt32" then 3
    else if fn.name == "internal/race.Disable" then 4 else if fn.name == "internal/race.Enable" then 5
    else if fn.name == "internal/race.Acquire" then 6 else if fn.name == "internal/race.ReleaseMerge" then 7 else if fn.name == "internal/race.Release" then 8
    else if fn.name == "internal/bytealg.Compare" then 9 else if fn.name == "internal/bytealg.MakeNoZero" && qUs P fn then 10
    else if fn.name == "internal/bytealg.IndexByteString" then 11 else 0
def qC (f : FuncId) : Bool := match P.funcs[f]? with | some fn => fn.body.isSome && !(fn.name == "runtime.NumGoroutine") | none => false
abbrev ExtK := List AV -> KV -> FM
def just1 (l : List AV) (k : AV -> FM) : FM := List.rec (motive := fun _ => FM) (.fail 50) (fun a t _ => List.rec (motive := fun _ => FM) (k a) (fun _ _ _ => .fail 50) t) l
def just3 (l : List AV) (k : AV -> AV -> AV -> FM) : FM := List.rec (motive := fun _ => FM) (.fail 50) (fun a t _ => qUy t fun b c => k a b c) l
def exClone : ExtK := fun l k => just1 l fun a => a.onIface (fun t v => v.onMap (fun i => .get i fun o => o.onMap (fun es _ => .new (.map es Nat.zero) fun j => k (.iface t (.map j))) (.fail 180)) (.fail 181)) (.fail 182)
def exCas : ExtK := fun l k => just3 l fun a x y => a.onPtr (fun i o => onCells i fun c e g mk => Qn (nthL c o) (.fail 183) fun z =>
  z.onInt (fun q n => x.onInt (fun r m => y.onInt (fun s b => kEq q .i32 (kEq r .i32 (kEq s .i32 (cnd (eqI n m) (putK [.int s b] o c fun c' => .set i (.cells c' e g mk) (k (.bool true))) (k (.bool false)))))) (.fail 184)) (.fail 184)) (.fail 184)) (.fail 185)
def exAdd : ExtK := fun l k => qUy l fun a y => a.onPtr (fun i o => onCells i fun c e g mk => Qn (nthL c o) (.fail 183) fun z =>
  z.onInt (fun q n => y.onInt (fun r m => kEq q .i32 (kEq r .i32 (jo q (addI n m) fun v => putK [v] o c fun c' => .set i (.cells c' e g mk) (k v)))) (.fail 184)) (.fail 184)) (.fail 185)
def exNone : ExtK := fun _ k => k (.tuple [])
def qYw : ExtK := fun l k => qVs l fun a => a.onPtr (fun _ _ => k (.tuple [])) (.fail 186)
def qE1 (x : AV) (k : List Nat -> FM) : FM := x.onSlice (k []) (k []) (fun i o len _ _ => qA i fun c => jx len (qF8 o c) fun l => qH1 l k) (.fail 186)
def exCmp : ExtK := fun l k => qUy l fun a b => qE1 a fun x => qE1 b fun y => k (.int .i64 (cnd (Qm x y) (.negSucc Nat.zero) (cnd (qv x y) (.ofNat Nat.zero) (.ofNat 1))))
def junks (n : Nat) : List AV := Nat.rec (motive := fun _ => List AV) [] (fun _ ih => .junk :: ih) n
def exMake : ExtK := fun l k => just1 l fun a => a.onInt (fun q n => kEq q .i64 (Int.rec (motive := fun _ => FM) (fun m => Qo m fun m => cnd (Nat.ble m jX) (.new (.cells (junks m) 1 true false) fun i => k (.slice i Nat.zero m m true)) (.fail 188)) (fun _ => .fail 188) n)) (.fail 188)
def idxB (c : Nat) (s : List Nat) : Nat -> Int :=
  List.rec (motive := fun _ => Nat -> Int) (fun _ => .negSucc Nat.zero) (fun b _ ih n => cnd (Nat.beq b c) (.ofNat n) (Qo (Nat.succ n) fun n' => ih n')) s
def exIdx : ExtK := fun l k => qUy l fun a b => a.onStr (fun s => b.onInt (fun q n => kEq q .u8 (Int.rec (motive := fun _ => FM)
  (fun m => jF (idxB (Nat.mod m 256) s Nat.zero) fun r => k (.int .i64 r)) (fun _ => .fail 187) n)) (.fail 187)) (.fail 187)
def exNo : ExtK := fun _ _ => .fail 187
def extK (n : Nat) : ExtK :=
  cnd (Nat.beq n 1) exClone (cnd (Nat.beq n 2) exCas (cnd (Nat.beq n 3) exAdd (cnd (Nat.beq n 4) exNone (cnd (Nat.beq n 5) exNone (cnd (Nat.beq n 6) qYw (cnd (Nat.beq n 7) qYw (cnd (Nat.beq n 8) qYw (cnd (Nat.beq n 9) exCmp (cnd (Nat.beq n 10) exMake (cnd (Nat.beq n 11) exIdx exNo))))))))))
def qGt (call : Qz) (f : FuncId) (args : List AV) (k : KV) (kp : QR -> FM) : FM :=
  cnd (qC P f) (call f args k kp) (extK (jAm P f) args k)
def qEj (call : Qz) (recv : AV) (name : String) (args : List AV) (k : KV) (kp : QR -> FM) : FM :=
  recv.onIface (fun t v => MtK.rec (motive := fun _ => FM) (fun f => qGt P call f (v :: args) k kp)
    (fun f el => v.onPtr (fun i o => qL6 P el i o fun v' => qGt P call f (v' :: args) k kp) (.fail 70))
    (fun f ft off => v.onAgg (fun cs => jq P ft cs off fun v' => qGt P call f (v' :: args) k kp) (.fail 70)) (.fail 71) (methodOf P t name)) (.fail 72)
def fnM (f : Fn) (kf : FuncId -> FM) (km : String -> FM) (d : FM) : FM :=
  Fn.rec (motive := fun _ => FM) kf km (fun _ _ => d) (fun _ _ _ _ => d) (fun _ => d) f
def afnM (f : AFn) (kf : FuncId -> FM) (km : String -> FM) (ky : Nat -> FM) (d : FM) : FM :=
  AFn.rec (motive := fun _ => FM) (fun g => fnM g kf km d) ky f
def consM (l : List AV) (d : FM) (k : AV -> List AV -> FM) : FM := List.rec (motive := fun _ => FM) d (fun h t _ => k h t) l
def qK8 (call : Qz) (round : Qv) (f : AFn) (args captured : List AV) (k : KV) (kp : QR -> FM) : FM :=
  afnM f (fun g => jR args captured fun l => qGt P call g l k kp) (fun name => consM args (.fail 73) fun r rest => qEj P call r name rest k kp)
    (fun l => round l args k) (.fail 74)
structure OC where
  call : Qz
  round : Qv
  t : TT
  g : Nat
def OC.ev (c : OC) (x : Operand) : AV := qOb c.g c.t x
def OC.evs (c : OC) (l : List Operand) : List AV := evalOs c.g c.t l
def OC.evo (c : OC) (x : Option Operand) : Option AV := Option.rec (motive := fun _ => Option AV) none (fun y => some (c.ev y)) x
abbrev OpK := OC -> KV -> (QT -> FM) -> (QR -> FM) -> FM
def oMove (x : Operand) : OpK := fun c k _ _ => k (c.ev x)
def oPick (x a b : Operand) : OpK := fun c k _ _ => (c.ev x).onBool (fun t => cnd t (k (c.ev a)) (k (c.ev b))) (.fail 100)
def newVar (v : AV) (k : KV) : FM := v.cellsK fun cs => .new (.cells cs Nat.zero false false) fun i => k (.ptr i Nat.zero)
def oAlloc (e : TypeId) : OpK := fun _ k _ _ => Qn (jN P e) (.fail 101) fun z => newVar z k
def oBox (_e : TypeId) (x : Operand) : OpK := fun c k _ _ => newVar (c.ev x) k
def qW6 (c : OC) (place : Nat -> Option (Nat × Nat)) (parts : List (Nat × Operand)) : List AV -> (List AV -> FM) -> FM :=
  List.rec (motive := fun _ => List AV -> (List AV -> FM) -> FM) (fun cs k => k cs)
    (fun p _ ih cs k => Qn (place p.1) (.fail 102) fun os => qQh os.2 (c.ev p.2) fun ps => putK ps os.1 cs fun cs' => ih cs' k) parts
def qKe (l : List Field) : Option (List (Nat × Nat)) := match l with
  | [] => some []
  | f :: r => match szO P f.type, qKe r with | some n, some s => some ((f.offset, n) :: s) | _, _ => none
def placeOf (t : TypeId) : Option (Nat -> Option (Nat × Nat)) := match P.underlying t with
  | some (.struct fs) => match qKe P fs.toList with | some l => some fun i => l[i]? | none => none
  | some (.array _ e) => match szO P e with | some n => some fun i => some (i * n, n) | none => none
  | _ => none
def qUi (t : TypeId) (parts : Array (Nat × Operand)) : OpK := fun c k _ _ =>
  Qn (jN P t) (.fail 103) fun z => Qn (placeOf P t) (.fail 103) fun pl => z.cellsK fun zs => qW6 c pl parts.toList zs fun cs => k (.agg cs)
def qD (e : TypeId) (n : Nat) (k : List AV -> Nat -> FM) : FM := qZe P e n k
def qIi (t : TypeId) (len : Nat) (parts : Array (Nat × Operand)) : OpK := fun c k _ _ =>
  Qn (qJ P t) (.fail 104) fun e => qJh P e len (qD P e len fun cs0 sz => cnd (Nat.ble (Nat.mul len sz) 16777216)
    (qW6 c (fun i => some (Nat.mul i sz, sz)) parts.toList cs0 fun cs => .new (.cells cs sz false false) fun i => k (.slice i Nat.zero len len false)) (.fail 104))
def oUpdate (t : TypeId) (m key v : Operand) : OpK := fun c k _ _ => qH8 P t (c.ev m) (c.ev key) (c.ev v) k
def oLoad (t : TypeId) (a : Operand) : OpK := fun c k _ _ => (c.ev a).onPtr (fun i o => qL6 P t i o k) (.fail 107)
def qYj (t : TypeId) (a v : Operand) : OpK := fun c k _ _ => (c.ev a).onPtr (fun i o => qTt P t i o (c.ev v) (k (.tuple []))) (.fail 108)
def qJr (x : Operand) : OpK := fun c k _ _ =>
  (c.ev x).onPtr (fun i o => k (.ptr i o)) ((c.ev x).onIface (fun t v => k (.iface t v)) ((c.ev x).onFunc (fun f a b => afnM f (fun _ => k (.func f a b)) (fun _ => .fail 109) (fun _ => k (.func f a b)) (.fail 109)) (.fail 109)))
def catK (a b : List Nat) (k : KV) : FM :=
  jQ a Nat.zero fun n => jQ b Nat.zero fun m => cnd (Nat.ble (Nat.add n m) jX) (jR a b fun s => k (.str s)) (.fail 110)
def strBin (op : BinOp) (a b : List Nat) (k : KV) : FM :=
  BinOp.rec (motive := fun _ => FM) (catK a b k) (.fail 110) (.fail 110) (.fail 110) (.fail 110) (.fail 110) (.fail 110) (.fail 110) (.fail 110) (.fail 110) (.fail 110)
    (jc (qv a b) k) (jc (qv a b).not k) (jc (Qm a b) k) (jc (Qm b a).not k) (jc (Qm b a) k) (jc (Qm a b).not k) op
def intBin (op : BinOp) (q r : IntKind) (n m : Int) (k : KV) : FM :=
  BinOp.rec (motive := fun _ => FM) (kEq q r (bAdd q n m k)) (kEq q r (bSub q n m k)) (kEq q r (bMul q n m k)) (kEq q r (bQuo q n m k)) (kEq q r (bRem q n m k))
    (kEq q r (bAnd q n m k)) (kEq q r (bOr q n m k)) (kEq q r (bXor q n m k)) (bShl q n m k) (bShr q n m k) (kEq q r (qXs q n m k))
    (kEq q r (bEql q n m k)) (kEq q r (bNeq q n m k)) (kEq q r (bLss q n m k)) (kEq q r (bLeq q n m k)) (kEq q r (bGtr q n m k)) (kEq q r (bGeq q n m k)) op
def eqBin (lit : Bool) (op : BinOp) (t : TypeId) (a b : AV) (k : KV) : FM :=
  BinOp.rec (motive := fun _ => FM) (.fail 111) (.fail 111) (.fail 111) (.fail 111) (.fail 111) (.fail 111) (.fail 111) (.fail 111) (.fail 111) (.fail 111) (.fail 111)
    (xEql P lit t a b fun r => jc r k) (xEql P lit t a b fun r => jc r.not k) (.fail 111) (.fail 111) (.fail 111) (.fail 111) op
def qXr (lit : Bool) (op : BinOp) (t : TypeId) (a b : AV) (k : KV) : FM :=
  a.onIntStr (fun q n => b.onInt (fun r m => intBin op q r n m k) (.fail 112)) (fun s => b.onStr (fun r => strBin op s r k) (.fail 113)) (eqBin P lit op t a b k)
def isLit (x : Operand) : Bool := Operand.rec (motive := fun _ => Bool) (fun _ => false) (fun _ => true) (fun _ => false) (fun _ => false) x
def oBinOp (op : BinOp) (t : TypeId) (x y : Operand) (_yt : TypeId) : OpK := fun c k _ _ => qXr P (cnd (isLit x) true (isLit y)) op t (c.ev x) (c.ev y) k
def oUnOp (op : UnOp) (_t : TypeId) (x : Operand) : OpK := fun c k _ _ =>
  UnOp.rec (motive := fun _ => FM) ((c.ev x).onInt (fun q n => jo q (negI n) k) (.fail 114))
    ((c.ev x).onInt (fun q n => jo q (.ofNat (Nat.xor (Nat.sub (Nat.pow 2 (q7 q)) 1) (toU q n))) k) (.fail 114))
    ((c.ev x).onBool (fun b => jc b.not k) (.fail 114)) (.fail 114) op
def oConvert (s d : TypeId) (x : Operand) : OpK := fun c k _ _ => j4 P s d (c.ev x) k
def qE5 (t : TypeId) (x : Operand) : OpK := fun c k _ _ => cnd (Nat.beq (Qi P t) 6) (.fail 115) (cnd (Nat.beq (Qi P t) 0) (.fail 115) (k (.iface t (c.ev x))))
def qNr (f : Fn) (first captured : Array Operand) : OpK := fun c k _ _ => k (.func (.plain f) (c.evs first.toList) (c.evs captured.toList))
def qRv (t : TypeId) (r : Option Operand) : OpK := fun c k _ _ =>
  Option.rec (motive := fun _ => FM) (.new (.map [] Nat.zero) fun i => k (.map i)) (fun x => Qn (qKu P t) (.fail 115) fun _ => (c.ev x).onInt (fun _ _ => .new (.map [] Nat.zero) fun i => k (.map i)) (.fail 115)) r
def qKo (t : TypeId) (l m : Operand) : OpK := fun c k _ _ =>
  Qn (qJ P t) (.fail 115) fun e => (c.ev l).onNat (fun n => (c.ev m).onNat (fun p =>
    cnd (Nat.ble n p) (qJh P e p (qD P e p fun cs sz => .new (.cells cs sz false false) fun i => Qo n fun n' => Qo p fun p' => k (.slice i Nat.zero n' p' false))) (.fail 116)) (.fail 117)) (.fail 117)
def oSlice (t : TypeId) (x : Operand) (lo hi mx : Option Operand) : OpK := fun c k _ _ => qTg P t (c.ev x) (c.evo lo) (c.evo hi) (c.evo mx) k
def qHk (t : TypeId) (x : Operand) (f : Nat) : OpK := fun c k _ _ =>
  (c.ev x).onPtr (fun i o => Qn (qE0 P t f) (.fail 118) fun fd => Qn (szO P fd.type) (.fail 118) fun n => cnd (Nat.beq n Nat.zero) (.fail 118) (Qo (Nat.add o fd.offset) fun o' => k (.ptr i o'))) (.fail 119)
def qYm (t : TypeId) (x : Operand) (f : Nat) : OpK := fun c k _ _ =>
  (c.ev x).onAgg (fun cs => Qn (qE0 P t f) (.fail 120) fun fd => jq P fd.type cs fd.offset k) (.fail 121)
def ixAt (e : TypeId) (i o len : Nat) (ix : AV) (k : KV) : FM :=
  ix.onNat (fun n => cnd (ltb n len) (Qn (szO P e) (.fail 122) fun sz => Qo (Nat.add o (Nat.mul n sz)) fun o' => k (.ptr i o')) (.fail 122)) (.fail 123)
def qHj (t : TypeId) (x ix : Operand) : OpK := fun c k _ _ =>
  (c.ev x).onSlicePtr (fun i o len _ _ => Qn (qJ P t) (.fail 124) fun e => ixAt P e i o len (c.ev ix) k)
    (fun i o => Qn (J2 P t) (.fail 125) fun ne => ixAt P ne.2 i o ne.1 (c.ev ix) k) (.fail 126)
def qYl (t : TypeId) (x ix : Operand) : OpK := fun c k _ _ =>
  (c.ev x).onStrAgg (fun s => QS P t 3 ((c.ev ix).onNat (fun n => Qn (nthL s n) (.fail 127) fun b => k (.int .u8 (.ofNat b))) (.fail 128)))
    (fun cs => (c.ev ix).onNat (fun n => Qn (J2 P t) (.fail 129) fun ne => cnd (ltb n ne.1) (Qn (szO P ne.2) (.fail 129) fun sz => jq P ne.2 cs (Nat.mul n sz) k) (.fail 130)) (.fail 128)) (.fail 131)
def oLookup (t : TypeId) (x ix : Operand) (ok : Bool) : OpK := fun c k _ _ => qM2 P t (c.ev x) (c.ev ix) ok k
def qYk (t : TypeId) (x : Operand) : OpK := fun c k _ _ =>
  (c.ev x).onMapN (QS P t 10 (.new .nilIter fun i => k (.ptr i Nat.zero)))
    (fun m => QS P t 10 (.get m fun o => o.onMap (fun es ver => .new (.mapIter m ver es .junk) fun i => k (.ptr i Nat.zero)) (.fail 136)))
    ((c.ev x).onStr (fun s => QS P t 3 (.new (.strIter s Nat.zero) fun i => k (.ptr i Nat.zero))) (.fail 137))
def qJs (i : Nat) (k : KV) : FM := .set i .tomb (k (.tuple [.bool false]))
def qEp (i m ver : Nat) (e : AV × AV) (left : List (AV × AV)) (k : KV) : FM :=
  .set i (.mapIter m ver left (.tuple [e.1, e.2])) (k (.tuple [.bool true, e.1, e.2]))
def nxMap (i m ver : Nat) (left : List (AV × AV)) (k : KV) : FM :=
  .get m fun o => o.onMap (fun _ v => cnd (Nat.beq v ver)
    (List.rec (motive := fun _ => FM) (qJs i k) (fun e t _ => List.rec (motive := fun _ => FM) (qEp i m ver e [] k)
      (fun _ _ _ => jQ left Nat.zero fun n => .choose n fun j => Qn (nthL left j) (.fail 138) fun e => qJ0 left j fun left' => qEp i m ver e left' k) t) left)
    (.fail 139)) (.fail 140)
def nxStr (i : Nat) (s : List Nat) (pos : Nat) (k : KV) : FM :=
  Option.rec (motive := fun _ => FM) (qJs i k) (fun b => cnd (ltb b 128) (Qo (Nat.succ pos) fun p => .set i (.strIter s p) (k (.tuple [.bool true, .int .i64 (.ofNat pos), .int .i32 (.ofNat b)]))) (.fail 141)) (nthL s pos)
def oNext (it : Operand) (s : Bool) : OpK := fun c k _ _ =>
  (c.ev it).onPtr (fun i o => cnd (Nat.beq o Nat.zero) (.get i fun x => cnd s (x.onStrIter (fun s pos => nxStr i s pos k) (.fail 142)) (x.onMapIter (fun m ver left _ => nxMap i m ver left k) (qJs i k) (.fail 142))) (.fail 143)) (.fail 143)
def qYn (it : Operand) : OpK := fun c k _ _ =>
  (c.ev it).onPtr (fun i o => cnd (Nat.beq o Nat.zero) (.get i fun x => x.onMapIter (fun m ver _ cur => .get m fun o' => o'.onMap (fun _ v => cnd (Nat.beq v ver) (cur.onTuple (fun l => k (.tuple l)) (.fail 144)) (.fail 144)) (.fail 145)) (.fail 146) (.fail 146)) (.fail 147)) (.fail 147)
def jk (want : Array (String × TypeId)) (t : TypeId) : Option Bool := match P.info? t with
  | some ti => some (want.toList.all fun (n, s) => ti.methods.any fun m => m.name == n && m.sig == s)
  | none => none
def qX (as : TypeId) (ok r : Bool) (v : AV) (k : KV) : FM :=
  cnd r (cnd ok (k (.tuple [v, .bool true])) (k v)) (cnd ok (qFn P as fun z => k (.tuple [z, .bool false])) (.fail 148))
def qIh (x : Operand) (_xt as : TypeId) (ok : Bool) : OpK := fun c k _ _ =>
  cnd (Nat.beq (Qi P as) 0) (.fail 149) ((c.ev x).onIfaceN (qX P as ok false .junk k)
    (fun t v => Option.rec (motive := fun _ => FM) (qX P as ok (Nat.beq t as) v k)
      (fun want => Qn (jk P want t) (.fail 149) fun r => qX P as ok r (.iface t v) k) (qHy P as)) (.fail 150))
def qMh (t : Operand) (ix : Nat) : OpK := fun c k _ _ => (c.ev t).onTuple (fun vs => Qn (nthL vs ix) (.fail 151) k) (.fail 152)
def bltK (b : Builtin) (l : List AV) (ts : Array TypeId) (k : KV) : FM :=
  Builtin.rec (motive := fun _ => FM) (qY8 P l ts k) (blCap P l ts k) (blClear P l ts k) (.fail 154) (.fail 154) (blCopy P l ts k) (qY7 P l ts k) (.fail 154) (blLen P l ts k) (.fail 154) (blMax l ts k) (blMin l ts k)
    (.fail 154) (.fail 154) (.fail 154) (.fail 154) (.fail 154) (.fail 154) (.fail 154) (.fail 154) (.fail 154) (.fail 154) (.fail 154) (.fail 154) (.fail 154) (.fail 154) b
def oCall (cl : Call) : OpK := fun c k _ kp =>
  Callee.rec (motive := fun _ => FM)
    (fun f => (c.ev f).onFunc (fun g first captured => jR first (c.evs cl.args.toList) fun l => qK8 P c.call c.round g l captured k kp) (.fail 153))
    (fun r name => qEj P c.call (c.ev r) name (c.evs cl.args.toList) k kp)
    (fun b => bltK P b (c.evs cl.args.toList) cl.argTypes k) cl.callee
def qYo (cl : Call) : OpK := fun c _ kd _ =>
  Callee.rec (motive := fun _ => FM) (fun f => (c.ev f).onFunc (fun g first captured => jR first (c.evs cl.args.toList) fun l => afnM g (fun _ => jR l captured fun l' => kd ⟨g, l'⟩) (fun _ => .fail 155) (fun _ => .fail 155) (.fail 155)) (.fail 155)) (fun _ _ => .fail 156) (fun _ => .fail 156) cl.callee
def oPanic (x : Operand) : OpK := fun c _ _ kp => (c.ev x).onIface (fun t v => kp [(.iface t v, false)]) (.fail 157)
def oNo (w : Nat) : OpK := fun _ _ _ _ => .fail w
def opK (o : Op) : OpK :=
  Op.rec (motive := fun _ => OpK) oMove oMove oPick (oAlloc P) oBox (qUi P) (qIi P) (oUpdate P) (oLoad P) (qYj P) (fun _ => oNo 210) (fun _ => oNo 211) qJr (oBinOp P) oUnOp (oConvert P)
    (fun _ _ => oNo 216) (qE5 P) qNr (qRv P) (fun _ _ => oNo 220) (qKo P) (oSlice P) (qHk P) (qYm P) (qHj P) (qYl P) (oLookup P) (oUpdate P)
    (fun _ _ _ => oNo 229) (fun _ _ _ _ => oNo 230) (qYk P) oNext qYn (qIh P) qMh (oCall P) (fun _ => oNo 237) qYo oPanic (fun _ _ => oNo 240) (fun _ _ _ => oNo 241) (fun _ _ => oNo 242) o
end
end Go.X
namespace Go.X
section
variable (P : Program)
structure LH where
  /-- temporaries that are forgotten at a round's end -/
  junk : List Nat
  /-- temporaries in which iterators are: the entry at which they stand is forgotten -/
  its : List Nat
  /-- so many names a round -/
  win : Nat
structure Hints where
  /-- the loops of a function go side by side -/
  loop : FuncId -> Option LH
  /-- the ways through a function are qYs at its end -/
  join : FuncId -> Nat
abbrev Sums := FuncId -> Option (List AV -> KV -> (QR -> FM) -> FM)
def putDst (N : Nat) (dst : Option Tmp) (v : AV) (st : St) (k : St -> FM) : FM :=
  Option.rec (motive := fun _ => FM) (k st) (fun s => cnd (ltb s N) (TT.putK s v st.tmps fun t => k ⟨t, st.defers, st.u⟩) (.fail 158)) dst
def guardOf (ops : Array Oper) (o : Oper) : Option (Option Tmp × Bool) := match o.guard with
  | none => none
  | some (j, w) => match ops[j]? with | some x => some (x.dst, w) | none => some (none, w)
def qLr (want : Bool) (v : AV) (k : Bool -> FM) : FM :=
  v.onBool (fun b => k (cnd b want (cnd want false true))) (v.onTuple (fun _ => k false) (.fail 159))
def je (ops : Array Oper) (t : TT) (o : Oper) (k : Bool -> FM) : FM :=
  Option.rec (motive := fun _ => FM) (k true) (fun g => Option.rec (motive := fun _ => FM) (k false) (fun s => cnd (ltb s 4096) (qLr g.2 (TT.at s t) k) (.fail 159)) g.1) (guardOf ops o)
def xOps (call : Qz) (round : Qv) (N : Nat) (dok : Bool) (ops : Array Oper) (l : List Oper) : St -> (St -> FM) -> (St -> QR -> FM) -> FM :=
  List.rec (motive := fun _ => St -> (St -> FM) -> (St -> QR -> FM) -> FM) (fun st k _ => k st)
    (fun o _ ih st k kp => je ops st.tmps o fun b => cnd b
      (opK P o.op ⟨call, round, st.tmps, P.globals.size⟩ (fun v => putDst N o.dst v st fun st' => ih st' k kp)
        (fun d => cnd dok (putDst N o.dst (.tuple []) ⟨st.tmps, d :: st.defers, st.u⟩ fun st' => ih st' k kp) (.fail 157)) (kp st))
      (putDst N o.dst (.tuple []) st fun st' => ih st' k kp)) l
def qa (ops : Array Oper) (i : Nat) : Oper := ops.getD i default
def qN3 (ops : Array Oper) (i : Nat) : List Nat := match guardOf ops (qa ops i) with | some (some s, _) => [s] | _ => []
def slotsOf (ops : Array Oper) (i : Nat) : List Nat :=
  qN3 ops i ++ (qa ops i).op.operands.toList.filterMap fun | .tmp t => some t | _ => none
def QO (ops : Array Oper) (i : Nat) : Option Nat := (qa ops i).dst
def befL : List Oper -> List Nat -> List Nat
  | [], acc => acc
  | o :: r, acc => befL r (acc ++ [o.after.toList.foldl (fun s e => if Region.binds .any e then s ||| 2 ^ e.on ||| acc.getD e.on 0 else s) 0])
def masks (ops : Array Oper) : List Nat := befL ops.toList []
def ordL (ms : List Nat) (j i : Nat) : Bool := (ms.getD i 0).testBit j
def qPx (N : Nat) (ops : Array Oper) : Bool :=
  ops.toList.zipIdx.all fun (o, i) => (o.after.toList.all fun e => !Region.binds .any e || decide (e.on < i)) && (match o.dst with | some s => decide (s < N) | none => true) && (slotsOf ops i).all fun s => decide (s < 4096)
def fillT (sl : List Nat) : List AV -> TT -> (TT -> FM) -> FM :=
  List.rec (motive := fun _ => List AV -> TT -> (TT -> FM) -> FM) (fun _ t k => k t)
    (fun s _ ih vs t k => List.rec (motive := fun _ => FM) (.fail 150) (fun v r _ => TT.putK s v t fun t' => ih r t' k) vs) sl
def qKk (call : Qz) (round : Qv) (ops : Array Oper) (i : Nat) (vs : List AV) : FM :=
  fillT (slotsOf ops i) vs TT.undef fun t => je ops t (qa ops i) fun b => cnd b
    (opK P (qa ops i).op ⟨call, round, t, P.globals.size⟩ (fun v => .ret (.val v)) (fun _ => .fail 155) (fun _ => .fail 156)) (.ret (.val (.tuple [])))
def qV7 (call : Qz) (round : Qv) (N : Nat) (dok : Bool) (ops : Array Oper) (draw : Bool) (st : St) (k : St -> FM) (kp : St -> QR -> FM) : FM :=
  cnd draw (cnd (qPx N ops) (.regn ops.size (ordL (masks ops)) (slotsOf ops) (QO ops) (qKk P call round ops) st k) (.fail 154))
    (xOps P call round N dok ops ops.toList st k kp)
abbrev KC := QY -> St -> FM
abbrev qIv := St -> KC -> FM
def j7 (e : QY) (st : St) (k : St -> FM) (ke : KC) : FM :=
  QY.rec (motive := fun _ => FM) (k st) (fun i => ke (.exit i) st) (fun l => ke (.goto l) st) (ke .ret st) (fun ch => ke (.panic ch) st) e
def qMj (id : Nat) (e : QY) (st : St) (ke : KC) : FM :=
  QY.rec (motive := fun _ => FM) (ke .normal st) (fun i => cnd (Nat.beq i id) (ke .normal st) (ke (.exit i) st)) (fun l => ke (.goto l) st) (ke .ret st) (fun ch => ke (.panic ch) st) e
def qZp (body : qIv) (n : Nat) : qIv :=
  Nat.rec (motive := fun _ => qIv) (fun _ _ => .fail 200) (fun _ ih st k => body st fun e st' => j7 e st' (fun st2 => ih st2 k) k) n
def junkK (l : List Nat) : TT -> (TT -> FM) -> FM :=
  List.rec (motive := fun _ => TT -> (TT -> FM) -> FM) (fun t k => k t) (fun s _ ih t k => cnd (ltb s 4096) (TT.putK s .junk t fun t' => ih t' k) (.fail 199)) l
def dropO (a w : Nat) (m : FM) : FM := cnd (Nat.beq w Nat.zero) m (.drop a w m)
def curK (t : TT) (l : List Nat) (m : FM) : FM :=
  List.rec (motive := fun _ => FM) m (fun s _ ih => (TT.at s t).onPtr (fun i _ => .get i fun o => o.onMapIter (fun m ver left _ => .set i (.mapIter m ver left .junk) ih) ih ih) ih) l
def xLoopM (body : qIv) (n : Nat) (jw : LH) : qIv := fun st k =>
  .loop n (fun s => .here fun a => body s fun e s' => curK s'.tmps jw.its (junkK jw.junk s'.tmps fun t => dropO a jw.win (.ret (.st e ⟨t, s'.defers, s'.u⟩)))) st fun e s => k e s
def xLoops (H : Hints) (fn : FuncId) (body : qIv) (n : Nat) : qIv :=
  Option.rec (motive := fun _ => qIv) (qZp body n) (fun jw => xLoopM body n jw) (H.loop fn)
def qJ2 (l : Nat) (st : St) (k : KC) : FM :=
  .get l fun o => o.onLoop (fun r => LSt.rec (motive := fun _ => FM) (.set l .tomb (k r.pending st)) (.fail 202) (.set l .tomb (k r.pending st)) (.fail 202) r.state) (.fail 203)
def qU5 (call : Qz) (round : Qv) (N : Nat) (fn : FuncId) (f : AFn) (first captured : List AV) (params : Array Tmp) (assign body : Code) (t : TT) (dblock : Nat) (st' : St) (k : KC) : FM :=
  .new (.loop ⟨.ready, .normal, fn, t, N :: params.toList, assign, body, dblock⟩) fun l =>
    jR first [.func (.yield l) [] []] fun args => afnM f (fun g => jR args captured fun as => cnd (qC P g) (call g as (fun _ => qJ2 l st' k) (fun _ => .fail 204)) (.fail 204)) (fun _ => .fail 204) (fun _ => .fail 204) (.fail 204)
def xRange (call : Qz) (round : Qv) (N : Nat) (fn : FuncId) (cur : Option Nat) (g : Operand) (params : Array Tmp) (assign body : Code) : qIv := fun st k =>
  (qOb P.globals.size st.tmps g).onFunc (fun f first captured =>
    Option.rec (motive := fun _ => FM)
      (.new (.deferred (some [])) fun b => qU5 P call round N fn f first captured params assign body st.tmps b ⟨st.tmps, ⟨.yield b, []⟩ :: st.defers, st.u⟩ k)
      (fun l => .get l fun o => o.onLoop (fun r => qU5 P call round N fn f first captured params assign body st.tmps r.defers st k) (.fail 205)) cur) (.fail 201)
def ql (call : Qz) (round : Qv) (H : Hints) (fn : FuncId) (N : Nat) (cur : Option Nat) (lf : Nat) (c : Code) : qIv :=
  Code.rec (motive := fun _ => qIv)
    (fun st k => k .normal st)
    (fun _ ops draw st k => qV7 P call round N (Option.rec (motive := fun _ => Bool) true (fun _ => false) cur) ops draw st (fun st' => k .normal st') (fun st' ch => k (.panic ch) st'))
    (fun _ _ ia ib st k => ia st fun e st' => j7 e st' (fun st2 => ib st2 k) k)
    (fun x _ _ it ie st k => (qOb P.globals.size st.tmps x).onBool (fun b => cnd b (it st k) (ie st k)) (.fail 206))
    (fun id _ ib st k => ib st fun e st' => qMj id e st' k)
    (fun _ ib => xLoops H fn ib lf)
    (fun g params assign body _ _ => xRange P call round N fn cur g params assign body)
    (fun id st k => k (.exit id) st)
    (fun _ _ _ _ => .fail 207)
    (fun _ st k => k .normal st)
    (fun l st k => k (.goto l) st)
    (fun st k => k .ret st)
    (fun _ _ _ => .fail 208)
    c
def qPb (N : Nat) (ps : List Tmp) : List AV -> TT -> (TT -> FM) -> FM :=
  List.rec (motive := fun _ => List AV -> TT -> (TT -> FM) -> FM) (fun as t k => List.rec (motive := fun _ => FM) (k t) (fun _ _ _ => .fail 174) as)
    (fun p _ ih as t k => List.rec (motive := fun _ => FM) (.fail 174) (fun a as' _ => cnd (ltb p N) (TT.putK p a t fun t' => ih as' t' k) (.fail 174)) as) ps
def qV.with (r : qV) (s : LSt) (e : QY) : QB := .loop ⟨s, e, r.fn, r.tmps, r.params, r.assign, r.body, r.defers⟩
def J1 (l : Nat) (k : KV) (e : QY) : FM :=
  .get l fun o => o.onLoop (fun r =>
    QY.rec (motive := fun _ => FM)
      (.set l (r.with .ready .normal) (k (.bool true)))
      (fun i => .set l (r.with .done (.exit i)) (k (.bool false)))
      (fun _ => .fail 175)
      (.set l (r.with .done .ret) (k (.bool false)))
      (fun _ => .fail 176) e) (.fail 177)
def xRound (call : Qz) (round : Qv) (H : Hints) (lf : Nat) : Qv := fun l args k =>
  .get l fun o => o.onLoop (fun r => List.rec (motive := fun _ => FM) (.fail 178) (fun N ps _ =>
    qPb N ps args r.tmps fun t =>
    ql P call round H r.fn N (some l) lf r.assign ⟨t, [], .na⟩ fun e st => j7 e st
      (fun st' => .get l fun o' => o'.onLoop (fun r' =>
        LSt.rec (motive := fun _ => FM)
          (.set l (r'.with .busy r'.pending) (ql P call round H r.fn N (some l) lf r.body st' fun e2 _ => J1 l k e2))
          (.fail 170) (.fail 170) (.fail 170) r'.state) (.fail 171)) (fun _ _ => .fail 172)) r.params) (.fail 173)
def qWj (t : TT) (r : ResultVar) (k : KV) : FM :=
  ResultVar.rec (motive := fun _ => FM) (fun s => cnd (ltb s 4096) (k (TT.at s t)) (.fail 208)) (fun a ty => cnd (ltb a 4096) ((TT.at a t).onPtr (fun i o => qL6 P ty i o k) (.fail 209)) (.fail 208)) r
def qN (t : TT) (l : List ResultVar) : (List AV -> FM) -> FM :=
  List.rec (motive := fun _ => (List AV -> FM) -> FM) (fun k => k []) (fun r _ ih k => qWj P t r fun v => ih fun vs => k (v :: vs)) l
def results1 (vs : List AV) (k : KV) : FM :=
  List.rec (motive := fun _ => FM) (k (.tuple [])) (fun v t _ => List.rec (motive := fun _ => FM) (k v) (fun _ _ _ => k (.tuple vs)) t) vs
def qM8 (u : QZ) : QZ :=
  QZ.rec (motive := fun _ => QZ) .na .returning (fun ch => List.rec (motive := fun _ => QZ) u (fun e _ _ => cnd e.2 .returning u) ch) u
def raisedA (u : QZ) (ch : QR) : QZ :=
  QZ.rec (motive := fun _ => QZ) (.panicking ch) (.panicking ch) (fun old => .panicking (ch ++ old)) u
def qRn (u : QZ) (k : AV -> QZ -> FM) : FM :=
  QZ.rec (motive := fun _ => FM) (.fail 196) (k .nilIface u)
    (fun ch => List.rec (motive := fun _ => FM) (k .nilIface u) (fun e older _ => cnd e.2 (k .nilIface u) (k e.1 (.panicking ((e.1, true) :: older)))) ch) u
def recOp (o : Oper) : Option (Option Tmp) := match o.guard, o.op with
  | none, .call c => match c.callee with | .builtin .recover => some o.dst | _ => none
  | _, _ => none
def recOf (c : Code) : Option (Option Tmp × Array Oper × List Oper × Code) := match c with
  | .seq (.region _ ops false) rest => match ops.toList with
    | o :: os => match recOp o with | some d => some (d, ops, os, rest) | none => none
    | _ => none
  | _ => none
def qJt (l : List QT) (m : FM) : FM := List.rec (motive := fun _ => FM) m (fun _ _ _ => .fail 198) l
def qKw (fn : Func) (u : QZ) (k : QZ -> FM) : KC := fun e st =>
  qJt st.defers (QY.rec (motive := fun _ => FM)
    (qN P st.tmps fn.results.toList fun _ => k (qM8 u)) (fun _ => .fail 195) (fun _ => .fail 195)
    (qN P st.tmps fn.results.toList fun _ => k (qM8 u)) (fun ch => k (raisedA u ch)) e)
def qSw (N : Nat) (args : List AV) (k : TT -> FM) : FM :=
  cnd (Nat.ble N 4096) (jQ args Nat.zero fun n => cnd (Nat.ble n N) (TT.args args Nat.zero TT.undef k) (.fail 165)) (.fail 164)
def xDefer (call : Qz) (round : Qv) (H : Hints) (lf : Nat) (f : FuncId) (args : List AV) (u : QZ) (k : QZ -> FM) : FM :=
  cnd (qC P f) (Qn P.funcs[f]? (.fail 160) fun fn => Qn fn.body (.fail 160) fun c => qSw fn.ntmps args fun t =>
    Option.rec (motive := fun _ => FM) (ql P call round H f fn.ntmps none lf c ⟨t, [], .na⟩ (qKw P fn u k))
      (fun dr => qRn u fun v u' => putDst fn.ntmps dr.1 v ⟨t, [], .na⟩ fun st => xOps P call round fn.ntmps true dr.2.1 dr.2.2.1 st (fun st' => ql P call round H f fn.ntmps none lf dr.2.2.2 st' (qKw P fn u' k)) (fun st' ch => qKw P fn u' k (.panic ch) st')) (recOf c)) (.fail 193)
def qE3 (call : Qz) (round : Qv) (H : Hints) (lf : Nat) (ds : List QT) : QZ -> (QZ -> FM) -> FM :=
  List.rec (motive := fun _ => QZ -> (QZ -> FM) -> FM) (fun u k => k u)
    (fun e _ ih u k => afnM e.fn (fun g => xDefer P call round H lf g e.args u fun u' => ih u' k) (fun _ => .fail 191)
      (fun b => .get b fun o => o.onDeferred (fun l => qJt l (.set b .tomb (ih u k))) (.fail 192)) (.fail 193)) ds
def endK (fn : Func) (t : TT) (k : KV) (kp : QR -> FM) (u : QZ) : FM :=
  QZ.rec (motive := fun _ => FM) (.fail 194) (qN P t fn.results.toList fun vs => results1 vs k) kp u
def qGi (call : Qz) (round : Qv) (H : Hints) (lf : Nat) (fn : Func) (k : KV) (kp : QR -> FM) : KC := fun e st =>
  QY.rec (motive := fun _ => FM)
    (qE3 P call round H lf st.defers .returning (endK P fn st.tmps k kp)) (fun _ => .fail 195) (fun _ => .fail 195)
    (qE3 P call round H lf st.defers .returning (endK P fn st.tmps k kp))
    (fun ch => qE3 P call round H lf st.defers (.panicking ch) (endK P fn st.tmps k kp)) e
def qOw (H : Hints) (lf : Nat) (call : Qz) (round : Qv) : Qz := fun f args k kp =>
  Qn P.funcs[f]? (.fail 160) fun fn => Qn fn.body (.fail 160) fun c => qSw fn.ntmps args fun t =>
    ql P call round H f fn.ntmps none lf c ⟨t, [], .na⟩ (qGi P call round H lf fn k kp)
def ownOf (v : AV) (i : Nat) : Bool :=
  AV.rec (motive_1 := fun _ => Bool) (motive_2 := fun _ => PUnit) false (fun _ => false) (fun _ _ => false) (fun _ => false) false (fun j _ => Nat.beq i j) false (fun j _ _ _ _ => Nat.beq i j) false false (fun j => Nat.beq i j) (fun _ _ _ _ _ => false) false (fun _ _ _ => false) false (fun _ _ => false) (fun _ _ => false) PUnit.unit (fun _ _ _ _ => PUnit.unit) v
def gcK (a : Nat) (v : AV) (n : Nat) (m : FM) : FM :=
  Nat.rec (motive := fun _ => FM) m (fun j ih => cnd (ownOf v (Nat.add a j)) ih (Qo (Nat.add a j) fun i => .set i .tomb ih)) n
def qW1 (call : Qz) : Qz := fun f args k kp => .here fun a =>
  .join (call f args (fun v => .here fun b => gcK a v (Nat.sub b a) (.ret (.val v))) (fun ch => .ret (.pan ch .na))) fun r => Res.rec (motive := fun _ => FM) k (fun _ _ => .fail 167) (fun _ _ => .fail 167) (fun ch _ => kp ch) r
def qYs (call : Qz) : Qz := fun f args k kp =>
  .join (call f args (fun v => .ret (.val v)) (fun ch => .ret (.pan ch .na))) fun r => Res.rec (motive := fun _ => FM) k (fun _ _ => .fail 167) (fun _ _ => .fail 167) (fun ch _ => kp ch) r
def qX9 (H : Hints) (sums : Sums) (lf : Nat) (call : Qz) (round : Qv) : Qz := fun f args k kp =>
  Option.rec (motive := fun _ => FM) (cnd (Nat.beq (H.join f) 0) (qOw P H lf call round f args k kp) (cnd (Nat.beq (H.join f) 1) (qYs (qOw P H lf call round) f args k kp) (qW1 (qOw P H lf call round) f args k kp))) (fun s => s args k kp) (sums f)
structure CR where
  call : Qz
  round : Qv
def xCR (H : Hints) (sums : Sums) (lf : Nat) (n : Nat) : CR :=
  Nat.rec (motive := fun _ => CR) ⟨fun _ _ _ _ => .fail 161, fun _ _ _ => .fail 162⟩
    (fun _ ih => ⟨qX9 P H sums lf ih.call ih.round, xRound P ih.call ih.round H lf⟩) n
def xCall (H : Hints) (sums : Sums) (lf n : Nat) (f : FuncId) (args : List AV) : FM :=
  (xCR P H sums lf n).call f args (fun v => .ret (.val v)) (fun _ => .fail 163)
end
end Go.X
