/-
  PROVED: the evaluator of the model's code over abstract values (definitions). No condition.
-/
import Derived.Test.YtcponehlpgdmjaaGreatDoorXa
set_option linter.unusedVariables false
set_option linter.unusedSimpArgs false

namespace Go.X

/-! ### matchers -/
noncomputable def AV.onBool (w : AV) (kbool : Bool → FM) (d : FM) : FM :=
  AV.rec (motive_1 := fun _ => FM) (motive_2 := fun _ => PUnit) (d) (fun b => kbool b) (fun _ _ => d) (fun _ => d) (d) (fun _ _ => d) (d) (fun _ _ _ _ _ => d) (d) (d) (fun _ => d) (fun _ _ _ _ _ => d) (d) (fun _ _ _ => d) (d) (fun _ _ => d) (fun _ _ => d) PUnit.unit (fun _ _ _ _ => PUnit.unit) w
noncomputable def AV.onInt (w : AV) (kint : IntKind → Int → FM) (d : FM) : FM :=
  AV.rec (motive_1 := fun _ => FM) (motive_2 := fun _ => PUnit) (d) (fun _ => d) (fun q n => kint q n) (fun _ => d) (d) (fun _ _ => d) (d) (fun _ _ _ _ _ => d) (d) (d) (fun _ => d) (fun _ _ _ _ _ => d) (d) (fun _ _ _ => d) (d) (fun _ _ => d) (fun _ _ => d) PUnit.unit (fun _ _ _ _ => PUnit.unit) w
noncomputable def AV.onStr (w : AV) (kstr : List Nat → FM) (d : FM) : FM :=
  AV.rec (motive_1 := fun _ => FM) (motive_2 := fun _ => PUnit) (d) (fun _ => d) (fun _ _ => d) (fun s => kstr s) (d) (fun _ _ => d) (d) (fun _ _ _ _ _ => d) (d) (d) (fun _ => d) (fun _ _ _ _ _ => d) (d) (fun _ _ _ => d) (d) (fun _ _ => d) (fun _ _ => d) PUnit.unit (fun _ _ _ _ => PUnit.unit) w
noncomputable def AV.onPtr (w : AV) (kptr : Nat → Nat → FM) (d : FM) : FM :=
  AV.rec (motive_1 := fun _ => FM) (motive_2 := fun _ => PUnit) (d) (fun _ => d) (fun _ _ => d) (fun _ => d) (d) (fun i o => kptr i o) (d) (fun _ _ _ _ _ => d) (d) (d) (fun _ => d) (fun _ _ _ _ _ => d) (d) (fun _ _ _ => d) (d) (fun _ _ => d) (fun _ _ => d) PUnit.unit (fun _ _ _ _ => PUnit.unit) w
noncomputable def AV.onMap (w : AV) (kmap : Nat → FM) (d : FM) : FM :=
  AV.rec (motive_1 := fun _ => FM) (motive_2 := fun _ => PUnit) (d) (fun _ => d) (fun _ _ => d) (fun _ => d) (d) (fun _ _ => d) (d) (fun _ _ _ _ _ => d) (d) (d) (fun i => kmap i) (fun _ _ _ _ _ => d) (d) (fun _ _ _ => d) (d) (fun _ _ => d) (fun _ _ => d) PUnit.unit (fun _ _ _ _ => PUnit.unit) w
noncomputable def AV.onMapN (w : AV) (knilMap : FM) (kmap : Nat → FM) (d : FM) : FM :=
  AV.rec (motive_1 := fun _ => FM) (motive_2 := fun _ => PUnit) (d) (fun _ => d) (fun _ _ => d) (fun _ => d) (d) (fun _ _ => d) (d) (fun _ _ _ _ _ => d) (d) (knilMap) (fun i => kmap i) (fun _ _ _ _ _ => d) (d) (fun _ _ _ => d) (d) (fun _ _ => d) (fun _ _ => d) PUnit.unit (fun _ _ _ _ => PUnit.unit) w
noncomputable def AV.onFunc (w : AV) (kfunc : AFn → List AV → List AV → FM) (d : FM) : FM :=
  AV.rec (motive_1 := fun _ => FM) (motive_2 := fun _ => PUnit) (d) (fun _ => d) (fun _ _ => d) (fun _ => d) (d) (fun _ _ => d) (d) (fun _ _ _ _ _ => d) (d) (d) (fun _ => d) (fun f first captured _ _ => kfunc f first captured) (d) (fun _ _ _ => d) (d) (fun _ _ => d) (fun _ _ => d) PUnit.unit (fun _ _ _ _ => PUnit.unit) w
noncomputable def AV.onIface (w : AV) (kiface : TypeId → AV → FM) (d : FM) : FM :=
  AV.rec (motive_1 := fun _ => FM) (motive_2 := fun _ => PUnit) (d) (fun _ => d) (fun _ _ => d) (fun _ => d) (d) (fun _ _ => d) (d) (fun _ _ _ _ _ => d) (d) (d) (fun _ => d) (fun _ _ _ _ _ => d) (d) (fun t v _ => kiface t v) (d) (fun _ _ => d) (fun _ _ => d) PUnit.unit (fun _ _ _ _ => PUnit.unit) w
noncomputable def AV.onAgg (w : AV) (kagg : List AV → FM) (d : FM) : FM :=
  AV.rec (motive_1 := fun _ => FM) (motive_2 := fun _ => PUnit) (d) (fun _ => d) (fun _ _ => d) (fun _ => d) (d) (fun _ _ => d) (d) (fun _ _ _ _ _ => d) (d) (d) (fun _ => d) (fun _ _ _ _ _ => d) (d) (fun _ _ _ => d) (d) (fun cs _ => kagg cs) (fun _ _ => d) PUnit.unit (fun _ _ _ _ => PUnit.unit) w
noncomputable def AV.onTuple (w : AV) (ktuple : List AV → FM) (d : FM) : FM :=
  AV.rec (motive_1 := fun _ => FM) (motive_2 := fun _ => PUnit) (d) (fun _ => d) (fun _ _ => d) (fun _ => d) (d) (fun _ _ => d) (d) (fun _ _ _ _ _ => d) (d) (d) (fun _ => d) (fun _ _ _ _ _ => d) (d) (fun _ _ _ => d) (d) (fun _ _ => d) (fun vs _ => ktuple vs) PUnit.unit (fun _ _ _ _ => PUnit.unit) w
noncomputable def AV.onSlice (w : AV) (knils : FM) (kemp : FM) (kslice : Nat → Nat → Nat → Nat → Bool → FM) (d : FM) : FM :=
  AV.rec (motive_1 := fun _ => FM) (motive_2 := fun _ => PUnit) (d) (fun _ => d) (fun _ _ => d) (fun _ => d) (d) (fun _ _ => d) (knils) (fun i o len cap ext => kslice i o len cap ext) (kemp) (d) (fun _ => d) (fun _ _ _ _ _ => d) (d) (fun _ _ _ => d) (d) (fun _ _ => d) (fun _ _ => d) PUnit.unit (fun _ _ _ _ => PUnit.unit) w
noncomputable def AV.onSeq (w : AV) (kstr : List Nat → FM) (knils : FM) (kemp : FM) (kslice : Nat → Nat → Nat → Nat → Bool → FM) (d : FM) : FM :=
  AV.rec (motive_1 := fun _ => FM) (motive_2 := fun _ => PUnit) (d) (fun _ => d) (fun _ _ => d) (fun s => kstr s) (d) (fun _ _ => d) (knils) (fun i o len cap ext => kslice i o len cap ext) (kemp) (d) (fun _ => d) (fun _ _ _ _ _ => d) (d) (fun _ _ _ => d) (d) (fun _ _ => d) (fun _ _ => d) PUnit.unit (fun _ _ _ _ => PUnit.unit) w
noncomputable def AV.onIfaceN (w : AV) (knilIface : FM) (kiface : TypeId → AV → FM) (d : FM) : FM :=
  AV.rec (motive_1 := fun _ => FM) (motive_2 := fun _ => PUnit) (d) (fun _ => d) (fun _ _ => d) (fun _ => d) (d) (fun _ _ => d) (d) (fun _ _ _ _ _ => d) (d) (d) (fun _ => d) (fun _ _ _ _ _ => d) (d) (fun t v _ => kiface t v) (knilIface) (fun _ _ => d) (fun _ _ => d) PUnit.unit (fun _ _ _ _ => PUnit.unit) w
noncomputable def AV.onIntStr (w : AV) (kint : IntKind → Int → FM) (kstr : List Nat → FM) (d : FM) : FM :=
  AV.rec (motive_1 := fun _ => FM) (motive_2 := fun _ => PUnit) (d) (fun _ => d) (fun q n => kint q n) (fun s => kstr s) (d) (fun _ _ => d) (d) (fun _ _ _ _ _ => d) (d) (d) (fun _ => d) (fun _ _ _ _ _ => d) (d) (fun _ _ _ => d) (d) (fun _ _ => d) (fun _ _ => d) PUnit.unit (fun _ _ _ _ => PUnit.unit) w
noncomputable def AV.onSlicePtr (w : AV) (kslice : Nat → Nat → Nat → Nat → Bool → FM) (kptr : Nat → Nat → FM) (d : FM) : FM :=
  AV.rec (motive_1 := fun _ => FM) (motive_2 := fun _ => PUnit) (d) (fun _ => d) (fun _ _ => d) (fun _ => d) (d) (fun i o => kptr i o) (d) (fun i o len cap ext => kslice i o len cap ext) (d) (d) (fun _ => d) (fun _ _ _ _ _ => d) (d) (fun _ _ _ => d) (d) (fun _ _ => d) (fun _ _ => d) PUnit.unit (fun _ _ _ _ => PUnit.unit) w
noncomputable def AV.onStrAgg (w : AV) (kstr : List Nat → FM) (kagg : List AV → FM) (d : FM) : FM :=
  AV.rec (motive_1 := fun _ => FM) (motive_2 := fun _ => PUnit) (d) (fun _ => d) (fun _ _ => d) (fun s => kstr s) (d) (fun _ _ => d) (d) (fun _ _ _ _ _ => d) (d) (d) (fun _ => d) (fun _ _ _ _ _ => d) (d) (fun _ _ _ => d) (d) (fun cs _ => kagg cs) (fun _ _ => d) PUnit.unit (fun _ _ _ _ => PUnit.unit) w
noncomputable def AV.lenO (w : AV) : Option Nat :=
  AV.rec (motive_1 := fun _ => Option Nat) (motive_2 := fun _ => PUnit) (none) (fun _ => none) (fun _ _ => none) (fun s => some s.length) (none) (fun _ _ => none) (some Nat.zero) (fun i o len cap ext => some len) (some Nat.zero) (none) (fun _ => none) (fun _ _ _ _ _ => none) (none) (fun _ _ _ => none) (none) (fun _ _ => none) (fun _ _ => none) PUnit.unit (fun _ _ _ _ => PUnit.unit) w
/-- the cells of a value -/
noncomputable def AV.cellsK (w : AV) (k : List AV → FM) : FM :=
  AV.rec (motive_1 := fun _ => FM) (motive_2 := fun _ => PUnit) (.fail 16) (fun _ => k [w]) (fun _ _ => k [w]) (fun _ => k [w]) (k [w]) (fun _ _ => k [w]) (k [w]) (fun _ _ _ _ _ => k [w]) (k [w]) (k [w]) (fun _ => k [w]) (fun _ _ _ _ _ => k [w]) (k [w]) (fun _ _ _ => k [w]) (k [w]) (fun cs _ => k cs) (fun _ _ => k [w]) PUnit.unit (fun _ _ _ _ => PUnit.unit) w
/-- what may be the value of one cell -/
noncomputable def AV.plainC (w : AV) : Bool :=
  AV.rec (motive_1 := fun _ => Bool) (motive_2 := fun _ => PUnit) (false) (fun _ => true) (fun _ _ => true) (fun _ => true) (true) (fun _ _ => true) (true) (fun _ _ _ _ _ => true) (true) (true) (fun _ => true) (fun _ _ _ _ _ => true) (true) (fun _ _ _ => true) (true) (fun _ _ => false) (fun _ _ => false) PUnit.unit (fun _ _ _ _ => PUnit.unit) w
noncomputable def allPlain (l : List AV) : Bool := List.rec (motive := fun _ => Bool) true (fun v _ ih => cnd v.plainC ih false) l
noncomputable def AV.isNilX (w : AV) : Bool :=
  AV.rec (motive_1 := fun _ => Bool) (motive_2 := fun _ => PUnit) (false) (fun _ => false) (fun _ _ => false) (fun _ => false) (true) (fun _ _ => false) (false) (fun _ _ _ _ _ => false) (false) (false) (fun _ => false) (fun _ _ _ _ _ => false) (true) (fun _ _ _ => false) (true) (fun _ _ => false) (fun _ _ => false) PUnit.unit (fun _ _ _ _ => PUnit.unit) w

noncomputable def AV.isNilp (w : AV) : Bool :=
  AV.rec (motive_1 := fun _ => Bool) (motive_2 := fun _ => PUnit) (false) (fun _ => false) (fun _ _ => false) (fun _ => false) (true) (fun _ _ => false) (false) (fun _ _ _ _ _ => false) (false) (false) (fun _ => false) (fun _ _ _ _ _ => false) (false) (fun _ _ _ => false) (false) (fun _ _ => false) (fun _ _ => false) PUnit.unit (fun _ _ _ _ => PUnit.unit) w
noncomputable def AV.onFuncN (w : AV) (knilFunc : FM) (kfunc : AFn → List AV → List AV → FM) (d : FM) : FM :=
  AV.rec (motive_1 := fun _ => FM) (motive_2 := fun _ => PUnit) (d) (fun _ => d) (fun _ _ => d) (fun _ => d) (d) (fun _ _ => d) (d) (fun _ _ _ _ _ => d) (d) (d) (fun _ => d) (fun f first captured _ _ => kfunc f first captured) (knilFunc) (fun _ _ _ => d) (d) (fun _ _ => d) (fun _ _ => d) PUnit.unit (fun _ _ _ _ => PUnit.unit) w
noncomputable def AV.onNat (w : AV) (k : Nat → FM) (d : FM) : FM := w.onInt (fun _ n => Int.rec (motive := fun _ => FM) (fun m => k m) (fun _ => d) n) d
noncomputable def optM {α : Type} (o : Option α) (d : FM) (k : α → FM) : FM := Option.rec (motive := fun _ => FM) d k o

/-! ### objects -/
/-- cells that are read -/
noncomputable def AObj.onRead (w : AObj) (k : List AV → FM) (d : FM) : FM :=
  AObj.rec (motive := fun _ => FM) (fun c _ _ _ => k c) (fun _ _ => d) (fun _ _ _ _ => d) d d (fun _ _ => d) (fun _ => d) (fun _ => d) (fun c => k c) w
noncomputable def AObj.onCells (w : AObj) (k : List AV → Nat → Bool → Bool → FM) (d : FM) : FM :=
  AObj.rec (motive := fun _ => FM) k (fun _ _ => d) (fun _ _ _ _ => d) d d (fun _ _ => d) (fun _ => d) (fun _ => d) (fun _ => d) w
noncomputable def AObj.onMap (w : AObj) (k : List (AV × AV) → Nat → FM) (d : FM) : FM :=
  AObj.rec (motive := fun _ => FM) (fun _ _ _ _ => d) k (fun _ _ _ _ => d) d d (fun _ _ => d) (fun _ => d) (fun _ => d) (fun _ => d) w
noncomputable def AObj.onMapIter (w : AObj) (km : Nat → Nat → List (AV × AV) → AV → FM) (kn : FM) (d : FM) : FM :=
  AObj.rec (motive := fun _ => FM) (fun _ _ _ _ => d) (fun _ _ => d) km kn d (fun _ _ => d) (fun _ => d) (fun _ => d) (fun _ => d) w
noncomputable def AObj.onStrIter (w : AObj) (ks : List Nat → Nat → FM) (d : FM) : FM :=
  AObj.rec (motive := fun _ => FM) (fun _ _ _ _ => d) (fun _ _ => d) (fun _ _ _ _ => d) d d ks (fun _ => d) (fun _ => d) (fun _ => d) w
noncomputable def AObj.onLoop (w : AObj) (k : ALoop → FM) (d : FM) : FM :=
  AObj.rec (motive := fun _ => FM) (fun _ _ _ _ => d) (fun _ _ => d) (fun _ _ _ _ => d) d d (fun _ _ => d) k (fun _ => d) (fun _ => d) w
noncomputable def AObj.onDeferred (w : AObj) (k : List ADef → FM) (d : FM) : FM :=
  AObj.rec (motive := fun _ => FM) (fun _ _ _ _ => d) (fun _ _ => d) (fun _ _ _ _ => d) d d (fun _ _ => d) (fun _ => d) (fun o => optM o d k) (fun _ => d) w

noncomputable def readCells (i : Nat) (k : List AV → FM) : FM := .get i fun o => o.onRead k (.fail 9)
noncomputable def onCells (i : Nat) (k : List AV → Nat → Bool → Bool → FM) : FM := .get i fun o => o.onCells k (.fail 10)

/-! ### lists -/
noncomputable def nthL {α : Type} (l : List α) : Nat → Option α :=
  List.rec (motive := fun _ => Nat → Option α) (fun _ => none) (fun h _ ih n => Nat.rec (motive := fun _ => Option α) (some h) (fun m _ => ih m) n) l
noncomputable def dropL {α : Type} (n : Nat) : List α → List α :=
  Nat.rec (motive := fun _ => List α → List α) (fun l => l) (fun _ ih l => List.rec (motive := fun _ => List α) [] (fun _ t _ => ih t) l) n
/-- the first n, or none, if there are not so many -/
noncomputable def takeK {α : Type} (n : Nat) : List α → (List α → FM) → FM :=
  Nat.rec (motive := fun _ => List α → (List α → FM) → FM) (fun _ k => k []) (fun _ ih l k => List.rec (motive := fun _ => FM) (.fail 12) (fun h t _ => ih t fun r => k (h :: r)) l) n
/-- v at place n; fails if there is no such place -/
noncomputable def setK {α : Type} (v : α) (l : List α) : Nat → (List α → FM) → FM :=
  List.rec (motive := fun _ => Nat → (List α → FM) → FM) (fun _ _ => .fail 13)
    (fun h t ih n k => Nat.rec (motive := fun _ => FM) (k (v :: t)) (fun m _ => ih m fun r => k (h :: r)) n) l
/-- vs over the head of l; fails where there is no room -/
noncomputable def overK {α : Type} (vs : List α) : List α → (List α → FM) → FM :=
  List.rec (motive := fun _ => List α → (List α → FM) → FM) (fun l k => k l)
    (fun v _ ih l k => List.rec (motive := fun _ => FM) (.fail 14) (fun _ t _ => ih t fun r => k (v :: r)) l) vs
/-- vs from place n on -/
noncomputable def putK {α : Type} (vs : List α) (n : Nat) : List α → (List α → FM) → FM :=
  Nat.rec (motive := fun _ => List α → (List α → FM) → FM) (fun l k => overK vs l k)
    (fun _ ih l k => List.rec (motive := fun _ => FM) (.fail 15) (fun h t _ => ih t fun r => k (h :: r)) l) n
noncomputable def appK {α : Type} (a b : List α) : (List α → FM) → FM :=
  List.rec (motive := fun _ => (List α → FM) → FM) (fun k => k b) (fun h _ ih k => ih fun r => k (h :: r)) a
noncomputable def repK {α : Type} (z : List α) (n : Nat) : (List α → FM) → FM :=
  Nat.rec (motive := fun _ => (List α → FM) → FM) (fun k => k []) (fun _ ih k => ih fun r => appK z r k) n
noncomputable def lenK {α : Type} (l : List α) : Nat → (Nat → FM) → FM :=
  List.rec (motive := fun _ => Nat → (Nat → FM) → FM) (fun a k => k a) (fun _ _ ih a k => forceNat (Nat.add a 1) fun a' => ih a' k) l

/-! ### temporaries -/
noncomputable def TT.undef : TT := N16.all (N16.all (N16.all (.tuple [])))
/-- the arguments into the first slots -/
noncomputable def TT.args {β : Type} (l : List AV) : Nat → TT → (TT → β) → β :=
  List.rec (motive := fun _ => Nat → TT → (TT → β) → β) (fun _ t k => k t) (fun v _ ih n t k => TT.putK n v t fun t' => ih (Nat.succ n) t' k) l

/-! ### constants of the code -/
def ofValue0 : Value → AV
  | .bool b => .bool b
  | .int k n => .int k n
  | .string s => .str (s.data.toList.map UInt8.toNat)
  | .pointer none => .nilp
  | .slice none 0 0 => .nils
  | .map none => .nilMap
  | .func f #[] #[] => .func (.plain f) [] []
  | .nilFunc => .nilFunc
  | .nilIface => .nilIface
  | .tuple #[] => .tuple []
  | _ => .junk
def ofValue1 : Value → AV
  | .agg cs => .agg (cs.toList.map ofValue0)
  | v => ofValue0 v
def ofValue : Value → AV
  | .iface t v => .iface t (ofValue1 v)
  | v => ofValue1 v
noncomputable def evalO (G : Nat) (t : TT) (x : Operand) : AV :=
  Operand.rec (motive := fun _ => AV) (fun s => cnd (ltb s 4096) (TT.at s t) .junk) (fun v => ofValue v) (fun g => cnd (ltb g G) (.ptr g Nat.zero) .junk) (fun f => .func (.plain (.func f)) [] []) x
noncomputable def evalOs (G : Nat) (t : TT) (l : List Operand) : List AV :=
  List.rec (motive := fun _ => List AV) [] (fun x _ ih => evalO G t x :: ih) l

/-! ### numbers -/
noncomputable def ltI (a b : Int) : Bool :=
  Int.rec (motive := fun _ => Bool) (fun m => Int.rec (motive := fun _ => Bool) (fun p => ltb m p) (fun _ => false) b)
    (fun m => Int.rec (motive := fun _ => Bool) (fun _ => true) (fun p => ltb p m) b) a
noncomputable def addI (a b : Int) : Int :=
  Int.rec (motive := fun _ => Int) (fun m => Int.rec (motive := fun _ => Int) (fun p => .ofNat (Nat.add m p)) (fun p => cnd (Nat.ble (Nat.succ p) m) (.ofNat (Nat.sub m (Nat.succ p))) (.negSucc (Nat.sub p m))) b)
    (fun m => Int.rec (motive := fun _ => Int) (fun p => cnd (Nat.ble (Nat.succ m) p) (.ofNat (Nat.sub p (Nat.succ m))) (.negSucc (Nat.sub m p))) (fun p => .negSucc (Nat.succ (Nat.add m p))) b) a
noncomputable def negI (a : Int) : Int :=
  Int.rec (motive := fun _ => Int) (fun m => Nat.rec (motive := fun _ => Int) (.ofNat Nat.zero) (fun p _ => .negSucc p) m) (fun m => .ofNat (Nat.succ m)) a
noncomputable def kbits (q : IntKind) : Nat := IntKind.rec (motive := fun _ => Nat) 8 16 32 64 8 16 32 64 q
noncomputable def ksigned (q : IntKind) : Bool := IntKind.rec (motive := fun _ => Bool) true true true true false false false false q
noncomputable def wrapI (q : IntKind) (n : Int) : Int :=
  cnd (ksigned q)
    (Int.rec (motive := fun _ => Int) (fun m => cnd (ltb m (Nat.pow 2 (Nat.sub (kbits q) 1))) n (q.wrap n)) (fun m => cnd (ltb m (Nat.pow 2 (Nat.sub (kbits q) 1))) n (q.wrap n)) n)
    (Int.rec (motive := fun _ => Int) (fun m => .ofNat (Nat.mod m (Nat.pow 2 (kbits q)))) (fun _ => q.wrap n) n)
noncomputable def toU (q : IntKind) (n : Int) : Nat :=
  Int.rec (motive := fun _ => Nat) (fun m => Nat.mod m (Nat.pow 2 (kbits q))) (fun m => Nat.sub (Nat.sub (Nat.pow 2 (kbits q)) 1) (Nat.mod m (Nat.pow 2 (kbits q)))) n
noncomputable def retI (q : IntKind) (n : Int) (k : AV → FM) : FM := forceInt (wrapI q n) fun m => k (.int q m)
noncomputable def retB (b : Bool) (k : AV → FM) : FM := cnd b (k (.bool true)) (k (.bool false))
abbrev BinK := IntKind → Int → Int → (AV → FM) → FM
noncomputable def bAdd : BinK := fun q a b k => retI q (addI a b) k
noncomputable def bSub : BinK := fun q a b k => retI q (addI a (negI b)) k
noncomputable def bMul : BinK := fun q a b k => retI q (a * b) k
noncomputable def bQuo : BinK := fun q a b k => cnd (eqI b 0) (.fail 30) (retI q (a.tdiv b) k)
noncomputable def bRem : BinK := fun q a b k => cnd (eqI b 0) (.fail 31) (forceInt (a.tmod b) fun m => k (.int q m))
noncomputable def bAnd : BinK := fun q a b k => retI q (.ofNat (Nat.land (toU q a) (toU q b))) k
noncomputable def bOr : BinK := fun q a b k => retI q (.ofNat (Nat.lor (toU q a) (toU q b))) k
noncomputable def bXor : BinK := fun q a b k => retI q (.ofNat (Nat.xor (toU q a) (toU q b))) k
noncomputable def bAndNot : BinK := fun q a b k => retI q (.ofNat (Nat.land (toU q a) (Nat.xor (toU q b) (Nat.sub (Nat.pow 2 (kbits q)) 1)))) k
noncomputable def bShl : BinK := fun q a b k => Int.rec (motive := fun _ => FM) (fun m => retI q (a * Int.ofNat (Nat.pow 2 (cnd (Nat.ble m (kbits q)) m (kbits q)))) k) (fun _ => .fail 32) b
noncomputable def bShr : BinK := fun q a b k => Int.rec (motive := fun _ => FM) (fun m => forceInt (a.fdiv (Int.ofNat (Nat.pow 2 (cnd (Nat.ble m (kbits q)) m (kbits q))))) fun r => k (.int q r)) (fun _ => .fail 33) b
noncomputable def bEql : BinK := fun _ a b k => retB (eqI a b) k
noncomputable def bNeq : BinK := fun _ a b k => retB (eqI a b).not k
noncomputable def bLss : BinK := fun _ a b k => retB (ltI a b) k
noncomputable def bLeq : BinK := fun _ a b k => retB (ltI b a).not k
noncomputable def bGtr : BinK := fun _ a b k => retB (ltI b a) k
noncomputable def bGeq : BinK := fun _ a b k => retB (ltI a b).not k
end Go.X

namespace Go.X

/-! ### what a program's tables say (closed terms: the kernel looks them up once) -/
section
variable (P : Program)
/-- what kind of type: 0: none such -/
def tagOf (t : TypeId) : Nat := match P.underlying t with
  | some .bool => 1
  | some (.int _) => 2
  | some .string => 3
  | some (.pointer _) => 4
  | some .unsafePointer => 5
  | some (.interface _) => 6
  | some (.struct _) => 7
  | some (.array _ _) => 8
  | some (.slice _) => 9
  | some (.map _ _) => 10
  | some (.func _ _ _) => 11
  | some _ => 12
  | none => 0
def szO (t : TypeId) : Option Nat := match P.info? t with | some i => some i.size | none => none
def bytesO (t : TypeId) : Option Nat := match P.info? t with | some i => some i.bytes | none => none
def cmpO (t : TypeId) : Option Bool := match P.info? t with | some i => some i.comparable | none => none
def zeroO (t : TypeId) : Option AV := match P.info? t with
  | some i => match i.zero with | some z => some (ofValue z) | none => none
  | none => none
def isAggO (t : TypeId) : Option Bool := match P.underlying t with | some (.struct _) => some true | some (.array _ _) => some true | some _ => some false | none => none
def fieldO (t : TypeId) (f : Nat) : Option Field := match P.underlying t with | some (.struct fs) => fs[f]? | _ => none
def elemS (t : TypeId) : Option TypeId := match P.underlying t with | some (.slice e) => some e | _ => none
def elemA (t : TypeId) : Option (Nat × TypeId) := match P.underlying t with | some (.array n e) => some (n, e) | _ => none
def elemP (t : TypeId) : Option TypeId := match P.underlying t with | some (.pointer e) => some e | _ => none
def elemM (t : TypeId) : Option (TypeId × TypeId) := match P.underlying t with | some (.map k e) => some (k, e) | _ => none
def ifaceO (t : TypeId) : Option (Array (String × TypeId)) := match P.underlying t with | some (.interface ms) => some ms | _ => none
def intO (t : TypeId) : Option IntKind := match P.underlying t with | some (.int k) => some k | _ => none
/-- a value of a type out of cells -/
noncomputable def partK (t : TypeId) (cs : List AV) (off : Nat) (k : AV → FM) : FM :=
  optM (isAggO P t) (.fail 17) fun b => cnd b (optM (szO P t) (.fail 17) fun n => takeK n (dropL off cs) fun l => k (.agg l)) (optM (nthL cs off) (.fail 17) k)

abbrev KV := AV → FM
/-- a call: of which function; its arguments; how it goes on; how, where it panics -/
abbrev CallRec := FuncId → List AV → KV → (Chain → FM) → FM
/-- a round of a loop: of which loop; its arguments; how it goes on -/
abbrev RoundRec := Nat → List AV → KV → FM

noncomputable def loadC (t : TypeId) (i o : Nat) (k : KV) : FM := readCells i fun c => partK P t c o k
/-- the cells of a value, so many -/
noncomputable def cellsN (n : Nat) (v : AV) (k : List AV → FM) : FM := v.cellsK fun cs => lenK cs Nat.zero fun m => cnd (Nat.beq m n) (k cs) (.fail 18)
noncomputable def overC (i o : Nat) (cs : List AV) (m : FM) : FM :=
  cnd (allPlain cs) (onCells i fun c e g mk => putK cs o c fun c' => .set i (.cells c' e g mk) m) (.fail 19)
noncomputable def storeC (t : TypeId) (i o : Nat) (v : AV) (m : FM) : FM := optM (szO P t) (.fail 18) fun n => cellsN n v fun cs => overC i o cs m
noncomputable def optNat (d : Nat) (x : Option AV) (k : Nat → FM) : FM := Option.rec (motive := fun _ => FM) (k d) (fun v => v.onNat k (.fail 20)) x
noncomputable def leb3 (a b c : Nat) : Bool := cnd (Nat.ble a b) (Nat.ble b c) false
noncomputable def noneM {α : Type} (o : Option α) (m : FM) : FM := Option.rec (motive := fun _ => FM) m (fun _ => .fail 15) o

/-- a slice's place behind n elements -/
noncomputable def slcAt (e : TypeId) (o n : Nat) (k : Nat → FM) : FM := optM (szO P e) (.fail 18) fun sz => forceNat (Nat.add o (Nat.mul n sz)) k
noncomputable def slStr (s : List Nat) (lo hi : Option AV) (k : KV) : FM :=
  lenK s Nat.zero fun len => optNat Nat.zero lo fun l => optNat len hi fun h => cnd (leb3 l h len) (takeK h s fun s' => k (.str (dropL l s'))) (.fail 21)
noncomputable def slNil (r : AV) (lo hi mx : Option AV) (k : KV) : FM :=
  optNat Nat.zero lo fun l => optNat Nat.zero hi fun h => Option.rec (motive := fun _ => FM) (cnd (Nat.beq (Nat.add l h) Nat.zero) (k r) (.fail 22))
    (fun mv => optM hi (.fail 22) fun _ => mv.onNat (fun m => cnd (Nat.beq (Nat.add l (Nat.add h m)) Nat.zero) (k r) (.fail 22)) (.fail 22)) mx
noncomputable def slSlice (e : TypeId) (i o len cap : Nat) (ext : Bool) (lo hi mx : Option AV) (k : KV) : FM :=
  optNat Nat.zero lo fun l => Option.rec (motive := fun _ => FM)
      (optNat len hi fun h => cnd (leb3 l h cap)
        (cnd (Nat.beq l cap) (cnd ext (k .emp) (k (.slice i o Nat.zero Nat.zero false)))
          (slcAt P e o l fun o' => forceNat (Nat.sub h l) fun n => forceNat (Nat.sub cap l) fun c => k (.slice i o' n c ext)))
        (.fail 23))
      (fun mv => mv.onNat (fun m => optM hi (.fail 24) fun hv => hv.onNat (fun h => cnd (cnd (leb3 l h m) (Nat.ble m cap) false)
        (cnd (Nat.beq m l) (k (.slice i o Nat.zero Nat.zero false))
          (slcAt P e o l fun o' => forceNat (Nat.sub h l) fun n => forceNat (Nat.sub m l) fun c => k (.slice i o' n c false)))
        (.fail 24)) (.fail 25)) (.fail 25)) mx
noncomputable def xSlice (t : TypeId) (x : AV) (lo hi mx : Option AV) (k : KV) : FM :=
  x.onSeq (fun s => cnd (Nat.beq (tagOf P t) 3) (noneM mx (slStr s lo hi k)) (.fail 26))
    (cnd (Nat.beq (tagOf P t) 9) (optM (elemS P t) (.fail 26) fun e => optM (szO P e) (.fail 26) fun _ => slNil .nils lo hi mx k) (.fail 26))
    (cnd (Nat.beq (tagOf P t) 9) (optM (elemS P t) (.fail 26) fun e => optM (szO P e) (.fail 26) fun _ => slNil .emp lo hi mx k) (.fail 26))
    (fun i o len cap ext => optM (elemS P t) (.fail 26) fun e => optM (szO P e) (.fail 26) fun _ => slSlice P e i o len cap ext lo hi mx k)
    (x.onPtr (fun i o => optM (elemA P t) (.fail 27) fun ne => optM (szO P ne.2) (.fail 26) fun _ => slSlice P ne.2 i o ne.1 ne.1 false lo hi mx k) (.fail 28))

noncomputable def ofBytes (l : List Nat) : List AV := List.rec (motive := fun _ => List AV) [] (fun b _ ih => .int .u8 (.ofNat b) :: ih) l
/-- cells that are bytes -/
noncomputable def bytesK (l : List AV) : (List Nat → FM) → FM :=
  List.rec (motive := fun _ => (List Nat → FM) → FM) (fun k => k [])
    (fun v _ ih k => v.onInt (fun q n => IntKind.rec (motive := fun _ => FM) (.fail 29) (.fail 29) (.fail 29) (.fail 29)
      (Int.rec (motive := fun _ => FM) (fun b => cnd (ltb b 256) (ih fun r => k (b :: r)) (.fail 29)) (fun _ => .fail 29) n) (.fail 29) (.fail 29) (.fail 29) q) (.fail 29)) l

/-- the first n elements, of so many cells each -/
noncomputable def firstC (n sz : Nat) (x : AV) (k : List AV → FM) : FM :=
  x.onSeq (fun s => cnd (Nat.beq sz 1) (takeK n s fun s' => k (ofBytes s')) (.fail 34)) (cnd (Nat.beq n Nat.zero) (k []) (.fail 34)) (cnd (Nat.beq n Nat.zero) (k []) (.fail 34))
    (fun i o _ _ _ => readCells i fun c => takeK (Nat.mul n sz) (dropL o c) k) (.fail 35)

/-- no slice is longer here, in bytes -/
noncomputable def most : Nat := 1099511627776
noncomputable def roomK (e : TypeId) (n : Nat) (m : FM) : FM := optM (bytesO P e) (.fail 36) fun b => cnd (cnd (Nat.ble (Nat.mul n b) most) (Nat.ble n most) false) m (.fail 36)
noncomputable def growK (e : TypeId) (cs : List AV) (sz m : Nat) (mk : Bool) (k : KV) : FM :=
  optM (zeroO P e) (.fail 36) fun z => z.cellsK fun zs => lenK zs Nat.zero fun zn => cnd (Nat.beq zn sz) (.new (.cells cs sz true mk) fun j => k (.slice j Nat.zero m m true)) (.fail 36)
/-- what an append adds: the elements of a slice, a string's bytes, so many zero values -/
noncomputable def zrowK (e : TypeId) (n : Nat) (k : List AV → Nat → FM) : FM :=
  optM (szO P e) (.fail 104) fun sz => optM (zeroO P e) (.fail 104) fun z => z.cellsK fun zs => lenK zs Nat.zero fun m => cnd (Nat.beq m sz) (repK zs n fun cs => k cs sz) (.fail 104)
noncomputable def addC (e : TypeId) (z : Bool) (n sz : Nat) (x : AV) (k : List AV → FM) : FM := cnd z (zrowK P e n fun cs _ => k cs) (firstC n sz x k)
noncomputable def AV.natO (w : AV) : Option Nat :=
  AV.rec (motive_1 := fun _ => Option Nat) (motive_2 := fun _ => PUnit) (none) (fun _ => none) (fun _ n => Int.rec (motive := fun _ => Option Nat) (fun m => some m) (fun _ => none) n) (fun _ => none) (none) (fun _ _ => none) (none) (fun _ _ _ _ _ => none) (none) (none) (fun _ => none) (fun _ _ _ _ _ => none) (none) (fun _ _ _ => none) (none) (fun _ _ => none) (fun _ _ => none) PUnit.unit (fun _ _ _ _ => PUnit.unit) w
noncomputable def lenZ (z : Bool) (x : AV) : Option Nat := cnd z x.natO x.lenO
noncomputable def roomZ (e : TypeId) (z : Bool) (n : Nat) (m : FM) : FM := cnd z (roomK P e n m) m
noncomputable def apSlice (e : TypeId) (sz : Nat) (i o len cap : Nat) (ext : Bool) (z : Bool) (n : Nat) (x : AV) (k : KV) : FM :=
  forceNat (Nat.add len n) fun m =>
  cnd (Nat.ble m cap)
    (addC P e z n sz x fun cs => overC i (Nat.add o (Nat.mul len sz)) cs (k (.slice i o m cap ext)))
    (roomK P e m (cnd ext
      (onCells i fun c es g mk => lenK c Nat.zero fun cl => cnd (cnd g (cnd (Nat.beq es sz) (Nat.beq (Nat.add o (Nat.mul cap sz)) cl) false) false)
        (takeK (Nat.mul len sz) (dropL o c) fun cs => addC P e z n sz x fun ds => cnd (allPlain ds) (appK cs ds fun cd => .set i .tomb (growK P e cd sz m mk k)) (.fail 37)) (.fail 37))
      (readCells i fun c => takeK (Nat.mul len sz) (dropL o c) fun cs => addC P e z n sz x fun ds => appK cs ds fun cd => growK P e cd sz m false k)))
noncomputable def xAppend (st xt : TypeId) (s x : AV) (k : KV) : FM :=
  optM (elemS P st) (.fail 37) fun e => optM (szO P e) (.fail 37) fun sz => cnd (cnd (Nat.beq (tagOf P xt) 9) true (cnd (Nat.beq (tagOf P xt) 3) true (Nat.beq (tagOf P xt) 2))) (optM (lenZ (Nat.beq (tagOf P xt) 2) x) (.fail (Nat.add 38000000 (Nat.add (Nat.mul 1000 st) xt))) fun n =>
    roomZ P e (Nat.beq (tagOf P xt) 2) n (cnd (Nat.beq n Nat.zero) (s.onSlice (k .nils) (k .emp) (fun i o len cap ext => cnd (Nat.ble len cap) (k s) (.fail 39)) (.fail 40))
    (s.onSlice (roomK P e n (addC P e (Nat.beq (tagOf P xt) 2) n sz x fun cs => growK P e cs sz n false k)) (.fail 39)
      (fun i o len cap ext => apSlice P e sz i o len cap ext (Nat.beq (tagOf P xt) 2) n x k) (.fail 40)))) (.fail (Nat.add 39000000 (Nat.add (Nat.mul 1000 st) xt)))

noncomputable def retN (n : Nat) (k : KV) : FM := forceNat n fun m => k (.int .i64 (.ofNat m))
noncomputable def xLen (t : TypeId) (x : AV) (k : KV) : FM :=
  x.onMapN (cnd (Nat.beq (tagOf P t) 10) (retN Nat.zero k) (.fail 41)) (fun i => cnd (Nat.beq (tagOf P t) 10) (.get i fun o => o.onMap (fun es _ => lenK es Nat.zero fun n => retN n k) (.fail 41)) (.fail 41))
    (x.onStr (fun s => cnd (Nat.beq (tagOf P t) 3) (lenK s Nat.zero fun n => retN n k) (.fail 42))
      (x.onSlice (cnd (Nat.beq (tagOf P t) 9) (retN Nat.zero k) (.fail 42)) (cnd (Nat.beq (tagOf P t) 9) (retN Nat.zero k) (.fail 42))
        (fun _ _ len _ _ => cnd (Nat.beq (tagOf P t) 9) (retN len k) (.fail 42))
        (Option.rec (motive := fun _ => FM) (optM (elemP P t) (.fail 43) fun a => optM (elemA P a) (.fail 43) fun ne => retN ne.1 k) (fun ne => retN ne.1 k) (elemA P t))))
noncomputable def xCopy (t : TypeId) (d s : AV) (k : KV) : FM :=
  optM (elemS P t) (.fail 44) fun e => optM (szO P e) (.fail 44) fun sz => optM d.lenO (.fail 45) fun n => optM s.lenO (.fail 46) fun m =>
    forceNat (cnd (Nat.ble m n) m n) fun j =>
    cnd (Nat.beq j Nat.zero) (d.onSlice (retN Nat.zero k) (retN Nat.zero k) (fun _ _ _ _ _ => retN Nat.zero k) (.fail 47))
    (firstC j sz s fun cs => d.onSlice (.fail 47) (.fail 47) (fun i o _ _ _ => overC i o cs (retN j k)) (.fail 47))

noncomputable def bytesEq (a : List Nat) : List Nat → Bool :=
  List.rec (motive := fun _ => List Nat → Bool) (fun b => List.rec (motive := fun _ => Bool) true (fun _ _ _ => false) b)
    (fun x _ ih b => List.rec (motive := fun _ => Bool) false (fun y s _ => cnd (Nat.beq x y) (ih s) false) b) a
noncomputable def bytesLt (a : List Nat) : List Nat → Bool :=
  List.rec (motive := fun _ => List Nat → Bool) (fun b => List.rec (motive := fun _ => Bool) false (fun _ _ _ => true) b)
    (fun x _ ih b => List.rec (motive := fun _ => Bool) false (fun y s _ => cnd (ltb x y) true (cnd (Nat.beq x y) (ih s) false)) b) a

/-! ### maps: keys are numbers and strings -/
noncomputable def keyEqK (a b : AV) (k : Bool → FM) : FM :=
  a.onIntStr (fun q n => b.onInt (fun r m => cnd (Nat.beq (kindN q) (kindN r)) (k (eqI n m)) (.fail 48)) (.fail 48)) (fun s => b.onStr (fun r => k (bytesEq s r)) (.fail 48)) (.fail 48)
noncomputable def findK (key : AV) (l : List (AV × AV)) : (Option AV → FM) → FM :=
  List.rec (motive := fun _ => (Option AV → FM) → FM) (fun k => k none) (fun e _ ih k => keyEqK key e.1 fun b => cnd b (k (some e.2)) (ih k)) l
/-- (where it goes is of no matter for what is proved: equal maps shall be found equal) -/
noncomputable def keyLt (a b : AV) : Bool :=
  AV.rec (motive_1 := fun _ => Bool) (motive_2 := fun _ => PUnit) false (fun _ => false)
    (fun _ n => AV.rec (motive_1 := fun _ => Bool) (motive_2 := fun _ => PUnit) false (fun _ => false) (fun _ m => ltI n m) (fun _ => false) false (fun _ _ => false) false (fun _ _ _ _ _ => false) false false (fun _ => false) (fun _ _ _ _ _ => false) false (fun _ _ _ => false) false (fun _ _ => false) (fun _ _ => false) PUnit.unit (fun _ _ _ _ => PUnit.unit) b)
    (fun s => AV.rec (motive_1 := fun _ => Bool) (motive_2 := fun _ => PUnit) false (fun _ => false) (fun _ _ => false) (fun r => bytesLt s r) false (fun _ _ => false) false (fun _ _ _ _ _ => false) false false (fun _ => false) (fun _ _ _ _ _ => false) false (fun _ _ _ => false) false (fun _ _ => false) (fun _ _ => false) PUnit.unit (fun _ _ _ _ => PUnit.unit) b)
    false (fun _ _ => false) false (fun _ _ _ _ _ => false) false false (fun _ => false) (fun _ _ _ _ _ => false) false (fun _ _ _ => false) false (fun _ _ => false) (fun _ _ => false) PUnit.unit (fun _ _ _ _ => PUnit.unit) a
noncomputable def insertK (key v : AV) (l : List (AV × AV)) : (List (AV × AV) → FM) → FM :=
  List.rec (motive := fun _ => (List (AV × AV) → FM) → FM) (fun k => k [(key, v)]) (fun e t ih k => cnd (keyLt key e.1) (k ((key, v) :: e :: t)) (ih fun r => k (e :: r))) l
noncomputable def replaceK (key v : AV) (l : List (AV × AV)) : (List (AV × AV) → FM) → FM :=
  List.rec (motive := fun _ => (List (AV × AV) → FM) → FM) (fun k => k []) (fun e t ih k => keyEqK key e.1 fun b => cnd b (k ((key, v) :: t)) (ih fun r => k (e :: r))) l
noncomputable def delK (key : AV) (l : List (AV × AV)) : (List (AV × AV) → FM) → FM :=
  List.rec (motive := fun _ => (List (AV × AV) → FM) → FM) (fun k => k []) (fun e t ih k => keyEqK key e.1 fun b => cnd b (k t) (ih fun r => k (e :: r))) l
noncomputable def eraseK {α : Type} (l : List α) : Nat → (List α → FM) → FM :=
  List.rec (motive := fun _ => Nat → (List α → FM) → FM) (fun _ k => k []) (fun h t ih n k => Nat.rec (motive := fun _ => FM) (k t) (fun m _ => ih m fun r => k (h :: r)) n) l
/-- a map's type; its keys are numbers or strings -/
noncomputable def mapK (t : TypeId) (k : TypeId → FM) : FM :=
  optM (elemM P t) (.fail 48) fun ke => cnd (cnd (Nat.beq (tagOf P ke.1) 2) true (Nat.beq (tagOf P ke.1) 3)) (k ke.2) (.fail 48)
noncomputable def fitK (t : TypeId) (key : AV) (m : FM) : FM :=
  optM (elemM P t) (.fail 48) fun ke => key.onIntStr (fun _ _ => cnd (Nat.beq (tagOf P ke.1) 2) m (.fail 48)) (fun _ => cnd (Nat.beq (tagOf P ke.1) 3) m (.fail 48)) (.fail 48)
noncomputable def xDelete (t : TypeId) (m key : AV) (k : KV) : FM :=
  mapK P t fun _ => fitK P t key (m.onMapN (k (.tuple [])) (fun i => .get i fun o => o.onMap (fun es v => delK key es fun es' => .set i (.map es' (Nat.succ v)) (k (.tuple []))) (.fail 48)) (.fail 49))
noncomputable def xUpdate (t : TypeId) (m key v : AV) (k : KV) : FM :=
  mapK P t fun _ => fitK P t key (m.onMap (fun i => .get i fun o => o.onMap (fun es ver => findK key es fun r =>
    Option.rec (motive := fun _ => FM) (insertK key v es fun es' => .set i (.map es' (Nat.succ ver)) (k (.tuple [])))
      (fun _ => replaceK key v es fun es' => .set i (.map es' (Nat.succ ver)) (k (.tuple []))) r) (.fail 48)) (.fail 49))
noncomputable def zeroVal (t : TypeId) (k : KV) : FM := optM (zeroO P t) (.fail 132) k
noncomputable def lkDone (e : TypeId) (ok : Bool) (r : Option AV) (k : KV) : FM :=
  Option.rec (motive := fun _ => FM) (zeroVal P e fun z => cnd ok (k (.tuple [z, .bool false])) (k z)) (fun v => cnd ok (k (.tuple [v, .bool true])) (k v)) r
noncomputable def xLookup (t : TypeId) (m key : AV) (ok : Bool) (k : KV) : FM :=
  mapK P t fun e => fitK P t key (m.onMapN (lkDone P e ok none k) (fun i => .get i fun o => o.onMap (fun es _ => findK key es fun r => lkDone P e ok r k) (.fail 134)) (.fail 135))

/-! ### builtins -/
noncomputable def args1 (l : List AV) (k : AV → FM) : FM := List.rec (motive := fun _ => FM) (.fail 50) (fun a _ _ => k a) l
noncomputable def args2 (l : List AV) (k : AV → AV → FM) : FM := List.rec (motive := fun _ => FM) (.fail 50) (fun a t _ => args1 t fun b => k a b) l
noncomputable def args3 (l : List AV) (k : AV → AV → AV → FM) : FM := List.rec (motive := fun _ => FM) (.fail 50) (fun a t _ => args2 t fun b c => k a b c) l
noncomputable def just2 (l : List AV) (k : AV → AV → FM) : FM := List.rec (motive := fun _ => FM) (.fail 50) (fun a t _ => List.rec (motive := fun _ => FM) (.fail 50) (fun b r _ => List.rec (motive := fun _ => FM) (k a b) (fun _ _ _ => .fail 50) r) t) l
noncomputable def kEq (q r : IntKind) (m : FM) : FM := cnd (Nat.beq (kindN q) (kindN r)) m (.fail 55)
abbrev BltK := List AV → Array TypeId → KV → FM
noncomputable def blAppend : BltK := fun l ts k => optM ts[0]? (.fail 50) fun st => optM ts[1]? (.fail 50) fun xt => args2 l fun s x => xAppend P st xt s x k
noncomputable def blLen : BltK := fun l ts k => optM ts[0]? (.fail 50) fun t => args1 l fun x => xLen P t x k
noncomputable def blCap : BltK := fun l ts k => optM ts[0]? (.fail 50) fun t => args1 l fun x => cnd (Nat.beq (tagOf P t) 9) (x.onSlice (retN Nat.zero k) (.fail 51) (fun _ _ _ c ext => cnd ext (.fail 52) (retN c k)) (.fail 53)) (.fail 53)
noncomputable def blCopy : BltK := fun l ts k => optM ts[0]? (.fail 50) fun t => args2 l fun d s => xCopy P t d s k
noncomputable def xClear (t : TypeId) (x : AV) (k : KV) : FM :=
  optM (elemS P t) (.fail 155) fun e => x.onSlice (k (.tuple [])) (k (.tuple [])) (fun i o len _ _ => cnd (Nat.beq len Nat.zero) (k (.tuple [])) (zrowK P e len fun cs _ => overC i o cs (k (.tuple [])))) (.fail 155)
noncomputable def blClear : BltK := fun l ts k => optM ts[0]? (.fail 50) fun t => args1 l fun x => xClear P t x k
noncomputable def blDelete : BltK := fun l ts k => optM ts[0]? (.fail 50) fun t => args2 l fun m key => xDelete P t m key k
noncomputable def blMin : BltK := fun l _ k => just2 l fun a b => a.onInt (fun q x => b.onInt (fun r y => kEq q r (k (.int q (cnd (ltI y x) y x)))) (.fail 54)) (.fail 54)
noncomputable def blMax : BltK := fun l _ k => just2 l fun a b => a.onInt (fun q x => b.onInt (fun r y => kEq q r (k (.int q (cnd (ltI x y) y x)))) (.fail 54)) (.fail 54)
end
end Go.X

namespace Go.X
section
variable (P : Program)

/-! ### equality -/
noncomputable def tagIs (t : TypeId) (n : Nat) (m : FM) : FM := cnd (Nat.beq (tagOf P t) n) m (.fail 60)
/-- two pointers at variables of a type: neither in a block whose bytes a string may share -/
noncomputable def eqPtr (i o j p : Nat) (k : Bool → FM) : FM :=
  cnd (Nat.beq i j) (k (Nat.beq o p))
    (.get i fun x => x.onCells (fun _ _ _ mk => cnd mk (.fail 61) (.get j fun y => y.onCells (fun _ _ _ mk' => cnd mk' (.fail 61) (k false)) (.fail 61))) (.fail 61))
noncomputable def eqPtrT (t : TypeId) (i o j p : Nat) (k : Bool → FM) : FM :=
  cnd (Nat.beq (tagOf P t) 4) (optM (elemP P t) (.fail 60) fun e => optM (szO P e) (.fail 60) fun n => cnd (Nat.beq n Nat.zero) (.fail 60) (eqPtr i o j p k)) (.fail 60)
/-- values that are no aggregates -/
noncomputable def eq1 (t : TypeId) (a b : AV) (k : Bool → FM) : FM :=
  a.onBool (fun x => b.onBool (fun y => tagIs P t 1 (k (cnd x y (cnd y false true)))) (.fail 62))
  (a.onIntStr (fun q n => b.onInt (fun r m => tagIs P t 2 (kEq q r (k (eqI n m)))) (.fail 62)) (fun s => b.onStr (fun r => tagIs P t 3 (k (bytesEq s r))) (.fail 62))
  (a.onPtr (fun i o => cnd b.isNilp (tagIs P t 4 (k false)) (b.onPtr (fun j p => eqPtrT P t i o j p k) (.fail 62)))
  (cnd a.isNilp (tagIs P t 4 (cnd b.isNilp (k true) (b.onPtr (fun _ _ => k false) (.fail 62))))
  (a.onSlice (tagIs P t 9 (b.onSlice (k true) (k false) (fun _ _ _ _ _ => k false) (.fail 62))) (tagIs P t 9 (b.onSlice (k false) (.fail 62) (fun _ _ _ _ _ => .fail 62) (.fail 62)))
    (fun _ _ _ _ _ => tagIs P t 9 (b.onSlice (k false) (.fail 62) (fun _ _ _ _ _ => .fail 62) (.fail 62)))
  (a.onMapN (tagIs P t 10 (b.onMapN (k true) (fun _ => k false) (.fail 62))) (fun _ => tagIs P t 10 (b.onMapN (k false) (fun _ => .fail 62) (.fail 62)))
  (a.onFuncN (tagIs P t 11 (b.onFuncN (k true) (fun _ _ _ => k false) (.fail 62))) (fun _ _ _ => tagIs P t 11 (b.onFuncN (k false) (fun _ _ _ => .fail 62) (.fail 62))) (.fail 62)))))))
/-- the parts of a struct or an array that are compared: their types and places -/
def fieldsEq (l : List Field) : Option (List (TypeId × Nat)) := match l with
  | [] => some []
  | f :: r => if f.name = "_" then none else match fieldsEq r with | some s => some ((f.type, f.offset) :: s) | none => none
def partsEq (t : TypeId) : Option (List (TypeId × Nat)) := match P.underlying t with
  | some (.struct fs) => if P.stoodInHeld t then none else fieldsEq fs.toList
  | some (.array n e) => match szO P e with | some sz => some ((List.range n).map fun i => (e, i * sz)) | none => none
  | _ => none
noncomputable def eqA (n : Nat) : TypeId → AV → AV → (Bool → FM) → FM :=
  Nat.rec (motive := fun _ => TypeId → AV → AV → (Bool → FM) → FM) (fun _ _ _ _ => .fail 64)
    (fun _ ih t a b k => a.onAgg (fun cs => b.onAgg (fun ds => optM (partsEq P t) (.fail 65) fun l =>
      List.rec (motive := fun _ => FM) (k true) (fun x _ ihl => partK P x.1 cs x.2 fun u => partK P x.1 ds x.2 fun v => ih x.1 u v fun r => cnd r ihl (k false)) l) (.fail 66)) (eq1 P t a b k)) n
/-- values of interfaces, too -/
noncomputable def xEql (lit : Bool) (t : TypeId) (a b : AV) (k : Bool → FM) : FM :=
  a.onIfaceN (tagIs P t 6 (b.onIfaceN (cnd lit (k true) (.fail 63)) (fun _ _ => k false) (.fail 63)))
    (fun t1 v1 => tagIs P t 6 (b.onIfaceN (k false) (fun t2 v2 => cnd (Nat.beq t1 t2) (optM (cmpO P t1) (.fail 63) fun c => cnd c (eq1 P t1 v1 v2 k) (.fail 63)) (k false)) (.fail 63)))
    (a.onAgg (fun _ => cnd (P.eqGuardType P.depth t) (.fail 65) (eqA P 6 t a b k)) (eq1 P t a b k))

/-! ### conversions -/
inductive CvK where | toInt (q : IntKind) | toString | bytes | toBytes (e : TypeId) | toUnsafe (e : TypeId) | mark | no
def cvOf (src dst : TypeId) : CvK := match P.underlying src, P.underlying dst with
  | some (.int _), some (.int q) => .toInt q
  | some .string, some .string => .toString
  | some (.slice e), some .string => match P.underlying e with | some (.int .u8) => .bytes | _ => .no
  | some .string, some (.slice e) => match P.underlying e with | some (.int .u8) => .toBytes e | _ => .no
  | some (.pointer e), some .unsafePointer => .toUnsafe e
  | some (.slice _), some (.slice e) => if src = dst then match P.underlying e with | some (.int .u8) => .mark | _ => .no else .no
  | _, _ => .no
noncomputable def cvToBytes (e : TypeId) (x : AV) (k : KV) : FM := x.onStr (fun s => lenK s Nat.zero fun n => .new (.cells (ofBytes s) 1 true true) fun i => k (.slice i Nat.zero n n true)) (.fail 64)
noncomputable def cvBytes (x : AV) (k : KV) : FM :=
  x.onSlice (k (.str [])) (k (.str [])) (fun i o len _ _ => readCells i fun c => takeK len (dropL o c) fun l => bytesK l fun s => k (.str s)) (.fail 65)
noncomputable def xConvert (src dst : TypeId) (x : AV) (k : KV) : FM :=
  CvK.rec (motive := fun _ => FM) (fun q => x.onInt (fun _ n => retI q n k) (.fail 63)) (x.onStr (fun s => k (.str s)) (.fail 64)) (cvBytes x k) (fun e => cvToBytes e x k)
    (fun e => x.onPtr (fun i o => optM (szO P e) (.fail 67) fun n => cnd (Nat.beq n Nat.zero) (.fail 67) (readCells i fun c => lenK c Nat.zero fun m => cnd (ltb o m) (k (.ptr i o)) (.fail 67))) (.fail 67))
    (x.onSlice (.fail 68) (.fail 68) (fun i _ _ _ _ => onCells i fun c e g _ => .set i (.cells c e g true) (k x)) (.fail 68)) (.fail (Nat.add 66000000 (Nat.add (Nat.mul 1000 src) dst))) (cvOf P src dst)

/-! ### calls -/
inductive MtK where | direct (f : FuncId) | load (f : FuncId) (el : TypeId) | field (f : FuncId) (ft : TypeId) (off : Nat) | no
/-- a method of a pointer that is embedded in a struct -/
def methodF (m : Method) : MtK := match m.path.toList, m.func with
  | [s], some (f, true) => if s.deref then .no else match P.underlying s.struct with
    | some (.struct fs) => match fs[s.index]? with
      | some fd => match P.underlying fd.type with | some (.pointer _) => .field f fd.type fd.offset | _ => .no
      | none => .no
    | _ => .no
  | _, _ => .no
def methodOf (t : TypeId) (name : String) : MtK := match P.info? t with
  | some ti => match ti.methods.find? (fun m => m.name == name) with
    | some m => if m.path.toList.isEmpty then match m.func, P.underlying t with
      | some (f, true), some (.pointer _) => .direct f
      | some (f, false), some (.pointer el) => .load f el
      | some (f, false), some _ => .direct f
      | _, _ => .no
      else methodF P m
    | none => .no
  | none => .no
/-- are its results a slice -/
def makeOk (fn : Func) : Bool := match fn.resultTypes.toList with
  | [t] => match P.underlying t with | some (.slice _) => true | _ => false
  | _ => false
/-- which of the functions that have no body is it -/
def extOf (f : FuncId) : Nat := match P.funcs[f]? with
  | none => 0
  | some fn => if fn.body.isSome || fn.name == "runtime.NumGoroutine" || (Extern.findNext fn).isSome then 0
    else if fn.name == "maps.clone" then 1 else if fn.name == "sync/atomic.CompareAndSwapInt32" then 2 else if fn.name == "sync/atomic.AddInt32" then 3
    else if fn.name == "internal/race.Disable" then 4 else if fn.name == "internal/race.Enable" then 5
    else if fn.name == "internal/race.Acquire" then 6 else if fn.name == "internal/race.ReleaseMerge" then 7 else if fn.name == "internal/race.Release" then 8
    else if fn.name == "internal/bytealg.Compare" then 9 else if fn.name == "internal/bytealg.MakeNoZero" && makeOk P fn then 10
    else if fn.name == "internal/bytealg.IndexByteString" then 11 else if fn.name == "internal/bytealg.CountString" then 12 else 0
/-- has it a body that the machine enters -/
def bodied (f : FuncId) : Bool := match P.funcs[f]? with | some fn => fn.body.isSome && !(fn.name == "runtime.NumGoroutine") | none => false
abbrev ExtK := List AV → KV → FM
noncomputable def just1 (l : List AV) (k : AV → FM) : FM := List.rec (motive := fun _ => FM) (.fail 50) (fun a t _ => List.rec (motive := fun _ => FM) (k a) (fun _ _ _ => .fail 50) t) l
noncomputable def just3 (l : List AV) (k : AV → AV → AV → FM) : FM := List.rec (motive := fun _ => FM) (.fail 50) (fun a t _ => just2 t fun b c => k a b c) l
noncomputable def exClone : ExtK := fun l k => just1 l fun a => a.onIface (fun t v => v.onMap (fun i => .get i fun o => o.onMap (fun es _ => .new (.map es Nat.zero) fun j => k (.iface t (.map j))) (.fail 180)) (.fail 181)) (.fail 182)
noncomputable def exCas : ExtK := fun l k => just3 l fun a x y => a.onPtr (fun i o => onCells i fun c e g mk => optM (nthL c o) (.fail 183) fun z =>
  z.onInt (fun q n => x.onInt (fun r m => y.onInt (fun s b => kEq q .i32 (kEq r .i32 (kEq s .i32 (cnd (eqI n m) (putK [.int s b] o c fun c' => .set i (.cells c' e g mk) (k (.bool true))) (k (.bool false)))))) (.fail 184)) (.fail 184)) (.fail 184)) (.fail 185)
noncomputable def exAdd : ExtK := fun l k => just2 l fun a y => a.onPtr (fun i o => onCells i fun c e g mk => optM (nthL c o) (.fail 183) fun z =>
  z.onInt (fun q n => y.onInt (fun r m => kEq q .i32 (kEq r .i32 (retI q (addI n m) fun v => putK [v] o c fun c' => .set i (.cells c' e g mk) (k v)))) (.fail 184)) (.fail 184)) (.fail 185)
noncomputable def exNone : ExtK := fun _ k => k (.tuple [])
noncomputable def exMark : ExtK := fun l k => args1 l fun a => a.onPtr (fun _ _ => k (.tuple [])) (.fail 186)
noncomputable def bytesOfK (x : AV) (k : List Nat → FM) : FM := x.onSlice (k []) (k []) (fun i o len _ _ => readCells i fun c => takeK len (dropL o c) fun l => bytesK l k) (.fail 186)
noncomputable def exCmp : ExtK := fun l k => just2 l fun a b => bytesOfK a fun x => bytesOfK b fun y => k (.int .i64 (cnd (bytesLt x y) (.negSucc Nat.zero) (cnd (bytesEq x y) (.ofNat Nat.zero) (.ofNat 1))))
/-- values of which nothing is known -/
noncomputable def junks (n : Nat) : List AV := Nat.rec (motive := fun _ => List AV) [] (fun _ ih => .junk :: ih) n
noncomputable def exMake : ExtK := fun l k => just1 l fun a => a.onInt (fun q n => kEq q .i64 (Int.rec (motive := fun _ => FM) (fun m => forceNat m fun m => cnd (Nat.ble m most) (.new (.cells (junks m) 1 true false) fun i => k (.slice i Nat.zero m m true)) (.fail 188)) (fun _ => .fail 188) n)) (.fail 188)
/-- the place of a byte in a text, counted from n -/
noncomputable def idxB (c : Nat) (s : List Nat) : Nat → Int :=
  List.rec (motive := fun _ => Nat → Int) (fun _ => .negSucc Nat.zero) (fun b _ ih n => cnd (Nat.beq b c) (.ofNat n) (forceNat (Nat.succ n) fun n' => ih n')) s
noncomputable def exIdx : ExtK := fun l k => just2 l fun a b => a.onStr (fun s => b.onInt (fun q n => kEq q .u8 (Int.rec (motive := fun _ => FM)
  (fun m => forceInt (idxB (Nat.mod m 256) s Nat.zero) fun r => k (.int .i64 r)) (fun _ => .fail 187) n)) (.fail 187)) (.fail 187)
/-- how often a byte stands in a text -/
noncomputable def cntB (c : Nat) (s : List Nat) : Nat → Nat :=
  List.rec (motive := fun _ => Nat → Nat) (fun n => n) (fun b _ ih n => cnd (Nat.beq b c) (forceNat (Nat.succ n) fun n' => ih n') (ih n)) s
noncomputable def exCount : ExtK := fun l k => just2 l fun a b => a.onStr (fun s => b.onInt (fun q n => kEq q .u8 (Int.rec (motive := fun _ => FM)
  (fun m => forceNat (cntB (Nat.mod m 256) s Nat.zero) fun r => k (.int .i64 (.ofNat r))) (fun _ => .fail 187) n)) (.fail 187)) (.fail 187)
noncomputable def exNo : ExtK := fun _ _ => .fail 187
noncomputable def extK (n : Nat) : ExtK :=
  cnd (Nat.beq n 1) exClone (cnd (Nat.beq n 2) exCas (cnd (Nat.beq n 3) exAdd (cnd (Nat.beq n 4) exNone (cnd (Nat.beq n 5) exNone (cnd (Nat.beq n 6) exMark (cnd (Nat.beq n 7) exMark (cnd (Nat.beq n 8) exMark (cnd (Nat.beq n 9) exCmp (cnd (Nat.beq n 10) exMake (cnd (Nat.beq n 11) exIdx (cnd (Nat.beq n 12) exCount exNo)))))))))))
/-- a function, called -/
noncomputable def xFunc (call : CallRec) (f : FuncId) (args : List AV) (k : KV) (kp : Chain → FM) : FM :=
  cnd (bodied P f) (call f args k kp) (extK (extOf P f) args k)
noncomputable def xMethod (call : CallRec) (recv : AV) (name : String) (args : List AV) (k : KV) (kp : Chain → FM) : FM :=
  recv.onIface (fun t v => MtK.rec (motive := fun _ => FM) (fun f => xFunc P call f (v :: args) k kp)
    (fun f el => v.onPtr (fun i o => loadC P el i o fun v' => xFunc P call f (v' :: args) k kp) (.fail 70))
    (fun f ft off => v.onAgg (fun cs => partK P ft cs off fun v' => xFunc P call f (v' :: args) k kp) (.fail 70)) (.fail 71) (methodOf P t name)) (.fail 72)
noncomputable def fnM (f : Fn) (kf : FuncId → FM) (km : String → FM) (d : FM) : FM :=
  Fn.rec (motive := fun _ => FM) kf km (fun _ _ => d) (fun _ _ _ _ => d) (fun _ => d) f
noncomputable def afnM (f : AFn) (kf : FuncId → FM) (km : String → FM) (ky : Nat → FM) (d : FM) : FM :=
  AFn.rec (motive := fun _ => FM) (fun g => fnM g kf km d) ky f
noncomputable def consM (l : List AV) (d : FM) (k : AV → List AV → FM) : FM := List.rec (motive := fun _ => FM) d (fun h t _ => k h t) l
noncomputable def xApply (call : CallRec) (round : RoundRec) (f : AFn) (args captured : List AV) (k : KV) (kp : Chain → FM) : FM :=
  afnM f (fun g => appK args captured fun l => xFunc P call g l k kp) (fun name => consM args (.fail 73) fun r rest => xMethod P call r name rest k kp)
    (fun l => round l args k) (.fail 74)

/-! ### operations -/
structure OC where
  call : CallRec
  round : RoundRec
  t : TT
  g : Nat
noncomputable def OC.ev (c : OC) (x : Operand) : AV := evalO c.g c.t x
noncomputable def OC.evs (c : OC) (l : List Operand) : List AV := evalOs c.g c.t l
noncomputable def OC.evo (c : OC) (x : Option Operand) : Option AV := Option.rec (motive := fun _ => Option AV) none (fun y => some (c.ev y)) x
/-- one operation: its value; a call that is put off; a panic -/
abbrev OpK := OC → KV → (ADef → FM) → (Chain → FM) → FM
noncomputable def oMove (x : Operand) : OpK := fun c k _ _ => k (c.ev x)
noncomputable def oPick (x a b : Operand) : OpK := fun c k _ _ => (c.ev x).onBool (fun t => cnd t (k (c.ev a)) (k (c.ev b))) (.fail 100)
noncomputable def newVar (v : AV) (k : KV) : FM := v.cellsK fun cs => .new (.cells cs Nat.zero false false) fun i => k (.ptr i Nat.zero)
noncomputable def oAlloc (e : TypeId) : OpK := fun _ k _ _ => optM (zeroO P e) (.fail 101) fun z => newVar z k
noncomputable def oBox (_e : TypeId) (x : Operand) : OpK := fun c k _ _ => newVar (c.ev x) k
noncomputable def fillK (c : OC) (place : Nat → Option (Nat × Nat)) (parts : List (Nat × Operand)) : List AV → (List AV → FM) → FM :=
  List.rec (motive := fun _ => List AV → (List AV → FM) → FM) (fun cs k => k cs)
    (fun p _ ih cs k => optM (place p.1) (.fail 102) fun os => cellsN os.2 (c.ev p.2) fun ps => putK ps os.1 cs fun cs' => ih cs' k) parts
def sizesOf (l : List Field) : Option (List (Nat × Nat)) := match l with
  | [] => some []
  | f :: r => match szO P f.type, sizesOf r with | some n, some s => some ((f.offset, n) :: s) | _, _ => none
def placeOf (t : TypeId) : Option (Nat → Option (Nat × Nat)) := match P.underlying t with
  | some (.struct fs) => match sizesOf P fs.toList with | some l => some fun i => l[i]? | none => none
  | some (.array _ e) => match szO P e with | some n => some fun i => some (i * n, n) | none => none
  | _ => none
noncomputable def oBuild (t : TypeId) (parts : Array (Nat × Operand)) : OpK := fun c k _ _ =>
  optM (zeroO P t) (.fail 103) fun z => optM (placeOf P t) (.fail 103) fun pl => z.cellsK fun zs => fillK c pl parts.toList zs fun cs => k (.agg cs)
/-- so many zero values in a row -/
noncomputable def rowK (e : TypeId) (n : Nat) (k : List AV → Nat → FM) : FM := zrowK P e n k
noncomputable def oBuildSlice (t : TypeId) (len : Nat) (parts : Array (Nat × Operand)) : OpK := fun c k _ _ =>
  optM (elemS P t) (.fail 104) fun e => roomK P e len (rowK P e len fun cs0 sz => cnd (Nat.ble (Nat.mul len sz) 16777216)
    (fillK c (fun i => some (Nat.mul i sz, sz)) parts.toList cs0 fun cs => .new (.cells cs sz false false) fun i => k (.slice i Nat.zero len len false)) (.fail 104))
noncomputable def oUpdate (t : TypeId) (m key v : Operand) : OpK := fun c k _ _ => xUpdate P t (c.ev m) (c.ev key) (c.ev v) k
noncomputable def oLoad (t : TypeId) (a : Operand) : OpK := fun c k _ _ => (c.ev a).onPtr (fun i o => loadC P t i o k) (.fail 107)
noncomputable def oStore (t : TypeId) (a v : Operand) : OpK := fun c k _ _ => (c.ev a).onPtr (fun i o => storeC P t i o (c.ev v) (k (.tuple []))) (.fail 108)
/-- a pointer, an interface's value or a plain function that is not nil -/
noncomputable def oNilCheck (x : Operand) : OpK := fun c k _ _ =>
  (c.ev x).onPtr (fun i o => k (.ptr i o)) ((c.ev x).onIface (fun t v => k (.iface t v)) ((c.ev x).onFunc (fun f a b => afnM f (fun _ => k (.func f a b)) (fun _ => .fail 109) (fun _ => k (.func f a b)) (.fail 109)) (.fail 109)))
noncomputable def catK (a b : List Nat) (k : KV) : FM :=
  lenK a Nat.zero fun n => lenK b Nat.zero fun m => cnd (Nat.ble (Nat.add n m) most) (appK a b fun s => k (.str s)) (.fail 110)
noncomputable def strBin (op : BinOp) (a b : List Nat) (k : KV) : FM :=
  BinOp.rec (motive := fun _ => FM) (catK a b k) (.fail 110) (.fail 110) (.fail 110) (.fail 110) (.fail 110) (.fail 110) (.fail 110) (.fail 110) (.fail 110) (.fail 110)
    (retB (bytesEq a b) k) (retB (bytesEq a b).not k) (retB (bytesLt a b) k) (retB (bytesLt b a).not k) (retB (bytesLt b a) k) (retB (bytesLt a b).not k) op
noncomputable def intBin (op : BinOp) (q r : IntKind) (n m : Int) (k : KV) : FM :=
  BinOp.rec (motive := fun _ => FM) (kEq q r (bAdd q n m k)) (kEq q r (bSub q n m k)) (kEq q r (bMul q n m k)) (kEq q r (bQuo q n m k)) (kEq q r (bRem q n m k))
    (kEq q r (bAnd q n m k)) (kEq q r (bOr q n m k)) (kEq q r (bXor q n m k)) (bShl q n m k) (bShr q n m k) (kEq q r (bAndNot q n m k))
    (kEq q r (bEql q n m k)) (kEq q r (bNeq q n m k)) (kEq q r (bLss q n m k)) (kEq q r (bLeq q n m k)) (kEq q r (bGtr q n m k)) (kEq q r (bGeq q n m k)) op
noncomputable def eqBin (lit : Bool) (op : BinOp) (t : TypeId) (a b : AV) (k : KV) : FM :=
  BinOp.rec (motive := fun _ => FM) (.fail 111) (.fail 111) (.fail 111) (.fail 111) (.fail 111) (.fail 111) (.fail 111) (.fail 111) (.fail 111) (.fail 111) (.fail 111)
    (xEql P lit t a b fun r => retB r k) (xEql P lit t a b fun r => retB r.not k) (.fail 111) (.fail 111) (.fail 111) (.fail 111) op
noncomputable def binAV (lit : Bool) (op : BinOp) (t : TypeId) (a b : AV) (k : KV) : FM :=
  a.onIntStr (fun q n => b.onInt (fun r m => intBin op q r n m k) (.fail 112)) (fun s => b.onStr (fun r => strBin op s r k) (.fail 113)) (eqBin P lit op t a b k)
noncomputable def isLit (x : Operand) : Bool := Operand.rec (motive := fun _ => Bool) (fun _ => false) (fun _ => true) (fun _ => false) (fun _ => false) x
noncomputable def oBinOp (op : BinOp) (t : TypeId) (x y : Operand) (_yt : TypeId) : OpK := fun c k _ _ => binAV P (cnd (isLit x) true (isLit y)) op t (c.ev x) (c.ev y) k
noncomputable def oUnOp (op : UnOp) (_t : TypeId) (x : Operand) : OpK := fun c k _ _ =>
  UnOp.rec (motive := fun _ => FM) ((c.ev x).onInt (fun q n => retI q (negI n) k) (.fail 114))
    ((c.ev x).onInt (fun q n => retI q (.ofNat (Nat.xor (Nat.sub (Nat.pow 2 (kbits q)) 1) (toU q n))) k) (.fail 114))
    ((c.ev x).onBool (fun b => retB b.not k) (.fail 114)) (.fail 114) op
noncomputable def oConvert (s d : TypeId) (x : Operand) : OpK := fun c k _ _ => xConvert P s d (c.ev x) k
noncomputable def oMakeInterface (t : TypeId) (x : Operand) : OpK := fun c k _ _ => cnd (Nat.beq (tagOf P t) 6) (.fail 115) (cnd (Nat.beq (tagOf P t) 0) (.fail 115) (k (.iface t (c.ev x))))
noncomputable def oMakeFunc (f : Fn) (first captured : Array Operand) : OpK := fun c k _ _ => k (.func (.plain f) (c.evs first.toList) (c.evs captured.toList))
noncomputable def oMakeMap (t : TypeId) (r : Option Operand) : OpK := fun c k _ _ =>
  Option.rec (motive := fun _ => FM) (.new (.map [] Nat.zero) fun i => k (.map i)) (fun x => optM (elemM P t) (.fail 115) fun _ => (c.ev x).onInt (fun _ _ => .new (.map [] Nat.zero) fun i => k (.map i)) (.fail 115)) r
noncomputable def oMakeSlice (t : TypeId) (l m : Operand) : OpK := fun c k _ _ =>
  optM (elemS P t) (.fail 115) fun e => (c.ev l).onNat (fun n => (c.ev m).onNat (fun p =>
    cnd (Nat.ble n p) (roomK P e p (rowK P e p fun cs sz => .new (.cells cs sz false false) fun i => forceNat n fun n' => forceNat p fun p' => k (.slice i Nat.zero n' p' false))) (.fail 116)) (.fail 117)) (.fail 117)
noncomputable def oSlice (t : TypeId) (x : Operand) (lo hi mx : Option Operand) : OpK := fun c k _ _ => xSlice P t (c.ev x) (c.evo lo) (c.evo hi) (c.evo mx) k
noncomputable def oFieldAddr (t : TypeId) (x : Operand) (f : Nat) : OpK := fun c k _ _ =>
  (c.ev x).onPtr (fun i o => optM (fieldO P t f) (.fail 118) fun fd => optM (szO P fd.type) (.fail 118) fun n => cnd (Nat.beq n Nat.zero) (.fail 118) (forceNat (Nat.add o fd.offset) fun o' => k (.ptr i o'))) (.fail 119)
noncomputable def oField (t : TypeId) (x : Operand) (f : Nat) : OpK := fun c k _ _ =>
  (c.ev x).onAgg (fun cs => optM (fieldO P t f) (.fail 120) fun fd => partK P fd.type cs fd.offset k) (.fail 121)
noncomputable def ixAt (e : TypeId) (i o len : Nat) (ix : AV) (k : KV) : FM :=
  ix.onNat (fun n => cnd (ltb n len) (optM (szO P e) (.fail 122) fun sz => forceNat (Nat.add o (Nat.mul n sz)) fun o' => k (.ptr i o')) (.fail 122)) (.fail 123)
noncomputable def oIndexAddr (t : TypeId) (x ix : Operand) : OpK := fun c k _ _ =>
  (c.ev x).onSlicePtr (fun i o len _ _ => optM (elemS P t) (.fail 124) fun e => ixAt P e i o len (c.ev ix) k)
    (fun i o => optM (elemA P t) (.fail 125) fun ne => ixAt P ne.2 i o ne.1 (c.ev ix) k) (.fail 126)
noncomputable def oIndex (t : TypeId) (x ix : Operand) : OpK := fun c k _ _ =>
  (c.ev x).onStrAgg (fun s => tagIs P t 3 ((c.ev ix).onNat (fun n => optM (nthL s n) (.fail 127) fun b => k (.int .u8 (.ofNat b))) (.fail 128)))
    (fun cs => (c.ev ix).onNat (fun n => optM (elemA P t) (.fail 129) fun ne => cnd (ltb n ne.1) (optM (szO P ne.2) (.fail 129) fun sz => partK P ne.2 cs (Nat.mul n sz) k) (.fail 130)) (.fail 128)) (.fail 131)
noncomputable def oLookup (t : TypeId) (x ix : Operand) (ok : Bool) : OpK := fun c k _ _ => xLookup P t (c.ev x) (c.ev ix) ok k
noncomputable def oRange (t : TypeId) (x : Operand) : OpK := fun c k _ _ =>
  (c.ev x).onMapN (tagIs P t 10 (.new .nilIter fun i => k (.ptr i Nat.zero)))
    (fun m => tagIs P t 10 (.get m fun o => o.onMap (fun es ver => .new (.mapIter m ver es .junk) fun i => k (.ptr i Nat.zero)) (.fail 136)))
    ((c.ev x).onStr (fun s => tagIs P t 3 (.new (.strIter s Nat.zero) fun i => k (.ptr i Nat.zero))) (.fail 137))
noncomputable def nxOver (i : Nat) (k : KV) : FM := .set i .tomb (k (.tuple [.bool false]))
noncomputable def nxEntry (i m ver : Nat) (e : AV × AV) (left : List (AV × AV)) (k : KV) : FM :=
  .set i (.mapIter m ver left (.tuple [e.1, e.2])) (k (.tuple [.bool true, e.1, e.2]))
noncomputable def nxMap (i m ver : Nat) (left : List (AV × AV)) (k : KV) : FM :=
  .get m fun o => o.onMap (fun _ v => cnd (Nat.beq v ver)
    (List.rec (motive := fun _ => FM) (nxOver i k) (fun e t _ => List.rec (motive := fun _ => FM) (nxEntry i m ver e [] k)
      (fun _ _ _ => lenK left Nat.zero fun n => .choose n fun j => optM (nthL left j) (.fail 138) fun e => eraseK left j fun left' => nxEntry i m ver e left' k) t) left)
    (.fail 139)) (.fail 140)
noncomputable def nxStr (i : Nat) (s : List Nat) (pos : Nat) (k : KV) : FM :=
  Option.rec (motive := fun _ => FM) (nxOver i k) (fun b => cnd (ltb b 128) (forceNat (Nat.succ pos) fun p => .set i (.strIter s p) (k (.tuple [.bool true, .int .i64 (.ofNat pos), .int .i32 (.ofNat b)]))) (.fail 141)) (nthL s pos)
noncomputable def oNext (it : Operand) (s : Bool) : OpK := fun c k _ _ =>
  (c.ev it).onPtr (fun i o => cnd (Nat.beq o Nat.zero) (.get i fun x => cnd s (x.onStrIter (fun s pos => nxStr i s pos k) (.fail 142)) (x.onMapIter (fun m ver left _ => nxMap i m ver left k) (nxOver i k) (.fail 142))) (.fail 143)) (.fail 143)
noncomputable def oEntry (it : Operand) : OpK := fun c k _ _ =>
  (c.ev it).onPtr (fun i o => cnd (Nat.beq o Nat.zero) (.get i fun x => x.onMapIter (fun m ver _ cur => .get m fun o' => o'.onMap (fun _ v => cnd (Nat.beq v ver) (cur.onTuple (fun l => k (.tuple l)) (.fail 144)) (.fail 144)) (.fail 145)) (.fail 146) (.fail 146)) (.fail 147)) (.fail 147)
def hasMethods (want : Array (String × TypeId)) (t : TypeId) : Option Bool := match P.info? t with
  | some ti => some (want.toList.all fun (n, s) => ti.methods.any fun m => m.name == n && m.sig == s)
  | none => none
noncomputable def taDone (as : TypeId) (ok r : Bool) (v : AV) (k : KV) : FM :=
  cnd r (cnd ok (k (.tuple [v, .bool true])) (k v)) (cnd ok (zeroVal P as fun z => k (.tuple [z, .bool false])) (.fail 148))
noncomputable def oTypeAssert (x : Operand) (_xt as : TypeId) (ok : Bool) : OpK := fun c k _ _ =>
  cnd (Nat.beq (tagOf P as) 0) (.fail 149) ((c.ev x).onIfaceN (taDone P as ok false .junk k)
    (fun t v => Option.rec (motive := fun _ => FM) (taDone P as ok (Nat.beq t as) v k)
      (fun want => optM (hasMethods P want t) (.fail 149) fun r => taDone P as ok r (.iface t v) k) (ifaceO P as)) (.fail 150))
noncomputable def oExtract (t : Operand) (ix : Nat) : OpK := fun c k _ _ => (c.ev t).onTuple (fun vs => optM (nthL vs ix) (.fail 151) k) (.fail 152)
noncomputable def bltK (b : Builtin) (l : List AV) (ts : Array TypeId) (k : KV) : FM :=
  Builtin.rec (motive := fun _ => FM) (blAppend P l ts k) (blCap P l ts k) (blClear P l ts k) (.fail 154) (.fail 154) (blCopy P l ts k) (blDelete P l ts k) (.fail 154) (blLen P l ts k) (.fail 154) (blMax l ts k) (blMin l ts k)
    (.fail 154) (.fail 154) (.fail 154) (.fail 154) (.fail 154) (.fail 154) (.fail 154) (.fail 154) (.fail 154) (.fail 154) (.fail 154) (.fail 154) (.fail 154) (.fail 154) b
noncomputable def oCall (cl : Call) : OpK := fun c k _ kp =>
  Callee.rec (motive := fun _ => FM)
    (fun f => (c.ev f).onFunc (fun g first captured => appK first (c.evs cl.args.toList) fun l => xApply P c.call c.round g l captured k kp) (.fail 153))
    (fun r name => xMethod P c.call (c.ev r) name (c.evs cl.args.toList) k kp)
    (fun b => bltK P b (c.evs cl.args.toList) cl.argTypes k) cl.callee
noncomputable def oDefer (cl : Call) : OpK := fun c _ kd _ =>
  Callee.rec (motive := fun _ => FM) (fun f => (c.ev f).onFunc (fun g first captured => appK first (c.evs cl.args.toList) fun l => afnM g (fun _ => appK l captured fun l' => kd ⟨g, l'⟩) (fun _ => .fail 155) (fun _ => .fail 155) (.fail 155)) (.fail 155)) (fun _ _ => .fail 156) (fun _ => .fail 156) cl.callee
noncomputable def oPanic (x : Operand) : OpK := fun c _ _ kp => (c.ev x).onIface (fun t v => kp [(.iface t v, false)]) (.fail 157)
noncomputable def oNo (w : Nat) : OpK := fun _ _ _ _ => .fail w
noncomputable def opK (o : Op) : OpK :=
  Op.rec (motive := fun _ => OpK) oMove oMove oPick (oAlloc P) oBox (oBuild P) (oBuildSlice P) (oUpdate P) (oLoad P) (oStore P) (fun _ => oNo 210) (fun _ => oNo 211) oNilCheck (oBinOp P) oUnOp (oConvert P)
    (fun _ _ => oNo 216) (oMakeInterface P) oMakeFunc (oMakeMap P) (fun _ _ => oNo 220) (oMakeSlice P) (oSlice P) (oFieldAddr P) (oField P) (oIndexAddr P) (oIndex P) (oLookup P) (oUpdate P)
    (fun _ _ _ => oNo 229) (fun _ _ _ _ => oNo 230) (oRange P) oNext oEntry (oTypeAssert P) oExtract (oCall P) (fun _ => oNo 237) oDefer oPanic (fun _ _ => oNo 240) (fun _ _ _ => oNo 241) (fun _ _ => oNo 242) o
end
end Go.X

namespace Go.X
section
variable (P : Program)

/-- what is said about a program that makes runs short; nothing of it need be true -/
structure LH where
  /-- temporaries that are forgotten at a round's end -/
  junk : List Nat
  /-- temporaries in which iterators are: the entry at which they stand is forgotten -/
  its : List Nat
  /-- so many names a round -/
  win : Nat
structure Hints where
  /-- the loops of a function go side by side -/
  loop : FuncId → Option LH
  /-- the ways through a function are joined at its end -/
  join : FuncId → Nat
/-- what has been shown of functions -/
abbrev Sums := FuncId → Option (List AV → KV → (Chain → FM) → FM)

/-! ### regions -/
noncomputable def putDst (N : Nat) (dst : Option Tmp) (v : AV) (st : St) (k : St → FM) : FM :=
  Option.rec (motive := fun _ => FM) (k st) (fun s => cnd (ltb s N) (TT.putK s v st.tmps fun t => k ⟨t, st.defers, st.u⟩) (.fail 158)) dst
/-- what guards an operation: the temporary in which the guard's value is; what it must be -/
def guardOf (ops : Array Oper) (o : Oper) : Option (Option Tmp × Bool) := match o.guard with
  | none => none
  | some (j, w) => match ops[j]? with | some x => some (x.dst, w) | none => some (none, w)
noncomputable def guardV (want : Bool) (v : AV) (k : Bool → FM) : FM :=
  v.onBool (fun b => k (cnd b want (cnd want false true))) (v.onTuple (fun _ => k false) (.fail 159))
noncomputable def wantedK (ops : Array Oper) (t : TT) (o : Oper) (k : Bool → FM) : FM :=
  Option.rec (motive := fun _ => FM) (k true) (fun g => Option.rec (motive := fun _ => FM) (k false) (fun s => cnd (ltb s 4096) (guardV g.2 (TT.at s t) k) (.fail 159)) g.1) (guardOf ops o)
noncomputable def xOps (call : CallRec) (round : RoundRec) (N : Nat) (dok : Bool) (ops : Array Oper) (l : List Oper) : St → (St → FM) → (St → Chain → FM) → FM :=
  List.rec (motive := fun _ => St → (St → FM) → (St → Chain → FM) → FM) (fun st k _ => k st)
    (fun o _ ih st k kp => wantedK ops st.tmps o fun b => cnd b
      (opK P o.op ⟨call, round, st.tmps, P.globals.size⟩ (fun v => putDst N o.dst v st fun st' => ih st' k kp)
        (fun d => cnd dok (putDst N o.dst (.tuple []) ⟨st.tmps, d :: st.defers, st.u⟩ fun st' => ih st' k kp) (.fail 157)) (kp st))
      (putDst N o.dst (.tuple []) st fun st' => ih st' k kp)) l

/-- regions whose order is drawn -/
def opAt (ops : Array Oper) (i : Nat) : Oper := ops.getD i default
def guardSlot (ops : Array Oper) (i : Nat) : List Nat := match guardOf ops (opAt ops i) with | some (some s, _) => [s] | _ => []
def slotsOf (ops : Array Oper) (i : Nat) : List Nat :=
  guardSlot ops i ++ (opAt ops i).op.operands.toList.filterMap fun | .tmp t => some t | _ => none
def dstOf (ops : Array Oper) (i : Nat) : Option Nat := (opAt ops i).dst
/-- for each operation those that go ahead of it, as a mask -/
def befL : List Oper → List Nat → List Nat
  | [], acc => acc
  | o :: r, acc => befL r (acc ++ [o.after.toList.foldl (fun s e => if Region.binds .any e then s ||| 2 ^ e.on ||| acc.getD e.on 0 else s) 0])
def masks (ops : Array Oper) : List Nat := befL ops.toList []
def ordL (ms : List Nat) (j i : Nat) : Bool := (ms.getD i 0).testBit j
/-- each operation's edges come from ahead of it; its temporaries are there -/
def regFit (N : Nat) (ops : Array Oper) : Bool :=
  ops.toList.zipIdx.all fun (o, i) => (o.after.toList.all fun e => !Region.binds .any e || decide (e.on < i)) && (match o.dst with | some s => decide (s < N) | none => true) && (slotsOf ops i).all fun s => decide (s < 4096)
noncomputable def fillT (sl : List Nat) : List AV → TT → (TT → FM) → FM :=
  List.rec (motive := fun _ => List AV → TT → (TT → FM) → FM) (fun _ t k => k t)
    (fun s _ ih vs t k => List.rec (motive := fun _ => FM) (.fail 150) (fun v r _ => TT.putK s v t fun t' => ih r t' k) vs) sl
noncomputable def regOp (call : CallRec) (round : RoundRec) (ops : Array Oper) (i : Nat) (vs : List AV) : FM :=
  fillT (slotsOf ops i) vs TT.undef fun t => wantedK ops t (opAt ops i) fun b => cnd b
    (opK P (opAt ops i).op ⟨call, round, t, P.globals.size⟩ (fun v => .ret (.val v)) (fun _ => .fail 155) (fun _ => .fail 156)) (.ret (.val (.tuple [])))
noncomputable def xRegion (call : CallRec) (round : RoundRec) (N : Nat) (dok : Bool) (ops : Array Oper) (draw : Bool) (st : St) (k : St → FM) (kp : St → Chain → FM) : FM :=
  cnd draw (cnd (regFit N ops) (.regn ops.size (ordL (masks ops)) (slotsOf ops) (dstOf ops) (regOp P call round ops) st k) (.fail 154))
    (xOps P call round N dok ops ops.toList st k kp)

/-- does the last operation come behind all others -/
noncomputable def lastAll (ops : Array Oper) : Bool := cnd (Nat.beq ops.size 0) false (Nat.beq ((masks ops).getD (Nat.pred ops.size) 0) (2 ^ Nat.pred ops.size - 1))
/-- a drawn region whose last operation comes behind all others: that one may panic -/
noncomputable def xRegionS (call : CallRec) (round : RoundRec) (N : Nat) (dok : Bool) (ops : Array Oper) (draw : Bool) (st : St) (k : St → FM) (kp : St → Chain → FM) : FM :=
  cnd (cnd draw (cnd (regFit N ops) (lastAll ops) false) false)
    (.regn (Nat.pred ops.size) (ordL (masks ops)) (slotsOf ops) (dstOf ops) (regOp P call round ops) st fun st' => xOps P call round N dok ops (ops.toList.drop (Nat.pred ops.size)) st' k kp)
    (xRegion P call round N dok ops draw st k kp)

/-! ### code -/
abbrev KC := XExit → St → FM
abbrev CodeK := St → KC → FM
noncomputable def onNormal (e : XExit) (st : St) (k : St → FM) (ke : KC) : FM :=
  XExit.rec (motive := fun _ => FM) (k st) (fun i => ke (.exit i) st) (fun l => ke (.goto l) st) (ke .ret st) (fun ch => ke (.panic ch) st) e
noncomputable def inBlockK (id : Nat) (e : XExit) (st : St) (ke : KC) : FM :=
  XExit.rec (motive := fun _ => FM) (ke .normal st) (fun i => cnd (Nat.beq i id) (ke .normal st) (ke (.exit i) st)) (fun l => ke (.goto l) st) (ke .ret st) (fun ch => ke (.panic ch) st) e
noncomputable def xLoop (body : CodeK) (n : Nat) : CodeK :=
  Nat.rec (motive := fun _ => CodeK) (fun _ _ => .fail 200) (fun _ ih st k => body st fun e st' => onNormal e st' (fun st2 => ih st2 k) k) n
/-- temporaries forgotten -/
noncomputable def junkK (l : List Nat) : TT → (TT → FM) → FM :=
  List.rec (motive := fun _ => TT → (TT → FM) → FM) (fun t k => k t) (fun s _ ih t k => cnd (ltb s 4096) (TT.putK s .junk t fun t' => ih t' k) (.fail 199)) l
noncomputable def dropO (a w : Nat) (m : FM) : FM := cnd (Nat.beq w Nat.zero) m (.drop a w m)
/-- the entries at which iterators stand forgotten -/
noncomputable def curK (t : TT) (l : List Nat) (m : FM) : FM :=
  List.rec (motive := fun _ => FM) m (fun s _ ih => (TT.at s t).onPtr (fun i _ => .get i fun o => o.onMapIter (fun m ver left _ => .set i (.mapIter m ver left .junk) ih) ih ih) ih) l
noncomputable def xLoopM (body : CodeK) (n : Nat) (jw : LH) : CodeK := fun st k =>
  .loop n (fun s => .here fun a => body s fun e s' => curK s'.tmps jw.its (junkK jw.junk s'.tmps fun t => dropO a jw.win (.ret (.st e ⟨t, s'.defers, s'.u⟩)))) st fun e s => k e s
noncomputable def xLoops (H : Hints) (fn : FuncId) (body : CodeK) (n : Nat) : CodeK :=
  Option.rec (motive := fun _ => CodeK) (xLoop body n) (fun jw => xLoopM body n jw) (H.loop fn)
def ntmpsOf (f : FuncId) : Nat := match P.funcs[f]? with | some fn => fn.ntmps | none => 0

/-- a range over a function -/
noncomputable def endLoopK (l : Nat) (st : St) (k : KC) : FM :=
  .get l fun o => o.onLoop (fun r => LSt.rec (motive := fun _ => FM) (.set l .tomb (k r.pending st)) (.fail 202) (.set l .tomb (k r.pending st)) (.fail 202) r.state) (.fail 203)
noncomputable def goLoop (call : CallRec) (round : RoundRec) (N : Nat) (fn : FuncId) (f : AFn) (first captured : List AV) (params : Array Tmp) (assign body : Code) (t : TT) (dblock : Nat) (st' : St) (k : KC) : FM :=
  .new (.loop ⟨.ready, .normal, fn, t, N :: params.toList, assign, body, dblock⟩) fun l =>
    appK first [.func (.yield l) [] []] fun args => afnM f (fun g => appK args captured fun as => cnd (bodied P g) (call g as (fun _ => endLoopK l st' k) (fun _ => .fail 204)) (.fail 204)) (fun _ => .fail 204) (fun _ => .fail 204) (.fail 204)
noncomputable def xRange (call : CallRec) (round : RoundRec) (N : Nat) (fn : FuncId) (cur : Option Nat) (g : Operand) (params : Array Tmp) (assign body : Code) : CodeK := fun st k =>
  (evalO P.globals.size st.tmps g).onFunc (fun f first captured =>
    Option.rec (motive := fun _ => FM)
      (.new (.deferred (some [])) fun b => goLoop P call round N fn f first captured params assign body st.tmps b ⟨st.tmps, ⟨.yield b, []⟩ :: st.defers, st.u⟩ k)
      (fun l => .get l fun o => o.onLoop (fun r => goLoop P call round N fn f first captured params assign body st.tmps r.defers st k) (.fail 205)) cur) (.fail 201)

noncomputable def xCode (call : CallRec) (round : RoundRec) (H : Hints) (fn : FuncId) (N : Nat) (cur : Option Nat) (lf : Nat) (c : Code) : CodeK :=
  Code.rec (motive := fun _ => CodeK)
    (fun st k => k .normal st)
    (fun _ ops draw st k => cnd (Nat.beq (H.join fn) 3) (xRegionS P call round N (Option.rec (motive := fun _ => Bool) true (fun _ => false) cur) ops draw st (fun st' => k .normal st') (fun st' ch => k (.panic ch) st')) (xRegion P call round N (Option.rec (motive := fun _ => Bool) true (fun _ => false) cur) ops draw st (fun st' => k .normal st') (fun st' ch => k (.panic ch) st')))
    (fun _ _ ia ib st k => ia st fun e st' => onNormal e st' (fun st2 => ib st2 k) k)
    (fun x _ _ it ie st k => (evalO P.globals.size st.tmps x).onBool (fun b => cnd b (it st k) (ie st k)) (.fail 206))
    (fun id _ ib st k => ib st fun e st' => inBlockK id e st' k)
    (fun _ ib => xLoops H fn ib lf)
    (fun g params assign body _ _ => xRange P call round N fn cur g params assign body)
    (fun id st k => k (.exit id) st)
    (fun _ _ _ _ => .fail 207)
    (fun _ st k => k .normal st)
    (fun l st k => k (.goto l) st)
    (fun st k => k .ret st)
    (fun _ _ _ => .fail 208)
    c

/-! ### a round -/
noncomputable def bindK (N : Nat) (ps : List Tmp) : List AV → TT → (TT → FM) → FM :=
  List.rec (motive := fun _ => List AV → TT → (TT → FM) → FM) (fun as t k => List.rec (motive := fun _ => FM) (k t) (fun _ _ _ => .fail 174) as)
    (fun p _ ih as t k => List.rec (motive := fun _ => FM) (.fail 174) (fun a as' _ => cnd (ltb p N) (TT.putK p a t fun t' => ih as' t' k) (.fail 174)) as) ps
noncomputable def ALoop.with (r : ALoop) (s : LSt) (e : XExit) : AObj := .loop ⟨s, e, r.fn, r.tmps, r.params, r.assign, r.body, r.defers⟩
noncomputable def endRoundK (l : Nat) (k : KV) (e : XExit) : FM :=
  .get l fun o => o.onLoop (fun r =>
    XExit.rec (motive := fun _ => FM)
      (.set l (r.with .ready .normal) (k (.bool true)))
      (fun i => .set l (r.with .done (.exit i)) (k (.bool false)))
      (fun _ => .fail 175)
      (.set l (r.with .done .ret) (k (.bool false)))
      (fun _ => .fail 176) e) (.fail 177)
noncomputable def xRound (call : CallRec) (round : RoundRec) (H : Hints) (lf : Nat) : RoundRec := fun l args k =>
  .get l fun o => o.onLoop (fun r => List.rec (motive := fun _ => FM) (.fail 178) (fun N ps _ =>
    bindK N ps args r.tmps fun t =>
    xCode P call round H r.fn N (some l) lf r.assign ⟨t, [], .na⟩ fun e st => onNormal e st
      (fun st' => .get l fun o' => o'.onLoop (fun r' =>
        LSt.rec (motive := fun _ => FM)
          (.set l (r'.with .busy r'.pending) (xCode P call round H r.fn N (some l) lf r.body st' fun e2 _ => endRoundK l k e2))
          (.fail 170) (.fail 170) (.fail 170) r'.state) (.fail 171)) (fun _ _ => .fail 172)) r.params) (.fail 173)

/-! ### calls -/
noncomputable def resultK (t : TT) (r : ResultVar) (k : KV) : FM :=
  ResultVar.rec (motive := fun _ => FM) (fun s => cnd (ltb s 4096) (k (TT.at s t)) (.fail 208)) (fun a ty => cnd (ltb a 4096) ((TT.at a t).onPtr (fun i o => loadC P ty i o k) (.fail 209)) (.fail 208)) r
noncomputable def resultsK (t : TT) (l : List ResultVar) : (List AV → FM) → FM :=
  List.rec (motive := fun _ => (List AV → FM) → FM) (fun k => k []) (fun r _ ih k => resultK P t r fun v => ih fun vs => k (v :: vs)) l
noncomputable def results1 (vs : List AV) (k : KV) : FM :=
  List.rec (motive := fun _ => FM) (k (.tuple [])) (fun v t _ => List.rec (motive := fun _ => FM) (k v) (fun _ _ _ => k (.tuple vs)) t) vs
noncomputable def settleA (u : AMode) : AMode :=
  AMode.rec (motive := fun _ => AMode) .na .returning (fun ch => List.rec (motive := fun _ => AMode) u (fun e _ _ => cnd e.2 .returning u) ch) u
noncomputable def raisedA (u : AMode) (ch : Chain) : AMode :=
  AMode.rec (motive := fun _ => AMode) (.panicking ch) (.panicking ch) (fun old => .panicking (ch ++ old)) u
/-- recover, in a deferred call: its value, and the mode behind it -/
noncomputable def recoverK (u : AMode) (k : AV → AMode → FM) : FM :=
  AMode.rec (motive := fun _ => FM) (.fail 196) (k .nilIface u)
    (fun ch => List.rec (motive := fun _ => FM) (k .nilIface u) (fun e older _ => cnd e.2 (k .nilIface u) (k e.1 (.panicking ((e.1, true) :: older)))) ch) u
/-- a body that begins with recover -/
def recOp (o : Oper) : Option (Option Tmp) := match o.guard, o.op with
  | none, .call c => match c.callee with | .builtin .recover => some o.dst | _ => none
  | _, _ => none
/-- a body that begins with recover: its slot, the region, what else is in it, what is behind it -/
def recOf (c : Code) : Option (Option Tmp × Array Oper × List Oper × Code) := match c with
  | .seq (.region _ ops false) rest => match ops.toList with
    | o :: os => match recOp o with | some d => some (d, ops, os, rest) | none => none
    | _ => none
  | _ => none
noncomputable def noDefers (l : List ADef) (m : FM) : FM := List.rec (motive := fun _ => FM) m (fun _ _ _ => .fail 198) l
noncomputable def doneD (fn : Func) (u : AMode) (k : AMode → FM) : KC := fun e st =>
  noDefers st.defers (XExit.rec (motive := fun _ => FM)
    (resultsK P st.tmps fn.results.toList fun _ => k (settleA u)) (fun _ => .fail 195) (fun _ => .fail 195)
    (resultsK P st.tmps fn.results.toList fun _ => k (settleA u)) (fun ch => k (raisedA u ch)) e)
noncomputable def argsK (N : Nat) (args : List AV) (k : TT → FM) : FM :=
  cnd (Nat.ble N 4096) (lenK args Nat.zero fun n => cnd (Nat.ble n N) (TT.args args Nat.zero TT.undef k) (.fail 165)) (.fail 164)
/-- one deferred call -/
noncomputable def xDefer (call : CallRec) (round : RoundRec) (H : Hints) (lf : Nat) (f : FuncId) (args : List AV) (u : AMode) (k : AMode → FM) : FM :=
  cnd (bodied P f) (optM P.funcs[f]? (.fail 160) fun fn => optM fn.body (.fail 160) fun c => argsK fn.ntmps args fun t =>
    Option.rec (motive := fun _ => FM) (xCode P call round H f fn.ntmps none lf c ⟨t, [], .na⟩ (doneD P fn u k))
      (fun dr => recoverK u fun v u' => putDst fn.ntmps dr.1 v ⟨t, [], .na⟩ fun st => xOps P call round fn.ntmps true dr.2.1 dr.2.2.1 st (fun st' => xCode P call round H f fn.ntmps none lf dr.2.2.2 st' (doneD P fn u' k)) (fun st' ch => doneD P fn u' k (.panic ch) st')) (recOf c)) (.fail 193)
/-- the deferred calls, the last one first -/
noncomputable def xDefers (call : CallRec) (round : RoundRec) (H : Hints) (lf : Nat) (ds : List ADef) : AMode → (AMode → FM) → FM :=
  List.rec (motive := fun _ => AMode → (AMode → FM) → FM) (fun u k => k u)
    (fun e _ ih u k => afnM e.fn (fun g => xDefer P call round H lf g e.args u fun u' => ih u' k) (fun _ => .fail 191)
      (fun b => .get b fun o => o.onDeferred (fun l => noDefers l (.set b .tomb (ih u k))) (.fail 192)) (.fail 193)) ds
noncomputable def endK (fn : Func) (t : TT) (k : KV) (kp : Chain → FM) (u : AMode) : FM :=
  AMode.rec (motive := fun _ => FM) (.fail 194) (resultsK P t fn.results.toList fun vs => results1 vs k) kp u
noncomputable def leaveK (call : CallRec) (round : RoundRec) (H : Hints) (lf : Nat) (fn : Func) (k : KV) (kp : Chain → FM) : KC := fun e st =>
  XExit.rec (motive := fun _ => FM)
    (xDefers P call round H lf st.defers .returning (endK P fn st.tmps k kp)) (fun _ => .fail 195) (fun _ => .fail 195)
    (xDefers P call round H lf st.defers .returning (endK P fn st.tmps k kp))
    (fun ch => xDefers P call round H lf st.defers (.panicking ch) (endK P fn st.tmps k kp)) e
noncomputable def xBody (H : Hints) (lf : Nat) (call : CallRec) (round : RoundRec) : CallRec := fun f args k kp =>
  optM P.funcs[f]? (.fail 160) fun fn => optM fn.body (.fail 160) fun c => argsK fn.ntmps args fun t =>
    xCode P call round H f fn.ntmps none lf c ⟨t, [], .na⟩ (leaveK P call round H lf fn k kp)
/-- is i the name of the value's own block -/
noncomputable def ownOf (v : AV) (i : Nat) : Bool :=
  AV.rec (motive_1 := fun _ => Bool) (motive_2 := fun _ => PUnit) false (fun _ => false) (fun _ _ => false) (fun _ => false) false (fun j _ => Nat.beq i j) false (fun j _ _ _ _ => Nat.beq i j) false false (fun j => Nat.beq i j) (fun _ _ _ _ _ => false) false (fun _ _ _ => false) false (fun _ _ => false) (fun _ _ => false) PUnit.unit (fun _ _ _ _ => PUnit.unit) v
/-- blocks that came since a, but for the value's own, are forgotten -/
noncomputable def gcK (a : Nat) (v : AV) (n : Nat) (m : FM) : FM :=
  Nat.rec (motive := fun _ => FM) m (fun j ih => cnd (ownOf v (Nat.add a j)) ih (forceNat (Nat.add a j) fun i => .set i .tomb ih)) n
noncomputable def joinedG (call : CallRec) : CallRec := fun f args k kp => .here fun a =>
  .join (call f args (fun v => .here fun b => gcK a v (Nat.sub b a) (.ret (.val v))) (fun ch => .ret (.pan ch .na))) fun r => Res.rec (motive := fun _ => FM) k (fun _ _ => .fail 167) (fun _ _ => .fail 167) (fun ch _ => kp ch) r
/-- the ways through a call joined -/
noncomputable def joined (call : CallRec) : CallRec := fun f args k kp =>
  .join (call f args (fun v => .ret (.val v)) (fun ch => .ret (.pan ch .na))) fun r => Res.rec (motive := fun _ => FM) k (fun _ _ => .fail 167) (fun _ _ => .fail 167) (fun ch _ => kp ch) r
noncomputable def xLevel (H : Hints) (sums : Sums) (lf : Nat) (call : CallRec) (round : RoundRec) : CallRec := fun f args k kp =>
  Option.rec (motive := fun _ => FM) (cnd (cnd (Nat.beq (H.join f) 3) true (Nat.beq (H.join f) 0)) (xBody P H lf call round f args k kp) (cnd (Nat.beq (H.join f) 1) (joined (xBody P H lf call round) f args k kp) (joinedG (xBody P H lf call round) f args k kp))) (fun s => s args k kp) (sums f)

structure CR where
  call : CallRec
  round : RoundRec
noncomputable def xCR (H : Hints) (sums : Sums) (lf : Nat) (n : Nat) : CR :=
  Nat.rec (motive := fun _ => CR) ⟨fun _ _ _ _ => .fail 161, fun _ _ _ => .fail 162⟩
    (fun _ ih => ⟨xLevel P H sums lf ih.call ih.round, xRound P ih.call ih.round H lf⟩) n
noncomputable def xCall (H : Hints) (sums : Sums) (lf n : Nat) (f : FuncId) (args : List AV) : FM :=
  (xCR P H sums lf n).call f args (fun v => .ret (.val v)) (fun _ => .fail 163)
end
end Go.X

namespace Go.X
/-! which temporaries are needed (nothing is proved of it: it makes hints) -/
def bit (n : Nat) : Nat := 2 ^ n
def orAll (l : List Nat) : Nat := l.foldl (fun s n => s ||| bit n) 0
def tmpsOf (l : List Operand) : List Nat := l.filterMap fun | .tmp t => some t | _ => none
def without (m k : Nat) : Nat := m ^^^ (m &&& k)
def liveOps (ops : Array Oper) (out : Nat) : Nat :=
  ops.toList.reverse.foldl (fun s o => (match o.dst with | some d => without s (bit d) | none => s) ||| orAll (tmpsOf o.op.operands.toList) |||
    (match guardOf ops o with | some (some g, _) => bit g | _ => 0)) out
def mentionsM : Code → Nat
  | .region _ ops _ => ops.toList.foldl (fun s o => s ||| orAll (tmpsOf o.op.operands.toList) ||| (match o.dst with | some d => bit d | none => 0)) 0
  | .seq a b => mentionsM a ||| mentionsM b
  | .cond x a b => orAll (tmpsOf [x]) ||| mentionsM a ||| mentionsM b
  | .block _ c | .loop c | .scope c => mentionsM c
  | .rangeFunc g ps a c => orAll (tmpsOf [g]) ||| orAll ps.toList ||| mentionsM a ||| mentionsM c
  | _ => 0
def look (ends : List (Nat × Nat)) (id : Nat) : Nat := match ends.find? (·.1 == id) with | some e => e.2 | none => 0
def liveC (ret : Nat) : Code → Nat → List (Nat × Nat) → Nat
  | .region _ ops _, out, _ => liveOps ops out
  | .seq a b, out, ends => liveC ret a (liveC ret b out ends) ends
  | .cond x a b, out, ends => orAll (tmpsOf [x]) ||| liveC ret a out ends ||| liveC ret b out ends
  | .block id c, out, ends => liveC ret c out ((id, out) :: ends)
  | .loop c, _, ends => let l1 := liveC ret c 0 ends; let l2 := liveC ret c l1 ends ||| l1; liveC ret c l2 ends ||| l2
  | .rangeFunc g ps a c, out, _ => out ||| orAll (tmpsOf [g]) ||| orAll ps.toList ||| mentionsM a ||| mentionsM c ||| ret
  | .exit id, _, ends => look ends id
  | .ret, _, _ => ret
  | _, out, _ => out
def hasNext : Code → Bool
  | .region _ ops _ => ops.toList.any fun o => match o.op with | .next _ false => true | _ => false
  | .seq a b => hasNext a || hasNext b
  | .cond _ a b => hasNext a || hasNext b
  | .block _ c | .loop c | .scope c => hasNext c
  | .rangeFunc _ _ a c => hasNext a || hasNext c
  | _ => false
/-- what is needed at the ends of the rounds -/
def keepC (ret : Nat) : Code → Nat → List (Nat × Nat) → Nat
  | .seq a b, out, ends => keepC ret a (liveC ret b out ends) ends ||| keepC ret b out ends
  | .cond _ a b, out, ends => keepC ret a out ends ||| keepC ret b out ends
  | .block id c, out, ends => keepC ret c out ((id, out) :: ends)
  | .loop c, out, ends => if hasNext c then liveC ret (.loop c) out ends ||| ends.foldl (fun s e => s ||| e.2) ret ||| keepC ret c (liveC ret (.loop c) out ends) ends else 0
  | _, _, _ => 0
def itersM : Code → Nat
  | .region _ ops _ => ops.toList.foldl (fun s o => match o.op with | .next (.tmp t) false => s ||| bit t | _ => s) 0
  | .seq a b => itersM a ||| itersM b
  | .cond _ a b => itersM a ||| itersM b
  | .block _ c | .loop c | .scope c => itersM c
  | .rangeFunc _ _ a c => itersM a ||| itersM c
  | _ => 0
def retM (f : Func) : Nat := f.results.toList.foldl (fun s r => match r with | .tmp t => s ||| bit t | .cell a _ => s ||| bit a) 0
def bitsOf (n m : Nat) : List Nat := (List.range n).filter fun i => m.testBit i
/-- a hint for a function whose loops range over maps -/
def autoH (f : Func) : LH := match f.body with
  | some c => ⟨bitsOf f.ntmps ((2 ^ f.ntmps - 1) ^^^ ((2 ^ f.ntmps - 1) &&& keepC (retM f) c (retM f) [])), bitsOf f.ntmps (itersM c), 0⟩
  | none => ⟨[], [], 0⟩
end Go.X
