/-
  PROVED: abstract values, and runs of programs over abstract heaps: a run all of whose outcomes are good is good on every way. No condition.
-/
import GoSem.Step
set_option linter.unusedVariables false
set_option linter.unusedSimpArgs false

namespace Go.X

noncomputable def cnd {β : Type} (b : Bool) (t e : β) : β := Bool.rec e t b
noncomputable def ltb (a b : Nat) : Bool := Nat.ble (Nat.succ a) b

/-! ### sixteen things -/
inductive D16 where
  | d0 | d1 | d2 | d3 | d4 | d5 | d6 | d7 | d8 | d9 | d10 | d11 | d12 | d13 | d14 | d15
  deriving DecidableEq
inductive N16 (α : Type) where
  | mk (a0 a1 a2 a3 a4 a5 a6 a7 a8 a9 a10 a11 a12 a13 a14 a15 : α)
noncomputable def N16.get {α : Type} (d : D16) (n : N16 α) : α :=
  N16.rec (motive := fun _ => α) (fun a0 a1 a2 a3 a4 a5 a6 a7 a8 a9 a10 a11 a12 a13 a14 a15 => D16.rec (motive := fun _ => α) a0 a1 a2 a3 a4 a5 a6 a7 a8 a9 a10 a11 a12 a13 a14 a15 d) n
noncomputable def N16.set0 {α β : Type} (v : α) (n : N16 α) (k : N16 α → β) : β := N16.rec (motive := fun _ => β) (fun _ a1 a2 a3 a4 a5 a6 a7 a8 a9 a10 a11 a12 a13 a14 a15 => k (.mk v a1 a2 a3 a4 a5 a6 a7 a8 a9 a10 a11 a12 a13 a14 a15)) n
noncomputable def N16.set1 {α β : Type} (v : α) (n : N16 α) (k : N16 α → β) : β := N16.rec (motive := fun _ => β) (fun a0 _ a2 a3 a4 a5 a6 a7 a8 a9 a10 a11 a12 a13 a14 a15 => k (.mk a0 v a2 a3 a4 a5 a6 a7 a8 a9 a10 a11 a12 a13 a14 a15)) n
noncomputable def N16.set2 {α β : Type} (v : α) (n : N16 α) (k : N16 α → β) : β := N16.rec (motive := fun _ => β) (fun a0 a1 _ a3 a4 a5 a6 a7 a8 a9 a10 a11 a12 a13 a14 a15 => k (.mk a0 a1 v a3 a4 a5 a6 a7 a8 a9 a10 a11 a12 a13 a14 a15)) n
noncomputable def N16.set3 {α β : Type} (v : α) (n : N16 α) (k : N16 α → β) : β := N16.rec (motive := fun _ => β) (fun a0 a1 a2 _ a4 a5 a6 a7 a8 a9 a10 a11 a12 a13 a14 a15 => k (.mk a0 a1 a2 v a4 a5 a6 a7 a8 a9 a10 a11 a12 a13 a14 a15)) n
noncomputable def N16.set4 {α β : Type} (v : α) (n : N16 α) (k : N16 α → β) : β := N16.rec (motive := fun _ => β) (fun a0 a1 a2 a3 _ a5 a6 a7 a8 a9 a10 a11 a12 a13 a14 a15 => k (.mk a0 a1 a2 a3 v a5 a6 a7 a8 a9 a10 a11 a12 a13 a14 a15)) n
noncomputable def N16.set5 {α β : Type} (v : α) (n : N16 α) (k : N16 α → β) : β := N16.rec (motive := fun _ => β) (fun a0 a1 a2 a3 a4 _ a6 a7 a8 a9 a10 a11 a12 a13 a14 a15 => k (.mk a0 a1 a2 a3 a4 v a6 a7 a8 a9 a10 a11 a12 a13 a14 a15)) n
noncomputable def N16.set6 {α β : Type} (v : α) (n : N16 α) (k : N16 α → β) : β := N16.rec (motive := fun _ => β) (fun a0 a1 a2 a3 a4 a5 _ a7 a8 a9 a10 a11 a12 a13 a14 a15 => k (.mk a0 a1 a2 a3 a4 a5 v a7 a8 a9 a10 a11 a12 a13 a14 a15)) n
noncomputable def N16.set7 {α β : Type} (v : α) (n : N16 α) (k : N16 α → β) : β := N16.rec (motive := fun _ => β) (fun a0 a1 a2 a3 a4 a5 a6 _ a8 a9 a10 a11 a12 a13 a14 a15 => k (.mk a0 a1 a2 a3 a4 a5 a6 v a8 a9 a10 a11 a12 a13 a14 a15)) n
noncomputable def N16.set8 {α β : Type} (v : α) (n : N16 α) (k : N16 α → β) : β := N16.rec (motive := fun _ => β) (fun a0 a1 a2 a3 a4 a5 a6 a7 _ a9 a10 a11 a12 a13 a14 a15 => k (.mk a0 a1 a2 a3 a4 a5 a6 a7 v a9 a10 a11 a12 a13 a14 a15)) n
noncomputable def N16.set9 {α β : Type} (v : α) (n : N16 α) (k : N16 α → β) : β := N16.rec (motive := fun _ => β) (fun a0 a1 a2 a3 a4 a5 a6 a7 a8 _ a10 a11 a12 a13 a14 a15 => k (.mk a0 a1 a2 a3 a4 a5 a6 a7 a8 v a10 a11 a12 a13 a14 a15)) n
noncomputable def N16.set10 {α β : Type} (v : α) (n : N16 α) (k : N16 α → β) : β := N16.rec (motive := fun _ => β) (fun a0 a1 a2 a3 a4 a5 a6 a7 a8 a9 _ a11 a12 a13 a14 a15 => k (.mk a0 a1 a2 a3 a4 a5 a6 a7 a8 a9 v a11 a12 a13 a14 a15)) n
noncomputable def N16.set11 {α β : Type} (v : α) (n : N16 α) (k : N16 α → β) : β := N16.rec (motive := fun _ => β) (fun a0 a1 a2 a3 a4 a5 a6 a7 a8 a9 a10 _ a12 a13 a14 a15 => k (.mk a0 a1 a2 a3 a4 a5 a6 a7 a8 a9 a10 v a12 a13 a14 a15)) n
noncomputable def N16.set12 {α β : Type} (v : α) (n : N16 α) (k : N16 α → β) : β := N16.rec (motive := fun _ => β) (fun a0 a1 a2 a3 a4 a5 a6 a7 a8 a9 a10 a11 _ a13 a14 a15 => k (.mk a0 a1 a2 a3 a4 a5 a6 a7 a8 a9 a10 a11 v a13 a14 a15)) n
noncomputable def N16.set13 {α β : Type} (v : α) (n : N16 α) (k : N16 α → β) : β := N16.rec (motive := fun _ => β) (fun a0 a1 a2 a3 a4 a5 a6 a7 a8 a9 a10 a11 a12 _ a14 a15 => k (.mk a0 a1 a2 a3 a4 a5 a6 a7 a8 a9 a10 a11 a12 v a14 a15)) n
noncomputable def N16.set14 {α β : Type} (v : α) (n : N16 α) (k : N16 α → β) : β := N16.rec (motive := fun _ => β) (fun a0 a1 a2 a3 a4 a5 a6 a7 a8 a9 a10 a11 a12 a13 _ a15 => k (.mk a0 a1 a2 a3 a4 a5 a6 a7 a8 a9 a10 a11 a12 a13 v a15)) n
noncomputable def N16.set15 {α β : Type} (v : α) (n : N16 α) (k : N16 α → β) : β := N16.rec (motive := fun _ => β) (fun a0 a1 a2 a3 a4 a5 a6 a7 a8 a9 a10 a11 a12 a13 a14 _ => k (.mk a0 a1 a2 a3 a4 a5 a6 a7 a8 a9 a10 a11 a12 a13 a14 v)) n
noncomputable def N16.set {α β : Type} (d : D16) : α → N16 α → (N16 α → β) → β :=
  D16.rec (motive := fun _ => α → N16 α → (N16 α → β) → β) N16.set0 N16.set1 N16.set2 N16.set3 N16.set4 N16.set5 N16.set6 N16.set7 N16.set8 N16.set9 N16.set10 N16.set11 N16.set12 N16.set13 N16.set14 N16.set15 d
noncomputable def N16.all {α : Type} (v : α) : N16 α := .mk v v v v v v v v v v v v v v v v
/-- the last digit of a number -/
noncomputable def digit (n : Nat) : D16 :=
  (cnd (Nat.beq (Nat.land (Nat.shiftRight n 3) 1) 1) (cnd (Nat.beq (Nat.land (Nat.shiftRight n 2) 1) 1) (cnd (Nat.beq (Nat.land (Nat.shiftRight n 1) 1) 1) (cnd (Nat.beq (Nat.land (Nat.shiftRight n 0) 1) 1) .d15 .d14) (cnd (Nat.beq (Nat.land (Nat.shiftRight n 0) 1) 1) .d13 .d12)) (cnd (Nat.beq (Nat.land (Nat.shiftRight n 1) 1) 1) (cnd (Nat.beq (Nat.land (Nat.shiftRight n 0) 1) 1) .d11 .d10) (cnd (Nat.beq (Nat.land (Nat.shiftRight n 0) 1) 1) .d9 .d8))) (cnd (Nat.beq (Nat.land (Nat.shiftRight n 2) 1) 1) (cnd (Nat.beq (Nat.land (Nat.shiftRight n 1) 1) 1) (cnd (Nat.beq (Nat.land (Nat.shiftRight n 0) 1) 1) .d7 .d6) (cnd (Nat.beq (Nat.land (Nat.shiftRight n 0) 1) 1) .d5 .d4)) (cnd (Nat.beq (Nat.land (Nat.shiftRight n 1) 1) 1) (cnd (Nat.beq (Nat.land (Nat.shiftRight n 0) 1) 1) .d3 .d2) (cnd (Nat.beq (Nat.land (Nat.shiftRight n 0) 1) 1) .d1 .d0))))

/-! ### abstract values -/
inductive AFn where
  | plain (f : Fn)
  | yield (i : Nat)

/-- abstract values: an address is the name of a block and an offset -/
inductive AV where
  | junk
  | bool (b : Bool)
  | int (q : IntKind) (n : Int)
  | str (s : List Nat)
  | nilp
  | ptr (i o : Nat)
  | nils
  | slice (i o len cap : Nat) (ext : Bool)
  | emp
  | nilMap
  | map (i : Nat)
  | func (f : AFn) (first captured : List AV)
  | nilFunc
  | iface (t : TypeId) (v : AV)
  | nilIface
  | agg (cs : List AV)
  | tuple (vs : List AV)

/-- a deferred call: its function, its arguments and what it captured -/
structure ADef where
  fn : AFn
  args : List AV

/-- panics on their way: the value, and whether it is recovered -/
abbrev Chain := List (AV × Bool)
inductive AMode where
  | na
  | returning
  | panicking (chain : Chain)

inductive XExit where
  | normal
  | exit (id : Nat)
  | goto (l : Nat)
  | ret
  | panic (chain : Chain)

/-- temporaries: 4096 of them -/
abbrev TT := N16 (N16 (N16 AV))

inductive LSt where
  | ready | busy | done | exhausted

structure ALoop where
  state : LSt
  pending : XExit      -- normal: none
  fn : FuncId
  tmps : TT
  params : List Tmp
  assign : Code
  body : Code
  defers : Nat

inductive AObj where
  | cells (c : List AV) (esz : Nat) (grown mark : Bool)
  | map (es : List (AV × AV)) (ver : Nat)
  | mapIter (m ver : Nat) (left : List (AV × AV)) (cur : AV)
  | nilIter
  | tomb
  | strIter (s : List Nat) (pos : Nat)
  | loop (l : ALoop)
  | deferred (ds : Option (List ADef))
  /-- cells that are only read -/
  | ro (c : List AV)

structure St where
  tmps : TT
  defers : List ADef
  u : AMode

inductive Res where
  | val (v : AV)
  | st (e : XExit) (s : St)
  | done (v : AV) (u : AMode)
  | pan (ch : Chain) (u : AMode)

/-! ### heaps -/
abbrev Tr := N16 (N16 (N16 (N16 (Option AObj))))
structure THeap where
  t : Tr
  next : Nat
  lim : Nat
structure P4 where
  p : D16
  q : D16
  r : D16
  s : D16
  deriving DecidableEq
noncomputable def p4 (n : Nat) : P4 := ⟨digit n, digit (Nat.shiftRight n 4), digit (Nat.shiftRight n 8), digit (Nat.shiftRight n 12)⟩
noncomputable def Tr.getP (p : P4) (t : Tr) : Option AObj := P4.rec (motive := fun _ => Option AObj) (fun a b c d => N16.get a (N16.get b (N16.get c (N16.get d t)))) p
noncomputable def Tr.setP {β : Type} (p : P4) (v : Option AObj) (t : Tr) (k : Tr → β) : β :=
  P4.rec (motive := fun _ => β) (fun a b c d => N16.set a v (N16.get b (N16.get c (N16.get d t))) fun x => N16.set b x (N16.get c (N16.get d t)) fun y => N16.set c y (N16.get d t) fun z => N16.set d z t k) p
noncomputable def Tr.empty : Tr := N16.all (N16.all (N16.all (N16.all none)))
/-- no more names than this -/
noncomputable def top : Nat := 65536
noncomputable def THeap.get (h : THeap) (i : Nat) : Option AObj := cnd (ltb i top) (Tr.getP (p4 i) h.t) none

noncomputable def forceNat {β : Type} (n : Nat) (k : Nat → β) : β := Nat.rec (motive := fun _ => β) (k Nat.zero) (fun m _ => k (Nat.succ m)) n
noncomputable def forceInt {β : Type} (n : Int) (k : Int → β) : β :=
  Int.rec (motive := fun _ => β) (fun m => forceNat m fun m' => k (Int.ofNat m')) (fun m => forceNat m fun m' => k (Int.negSucc m')) n

/-! ### programs over a heap -/
inductive FM where
  | ret (r : Res)
  | fail (why : Nat)
  | get (i : Nat) (k : AObj → FM)
  | set (i : Nat) (o : AObj) (m : FM)
  | new (o : AObj) (k : Nat → FM)
  | here (k : Nat → FM)
  | drop (a w : Nat) (m : FM)
  | choose (n : Nat) (k : Nat → FM)
  | any (k : Nat → FM)
  | join (m : FM) (k : Res → FM)
  | loop (n : Nat) (body : St → FM) (st : St) (k : XExit → St → FM)
  | regn (n : Nat) (ord : Nat → Nat → Bool) (slots : Nat → List Nat) (dst : Nat → Option Nat) (op : Nat → List AV → FM) (st : St) (k : St → FM)
end Go.X

namespace Go.X

/-! ### equality, decided -/
noncomputable def beqB (a b : Bool) : Bool := cnd a b (cnd b false true)
noncomputable def eqI (a b : Int) : Bool :=
  Int.rec (motive := fun _ => Bool) (fun m => Int.rec (motive := fun _ => Bool) (fun p => Nat.beq m p) (fun _ => false) b)
    (fun m => Int.rec (motive := fun _ => Bool) (fun _ => false) (fun p => Nat.beq m p) b) a
noncomputable def eqL {α : Type} (f : α → α → Bool) (a : List α) : List α → Bool :=
  List.rec (motive := fun _ => List α → Bool) (fun b => List.rec (motive := fun _ => Bool) true (fun _ _ _ => false) b)
    (fun x _ ih b => List.rec (motive := fun _ => Bool) false (fun y s _ => cnd (f x y) (ih s) false) b) a
noncomputable def eqNs (a b : List Nat) : Bool := eqL Nat.beq a b
noncomputable def kindN (q : IntKind) : Nat := IntKind.rec (motive := fun _ => Nat) 0 1 2 3 4 5 6 7 q
noncomputable def eqFn (f g : AFn) : Bool :=
  AFn.rec (motive := fun _ => Bool) (fun a => AFn.rec (motive := fun _ => Bool) (fun b => decide (a = b)) (fun _ => false) g)
    (fun i => AFn.rec (motive := fun _ => Bool) (fun _ => false) (fun j => Nat.beq i j) g) f
noncomputable def eqAV (x : AV) : AV → Bool :=
  AV.rec (motive_1 := fun _ => AV → Bool) (motive_2 := fun _ => List AV → Bool)
    (fun y => AV.rec (motive_1 := fun _ => Bool) (motive_2 := fun _ => PUnit) (true) (fun _ => false) (fun _ _ => false) (fun _ => false) false (fun _ _ => false) false (fun _ _ _ _ _ => false) false false (fun _ => false) (fun _ _ _ _ _ => false) false (fun _ _ _ => false) false (fun _ _ => false) (fun _ _ => false) PUnit.unit (fun _ _ _ _ => PUnit.unit) y)
    (fun b y => AV.rec (motive_1 := fun _ => Bool) (motive_2 := fun _ => PUnit) false (fun c => beqB b c) (fun _ _ => false) (fun _ => false) false (fun _ _ => false) false (fun _ _ _ _ _ => false) false false (fun _ => false) (fun _ _ _ _ _ => false) false (fun _ _ _ => false) false (fun _ _ => false) (fun _ _ => false) PUnit.unit (fun _ _ _ _ => PUnit.unit) y)
    (fun q n y => AV.rec (motive_1 := fun _ => Bool) (motive_2 := fun _ => PUnit) false (fun _ => false) (fun r m => cnd (Nat.beq (kindN q) (kindN r)) (eqI n m) false) (fun _ => false) false (fun _ _ => false) false (fun _ _ _ _ _ => false) false false (fun _ => false) (fun _ _ _ _ _ => false) false (fun _ _ _ => false) false (fun _ _ => false) (fun _ _ => false) PUnit.unit (fun _ _ _ _ => PUnit.unit) y)
    (fun s y => AV.rec (motive_1 := fun _ => Bool) (motive_2 := fun _ => PUnit) false (fun _ => false) (fun _ _ => false) (fun t => eqNs s t) false (fun _ _ => false) false (fun _ _ _ _ _ => false) false false (fun _ => false) (fun _ _ _ _ _ => false) false (fun _ _ _ => false) false (fun _ _ => false) (fun _ _ => false) PUnit.unit (fun _ _ _ _ => PUnit.unit) y)
    (fun y => AV.rec (motive_1 := fun _ => Bool) (motive_2 := fun _ => PUnit) false (fun _ => false) (fun _ _ => false) (fun _ => false) (true) (fun _ _ => false) false (fun _ _ _ _ _ => false) false false (fun _ => false) (fun _ _ _ _ _ => false) false (fun _ _ _ => false) false (fun _ _ => false) (fun _ _ => false) PUnit.unit (fun _ _ _ _ => PUnit.unit) y)
    (fun i o y => AV.rec (motive_1 := fun _ => Bool) (motive_2 := fun _ => PUnit) false (fun _ => false) (fun _ _ => false) (fun _ => false) false (fun j p => cnd (Nat.beq i j) (Nat.beq o p) false) false (fun _ _ _ _ _ => false) false false (fun _ => false) (fun _ _ _ _ _ => false) false (fun _ _ _ => false) false (fun _ _ => false) (fun _ _ => false) PUnit.unit (fun _ _ _ _ => PUnit.unit) y)
    (fun y => AV.rec (motive_1 := fun _ => Bool) (motive_2 := fun _ => PUnit) false (fun _ => false) (fun _ _ => false) (fun _ => false) false (fun _ _ => false) (true) (fun _ _ _ _ _ => false) false false (fun _ => false) (fun _ _ _ _ _ => false) false (fun _ _ _ => false) false (fun _ _ => false) (fun _ _ => false) PUnit.unit (fun _ _ _ _ => PUnit.unit) y)
    (fun i o len cap ext y => AV.rec (motive_1 := fun _ => Bool) (motive_2 := fun _ => PUnit) false (fun _ => false) (fun _ _ => false) (fun _ => false) false (fun _ _ => false) false (fun j p len2 cap2 ext2 => cnd (cnd (Nat.beq i j) (Nat.beq o p) false) (cnd (cnd (Nat.beq len len2) (Nat.beq cap cap2) false) (beqB ext ext2) false) false) false false (fun _ => false) (fun _ _ _ _ _ => false) false (fun _ _ _ => false) false (fun _ _ => false) (fun _ _ => false) PUnit.unit (fun _ _ _ _ => PUnit.unit) y)
    (fun y => AV.rec (motive_1 := fun _ => Bool) (motive_2 := fun _ => PUnit) false (fun _ => false) (fun _ _ => false) (fun _ => false) false (fun _ _ => false) false (fun _ _ _ _ _ => false) (true) false (fun _ => false) (fun _ _ _ _ _ => false) false (fun _ _ _ => false) false (fun _ _ => false) (fun _ _ => false) PUnit.unit (fun _ _ _ _ => PUnit.unit) y)
    (fun y => AV.rec (motive_1 := fun _ => Bool) (motive_2 := fun _ => PUnit) false (fun _ => false) (fun _ _ => false) (fun _ => false) false (fun _ _ => false) false (fun _ _ _ _ _ => false) false (true) (fun _ => false) (fun _ _ _ _ _ => false) false (fun _ _ _ => false) false (fun _ _ => false) (fun _ _ => false) PUnit.unit (fun _ _ _ _ => PUnit.unit) y)
    (fun i y => AV.rec (motive_1 := fun _ => Bool) (motive_2 := fun _ => PUnit) false (fun _ => false) (fun _ _ => false) (fun _ => false) false (fun _ _ => false) false (fun _ _ _ _ _ => false) false false (fun j => Nat.beq i j) (fun _ _ _ _ _ => false) false (fun _ _ _ => false) false (fun _ _ => false) (fun _ _ => false) PUnit.unit (fun _ _ _ _ => PUnit.unit) y)
    (fun f first captured hf hc y => AV.rec (motive_1 := fun _ => Bool) (motive_2 := fun _ => PUnit) false (fun _ => false) (fun _ _ => false) (fun _ => false) false (fun _ _ => false) false (fun _ _ _ _ _ => false) false false (fun _ => false) (fun g first2 captured2 _ _ => cnd (eqFn f g) (cnd (hf first2) (hc captured2) false) false) false (fun _ _ _ => false) false (fun _ _ => false) (fun _ _ => false) PUnit.unit (fun _ _ _ _ => PUnit.unit) y)
    (fun y => AV.rec (motive_1 := fun _ => Bool) (motive_2 := fun _ => PUnit) false (fun _ => false) (fun _ _ => false) (fun _ => false) false (fun _ _ => false) false (fun _ _ _ _ _ => false) false false (fun _ => false) (fun _ _ _ _ _ => false) (true) (fun _ _ _ => false) false (fun _ _ => false) (fun _ _ => false) PUnit.unit (fun _ _ _ _ => PUnit.unit) y)
    (fun t v hv y => AV.rec (motive_1 := fun _ => Bool) (motive_2 := fun _ => PUnit) false (fun _ => false) (fun _ _ => false) (fun _ => false) false (fun _ _ => false) false (fun _ _ _ _ _ => false) false false (fun _ => false) (fun _ _ _ _ _ => false) false (fun t2 v2 _ => cnd (Nat.beq t t2) (hv v2) false) false (fun _ _ => false) (fun _ _ => false) PUnit.unit (fun _ _ _ _ => PUnit.unit) y)
    (fun y => AV.rec (motive_1 := fun _ => Bool) (motive_2 := fun _ => PUnit) false (fun _ => false) (fun _ _ => false) (fun _ => false) false (fun _ _ => false) false (fun _ _ _ _ _ => false) false false (fun _ => false) (fun _ _ _ _ _ => false) false (fun _ _ _ => false) (true) (fun _ _ => false) (fun _ _ => false) PUnit.unit (fun _ _ _ _ => PUnit.unit) y)
    (fun cs hcs y => AV.rec (motive_1 := fun _ => Bool) (motive_2 := fun _ => PUnit) false (fun _ => false) (fun _ _ => false) (fun _ => false) false (fun _ _ => false) false (fun _ _ _ _ _ => false) false false (fun _ => false) (fun _ _ _ _ _ => false) false (fun _ _ _ => false) false (fun ds _ => hcs ds) (fun _ _ => false) PUnit.unit (fun _ _ _ _ => PUnit.unit) y)
    (fun vs hvs y => AV.rec (motive_1 := fun _ => Bool) (motive_2 := fun _ => PUnit) false (fun _ => false) (fun _ _ => false) (fun _ => false) false (fun _ _ => false) false (fun _ _ _ _ _ => false) false false (fun _ => false) (fun _ _ _ _ _ => false) false (fun _ _ _ => false) false (fun _ _ => false) (fun ws _ => hvs ws) PUnit.unit (fun _ _ _ _ => PUnit.unit) y)
    (fun l => List.rec (motive := fun _ => Bool) true (fun _ _ _ => false) l)
    (fun _ _ hh ht l => List.rec (motive := fun _ => Bool) false (fun a r _ => cnd (hh a) (ht r) false) l)
    x
noncomputable def eqAVs (x : List AV) : List AV → Bool :=
  AV.rec_1 (motive_1 := fun _ => AV → Bool) (motive_2 := fun _ => List AV → Bool)
    (fun y => AV.rec (motive_1 := fun _ => Bool) (motive_2 := fun _ => PUnit) (true) (fun _ => false) (fun _ _ => false) (fun _ => false) false (fun _ _ => false) false (fun _ _ _ _ _ => false) false false (fun _ => false) (fun _ _ _ _ _ => false) false (fun _ _ _ => false) false (fun _ _ => false) (fun _ _ => false) PUnit.unit (fun _ _ _ _ => PUnit.unit) y)
    (fun b y => AV.rec (motive_1 := fun _ => Bool) (motive_2 := fun _ => PUnit) false (fun c => beqB b c) (fun _ _ => false) (fun _ => false) false (fun _ _ => false) false (fun _ _ _ _ _ => false) false false (fun _ => false) (fun _ _ _ _ _ => false) false (fun _ _ _ => false) false (fun _ _ => false) (fun _ _ => false) PUnit.unit (fun _ _ _ _ => PUnit.unit) y)
    (fun q n y => AV.rec (motive_1 := fun _ => Bool) (motive_2 := fun _ => PUnit) false (fun _ => false) (fun r m => cnd (Nat.beq (kindN q) (kindN r)) (eqI n m) false) (fun _ => false) false (fun _ _ => false) false (fun _ _ _ _ _ => false) false false (fun _ => false) (fun _ _ _ _ _ => false) false (fun _ _ _ => false) false (fun _ _ => false) (fun _ _ => false) PUnit.unit (fun _ _ _ _ => PUnit.unit) y)
    (fun s y => AV.rec (motive_1 := fun _ => Bool) (motive_2 := fun _ => PUnit) false (fun _ => false) (fun _ _ => false) (fun t => eqNs s t) false (fun _ _ => false) false (fun _ _ _ _ _ => false) false false (fun _ => false) (fun _ _ _ _ _ => false) false (fun _ _ _ => false) false (fun _ _ => false) (fun _ _ => false) PUnit.unit (fun _ _ _ _ => PUnit.unit) y)
    (fun y => AV.rec (motive_1 := fun _ => Bool) (motive_2 := fun _ => PUnit) false (fun _ => false) (fun _ _ => false) (fun _ => false) (true) (fun _ _ => false) false (fun _ _ _ _ _ => false) false false (fun _ => false) (fun _ _ _ _ _ => false) false (fun _ _ _ => false) false (fun _ _ => false) (fun _ _ => false) PUnit.unit (fun _ _ _ _ => PUnit.unit) y)
    (fun i o y => AV.rec (motive_1 := fun _ => Bool) (motive_2 := fun _ => PUnit) false (fun _ => false) (fun _ _ => false) (fun _ => false) false (fun j p => cnd (Nat.beq i j) (Nat.beq o p) false) false (fun _ _ _ _ _ => false) false false (fun _ => false) (fun _ _ _ _ _ => false) false (fun _ _ _ => false) false (fun _ _ => false) (fun _ _ => false) PUnit.unit (fun _ _ _ _ => PUnit.unit) y)
    (fun y => AV.rec (motive_1 := fun _ => Bool) (motive_2 := fun _ => PUnit) false (fun _ => false) (fun _ _ => false) (fun _ => false) false (fun _ _ => false) (true) (fun _ _ _ _ _ => false) false false (fun _ => false) (fun _ _ _ _ _ => false) false (fun _ _ _ => false) false (fun _ _ => false) (fun _ _ => false) PUnit.unit (fun _ _ _ _ => PUnit.unit) y)
    (fun i o len cap ext y => AV.rec (motive_1 := fun _ => Bool) (motive_2 := fun _ => PUnit) false (fun _ => false) (fun _ _ => false) (fun _ => false) false (fun _ _ => false) false (fun j p len2 cap2 ext2 => cnd (cnd (Nat.beq i j) (Nat.beq o p) false) (cnd (cnd (Nat.beq len len2) (Nat.beq cap cap2) false) (beqB ext ext2) false) false) false false (fun _ => false) (fun _ _ _ _ _ => false) false (fun _ _ _ => false) false (fun _ _ => false) (fun _ _ => false) PUnit.unit (fun _ _ _ _ => PUnit.unit) y)
    (fun y => AV.rec (motive_1 := fun _ => Bool) (motive_2 := fun _ => PUnit) false (fun _ => false) (fun _ _ => false) (fun _ => false) false (fun _ _ => false) false (fun _ _ _ _ _ => false) (true) false (fun _ => false) (fun _ _ _ _ _ => false) false (fun _ _ _ => false) false (fun _ _ => false) (fun _ _ => false) PUnit.unit (fun _ _ _ _ => PUnit.unit) y)
    (fun y => AV.rec (motive_1 := fun _ => Bool) (motive_2 := fun _ => PUnit) false (fun _ => false) (fun _ _ => false) (fun _ => false) false (fun _ _ => false) false (fun _ _ _ _ _ => false) false (true) (fun _ => false) (fun _ _ _ _ _ => false) false (fun _ _ _ => false) false (fun _ _ => false) (fun _ _ => false) PUnit.unit (fun _ _ _ _ => PUnit.unit) y)
    (fun i y => AV.rec (motive_1 := fun _ => Bool) (motive_2 := fun _ => PUnit) false (fun _ => false) (fun _ _ => false) (fun _ => false) false (fun _ _ => false) false (fun _ _ _ _ _ => false) false false (fun j => Nat.beq i j) (fun _ _ _ _ _ => false) false (fun _ _ _ => false) false (fun _ _ => false) (fun _ _ => false) PUnit.unit (fun _ _ _ _ => PUnit.unit) y)
    (fun f first captured hf hc y => AV.rec (motive_1 := fun _ => Bool) (motive_2 := fun _ => PUnit) false (fun _ => false) (fun _ _ => false) (fun _ => false) false (fun _ _ => false) false (fun _ _ _ _ _ => false) false false (fun _ => false) (fun g first2 captured2 _ _ => cnd (eqFn f g) (cnd (hf first2) (hc captured2) false) false) false (fun _ _ _ => false) false (fun _ _ => false) (fun _ _ => false) PUnit.unit (fun _ _ _ _ => PUnit.unit) y)
    (fun y => AV.rec (motive_1 := fun _ => Bool) (motive_2 := fun _ => PUnit) false (fun _ => false) (fun _ _ => false) (fun _ => false) false (fun _ _ => false) false (fun _ _ _ _ _ => false) false false (fun _ => false) (fun _ _ _ _ _ => false) (true) (fun _ _ _ => false) false (fun _ _ => false) (fun _ _ => false) PUnit.unit (fun _ _ _ _ => PUnit.unit) y)
    (fun t v hv y => AV.rec (motive_1 := fun _ => Bool) (motive_2 := fun _ => PUnit) false (fun _ => false) (fun _ _ => false) (fun _ => false) false (fun _ _ => false) false (fun _ _ _ _ _ => false) false false (fun _ => false) (fun _ _ _ _ _ => false) false (fun t2 v2 _ => cnd (Nat.beq t t2) (hv v2) false) false (fun _ _ => false) (fun _ _ => false) PUnit.unit (fun _ _ _ _ => PUnit.unit) y)
    (fun y => AV.rec (motive_1 := fun _ => Bool) (motive_2 := fun _ => PUnit) false (fun _ => false) (fun _ _ => false) (fun _ => false) false (fun _ _ => false) false (fun _ _ _ _ _ => false) false false (fun _ => false) (fun _ _ _ _ _ => false) false (fun _ _ _ => false) (true) (fun _ _ => false) (fun _ _ => false) PUnit.unit (fun _ _ _ _ => PUnit.unit) y)
    (fun cs hcs y => AV.rec (motive_1 := fun _ => Bool) (motive_2 := fun _ => PUnit) false (fun _ => false) (fun _ _ => false) (fun _ => false) false (fun _ _ => false) false (fun _ _ _ _ _ => false) false false (fun _ => false) (fun _ _ _ _ _ => false) false (fun _ _ _ => false) false (fun ds _ => hcs ds) (fun _ _ => false) PUnit.unit (fun _ _ _ _ => PUnit.unit) y)
    (fun vs hvs y => AV.rec (motive_1 := fun _ => Bool) (motive_2 := fun _ => PUnit) false (fun _ => false) (fun _ _ => false) (fun _ => false) false (fun _ _ => false) false (fun _ _ _ _ _ => false) false false (fun _ => false) (fun _ _ _ _ _ => false) false (fun _ _ _ => false) false (fun _ _ => false) (fun ws _ => hvs ws) PUnit.unit (fun _ _ _ _ => PUnit.unit) y)
    (fun l => List.rec (motive := fun _ => Bool) true (fun _ _ _ => false) l)
    (fun _ _ hh ht l => List.rec (motive := fun _ => Bool) false (fun a r _ => cnd (hh a) (ht r) false) l)
    x
noncomputable def N16.eq {α : Type} (f : α → α → Bool) (x y : N16 α) : Bool :=
  N16.rec (motive := fun _ => Bool) (fun a0 a1 a2 a3 a4 a5 a6 a7 a8 a9 a10 a11 a12 a13 a14 a15 => N16.rec (motive := fun _ => Bool) (fun b0 b1 b2 b3 b4 b5 b6 b7 b8 b9 b10 b11 b12 b13 b14 b15 => cnd (f a0 b0) (cnd (f a1 b1) (cnd (f a2 b2) (cnd (f a3 b3) (cnd (f a4 b4) (cnd (f a5 b5) (cnd (f a6 b6) (cnd (f a7 b7) (cnd (f a8 b8) (cnd (f a9 b9) (cnd (f a10 b10) (cnd (f a11 b11) (cnd (f a12 b12) (cnd (f a13 b13) (cnd (f a14 b14) (f a15 b15) false) false) false) false) false) false) false) false) false) false) false) false) false) false) false) y) x

noncomputable def eqChain (a b : Chain) : Bool := eqL (fun x y => cnd (eqAV x.1 y.1) (beqB x.2 y.2) false) a b
noncomputable def eqMode (a b : AMode) : Bool :=
  AMode.rec (motive := fun _ => Bool) (AMode.rec (motive := fun _ => Bool) true false (fun _ => false) b) (AMode.rec (motive := fun _ => Bool) false true (fun _ => false) b)
    (fun c => AMode.rec (motive := fun _ => Bool) false false (fun d => eqChain c d) b) a
noncomputable def eqDef (a b : ADef) : Bool := cnd (eqFn a.fn b.fn) (eqL eqAV a.args b.args) false
noncomputable def eqSt (a b : St) : Bool := cnd (N16.eq (N16.eq (N16.eq eqAV)) a.tmps b.tmps) (cnd (eqL eqDef a.defers b.defers) (eqMode a.u b.u) false) false
noncomputable def eqExit (a b : XExit) : Bool :=
  XExit.rec (motive := fun _ => Bool)
    (XExit.rec (motive := fun _ => Bool) true (fun _ => false) (fun _ => false) false (fun _ => false) b)
    (fun i => XExit.rec (motive := fun _ => Bool) false (fun j => Nat.beq i j) (fun _ => false) false (fun _ => false) b)
    (fun i => XExit.rec (motive := fun _ => Bool) false (fun _ => false) (fun j => Nat.beq i j) false (fun _ => false) b)
    (XExit.rec (motive := fun _ => Bool) false (fun _ => false) (fun _ => false) true (fun _ => false) b)
    (fun c => XExit.rec (motive := fun _ => Bool) false (fun _ => false) (fun _ => false) false (fun d => eqChain c d) b) a
noncomputable def eqRes (a b : Res) : Bool :=
  Res.rec (motive := fun _ => Bool)
    (fun v => Res.rec (motive := fun _ => Bool) (fun w => eqAV v w) (fun _ _ => false) (fun _ _ => false) (fun _ _ => false) b)
    (fun e s => Res.rec (motive := fun _ => Bool) (fun _ => false) (fun e' s' => cnd (eqExit e e') (eqSt s s') false) (fun _ _ => false) (fun _ _ => false) b)
    (fun v u => Res.rec (motive := fun _ => Bool) (fun _ => false) (fun _ _ => false) (fun v' u' => cnd (eqAV v v') (eqMode u u') false) (fun _ _ => false) b)
    (fun c u => Res.rec (motive := fun _ => Bool) (fun _ => false) (fun _ _ => false) (fun _ _ => false) (fun c' u' => cnd (eqChain c c') (eqMode u u') false) b) a
noncomputable def eqPair (a b : AV × AV) : Bool := cnd (eqAV a.1 b.1) (eqAV a.2 b.2) false
/-- (loops and lists of deferred calls are never found equal) -/
noncomputable def eqObj (a b : AObj) : Bool :=
  AObj.rec (motive := fun _ => Bool)
    (fun c e g k => AObj.rec (motive := fun _ => Bool) (fun c' e' g' k' => cnd (cnd (eqL eqAV c c') (Nat.beq e e') false) (cnd (beqB g g') (beqB k k') false) false) (fun _ _ => false) (fun _ _ _ _ => false) false false (fun _ _ => false) (fun _ => false) (fun _ => false) (fun _ => false) b)
    (fun es v => AObj.rec (motive := fun _ => Bool) (fun _ _ _ _ => false) (fun es' v' => cnd (eqL eqPair es es') (Nat.beq v v') false) (fun _ _ _ _ => false) false false (fun _ _ => false) (fun _ => false) (fun _ => false) (fun _ => false) b)
    (fun m v l c => AObj.rec (motive := fun _ => Bool) (fun _ _ _ _ => false) (fun _ _ => false) (fun m' v' l' c' => cnd (cnd (Nat.beq m m') (Nat.beq v v') false) (cnd (eqL eqPair l l') (eqAV c c') false) false) false false (fun _ _ => false) (fun _ => false) (fun _ => false) (fun _ => false) b)
    (AObj.rec (motive := fun _ => Bool) (fun _ _ _ _ => false) (fun _ _ => false) (fun _ _ _ _ => false) true false (fun _ _ => false) (fun _ => false) (fun _ => false) (fun _ => false) b)
    (AObj.rec (motive := fun _ => Bool) (fun _ _ _ _ => false) (fun _ _ => false) (fun _ _ _ _ => false) false true (fun _ _ => false) (fun _ => false) (fun _ => false) (fun _ => false) b)
    (fun s p => AObj.rec (motive := fun _ => Bool) (fun _ _ _ _ => false) (fun _ _ => false) (fun _ _ _ _ => false) false false (fun s' p' => cnd (eqNs s s') (Nat.beq p p') false) (fun _ => false) (fun _ => false) (fun _ => false) b)
    (fun _ => false) (fun _ => false)
    (fun c => AObj.rec (motive := fun _ => Bool) (fun _ _ _ _ => false) (fun _ _ => false) (fun _ _ _ _ => false) false false (fun _ _ => false) (fun _ => false) (fun _ => false) (fun c' => eqL eqAV c c') b) a
noncomputable def eqOObj (a b : Option AObj) : Bool :=
  Option.rec (motive := fun _ => Bool) (Option.rec (motive := fun _ => Bool) true (fun _ => false) b) (fun x => Option.rec (motive := fun _ => Bool) false (fun y => eqObj x y) b) a

theorem ff {p : Prop} (h : false = true) : p := by cases h
theorem cnd_true {β : Type} (t e : β) : cnd true t e = t := rfl
theorem cnd_false {β : Type} (t e : β) : cnd false t e = e := rfl
theorem cnd_and {a b : Bool} : cnd a b false = true ↔ a = true ∧ b = true := by cases a <;> cases b <;> simp [cnd]
theorem beqB_eq {a b : Bool} : beqB a b = true ↔ a = b := by cases a <;> cases b <;> simp [beqB, cnd]
theorem eqI_eq {a b : Int} : eqI a b = true ↔ a = b := by
  cases a <;> cases b <;> simp [eqI] <;> omega
theorem eqL_eq {α : Type} {f : α → α → Bool} {a : List α} (h : ∀ x ∈ a, ∀ y, f x y = true → x = y) : ∀ {b : List α}, eqL f a b = true → a = b := by
  induction a with
  | nil => intro b hb; cases b with
    | nil => rfl
    | cons y s => exact ff hb
  | cons x t ih => intro b hb; cases b with
    | nil => exact ff hb
    | cons y s =>
      have h' : cnd (f x y) (eqL f t s) false = true := hb
      obtain ⟨h1, h2⟩ := cnd_and.1 h'
      rw [h x (by simp) y h1, ih (fun z hz => h z (by simp [hz])) h2]
theorem natbeq {a b : Nat} (h : Nat.beq a b = true) : a = b := Nat.eq_of_beq_eq_true h
theorem eqNs_eq {a b : List Nat} (h : eqNs a b = true) : a = b := eqL_eq (fun _ _ _ h => natbeq h) h
theorem kindN_eq {q r : IntKind} (h : Nat.beq (kindN q) (kindN r) = true) : q = r := by cases q <;> cases r <;> simp_all [kindN]
theorem eqFn_eq {f g : AFn} (h : eqFn f g = true) : f = g := by
  cases f <;> cases g
  · exact congrArg AFn.plain (of_decide_eq_true h)
  · exact ff h
  · exact ff h
  · exact congrArg AFn.yield (natbeq h)

theorem eqAV_eq : ∀ x y, eqAV x y = true → x = y := by
  intro x
  induction x using AV.rec (motive_2 := fun l => ∀ l', eqAVs l l' = true → l = l') with
  | func f first captured h1 h2 =>
    intro y h; cases y <;> first | exact ff h | skip
    have h' : cnd (eqFn f _) (cnd (eqAVs first _) (eqAVs captured _) false) false = true := h
    obtain ⟨a, b⟩ := cnd_and.1 h'
    obtain ⟨b, c⟩ := cnd_and.1 b
    rw [eqFn_eq a, h1 _ b, h2 _ c]
  | iface t v ih =>
    intro y h; cases y <;> first | exact ff h | skip
    have h' : cnd (Nat.beq t _) (eqAV v _) false = true := h
    obtain ⟨a, b⟩ := cnd_and.1 h'
    rw [natbeq a, ih _ b]
  | agg cs ih =>
    intro y h; cases y <;> first | exact ff h | skip
    rw [ih _ h]
  | tuple cs ih =>
    intro y h; cases y <;> first | exact ff h | skip
    rw [ih _ h]
  | junk => intro y h; cases y <;> first | rfl | exact ff h
  | bool b => 
    intro y h; cases y <;> first | exact ff h | skip
    rw [beqB_eq.1 h]
  | int q n =>
    intro y h; cases y <;> first | exact ff h | skip
    have h' : cnd (Nat.beq (kindN q) _) (eqI n _) false = true := h
    obtain ⟨a, b⟩ := cnd_and.1 h'
    rw [kindN_eq a, eqI_eq.1 b]
  | str s =>
    intro y h; cases y <;> first | exact ff h | skip
    rw [eqNs_eq h]
  | nilp => intro y h; cases y <;> first | rfl | exact ff h
  | ptr i o =>
    intro y h; cases y <;> first | exact ff h | skip
    have h' : cnd (Nat.beq i _) (Nat.beq o _) false = true := h
    obtain ⟨a, b⟩ := cnd_and.1 h'
    rw [natbeq a, natbeq b]
  | nils => intro y h; cases y <;> first | rfl | exact ff h
  | slice i o len cap ext =>
    intro y h; cases y <;> first | exact ff h | skip
    rename_i j p l2 c2 e2
    have h' : cnd (cnd (Nat.beq i j) (Nat.beq o p) false) (cnd (cnd (Nat.beq len l2) (Nat.beq cap c2) false) (beqB ext e2) false) false = true := h
    obtain ⟨a, b⟩ := cnd_and.1 h'
    obtain ⟨a1, a2⟩ := cnd_and.1 a
    obtain ⟨b1, b2⟩ := cnd_and.1 b
    obtain ⟨b3, b4⟩ := cnd_and.1 b1
    rw [natbeq a1, natbeq a2, natbeq b3, natbeq b4, beqB_eq.1 b2]
  | emp => intro y h; cases y <;> first | rfl | exact ff h
  | nilMap => intro y h; cases y <;> first | rfl | exact ff h
  | map i =>
    intro y h; cases y <;> first | exact ff h | skip
    rw [natbeq h]
  | nilFunc => intro y h; cases y <;> first | rfl | exact ff h
  | nilIface => intro y h; cases y <;> first | rfl | exact ff h
  | nil => rename_i l' h; cases l' with
    | nil => rfl
    | cons y s => exact ff h
  | cons a t ha ht => rename_i l' h; cases l' with
    | nil => exact ff h
    | cons y s =>
      have h' : cnd (eqAV a y) (eqAVs t s) false = true := h
      obtain ⟨p, q⟩ := cnd_and.1 h'
      rw [ha _ p, ht _ q]
theorem N16.eq_eq {α : Type} {f : α → α → Bool} (hf : ∀ x y, f x y = true → x = y) {x y : N16 α} (h : N16.eq f x y = true) : x = y := by
  cases x; cases y
  simp only [N16.eq, cnd_and] at h
  simp only [N16.mk.injEq]
  refine ⟨?_, ?_, ?_, ?_, ?_, ?_, ?_, ?_, ?_, ?_, ?_, ?_, ?_, ?_, ?_, ?_⟩ <;> (apply hf; simp [h])
theorem eqChain_eq {a b : Chain} (h : eqChain a b = true) : a = b :=
  eqL_eq (fun x _ y hxy => by
    obtain ⟨p, q⟩ := cnd_and.1 hxy
    exact Prod.ext (eqAV_eq _ _ p) (beqB_eq.1 q)) h
theorem eqMode_eq {a b : AMode} (h : eqMode a b = true) : a = b := by
  cases a <;> cases b <;> first | rfl | exact ff h | exact congrArg AMode.panicking (eqChain_eq h)
theorem eqAVl_eq {a b : List AV} (h : eqL eqAV a b = true) : a = b := eqL_eq (fun x _ y => eqAV_eq x y) h
theorem eqDef_eq {a b : ADef} (h : eqDef a b = true) : a = b := by
  obtain ⟨p, q⟩ := cnd_and.1 h
  cases a; cases b
  simp only [ADef.mk.injEq]
  exact ⟨eqFn_eq p, eqAVl_eq q⟩
theorem eqSt_eq {a b : St} (h : eqSt a b = true) : a = b := by
  obtain ⟨p, q⟩ := cnd_and.1 h
  obtain ⟨q, r⟩ := cnd_and.1 q
  cases a; cases b
  simp only [St.mk.injEq]
  exact ⟨N16.eq_eq (fun _ _ h => N16.eq_eq (fun _ _ h => N16.eq_eq (fun _ _ => eqAV_eq _ _) h) h) p, eqL_eq (fun _ _ _ h => eqDef_eq h) q, eqMode_eq r⟩
theorem eqExit_eq {a b : XExit} (h : eqExit a b = true) : a = b := by
  cases a <;> cases b <;> first | rfl | exact ff h | exact congrArg XExit.exit (natbeq h) | exact congrArg XExit.goto (natbeq h) | exact congrArg XExit.panic (eqChain_eq h)
theorem eqRes_eq {a b : Res} (h : eqRes a b = true) : a = b := by
  cases a <;> cases b <;> first | exact ff h | skip
  · exact congrArg Res.val (eqAV_eq _ _ h)
  · obtain ⟨p, q⟩ := cnd_and.1 h; rw [eqExit_eq p, eqSt_eq q]
  · obtain ⟨p, q⟩ := cnd_and.1 h; rw [eqAV_eq _ _ p, eqMode_eq q]
  · obtain ⟨p, q⟩ := cnd_and.1 h; rw [eqChain_eq p, eqMode_eq q]
theorem eqPair_eq {a b : AV × AV} (h : eqPair a b = true) : a = b := by
  obtain ⟨p, q⟩ := cnd_and.1 h
  exact Prod.ext (eqAV_eq _ _ p) (eqAV_eq _ _ q)
theorem eqPairs_eq {a b : List (AV × AV)} (h : eqL eqPair a b = true) : a = b := eqL_eq (fun _ _ _ h => eqPair_eq h) h
theorem eqObj_eq {a b : AObj} (h : eqObj a b = true) : a = b := by
  cases a <;> cases b <;> first | rfl | exact ff h | skip
  · obtain ⟨p, q⟩ := cnd_and.1 h
    obtain ⟨p1, p2⟩ := cnd_and.1 p
    obtain ⟨q1, q2⟩ := cnd_and.1 q
    rw [eqAVl_eq p1, natbeq p2, beqB_eq.1 q1, beqB_eq.1 q2]
  · obtain ⟨p, q⟩ := cnd_and.1 h
    rw [eqPairs_eq p, natbeq q]
  · obtain ⟨p, q⟩ := cnd_and.1 h
    obtain ⟨p1, p2⟩ := cnd_and.1 p
    obtain ⟨q1, q2⟩ := cnd_and.1 q
    rw [natbeq p1, natbeq p2, eqPairs_eq q1, eqAV_eq _ _ q2]
  · obtain ⟨p, q⟩ := cnd_and.1 h
    rw [eqNs_eq p, natbeq q]
  · rw [eqAVl_eq h]
theorem eqOObj_eq {a b : Option AObj} (h : eqOObj a b = true) : a = b := by
  cases a <;> cases b <;> first | rfl | exact ff h | exact congrArg some (eqObj_eq h)
end Go.X

namespace Go.X

/-! ### the tries -/
noncomputable def N16.put {α : Type} (d : D16) (v : α) (n : N16 α) : N16 α := N16.set d v n fun x => x
theorem N16.set_put {α β : Type} (d : D16) (v : α) (n : N16 α) (k : N16 α → β) : N16.set d v n k = k (N16.put d v n) := by
  cases n; cases d <;> rfl
theorem N16.get_put {α : Type} (d e : D16) (v : α) (n : N16 α) : N16.get d (N16.put e v n) = if d = e then v else N16.get d n := by
  cases n; cases d <;> cases e <;> first | rfl | (rw [if_neg (by intro h; cases h)]; rfl) | (rw [if_pos rfl]; rfl)
theorem N16.ext {α : Type} {x y : N16 α} (h : ∀ d, N16.get d x = N16.get d y) : x = y := by
  cases x; cases y
  simp only [N16.mk.injEq]
  exact ⟨h .d0, h .d1, h .d2, h .d3, h .d4, h .d5, h .d6, h .d7, h .d8, h .d9, h .d10, h .d11, h .d12, h .d13, h .d14, h .d15⟩

noncomputable def dN (d : D16) : Nat := D16.rec (motive := fun _ => Nat) 0 1 2 3 4 5 6 7 8 9 10 11 12 13 14 15 d
theorem dN_lt (d : D16) : dN d < 16 := by cases d <;> decide
theorem dN_inj {d e : D16} (h : dN d = dN e) : d = e := by
  cases d <;> cases e <;> first | rfl | exact absurd h (by decide)
theorem bit_cnd {β : Type} (n k : Nat) (t e : β) : cnd (Nat.beq (Nat.land (Nat.shiftRight n k) 1) 1) t e = if n / 2 ^ k % 2 = 1 then t else e := by
  have h : Nat.land (Nat.shiftRight n k) 1 = n / 2 ^ k % 2 := by
    show (n >>> k) &&& 1 = _
    rw [Nat.and_one_is_mod, Nat.shiftRight_eq_div_pow]
  rw [h]
  by_cases hb : n / 2 ^ k % 2 = 1
  · rw [hb, if_pos rfl]; rfl
  · rw [if_neg hb]
    have : Nat.beq (n / 2 ^ k % 2) 1 = false := by
      cases hq : Nat.beq (n / 2 ^ k % 2) 1
      · rfl
      · exact absurd (natbeq hq) hb
    rw [this]; rfl
theorem dN_digit (n : Nat) : dN (digit n) = n % 16 := by
  unfold digit
  simp only [bit_cnd]
  split <;> split <;> split <;> split <;> simp only [dN] <;> omega
theorem digit_ofN (d : D16) : digit (dN d) = d := dN_inj (by rw [dN_digit]; exact Nat.mod_eq_of_lt (dN_lt d))
theorem shr_eq (n k : Nat) : Nat.shiftRight n k = n / 2 ^ k := Nat.shiftRight_eq_div_pow n k
theorem p4_inj {n m : Nat} (hn : n < 65536) (hm : m < 65536) (h : p4 n = p4 m) : n = m := by
  simp only [p4, P4.mk.injEq, shr_eq] at h
  obtain ⟨h1, h2, h3, h4⟩ := h
  have e1 := congrArg dN h1
  have e2 := congrArg dN h2
  have e3 := congrArg dN h3
  have e4 := congrArg dN h4
  simp only [dN_digit] at e1 e2 e3 e4
  omega
noncomputable def Tr.put (p : P4) (v : Option AObj) (t : Tr) : Tr := Tr.setP p v t fun x => x
theorem Tr.setP_put {β : Type} (p : P4) (v : Option AObj) (t : Tr) (k : Tr → β) : Tr.setP p v t k = k (Tr.put p v t) := by
  cases p
  simp only [Tr.put, Tr.setP, N16.set_put]
theorem Tr.get_put (p q : P4) (v : Option AObj) (t : Tr) : Tr.getP p (Tr.put q v t) = if p = q then v else Tr.getP p t := by
  cases p; cases q
  simp only [Tr.put, Tr.setP, Tr.getP, N16.set_put, N16.get_put, P4.mk.injEq]
  rename_i a b c d a' b' c' d'
  by_cases h1 : d = d' <;> by_cases h2 : c = c' <;> by_cases h3 : b = b' <;> by_cases h4 : a = a' <;> simp [h1, h2, h3, h4, N16.get_put]
theorem Tr.ext {t u : Tr} (h : ∀ p, Tr.getP p t = Tr.getP p u) : t = u :=
  N16.ext fun d => N16.ext fun c => N16.ext fun b => N16.ext fun a => h ⟨a, b, c, d⟩
theorem N16.get_all {α : Type} (d : D16) (v : α) : N16.get d (N16.all v) = v := by cases d <;> rfl
theorem Tr.get_empty (p : P4) : Tr.getP p Tr.empty = none := by
  cases p
  simp only [Tr.getP, Tr.empty, N16.get_all]

theorem ltb_iff {a b : Nat} : ltb a b = true ↔ a < b := by simp [ltb]; omega
theorem ltb_false {a b : Nat} : ltb a b = false ↔ b ≤ a := by
  cases h : ltb a b
  · simp; exact Nat.le_of_not_lt fun hlt => by rw [ltb_iff.2 hlt] at h; cases h
  · simp; exact ltb_iff.1 h
noncomputable def THeap.put (h : THeap) (i : Nat) (o : Option AObj) : THeap := ⟨Tr.put (p4 i) o h.t, h.next, h.lim⟩
theorem top_eq : top = 65536 := rfl
theorem THeap.get_of_lt {h : THeap} {i : Nat} (hi : i < top) : h.get i = Tr.getP (p4 i) h.t := by
  unfold THeap.get; rw [ltb_iff.2 hi]; rfl
theorem THeap.get_big {h : THeap} {i : Nat} (hi : top ≤ i) : h.get i = none := by
  unfold THeap.get; rw [ltb_false.2 hi]; rfl
theorem THeap.get_lt {h : THeap} {i : Nat} {o : AObj} (hg : h.get i = some o) : i < top := by
  rcases Nat.lt_or_ge i top with h' | h'
  · exact h'
  · rw [THeap.get_big h'] at hg; cases hg
theorem THeap.get_put (h : THeap) {i : Nat} (hi : i < top) (j : Nat) (o : Option AObj) : (h.put i o).get j = if j = i then o else h.get j := by
  by_cases hj : j < top
  · rw [THeap.get_of_lt hj, THeap.get_of_lt hj]
    simp only [THeap.put, Tr.get_put]
    by_cases e : j = i
    · subst e; simp
    · rw [if_neg e, if_neg (fun h' => e (p4_inj (by rw [← top_eq]; exact hj) (by rw [← top_eq]; exact hi) h'))]
  · have hj' := Nat.le_of_not_lt hj
    rw [THeap.get_big hj', THeap.get_big hj', if_neg (by omega)]
@[simp] theorem THeap.next_put (h : THeap) (i : Nat) (o : Option AObj) : (h.put i o).next = h.next := rfl
@[simp] theorem THeap.lim_put (h : THeap) (i : Nat) (o : Option AObj) : (h.put i o).lim = h.lim := rfl
theorem P4.surj (p : P4) : ∃ i, i < top ∧ p4 i = p := by
  cases p; rename_i a b c d
  refine ⟨dN a + 16 * dN b + 256 * dN c + 4096 * dN d, ?_, ?_⟩
  · have := dN_lt a; have := dN_lt b; have := dN_lt c; have := dN_lt d; rw [top_eq]; omega
  · have ha := dN_lt a; have hb := dN_lt b; have hc := dN_lt c; have hd := dN_lt d
    simp only [p4, shr_eq, P4.mk.injEq]
    refine ⟨dN_inj ?_, dN_inj ?_, dN_inj ?_, dN_inj ?_⟩ <;> rw [dN_digit] <;> omega
theorem THeap.ext {h g : THeap} (ht : ∀ i, h.get i = g.get i) (hn : h.next = g.next) (hl : h.lim = g.lim) : h = g := by
  cases h; cases g
  simp only at hn hl
  subst hn; subst hl
  congr
  refine Tr.ext fun p => ?_
  obtain ⟨i, hi, rfl⟩ := P4.surj p
  have := ht i
  rwa [THeap.get_of_lt hi, THeap.get_of_lt hi] at this
theorem forceNat_eq {β : Type} (n : Nat) (k : Nat → β) : forceNat n k = k n := by cases n <;> rfl
theorem forceInt_eq {β : Type} (n : Int) (k : Int → β) : forceInt n k = k n := by
  cases n <;> simp [forceInt, forceNat_eq]
/-- names from a on, below a + n, are let go -/
noncomputable def dropIdsT (a : Nat) (n : Nat) (h : THeap) : THeap := Nat.rec (motive := fun _ => THeap) h (fun j g => g.put (Nat.add a j) none) n
theorem dropIdsT_get (a n : Nat) (h : THeap) (hn : a + n ≤ top) (j : Nat) : (dropIdsT a n h).get j = if a ≤ j ∧ j < a + n then none else h.get j := by
  induction n with
  | zero => rw [if_neg (by omega)]; rfl
  | succ n ih =>
    show ((dropIdsT a n h).put (a + n) none).get j = _
    rw [THeap.get_put _ (by omega), ih (by omega)]
    by_cases e : j = a + n
    · rw [if_pos e, if_pos (by omega)]
    · rw [if_neg e]
      by_cases e2 : a ≤ j ∧ j < a + n
      · rw [if_pos e2, if_pos (by omega)]
      · rw [if_neg e2, if_neg (by omega)]
@[simp] theorem dropIdsT_next (a n : Nat) (h : THeap) : (dropIdsT a n h).next = h.next := by induction n with | zero => rfl | succ n ih => exact ih
@[simp] theorem dropIdsT_lim (a n : Nat) (h : THeap) : (dropIdsT a n h).lim = h.lim := by induction n with | zero => rfl | succ n ih => exact ih
end Go.X

namespace Go.X

/-! ### temporaries -/
structure P2 where
  p : D16
  q : D16
  r : D16
  deriving DecidableEq
noncomputable def p2 (n : Nat) : P2 := ⟨digit n, digit (Nat.shiftRight n 4), digit (Nat.shiftRight n 8)⟩
noncomputable def TT.getP (p : P2) (t : TT) : AV := P2.rec (motive := fun _ => AV) (fun a b c => N16.get a (N16.get b (N16.get c t))) p
noncomputable def TT.setP {β : Type} (p : P2) (v : AV) (t : TT) (k : TT → β) : β := P2.rec (motive := fun _ => β) (fun a b c => N16.set a v (N16.get b (N16.get c t)) fun x => N16.set b x (N16.get c t) fun y => N16.set c y t k) p
noncomputable def TT.at (s : Nat) (t : TT) : AV := TT.getP (p2 s) t
noncomputable def TT.putK {β : Type} (s : Nat) (v : AV) (t : TT) (k : TT → β) : β := TT.setP (p2 s) v t k
noncomputable def TT.put (s : Nat) (v : AV) (t : TT) : TT := TT.putK s v t fun x => x
noncomputable def TT.empty : TT := N16.all (N16.all (N16.all .junk))
theorem TT.putK_eq {β : Type} (s : Nat) (v : AV) (t : TT) (k : TT → β) : TT.putK s v t k = k (TT.put s v t) := by
  simp only [TT.put, TT.putK, TT.setP, p2, N16.set_put]
theorem p2_inj {n m : Nat} (hn : n < 4096) (hm : m < 4096) (h : p2 n = p2 m) : n = m := by
  simp only [p2, P2.mk.injEq, shr_eq] at h
  obtain ⟨h1, h2, h3⟩ := h
  have e1 := congrArg dN h1
  have e2 := congrArg dN h2
  have e3 := congrArg dN h3
  simp only [dN_digit] at e1 e2 e3
  omega
theorem TT.getP_put (p : P2) (s : Nat) (v : AV) (t : TT) : TT.getP p (TT.put s v t) = if p = p2 s then v else TT.getP p t := by
  cases p; rename_i a b c
  simp only [TT.put, TT.putK, TT.setP, TT.getP, p2, N16.set_put, N16.get_put, P2.mk.injEq]
  generalize digit (Nat.shiftRight s 8) = w
  generalize digit (Nat.shiftRight s 4) = x
  generalize digit s = y
  by_cases h0 : c = w <;> by_cases h1 : b = x <;> by_cases h2 : a = y <;> simp [h0, h1, h2, N16.get_put]
theorem TT.at_put {s : Nat} (hs : s < 4096) {r : Nat} (hr : r < 4096) (v : AV) (t : TT) : (TT.put s v t).at r = if r = s then v else t.at r := by
  unfold TT.at
  rw [TT.getP_put]
  by_cases e : r = s
  · subst e; simp
  · rw [if_neg e, if_neg (fun h => e (p2_inj hr hs h))]
theorem TT.ext {t u : TT} (h : ∀ s, s < 4096 → t.at s = u.at s) : t = u := by
  refine N16.ext fun c => N16.ext fun b => N16.ext fun a => ?_
  have := h (dN a + 16 * dN b + 256 * dN c) (by have := dN_lt a; have := dN_lt b; have := dN_lt c; omega)
  unfold TT.at p2 TT.getP at this
  have e1 : digit (dN a + 16 * dN b + 256 * dN c) = a := dN_inj (by rw [dN_digit]; have := dN_lt a; omega)
  have e2 : digit (Nat.shiftRight (dN a + 16 * dN b + 256 * dN c) 4) = b := dN_inj (by rw [dN_digit, shr_eq]; have := dN_lt a; have := dN_lt b; omega)
  have e3 : digit (Nat.shiftRight (dN a + 16 * dN b + 256 * dN c) 8) = c := dN_inj (by rw [dN_digit, shr_eq]; have := dN_lt a; have := dN_lt b; have := dN_lt c; omega)
  rw [e1, e2, e3] at this
  exact this
theorem TT.at_empty (s : Nat) : TT.empty.at s = .junk := by
  simp only [TT.at, TT.getP, TT.empty, p2, N16.get_all]
noncomputable def St.put (d : Option Nat) (v : AV) (st : St) : St := Option.rec (motive := fun _ => St) st (fun s => ⟨TT.put s v st.tmps, st.defers, st.u⟩) d
noncomputable def St.sel (l : List Nat) (st : St) : List AV := List.rec (motive := fun _ => List AV) [] (fun s _ ih => st.tmps.at s :: ih) l
theorem St.sel_congr {l : List Nat} {a b : St} (h : ∀ s ∈ l, a.tmps.at s = b.tmps.at s) : a.sel l = b.sel l := by
  induction l with
  | nil => rfl
  | cons s t ih =>
    show a.tmps.at s :: a.sel t = b.tmps.at s :: b.sel t
    rw [h s (by simp), ih (fun r hr => h r (by simp [hr]))]

/-- an order in which n operations may go -/
structure LinExt (n : Nat) (ord : Nat → Nat → Bool) (l : List Nat) : Prop where
  nodup : l.Nodup
  mem : ∀ i, i ∈ l ↔ i < n
  ord : ∀ a i b, l = a ++ i :: b → ∀ j, j < n → ord j i = true → j ∈ a
end Go.X

namespace Go.X
/-! ### what a program achieves: on every way, whatever is chosen -/
abbrev PostT := Res → THeap → Prop
def loopSatT (bodyS : St → PostT → THeap → Prop) (kS : XExit → St → THeap → Prop) : Nat → St → THeap → Prop
  | 0, _, _ => False
  | n + 1, st, h => bodyS st (fun r h' => match r with
      | .st .normal st' => loopSatT bodyS kS n st' h'
      | .st e st' => kS e st' h'
      | _ => False) h
def THeap.win (h : THeap) (next lim : Nat) : THeap := ⟨h.t, next, lim⟩
@[simp] theorem THeap.win_get (h : THeap) (a b i : Nat) : (h.win a b).get i = h.get i := rfl
@[simp] theorem THeap.win_next (h : THeap) (a b : Nat) : (h.win a b).next = a := rfl
@[simp] theorem THeap.win_lim (h : THeap) (a b : Nat) : (h.win a b).lim = b := rfl
def regSatT (slots : Nat → List Nat) (dst : Nat → Option Nat) (opS : Nat → List AV → PostT → THeap → Prop) (pos : Nat → Nat) (n lim : Nat) (kS : St → THeap → Prop) : List Nat → St → THeap → Prop
  | [], st, h => kS st (h.win (pos n) lim)
  | i :: l, st, h => opS i (st.sel (slots i)) (fun r h' => ∃ v, r = .val v ∧ regSatT slots dst opS pos n lim kS l (st.put (dst i) v) h') (h.win (pos i) (pos (i + 1)))
def FM.satT : FM → PostT → THeap → Prop
  | .ret r, p, h => p r h
  | .fail _, _, _ => False
  | .get i k, p, h => ∃ o, h.get i = some o ∧ (k o).satT p h
  | .set i o m, p, h => i < h.next ∧ m.satT p (h.put i (some o))
  | .new o k, p, h => h.next < h.lim ∧ (k h.next).satT p ⟨(h.put h.next (some o)).t, h.next + 1, h.lim⟩
  | .here k, p, h => (k h.next).satT p h
  | .drop a w m, p, h => a ≤ h.next ∧ h.next ≤ a + w ∧ a + w ≤ h.lim ∧ m.satT p ((dropIdsT a (h.next - a) h).win (a + w) h.lim)
  | .choose n k, p, h => ∀ j, j < n → (k j).satT p h
  | .any k, p, h => ∀ j, (k j).satT p h
  | .join m k, p, h => m.satT (fun r h' => (k r).satT p h') h
  | .loop n body st k, p, h => loopSatT (fun s q g => (body s).satT q g) (fun e s g => (k e s).satT p g) n st h
  | .regn n ord slots dst op st k, p, h => ∃ pos : Nat → Nat, pos 0 = h.next ∧ (∀ i, i < n → pos i ≤ pos (i + 1)) ∧ pos n ≤ h.lim ∧
      ∀ l, LinExt n ord l → regSatT slots dst (fun i vs q g => (op i vs).satT q g) pos n h.lim (fun s g => (k s).satT p g) l st h
theorem loopSatT_mono {bodyS : St → PostT → THeap → Prop} {kS kS' : XExit → St → THeap → Prop}
    (hb : ∀ s (q q' : PostT), (∀ r g, q r g → q' r g) → ∀ g, bodyS s q g → bodyS s q' g) (hk : ∀ e s g, kS e s g → kS' e s g) :
    ∀ n st h, loopSatT bodyS kS n st h → loopSatT bodyS kS' n st h := by
  intro n
  induction n with
  | zero => exact fun _ _ h => h
  | succ n ih =>
    intro st h hh
    refine hb _ _ _ (fun r g hg => ?_) _ hh
    cases r with
    | st e s => cases e <;> first | exact ih _ _ hg | exact hk _ _ _ hg
    | _ => exact hg
theorem regSatT_mono {slots : Nat → List Nat} {dst : Nat → Option Nat} {opS : Nat → List AV → PostT → THeap → Prop} {pos : Nat → Nat} {n lim : Nat} {kS kS' : St → THeap → Prop}
    (hb : ∀ i s (q q' : PostT), (∀ r g, q r g → q' r g) → ∀ g, opS i s q g → opS i s q' g) (hk : ∀ s g, kS s g → kS' s g) :
    ∀ l st h, regSatT slots dst opS pos n lim kS l st h → regSatT slots dst opS pos n lim kS' l st h := by
  intro l
  induction l with
  | nil => exact fun _ _ h => hk _ _ h
  | cons i l ih => exact fun st h hh => hb _ _ _ _ (fun r g ⟨v, e, hg⟩ => ⟨v, e, ih _ _ hg⟩) _ hh
theorem FM.satT_mono {p q : PostT} (h : ∀ r g, p r g → q r g) : ∀ (m : FM) (g : THeap), m.satT p g → m.satT q g := by
  intro m
  induction m generalizing p q with
  | ret r => exact fun g hg => h _ _ hg
  | fail w => exact fun g hg => hg
  | get i k ih => exact fun g ⟨o, h1, h2⟩ => ⟨o, h1, ih o h g h2⟩
  | set i o m ih => exact fun g ⟨h1, h2⟩ => ⟨h1, ih h _ h2⟩
  | new o k ih => exact fun g ⟨h1, h2⟩ => ⟨h1, ih _ h _ h2⟩
  | here k ih => exact fun g hg => ih _ h _ hg
  | drop a w m ih => exact fun g ⟨h1, h2, h3, h4⟩ => ⟨h1, h2, h3, ih h _ h4⟩
  | choose n k ih => exact fun g hg j hj => ih j h g (hg j hj)
  | any k ih => exact fun g hg j => ih j h g (hg j)
  | join m k ihm ihk => exact fun g hg => ihm (fun r g' hk => ihk r h g' hk) g hg
  | loop n body st k ihb ihk => exact fun g hg => loopSatT_mono (fun s q q' hq g => ihb s hq g) (fun e s g => ihk e s h g) n st g hg
  | regn n ord slots dst op st k iho ihk =>
    exact fun g ⟨pos, h1, h2, h3, h4⟩ => ⟨pos, h1, h2, h3, fun l hl => regSatT_mono (fun i s q q' hq g => iho i s hq g) (fun s g => ihk s h g) l st g (h4 l hl)⟩
end Go.X

namespace Go.X

/-! ### heaps: names' objects; names from 'next' on are free, below 'lim', or without end -/
structure Heap where
  t : Nat → Option AObj
  next : Nat
  lim : Nat
  inf : Bool
def Heap.get (h : Heap) (i : Nat) : Option AObj := h.t i
def Heap.put (h : Heap) (i : Nat) (o : Option AObj) : Heap := ⟨fun j => if j = i then o else h.t j, h.next, h.lim, h.inf⟩
theorem Heap.get_put (h : Heap) {i : Nat} {q : Prop} (_ : q) (j : Nat) (o : Option AObj) : (h.put i o).get j = if j = i then o else h.get j := rfl
@[simp] theorem Heap.next_put (h : Heap) (i : Nat) (o : Option AObj) : (h.put i o).next = h.next := rfl
@[simp] theorem Heap.lim_put (h : Heap) (i : Nat) (o : Option AObj) : (h.put i o).lim = h.lim := rfl
@[simp] theorem Heap.inf_put (h : Heap) (i : Nat) (o : Option AObj) : (h.put i o).inf = h.inf := rfl
theorem Heap.ext {h g : Heap} (ht : ∀ i, h.get i = g.get i) (hn : h.next = g.next) (hl : h.lim = g.lim) (hi : h.inf = g.inf) : h = g := by
  cases h; cases g
  simp only at hn hl hi
  subst hn; subst hl; subst hi
  congr
  exact funext ht
/-- a name that may be given -/
def Heap.fr (h : Heap) (i : Nat) : Prop := h.inf = true ∨ i < h.lim
@[simp] theorem Heap.fr_put (h : Heap) (i : Nat) (o : Option AObj) (j : Nat) : (h.put i o).fr j ↔ h.fr j := Iff.rfl
def Heap.newO (h : Heap) (o : AObj) : Heap := ⟨(h.put h.next (some o)).t, h.next + 1, h.lim, h.inf⟩
@[simp] theorem Heap.newO_next (h : Heap) (o : AObj) : (h.newO o).next = h.next + 1 := rfl
@[simp] theorem Heap.newO_lim (h : Heap) (o : AObj) : (h.newO o).lim = h.lim := rfl
@[simp] theorem Heap.newO_inf (h : Heap) (o : AObj) : (h.newO o).inf = h.inf := rfl
@[simp] theorem Heap.newO_fr (h : Heap) (o : AObj) (j : Nat) : (h.newO o).fr j ↔ h.fr j := Iff.rfl
theorem Heap.newO_get (h : Heap) {q : Prop} (_ : q) (o : AObj) (j : Nat) : (h.newO o).get j = if j = h.next then some o else h.get j := rfl
def Heap.win (h : Heap) (next lim : Nat) : Heap := ⟨h.t, next, lim, false⟩
@[simp] theorem Heap.win_get (h : Heap) (a b i : Nat) : (h.win a b).get i = h.get i := rfl
@[simp] theorem Heap.win_next (h : Heap) (a b : Nat) : (h.win a b).next = a := rfl
@[simp] theorem Heap.win_lim (h : Heap) (a b : Nat) : (h.win a b).lim = b := rfl
@[simp] theorem Heap.win_inf (h : Heap) (a b : Nat) : (h.win a b).inf = false := rfl
/-- names from a on, below a + n, are let go -/
def dropIds (a : Nat) (n : Nat) (h : Heap) : Heap := ⟨fun j => if a ≤ j ∧ j < a + n then none else h.t j, h.next, h.lim, h.inf⟩
theorem dropIds_get (a n : Nat) (h : Heap) {q : Prop} (_ : q) (j : Nat) : (dropIds a n h).get j = if a ≤ j ∧ j < a + n then none else h.get j := rfl

/-! ### what a program achieves: on every way, whatever is chosen -/
abbrev Post := Res → Heap → Prop
def loopSat (bodyS : St → Post → Heap → Prop) (kS : XExit → St → Heap → Prop) : Nat → St → Heap → Prop
  | 0, _, _ => False
  | n + 1, st, h => bodyS st (fun r h' => match r with
      | .st .normal st' => loopSat bodyS kS n st' h'
      | .st e st' => kS e st' h'
      | _ => False) h
def regSat (slots : Nat → List Nat) (dst : Nat → Option Nat) (opS : Nat → List AV → Post → Heap → Prop) (pos : Nat → Nat) (n lim : Nat) (kS : St → Heap → Prop) : List Nat → St → Heap → Prop
  | [], st, h => kS st (h.win (pos n) lim)
  | i :: l, st, h => opS i (st.sel (slots i)) (fun r h' => ∃ v, r = .val v ∧ regSat slots dst opS pos n lim kS l (st.put (dst i) v) h') (h.win (pos i) (pos (i + 1)))
/-- operations one behind the other, names given as they come -/
def regSatN (slots : Nat → List Nat) (dst : Nat → Option Nat) (opS : Nat → List AV → Post → Heap → Prop) (kS : St → Heap → Prop) : List Nat → St → Heap → Prop
  | [], st, h => kS st h
  | i :: l, st, h => opS i (st.sel (slots i)) (fun r h' => ∃ v, r = .val v ∧ regSatN slots dst opS kS l (st.put (dst i) v) h') h
def FM.sat : FM → Post → Heap → Prop
  | .ret r, p, h => p r h
  | .fail _, _, _ => False
  | .get i k, p, h => ∃ o, h.get i = some o ∧ (k o).sat p h
  | .set i o m, p, h => i < h.next ∧ m.sat p (h.put i (some o))
  | .new o k, p, h => h.fr h.next ∧ (k h.next).sat p (h.newO o)
  | .here k, p, h => (k h.next).sat p h
  | .drop a w m, p, h => h.inf = false ∧ a ≤ h.next ∧ h.next ≤ a + w ∧ a + w ≤ h.lim ∧ m.sat p ((dropIds a (h.next - a) h).win (a + w) h.lim)
  | .choose n k, p, h => ∀ j, j < n → (k j).sat p h
  | .any k, p, h => ∀ j, (k j).sat p h
  | .join m k, p, h => m.sat (fun r h' => (k r).sat p h') h
  | .loop n body st k, p, h => loopSat (fun s q g => (body s).sat q g) (fun e s g => (k e s).sat p g) n st h
  | .regn n ord slots dst op st k, p, h =>
    (h.inf = false ∧ ∃ pos : Nat → Nat, pos 0 = h.next ∧ (∀ i, i < n → pos i ≤ pos (i + 1)) ∧ pos n ≤ h.lim ∧
      ∀ l, LinExt n ord l → regSat slots dst (fun i vs q g => (op i vs).sat q g) pos n h.lim (fun s g => (k s).sat p g) l st h) ∨
    (h.inf = true ∧ ∀ l, LinExt n ord l → regSatN slots dst (fun i vs q g => (op i vs).sat q g) (fun s g => (k s).sat p g) l st h)
theorem loopSat_mono {bodyS : St → Post → Heap → Prop} {kS kS' : XExit → St → Heap → Prop}
    (hb : ∀ s (q q' : Post), (∀ r g, q r g → q' r g) → ∀ g, bodyS s q g → bodyS s q' g) (hk : ∀ e s g, kS e s g → kS' e s g) :
    ∀ n st h, loopSat bodyS kS n st h → loopSat bodyS kS' n st h := by
  intro n
  induction n with
  | zero => exact fun _ _ h => h
  | succ n ih =>
    intro st h hh
    refine hb _ _ _ (fun r g hg => ?_) _ hh
    cases r with
    | st e s => cases e <;> first | exact ih _ _ hg | exact hk _ _ _ hg
    | _ => exact hg
theorem regSat_mono {slots : Nat → List Nat} {dst : Nat → Option Nat} {opS : Nat → List AV → Post → Heap → Prop} {pos : Nat → Nat} {n lim : Nat} {kS kS' : St → Heap → Prop}
    (hb : ∀ i s (q q' : Post), (∀ r g, q r g → q' r g) → ∀ g, opS i s q g → opS i s q' g) (hk : ∀ s g, kS s g → kS' s g) :
    ∀ l st h, regSat slots dst opS pos n lim kS l st h → regSat slots dst opS pos n lim kS' l st h := by
  intro l
  induction l with
  | nil => exact fun _ _ h => hk _ _ h
  | cons i l ih => exact fun st h hh => hb _ _ _ _ (fun r g ⟨v, e, hg⟩ => ⟨v, e, ih _ _ hg⟩) _ hh
theorem regSatN_mono {slots : Nat → List Nat} {dst : Nat → Option Nat} {opS : Nat → List AV → Post → Heap → Prop} {kS kS' : St → Heap → Prop}
    (hb : ∀ i s (q q' : Post), (∀ r g, q r g → q' r g) → ∀ g, opS i s q g → opS i s q' g) (hk : ∀ s g, kS s g → kS' s g) :
    ∀ l st h, regSatN slots dst opS kS l st h → regSatN slots dst opS kS' l st h := by
  intro l
  induction l with
  | nil => exact fun _ _ h => hk _ _ h
  | cons i l ih => exact fun st h hh => hb _ _ _ _ (fun r g ⟨v, e, hg⟩ => ⟨v, e, ih _ _ hg⟩) _ hh
theorem FM.sat_mono {p q : Post} (h : ∀ r g, p r g → q r g) : ∀ (m : FM) (g : Heap), m.sat p g → m.sat q g := by
  intro m
  induction m generalizing p q with
  | ret r => exact fun g hg => h _ _ hg
  | fail w => exact fun g hg => hg
  | get i k ih => exact fun g ⟨o, h1, h2⟩ => ⟨o, h1, ih o h g h2⟩
  | set i o m ih => exact fun g ⟨h1, h2⟩ => ⟨h1, ih h _ h2⟩
  | new o k ih => exact fun g ⟨h1, h2⟩ => ⟨h1, ih _ h _ h2⟩
  | here k ih => exact fun g hg => ih _ h _ hg
  | drop a w m ih => exact fun g ⟨h0, h1, h2, h3, h4⟩ => ⟨h0, h1, h2, h3, ih h _ h4⟩
  | choose n k ih => exact fun g hg j hj => ih j h g (hg j hj)
  | any k ih => exact fun g hg j => ih j h g (hg j)
  | join m k ihm ihk => exact fun g hg => ihm (fun r g' hk => ihk r h g' hk) g hg
  | loop n body st k ihb ihk => exact fun g hg => loopSat_mono (fun s q q' hq g => ihb s hq g) (fun e s g => ihk e s h g) n st g hg
  | regn n ord slots dst op st k iho ihk =>
    intro g hg
    rcases hg with ⟨h0, pos, h1, h2, h3, h4⟩ | ⟨h0, h4⟩
    · exact .inl ⟨h0, pos, h1, h2, h3, fun l hl => regSat_mono (fun i s q q' hq g => iho i s hq g) (fun s g => ihk s h g) l st g (h4 l hl)⟩
    · exact .inr ⟨h0, fun l hl => regSatN_mono (fun i s q q' hq g => iho i s hq g) (fun s g => ihk s h g) l st g (h4 l hl)⟩
end Go.X

namespace Go.X

/-! ### a run of one way, with a log of what it touches below b -/
structure Log where
  rd : List Nat
  wr : List Nat
noncomputable def Log.nil : Log := ⟨[], []⟩
noncomputable def memN (i : Nat) (l : List Nat) : Bool := List.rec (motive := fun _ => Bool) false (fun j _ ih => cnd (Nat.beq i j) true ih) l
noncomputable def logRd {β : Type} (b i : Nat) (g : Log) (k : Log → β) : β :=
  Log.rec (motive := fun _ => β) (fun r w => cnd (ltb i b) (cnd (memN i r) (k ⟨r, w⟩) (k ⟨i :: r, w⟩)) (k ⟨r, w⟩)) g
noncomputable def logWr {β : Type} (b i : Nat) (g : Log) (k : Log → β) : β :=
  Log.rec (motive := fun _ => β) (fun r w => cnd (ltb i b) (cnd (memN i w) (k ⟨r, w⟩) (k ⟨r, i :: w⟩)) (k ⟨r, w⟩)) g
noncomputable def logRds {β : Type} (b : Nat) (l : List Nat) : Log → (Log → β) → β :=
  List.rec (motive := fun _ => Log → (Log → β) → β) (fun g k => k g) (fun i _ ih g k => logRd b i g fun g' => ih g' k) l
noncomputable def logWrs {β : Type} (b : Nat) (l : List Nat) : Log → (Log → β) → β :=
  List.rec (motive := fun _ => Log → (Log → β) → β) (fun g k => k g) (fun i _ ih g k => logWr b i g fun g' => ih g' k) l

inductive OutS where
  | err (n : Nat)
  | ok (r : Res) (h : THeap) (g : Log)

/-- an operation of a region that has been done -/
structure RE where
  i : Nat
  lo : Nat
  hi : Nat
  g : Log
inductive OutR where
  | err (n : Nat)
  | ok (st : St) (h : THeap) (l : List RE)

noncomputable def allL {α : Type} (f : α → Bool) (l : List α) : Bool := List.rec (motive := fun _ => Bool) true (fun x _ ih => cnd (f x) ih false) l
noncomputable def notB (b : Bool) : Bool := cnd b false true
/-- no number of l lies from lo on, below hi -/
noncomputable def noWin (lo hi : Nat) (l : List Nat) : Bool := allL (fun i => notB (cnd (Nat.ble lo i) (ltb i hi) false)) l
noncomputable def disj (a l : List Nat) : Bool := allL (fun i => notB (memN i a)) l
noncomputable def noConf1 (x : RE) (g : Log) : Bool :=
  cnd (cnd (noWin x.lo x.hi g.rd) (noWin x.lo x.hi g.wr) false) (cnd (disj x.g.wr g.rd) (cnd (disj x.g.wr g.wr) (disj x.g.rd g.wr) false) false) false
noncomputable def noConf (ord : Nat → Nat → Bool) (i : Nat) (g : Log) (l : List RE) : Bool :=
  Log.rec (motive := fun _ => Bool) (fun r w => List.rec (motive := fun _ => Bool) (List.rec (motive := fun _ => Bool) true (fun _ _ _ => allL (fun x => cnd (ord x.i i) true (noConf1 x ⟨r, w⟩)) l) w)
    (fun _ _ _ => allL (fun x => cnd (ord x.i i) true (noConf1 x ⟨r, w⟩)) l) r) g

noncomputable def regRun (opR : Nat → List AV → Nat → THeap → Log → OutS) (ord : Nat → Nat → Bool) (slots : Nat → List Nat) (dst : Nat → Option Nat) (l : List Nat) : St → THeap → List RE → OutR :=
  List.rec (motive := fun _ => St → THeap → List RE → OutR) (fun st h acc => .ok st h acc)
    (fun i _ ih st h acc => OutS.rec (motive := fun _ => OutR) (fun n => .err n)
      (fun r h' g => Res.rec (motive := fun _ => OutR) (fun v => cnd (noConf ord i g acc) (ih (st.put (dst i) v) h' (⟨i, h.next, h'.next, g⟩ :: acc)) (.err 2000)) (fun _ _ => .err 2001) (fun _ _ => .err 2001) (fun _ _ => .err 2001) r)
      (opR i (st.sel (slots i)) h.next h Log.nil)) l
noncomputable def logREs {β : Type} (b : Nat) (l : List RE) : Log → (Log → β) → β :=
  List.rec (motive := fun _ => Log → (Log → β) → β) (fun g k => k g) (fun x _ ih g k => logRds b x.g.rd g fun g1 => logWrs b x.g.wr g1 fun g2 => ih g2 k) l
noncomputable def rangeL (n : Nat) : List Nat := List.range n
/-- what of a region is looked at ahead: operations write different slots, and go behind those whose slots they read; orders are the text's -/
noncomputable def regOk (n : Nat) (ord : Nat → Nat → Bool) (slots : Nat → List Nat) (dst : Nat → Option Nat) : Bool :=
  allL (fun i => cnd (allL (fun s => ltb s 4096) (slots i)) (allL (fun j =>
      cnd (cnd (ord j i) (ltb j i) true)
        (Option.rec (motive := fun _ => Bool) true (fun s => cnd (ltb s 4096) (cnd (cnd (memN s (slots i)) (cnd (ord j i) true (ord i j)) true)
          (cnd (Nat.beq i j) true (Option.rec (motive := fun _ => Bool) true (fun s' => notB (Nat.beq s s')) (dst i))) false) false) (dst j)) false) (rangeL n)) false) (rangeL n)

/-! ### a run of all ways -/
inductive Out where
  | err (n : Nat)
  | ok (l : List (Res × THeap)) (g : Log)

noncomputable def runAll (f : Res → THeap → Log → Out) (l : List (Res × THeap)) : Log → Out :=
  List.rec (motive := fun _ => Log → Out) (fun g => .ok [] g)
    (fun x _ ih g => Out.rec (motive := fun _ => Out) (fun n => .err n) (fun l1 g1 => Out.rec (motive := fun _ => Out) (fun n => .err n) (fun l2 g2 => .ok (l1 ++ l2) g2) (ih g1)) (f x.1 x.2 g)) l
noncomputable def eqAt (a c : THeap) (l : List Nat) : Bool := allL (fun i => eqOObj (a.get i) (c.get i)) l
noncomputable def eqFrom (a c : THeap) (lo n : Nat) : Bool := Nat.rec (motive := fun _ => Bool) true (fun j ih => cnd ih (eqOObj (a.get (Nat.add lo j)) (c.get (Nat.add lo j))) false) n
noncomputable def sameOut (ws : List Nat) (lo : Nat) (x y : Res × THeap) : Bool :=
  cnd (eqRes x.1 y.1) (cnd (Nat.beq x.2.next y.2.next) (cnd (eqAt x.2 y.2 ws) (eqFrom x.2 y.2 lo (Nat.sub x.2.next lo)) false) false) false
noncomputable def anyL {α : Type} (f : α → Bool) (l : List α) : Bool := List.rec (motive := fun _ => Bool) false (fun x _ ih => cnd (f x) true ih) l
noncomputable def dedupe (ws : List Nat) (lo : Nat) (l : List (Res × THeap)) : List (Res × THeap) :=
  List.rec (motive := fun _ => List (Res × THeap)) [] (fun x _ ih => cnd (anyL (fun y => sameOut ws lo x y) ih) ih (x :: ih)) l
noncomputable def isNorm (r : Res) : Bool := Res.rec (motive := fun _ => Bool) (fun _ => false) (fun e _ => XExit.rec (motive := fun _ => Bool) true (fun _ => false) (fun _ => false) false (fun _ => false) e) (fun _ _ => false) (fun _ _ => false) r
noncomputable def filL (f : Res → Bool) (l : List (Res × THeap)) : List (Res × THeap) := List.rec (motive := fun _ => List (Res × THeap)) [] (fun x _ ih => cnd (f x.1) (x :: ih) ih) l
noncomputable def isNilL {α : Type} (l : List α) : Bool := List.rec (motive := fun _ => Bool) true (fun _ _ _ => false) l
noncomputable def stK (r : Res) (k : XExit → St → Out) : Out := Res.rec (motive := fun _ => Out) (fun _ => .err 1010) k (fun _ _ => .err 1010) (fun _ _ => .err 1010) r

noncomputable def loopRun (body : St → THeap → Log → Out) (lo : Nat) (fin : List (Res × THeap) → Log → Out) (n : Nat) : List (Res × THeap) → List (Res × THeap) → Log → Out :=
  Nat.rec (motive := fun _ => List (Res × THeap) → List (Res × THeap) → Log → Out) (fun f acc gl => cnd (isNilL f) (fin acc gl) (.err 1011))
    (fun _ ih f acc gl => cnd (isNilL f) (fin acc gl)
      (Out.rec (motive := fun _ => Out) (fun n => .err n) (fun l gl' => ih (dedupe gl'.wr lo (filL isNorm l)) (dedupe gl'.wr lo (filL (fun r => notB (isNorm r)) l ++ acc)) gl')
        (runAll (fun r h g => stK r fun _ st => body st h g) f gl))) n
noncomputable def dropK {β : Type} (a n : Nat) (t : Tr) (k : Tr → β) : β :=
  Nat.rec (motive := fun _ => (Tr → β) → β) (fun k => k t) (fun j ih k => ih fun t' => Tr.setP (p4 (Nat.add a j)) none t' k) n k

/-- the only outcome -/
noncomputable def one (o : Out) : OutS := Out.rec (motive := fun _ => OutS) (fun w => .err w) (fun l g => List.rec (motive := fun _ => OutS) (.err 1013) (fun x t _ => List.rec (motive := fun _ => OutS) (.ok x.1 x.2 g) (fun _ _ _ => .err 1013) t) l) o
/-- choose's ways, one behind the other -/
noncomputable def chooseRun (f : Nat → Log → Out) (g : Log) (n : Nat) : Out :=
  Nat.rec (motive := fun _ => Out) (.ok [] g) (fun j acc => Out.rec (motive := fun _ => Out) (fun w => .err w) (fun l g1 => Out.rec (motive := fun _ => Out) (fun w => .err w) (fun l' g2 => .ok (l ++ l') g2) (f j g1)) acc) n
noncomputable def FM.run (m : FM) : Nat → THeap → Log → Out :=
  FM.rec (motive := fun _ => Nat → THeap → Log → Out)
    (fun r _ h g => .ok [(r, h)] g)
    (fun w _ _ _ => .err w)
    (fun i _ ih b h g => cnd (ltb i h.next) (Option.rec (motive := fun _ => Out) (.err 1000) (fun o => logRd b i g fun g' => ih o b h g') (h.get i)) (.err 1000))
    (fun i o _ ih b h g => cnd (ltb i h.next) (Tr.setP (p4 i) (some o) h.t fun t' => logWr b i g fun g' => ih b ⟨t', h.next, h.lim⟩ g') (.err 1001))
    (fun o _ ih b h g => cnd (ltb h.next h.lim) (Tr.setP (p4 h.next) (some o) h.t fun t' => forceNat (Nat.succ h.next) fun n => ih h.next b ⟨t', n, h.lim⟩ g) (.err 1002))
    (fun _ ih b h g => ih h.next b h g)
    (fun a w _ ih b h g => cnd (cnd (cnd (Nat.ble b a) (Nat.ble a h.next) false) (cnd (Nat.ble h.next (Nat.add a w)) (Nat.ble (Nat.add a w) h.lim) false) false)
      (dropK a (Nat.sub h.next a) h.t fun t' => forceNat (Nat.add a w) fun n => ih b ⟨t', n, h.lim⟩ g) (.err 1012))
    (fun n _ ih b h g => cnd (Nat.beq n Nat.zero) (.err 1014) (chooseRun (fun j g => ih j b h g) g n))
    (fun _ _ _ _ _ => .err 1020)
    (fun _ _ ihm ihk b h g => Out.rec (motive := fun _ => Out) (fun w => .err w) (fun l g1 => logRds b g1.rd g fun g0 => logWrs b g1.wr g0 fun g' => runAll (fun r h' g => ihk r b h' g) (dedupe g1.wr h.next l) g') (ihm h.next h Log.nil))
    (fun n _ st _ ihb ihk b h g => loopRun (fun s h' g => ihb s h.next h' g) h.next (fun acc gl => logRds b gl.rd g fun g0 => logWrs b gl.wr g0 fun g' => runAll (fun r h' g => stK r fun e s => ihk e s b h' g) acc g') n [(.st .normal st, h)] [] Log.nil)
    (fun n ord slots dst op st _ iho ihk b h g =>
      cnd (regOk n ord slots dst) (OutR.rec (motive := fun _ => Out) (fun w => .err w) (fun st' h' l => logREs b l g fun g' => ihk st' b h' g') (regRun (fun i vs b h g => one (iho i vs b h g)) ord slots dst (rangeL n) st h [])) (.err 1008))
    m

/-! #### lemmas on logs -/
structure Log.Sub (g g' : Log) : Prop where
  rd : ∀ i, i ∈ g.rd → i ∈ g'.rd
  wr : ∀ i, i ∈ g.wr → i ∈ g'.wr
theorem Log.Sub.refl (g : Log) : g.Sub g := ⟨fun _ h => h, fun _ h => h⟩
theorem Log.Sub.trans {a b c : Log} (h : a.Sub b) (k : b.Sub c) : a.Sub c := ⟨fun i hi => k.rd i (h.rd i hi), fun i hi => k.wr i (h.wr i hi)⟩
theorem memN_iff {i : Nat} {l : List Nat} : memN i l = true ↔ i ∈ l := by
  induction l with
  | nil => exact ⟨fun h => ff h, fun h => by cases h⟩
  | cons j t ih =>
    show cnd (Nat.beq i j) true (memN i t) = true ↔ _
    cases hb : Nat.beq i j
    · rw [cnd_false, ih]
      have : i ≠ j := fun e => by subst e; simp at hb
      simp [this]
    · rw [cnd_true]; have := natbeq hb; simp [this]
noncomputable def Log.addR (b i : Nat) (g : Log) : Log := logRd b i g fun x => x
noncomputable def Log.addW (b i : Nat) (g : Log) : Log := logWr b i g fun x => x
noncomputable def Log.addE (b : Nat) (l : List RE) (g : Log) : Log := logREs b l g fun x => x
theorem logRd_eq {β : Type} (b i : Nat) (g : Log) (k : Log → β) : logRd b i g k = k (g.addR b i) := by
  cases g; unfold Log.addR logRd
  cases hb : ltb i b
  · simp only [cnd_false]
  · rename_i r w; cases hm : memN i r <;> simp only [cnd_true, cnd_false, hm]
theorem logWr_eq {β : Type} (b i : Nat) (g : Log) (k : Log → β) : logWr b i g k = k (g.addW b i) := by
  cases g; unfold Log.addW logWr
  cases hb : ltb i b
  · simp only [cnd_false]
  · rename_i r w; cases hm : memN i w <;> simp only [cnd_true, cnd_false, hm]
theorem logRds_eq {β : Type} (b : Nat) : ∀ (l : List Nat) (g : Log) (k : Log → β), logRds b l g k = k (logRds b l g fun x => x)
  | [], _, _ => rfl
  | i :: l, g, k => by
    show logRd b i g (fun g' => logRds b l g' k) = k (logRd b i g fun g' => logRds b l g' fun x => x)
    rw [logRd_eq, logRd_eq]; exact logRds_eq b l _ k
theorem logWrs_eq {β : Type} (b : Nat) : ∀ (l : List Nat) (g : Log) (k : Log → β), logWrs b l g k = k (logWrs b l g fun x => x)
  | [], _, _ => rfl
  | i :: l, g, k => by
    show logWr b i g (fun g' => logWrs b l g' k) = k (logWr b i g fun g' => logWrs b l g' fun x => x)
    rw [logWr_eq, logWr_eq]; exact logWrs_eq b l _ k
theorem logREs_eq {β : Type} (b : Nat) : ∀ (l : List RE) (g : Log) (k : Log → β), logREs b l g k = k (g.addE b l)
  | [], _, _ => rfl
  | x :: l, g, k => by
    show logRds b x.g.rd g (fun g1 => logWrs b x.g.wr g1 fun g2 => logREs b l g2 k) = k (logRds b x.g.rd g fun g1 => logWrs b x.g.wr g1 fun g2 => logREs b l g2 fun x => x)
    rw [logRds_eq, logRds_eq b x.g.rd g (fun g1 => logWrs b x.g.wr g1 fun g2 => logREs b l g2 fun x => x), logWrs_eq, logWrs_eq b x.g.wr _ (fun g2 => logREs b l g2 fun x => x)]
    exact logREs_eq b l _ k
/-- a log that is asked to bear i, if i lies below b -/
theorem logRd_spec {β : Type} (b i : Nat) (g : Log) (k : Log → β) : ∃ g', logRd b i g k = k g' ∧ g.Sub g' ∧ (i < b → i ∈ g'.rd) ∧ (∀ j, j ∈ g'.rd → j ∈ g.rd ∨ (j = i ∧ i < b)) ∧ g'.wr = g.wr := by
  cases g; rename_i r w
  unfold logRd
  cases hb : ltb i b
  · exact ⟨⟨r, w⟩, rfl, .refl _, fun h => absurd h (Nat.not_lt.2 (ltb_false.1 hb)), fun j hj => .inl hj, rfl⟩
  · cases hm : memN i r
    · refine ⟨⟨i :: r, w⟩, ?_, ⟨fun j hj => List.mem_cons_of_mem _ hj, fun _ h => h⟩, fun _ => List.mem_cons_self, fun j hj => ?_, rfl⟩
      · simp only [cnd_true, hm, cnd_false]
      · rcases List.mem_cons.1 hj with h | h
        · exact .inr ⟨h, ltb_iff.1 hb⟩
        · exact .inl h
    · refine ⟨⟨r, w⟩, ?_, .refl _, fun _ => memN_iff.1 hm, fun j hj => .inl hj, rfl⟩
      simp only [cnd_true, hm]
theorem logWr_spec {β : Type} (b i : Nat) (g : Log) (k : Log → β) : ∃ g', logWr b i g k = k g' ∧ g.Sub g' ∧ (i < b → i ∈ g'.wr) ∧ (∀ j, j ∈ g'.wr → j ∈ g.wr ∨ (j = i ∧ i < b)) ∧ g'.rd = g.rd := by
  cases g; rename_i r w
  unfold logWr
  cases hb : ltb i b
  · exact ⟨⟨r, w⟩, rfl, .refl _, fun h => absurd h (Nat.not_lt.2 (ltb_false.1 hb)), fun j hj => .inl hj, rfl⟩
  · cases hm : memN i w
    · refine ⟨⟨r, i :: w⟩, ?_, ⟨fun _ h => h, fun j hj => List.mem_cons_of_mem _ hj⟩, fun _ => List.mem_cons_self, fun j hj => ?_, rfl⟩
      · simp only [cnd_true, hm, cnd_false]
      · rcases List.mem_cons.1 hj with h | h
        · exact .inr ⟨h, ltb_iff.1 hb⟩
        · exact .inl h
    · refine ⟨⟨r, w⟩, ?_, .refl _, fun _ => memN_iff.1 hm, fun j hj => .inl hj, rfl⟩
      simp only [cnd_true, hm]
theorem logRds_spec {β : Type} (b : Nat) : ∀ (l : List Nat) (g : Log) (k : Log → β), ∃ g', logRds b l g k = k g' ∧ g.Sub g' ∧ (∀ i, i ∈ l → i < b → i ∈ g'.rd) ∧ (∀ j, j ∈ g'.rd → j ∈ g.rd ∨ (j ∈ l ∧ j < b)) ∧ g'.wr = g.wr
  | [], g, k => ⟨g, rfl, .refl _, fun _ h _ => absurd h List.not_mem_nil, fun _ h => .inl h, rfl⟩
  | i :: l, g, k => by
    obtain ⟨g1, e1, s1, m1, n1, w1⟩ := logRd_spec b i g fun g' => logRds b l g' k
    obtain ⟨g2, e2, s2, m2, n2, w2⟩ := logRds_spec b l g1 k
    refine ⟨g2, e1.trans e2, s1.trans s2, fun j hj hb => ?_, fun j hj => ?_, w2.trans w1⟩
    · rcases List.mem_cons.1 hj with h | h
      · subst h; exact s2.rd _ (m1 hb)
      · exact m2 j h hb
    · rcases n2 j hj with h | ⟨h, hb⟩
      · rcases n1 j h with h | ⟨h, hb⟩
        · exact .inl h
        · subst h; exact .inr ⟨List.mem_cons_self, hb⟩
      · exact .inr ⟨List.mem_cons_of_mem _ h, hb⟩
theorem logWrs_spec {β : Type} (b : Nat) : ∀ (l : List Nat) (g : Log) (k : Log → β), ∃ g', logWrs b l g k = k g' ∧ g.Sub g' ∧ (∀ i, i ∈ l → i < b → i ∈ g'.wr) ∧ (∀ j, j ∈ g'.wr → j ∈ g.wr ∨ (j ∈ l ∧ j < b)) ∧ g'.rd = g.rd
  | [], g, k => ⟨g, rfl, .refl _, fun _ h _ => absurd h List.not_mem_nil, fun _ h => .inl h, rfl⟩
  | i :: l, g, k => by
    obtain ⟨g1, e1, s1, m1, n1, w1⟩ := logWr_spec b i g fun g' => logWrs b l g' k
    obtain ⟨g2, e2, s2, m2, n2, w2⟩ := logWrs_spec b l g1 k
    refine ⟨g2, e1.trans e2, s1.trans s2, fun j hj hb => ?_, fun j hj => ?_, w2.trans w1⟩
    · rcases List.mem_cons.1 hj with h | h
      · subst h; exact s2.wr _ (m1 hb)
      · exact m2 j h hb
    · rcases n2 j hj with h | ⟨h, hb⟩
      · rcases n1 j h with h | ⟨h, hb⟩
        · exact .inl h
        · subst h; exact .inr ⟨List.mem_cons_self, hb⟩
      · exact .inr ⟨List.mem_cons_of_mem _ h, hb⟩
theorem logREs_spec {β : Type} (b : Nat) : ∀ (l : List RE) (g : Log) (k : Log → β), ∃ g', logREs b l g k = k g' ∧ g.Sub g' ∧
    (∀ x, x ∈ l → ∀ i, i < b → (i ∈ x.g.rd → i ∈ g'.rd) ∧ (i ∈ x.g.wr → i ∈ g'.wr)) ∧ (∀ j, (j ∈ g'.rd → j ∈ g.rd ∨ j < b) ∧ (j ∈ g'.wr → j ∈ g.wr ∨ j < b))
  | [], g, k => ⟨g, rfl, .refl _, fun _ h => absurd h List.not_mem_nil, fun _ => ⟨fun h => .inl h, fun h => .inl h⟩⟩
  | x :: l, g, k => by
    obtain ⟨g1, e1, s1, m1, n1, w1⟩ := logRds_spec b x.g.rd g fun g1 => logWrs b x.g.wr g1 fun g2 => logREs b l g2 k
    obtain ⟨g2, e2, s2, m2, n2, w2⟩ := logWrs_spec b x.g.wr g1 fun g2 => logREs b l g2 k
    obtain ⟨g3, e3, s3, m3, n3⟩ := logREs_spec b l g2 k
    refine ⟨g3, e1.trans (e2.trans e3), (s1.trans s2).trans s3, fun y hy i hb => ?_, fun j => ⟨fun hj => ?_, fun hj => ?_⟩⟩
    · rcases List.mem_cons.1 hy with h | h
      · subst h; exact ⟨fun hi => s3.rd _ (s2.rd _ (m1 i hi hb)), fun hi => s3.wr _ (m2 i hi hb)⟩
      · exact m3 y h i hb
    · rcases (n3 j).1 hj with h | h
      · rw [w2] at h; rcases n1 j h with h | ⟨_, h⟩
        · exact .inl h
        · exact .inr h
      · exact .inr h
    · rcases (n3 j).2 hj with h | h
      · rcases n2 j h with h | ⟨_, h⟩
        · rw [w1] at h; exact .inl h
        · exact .inr h
      · exact .inr h

structure Log.Adds (b : Nat) (g g' : Log) : Prop extends Log.Sub g g' where
  lo : ∀ j, (j ∈ g'.rd → j ∈ g.rd ∨ j < b) ∧ (j ∈ g'.wr → j ∈ g.wr ∨ j < b)
theorem Log.Adds.refl (b : Nat) (g : Log) : Log.Adds b g g := ⟨.refl g, fun _ => ⟨.inl, .inl⟩⟩
theorem Log.Adds.trans {b : Nat} {x y z : Log} (h : Log.Adds b x y) (k : Log.Adds b y z) : Log.Adds b x z :=
  ⟨h.toSub.trans k.toSub, fun j => ⟨fun hj => ((k.lo j).1 hj).elim (h.lo j).1 .inr, fun hj => ((k.lo j).2 hj).elim (h.lo j).2 .inr⟩⟩
theorem Log.addR_adds (b i : Nat) (g : Log) : Log.Adds b g (g.addR b i) ∧ (i < b → i ∈ (g.addR b i).rd) ∧ (g.addR b i).wr = g.wr := by
  obtain ⟨g', e, s, m, n, w⟩ := logRd_spec b i g fun x => x
  have e' : g.addR b i = g' := e
  rw [e']
  exact ⟨⟨s, fun j => ⟨fun hj => (n j hj).imp id (fun ⟨a, c⟩ => by omega), fun hj => .inl (w ▸ hj)⟩⟩, m, w⟩
theorem Log.addW_adds (b i : Nat) (g : Log) : Log.Adds b g (g.addW b i) ∧ (i < b → i ∈ (g.addW b i).wr) ∧ (∀ j, j ∈ (g.addW b i).wr → j ∈ g.wr ∨ j = i) := by
  obtain ⟨g', e, s, m, n, w⟩ := logWr_spec b i g fun x => x
  have e' : g.addW b i = g' := e
  rw [e']
  exact ⟨⟨s, fun j => ⟨fun hj => .inl (w ▸ hj), fun hj => (n j hj).imp id (fun ⟨a, c⟩ => by omega)⟩⟩, m, fun j hj => (n j hj).imp id (·.1)⟩
theorem Log.addE_adds (b : Nat) (l : List RE) (g : Log) : Log.Adds b g (g.addE b l) ∧ (∀ x, x ∈ l → ∀ i, i < b → (i ∈ x.g.rd → i ∈ (g.addE b l).rd) ∧ (i ∈ x.g.wr → i ∈ (g.addE b l).wr)) := by
  obtain ⟨g', e, s, m, n⟩ := logREs_spec b l g fun x => x
  have e' : g.addE b l = g' := e
  rw [e']
  exact ⟨⟨s, n⟩, m⟩
end Go.X

namespace Go.X

structure THeap.WF (h : THeap) : Prop where
  lim : h.next ≤ h.lim
  top : h.lim ≤ top
  none : ∀ i, h.next ≤ i → i < h.lim → h.get i = none
theorem THeap.WF.put {h : THeap} (w : h.WF) {i : Nat} (hi : i < h.next) (o : AObj) : (h.put i (some o)).WF :=
  ⟨w.lim, w.top, fun j hj hl => by
    rw [THeap.get_put _ (by have := w.lim; have := w.top; omega), if_neg (by simp at hj; omega)]
    exact w.none j hj hl⟩
noncomputable def THeap.newO (h : THeap) (o : AObj) : THeap := ⟨(h.put h.next (some o)).t, h.next + 1, h.lim⟩
@[simp] theorem THeap.newO_next (h : THeap) (o : AObj) : (h.newO o).next = h.next + 1 := rfl
@[simp] theorem THeap.newO_lim (h : THeap) (o : AObj) : (h.newO o).lim = h.lim := rfl
theorem THeap.newO_get (h : THeap) (hn : h.next < top) (o : AObj) (j : Nat) : (h.newO o).get j = if j = h.next then some o else h.get j := by
  rw [← THeap.get_put h hn]; rfl
theorem THeap.WF.newO {h : THeap} (w : h.WF) (hn : h.next < h.lim) (o : AObj) : (h.newO o).WF :=
  ⟨hn, w.top, fun j hj hl => by
    simp at hj hl
    rw [THeap.newO_get _ (by have := w.top; omega), if_neg (by omega)]
    exact w.none j (by omega) hl⟩

/-- the operations of a region, one behind the other, in the text's order -/
inductive RegTr (opR : Nat → List AV → Nat → THeap → Log → OutS) (ord : Nat → Nat → Bool) (slots : Nat → List Nat) (dst : Nat → Option Nat) : List Nat → St → THeap → List RE → St → THeap → List RE → Prop
  | nil (st : St) (h : THeap) (acc : List RE) : RegTr opR ord slots dst [] st h acc st h acc
  | cons {i : Nat} {l : List Nat} {st : St} {h : THeap} {acc : List RE} {v : AV} {h1 : THeap} {g : Log} {st' : St} {h' : THeap} {acc' : List RE}
      (e : opR i (st.sel (slots i)) h.next h Log.nil = .ok (.val v) h1 g) (c : noConf ord i g acc = true)
      (t : RegTr opR ord slots dst l (st.put (dst i) v) h1 (⟨i, h.next, h1.next, g⟩ :: acc) st' h' acc') : RegTr opR ord slots dst (i :: l) st h acc st' h' acc'
theorem regRun_tr {opR : Nat → List AV → Nat → THeap → Log → OutS} {ord : Nat → Nat → Bool} {slots : Nat → List Nat} {dst : Nat → Option Nat} :
    ∀ {l : List Nat} {st : St} {h : THeap} {acc : List RE} {st' : St} {h' : THeap} {acc' : List RE}, regRun opR ord slots dst l st h acc = .ok st' h' acc' → RegTr opR ord slots dst l st h acc st' h' acc'
  | [], st, h, acc, st', h', acc', e => by
    have e' : OutR.ok st h acc = .ok st' h' acc' := e
    cases e'; exact .nil _ _ _
  | i :: l, st, h, acc, st', h', acc', e => by
    have e' : OutS.rec (motive := fun _ => OutR) (fun n => .err n)
      (fun r h' g => Res.rec (motive := fun _ => OutR) (fun v => cnd (noConf ord i g acc) (regRun opR ord slots dst l (st.put (dst i) v) h' (⟨i, h.next, h'.next, g⟩ :: acc)) (.err 2000)) (fun _ _ => .err 2001) (fun _ _ => .err 2001) (fun _ _ => .err 2001) r)
      (opR i (st.sel (slots i)) h.next h Log.nil) = .ok st' h' acc' := e
    cases ho : opR i (st.sel (slots i)) h.next h Log.nil with
    | err n => rw [ho] at e'; cases e'
    | ok r h1 g =>
      rw [ho] at e'
      cases r with
      | val v =>
        have e2 : cnd (noConf ord i g acc) (regRun opR ord slots dst l (st.put (dst i) v) h1 (⟨i, h.next, h1.next, g⟩ :: acc)) (.err 2000) = .ok st' h' acc' := e'
        cases hc : noConf ord i g acc
        · rw [hc, cnd_false] at e2; cases e2
        · rw [hc, cnd_true] at e2
          exact .cons ho hc (regRun_tr e2)
      | _ => cases e'
theorem RegTr.run {opR : Nat → List AV → Nat → THeap → Log → OutS} {ord : Nat → Nat → Bool} {slots : Nat → List Nat} {dst : Nat → Option Nat} {l : List Nat} {st : St} {h : THeap} {acc : List RE} {st' : St} {h' : THeap} {acc' : List RE}
    (t : RegTr opR ord slots dst l st h acc st' h' acc') : regRun opR ord slots dst l st h acc = .ok st' h' acc' := by
  induction t with
  | nil => rfl
  | @cons i l st h acc v h1 g st' h' acc' e c _ ih =>
    show OutS.rec (motive := fun _ => OutR) (fun n => .err n)
      (fun r h' g => Res.rec (motive := fun _ => OutR) (fun v => cnd (noConf ord i g acc) (regRun opR ord slots dst l (st.put (dst i) v) h' (⟨i, h.next, h'.next, g⟩ :: acc)) (.err 2000)) (fun _ _ => .err 2001) (fun _ _ => .err 2001) (fun _ _ => .err 2001) r)
      (opR i (st.sel (slots i)) h.next h Log.nil) = _
    rw [e]
    show cnd (noConf ord i g acc) (regRun opR ord slots dst l (st.put (dst i) v) h1 (⟨i, h.next, h1.next, g⟩ :: acc)) (.err 2000) = _
    rw [c, cnd_true]; exact ih
/-! #### what a run leaves alone -/
structure Fr (b : Nat) (h : THeap) (g : Log) (h' : THeap) (g' : Log) : Prop where
  wf : h'.WF
  next : h.next ≤ h'.next
  lim : h'.lim = h.lim
  log : Log.Adds b g g'
  same : ∀ i, i < b → i ∉ g'.wr → h'.get i = h.get i
  over : ∀ i, h.lim ≤ i → h'.get i = h.get i
theorem regTr_fr {opR : Nat → List AV → Nat → THeap → Log → OutS} {ord : Nat → Nat → Bool} {slots : Nat → List Nat} {dst : Nat → Option Nat}
    (hop : ∀ i vs h r h' g', opR i vs h.next h Log.nil = .ok r h' g' → h.WF → Fr h.next h Log.nil h' g') {l : List Nat} {st : St} {h : THeap} {acc : List RE} {st' : St} {h' : THeap} {acc' : List RE}
    (t : RegTr opR ord slots dst l st h acc st' h' acc') : h.WF → h'.WF ∧ h.next ≤ h'.next ∧ h'.lim = h.lim ∧ (∃ new, acc' = new ++ acc) ∧
      (∀ i, i < h.next → (∀ x, x ∈ acc' → i ∉ x.g.wr) → h'.get i = h.get i) ∧ (∀ i, h.lim ≤ i → h'.get i = h.get i) := by
  induction t with
  | nil st h acc => exact fun w => ⟨w, Nat.le_refl _, rfl, ⟨[], rfl⟩, fun _ _ _ => rfl, fun _ _ => rfl⟩
  | @cons i l st h acc v h1 g st' h' acc' e c _ ih =>
    intro w
    have f := hop _ _ _ _ _ _ e w
    obtain ⟨w', n', l', ⟨new, hnew⟩, same, over⟩ := ih f.wf
    have hmem : (⟨i, h.next, h1.next, g⟩ : RE) ∈ acc' := by rw [hnew]; simp
    refine ⟨w', Nat.le_trans f.next n', l'.trans f.lim, ⟨new ++ [⟨i, h.next, h1.next, g⟩], by rw [hnew]; simp⟩, fun j hj hx => ?_, fun j hj => (over j (by rw [f.lim]; exact hj)).trans (f.over j hj)⟩
    rw [same j (Nat.lt_of_lt_of_le hj f.next) hx]
    exact f.same j hj (hx _ hmem)
theorem regTr_logs {opR : Nat → List AV → Nat → THeap → Log → OutS} {ord : Nat → Nat → Bool} {slots : Nat → List Nat} {dst : Nat → Option Nat}
    (hop : ∀ i vs h r h' g', opR i vs h.next h Log.nil = .ok r h' g' → h.WF → Fr h.next h Log.nil h' g') {l : List Nat} {st : St} {h : THeap} {acc : List RE} {st' : St} {h' : THeap} {acc' : List RE}
    (t : RegTr opR ord slots dst l st h acc st' h' acc') : h.WF → (∀ x, x ∈ acc → ∀ i, i ∈ x.g.rd ∨ i ∈ x.g.wr → i < h.next) → ∀ x, x ∈ acc' → ∀ i, i ∈ x.g.rd ∨ i ∈ x.g.wr → i < h'.next := by
  induction t with
  | nil st h acc => exact fun _ h => h
  | @cons i l st h acc v h1 g st' h' acc' e c _ ih =>
    intro w hacc
    have f := hop _ _ _ _ _ _ e w
    refine ih f.wf fun x hx j hj => ?_
    rcases List.mem_cons.1 hx with rfl | hx
    · have hg : j < h.next := by
        rcases hj with hj | hj
        · exact ((f.log.lo j).1 hj).elim (fun h => absurd h List.not_mem_nil) id
        · exact ((f.log.lo j).2 hj).elim (fun h => absurd h List.not_mem_nil) id
      exact Nat.lt_of_lt_of_le hg f.next
    · exact Nat.lt_of_lt_of_le (hacc x hx j hj) f.next
theorem allL_iff {α : Type} {f : α → Bool} {l : List α} : allL f l = true ↔ ∀ x, x ∈ l → f x = true := by
  induction l with
  | nil => exact ⟨fun _ x hx => absurd hx List.not_mem_nil, fun _ => rfl⟩
  | cons y t ih =>
    show cnd (f y) (allL f t) false = true ↔ _
    rw [cnd_and, ih]
    exact ⟨fun ⟨h1, h2⟩ x hx => (List.mem_cons.1 hx).elim (fun e => e ▸ h1) (h2 x), fun h => ⟨h y List.mem_cons_self, fun x hx => h x (List.mem_cons_of_mem _ hx)⟩⟩
theorem notB_iff {b : Bool} : notB b = true ↔ b = false := by cases b <;> simp [notB, cnd]
theorem noWin_iff {lo hi : Nat} {l : List Nat} : noWin lo hi l = true ↔ ∀ i, i ∈ l → ¬ (lo ≤ i ∧ i < hi) := by
  unfold noWin
  rw [allL_iff]
  refine forall_congr' fun i => forall_congr' fun _ => ?_
  rw [notB_iff]
  constructor
  · intro h ⟨h1, h2⟩
    rw [Nat.ble_eq_true_of_le h1, cnd_true, ltb_iff.2 h2] at h; cases h
  · intro h
    cases h1 : Nat.ble lo i
    · rfl
    · rw [cnd_true]; exact ltb_false.2 (Nat.le_of_not_lt fun h2 => h ⟨Nat.le_of_ble_eq_true h1, h2⟩)
theorem disj_iff {a l : List Nat} : disj a l = true ↔ ∀ i, i ∈ l → i ∉ a := by
  unfold disj
  rw [allL_iff]
  refine forall_congr' fun i => forall_congr' fun _ => ?_
  rw [notB_iff]
  constructor
  · intro h hm
    rw [memN_iff.2 hm] at h; cases h
  · intro h
    cases hm : memN i a
    · rfl
    · exact absurd (memN_iff.1 hm) h
structure NoConf (x : RE) (g : Log) : Prop where
  w1 : ∀ i, i ∈ g.rd → ¬ (x.lo ≤ i ∧ i < x.hi)
  w2 : ∀ i, i ∈ g.wr → ¬ (x.lo ≤ i ∧ i < x.hi)
  wr : ∀ i, i ∈ g.rd → i ∉ x.g.wr
  ww : ∀ i, i ∈ g.wr → i ∉ x.g.wr
  rw : ∀ i, i ∈ g.wr → i ∉ x.g.rd
theorem noConf1_spec {x : RE} {g : Log} (h : noConf1 x g = true) : NoConf x g := by
  obtain ⟨h1, h2⟩ := cnd_and.1 h
  obtain ⟨a, b⟩ := cnd_and.1 h1
  obtain ⟨c, d⟩ := cnd_and.1 h2
  obtain ⟨d, e⟩ := cnd_and.1 d
  exact ⟨noWin_iff.1 a, noWin_iff.1 b, disj_iff.1 c, disj_iff.1 d, disj_iff.1 e⟩
theorem noConf_spec {ord : Nat → Nat → Bool} {i : Nat} {g : Log} {l : List RE} (h : noConf ord i g l = true) : ∀ x, x ∈ l → ord x.i i = true ∨ NoConf x g := by
  intro x hx
  have key : allL (fun x => cnd (ord x.i i) true (noConf1 x g)) l = true → ord x.i i = true ∨ NoConf x g := by
    intro h
    have := allL_iff.1 h x hx
    cases ho : ord x.i i
    · rw [ho, cnd_false] at this; exact .inr (noConf1_spec this)
    · exact .inl rfl
  obtain ⟨r, w⟩ := g
  cases r with
  | cons a r => exact key h
  | nil =>
    cases w with
    | cons a w => exact key h
    | nil => exact .inr ⟨fun _ h => absurd h List.not_mem_nil, fun _ h => absurd h List.not_mem_nil, fun _ h => absurd h List.not_mem_nil, fun _ h => absurd h List.not_mem_nil, fun _ h => absurd h List.not_mem_nil⟩
structure RegOk (n : Nat) (ord : Nat → Nat → Bool) (slots : Nat → List Nat) (dst : Nat → Option Nat) : Prop where
  slot : ∀ i, i < n → ∀ s, s ∈ slots i → s < 4096
  ordlt : ∀ i j, i < n → j < n → ord j i = true → j < i
  dlt : ∀ j, j < n → ∀ s, dst j = some s → s < 4096
  behind : ∀ i j s, i < n → j < n → dst j = some s → s ∈ slots i → ord j i = true ∨ ord i j = true
  apart : ∀ i j s, i < n → j < n → dst j = some s → dst i = some s → i = j
theorem regOk_spec {n : Nat} {ord : Nat → Nat → Bool} {slots : Nat → List Nat} {dst : Nat → Option Nat} (h : regOk n ord slots dst = true) : RegOk n ord slots dst := by
  have key : ∀ i, i < n → (∀ s, s ∈ slots i → s < 4096) ∧ ∀ j, j < n → (ord j i = true → j < i) ∧ ∀ s, dst j = some s → s < 4096 ∧ (s ∈ slots i → ord j i = true ∨ ord i j = true) ∧ (dst i = some s → i = j) := by
    intro i hi
    have h1 := allL_iff.1 h i (List.mem_range.2 hi)
    obtain ⟨h2, h3⟩ := cnd_and.1 h1
    refine ⟨fun s hs => ltb_iff.1 (allL_iff.1 h2 s hs), fun j hj => ?_⟩
    have h4 := allL_iff.1 h3 j (List.mem_range.2 hj)
    obtain ⟨h5, h6⟩ := cnd_and.1 h4
    refine ⟨fun ho => by rw [ho, cnd_true] at h5; exact ltb_iff.1 h5, fun s hs => ?_⟩
    rw [hs] at h6
    obtain ⟨h7, h8⟩ := cnd_and.1 h6
    obtain ⟨h9, h10⟩ := cnd_and.1 h8
    refine ⟨ltb_iff.1 h7, fun hm => by
      rw [memN_iff.2 hm, cnd_true] at h9
      cases ho : ord j i
      · rw [ho, cnd_false] at h9; exact .inr h9
      · exact .inl rfl, fun hd => ?_⟩
    cases hb : Nat.beq i j
    · rw [hb, cnd_false, hd] at h10
      have := notB_iff.1 h10
      rw [show Nat.beq s s = true from Nat.beq_refl s] at this; cases this
    · exact natbeq hb
  exact ⟨fun i hi => (key i hi).1, fun i j hi hj => ((key i hi).2 j hj).1, fun j hj s hs => (((key j hj).2 j hj).2 s hs).1,
    fun i j s hi hj hd hs => (((key i hi).2 j hj).2 s hd).2.1 hs, fun i j s hi hj hd hd' => (((key i hi).2 j hj).2 s hd).2.2 hd'⟩

/-- a region's run in the text's order, by numbers -/
structure RegSeq (opR : Nat → List AV → Nat → THeap → Log → OutS) (ord : Nat → Nat → Bool) (slots : Nat → List Nat) (dst : Nat → Option Nat) (k m : Nat) (sts : Nat → St) (hs : Nat → THeap) (vs : Nat → AV) (gs : Nat → Log) : Prop where
  run : ∀ i, k ≤ i → i < k + m → opR i ((sts i).sel (slots i)) (hs i).next (hs i) Log.nil = .ok (.val (vs i)) (hs (i + 1)) (gs i)
  st : ∀ i, k ≤ i → i < k + m → sts (i + 1) = (sts i).put (dst i) (vs i)
  conf : ∀ j i, k ≤ j → j < i → i < k + m → ord j i = true ∨ NoConf ⟨j, (hs j).next, (hs (j + 1)).next, gs j⟩ (gs i)
theorem regTr_seq {opR : Nat → List AV → Nat → THeap → Log → OutS} {ord : Nat → Nat → Bool} {slots : Nat → List Nat} {dst : Nat → Option Nat} :
    ∀ (m k : Nat) {st : St} {h : THeap} {acc : List RE} {st' : St} {h' : THeap} {acc' : List RE}, RegTr opR ord slots dst (List.range' k m) st h acc st' h' acc' →
    ∃ sts hs vs gs, sts k = st ∧ hs k = h ∧ sts (k + m) = st' ∧ hs (k + m) = h' ∧ RegSeq opR ord slots dst k m sts hs vs gs ∧
      (∀ x, x ∈ acc → ∀ i, k ≤ i → i < k + m → ord x.i i = true ∨ NoConf x (gs i))
  | 0, k, st, h, acc, st', h', acc', t => by
    cases t
    exact ⟨fun _ => st, fun _ => h, fun _ => .junk, fun _ => Log.nil, rfl, rfl, rfl, rfl, ⟨fun i h1 h2 => by omega, fun i h1 h2 => by omega, fun j i h1 h2 h3 => by omega⟩, fun x _ i h1 h2 => by omega⟩
  | m + 1, k, st, h, acc, st', h', acc', t => by
    rw [List.range'_succ] at t
    cases t with
    | @cons _ _ _ _ _ v h1 g _ _ _ e c t =>
      obtain ⟨sts, hs, vs, gs, e1, e2, e3, e4, q, hacc⟩ := regTr_seq m (k + 1) t
      have hc := noConf_spec c
      refine ⟨fun i => if i = k then st else sts i, fun i => if i = k then h else hs i, fun i => if i = k then v else vs i, fun i => if i = k then g else gs i, if_pos rfl, if_pos rfl, ?_, ?_, ⟨fun i h1i h2i => ?_, fun i h1i h2i => ?_, fun j i h1i h2i h3i => ?_⟩, fun x hx i h1i h2i => ?_⟩
      · simp only []; rw [if_neg (by omega), ← e3]; congr 1; omega
      · simp only []; rw [if_neg (by omega), ← e4]; congr 1; omega
      · by_cases hik : i = k
        · subst hik; simp only [if_true, if_neg (show ¬ i + 1 = i by omega)]; rw [e2]; exact e
        · simp only [if_neg hik, if_neg (show ¬ i + 1 = k by omega)]; exact q.run i (by omega) (by omega)
      · by_cases hik : i = k
        · subst hik; simp only [if_true, if_neg (show ¬ i + 1 = i by omega)]; exact e1
        · simp only [if_neg hik, if_neg (show ¬ i + 1 = k by omega)]; exact q.st i (by omega) (by omega)
      · have hik : ¬ i = k := by omega
        by_cases hjk : j = k
        · subst hjk; simp only [if_true, if_neg hik, if_neg (show ¬ j + 1 = j by omega), e2]
          exact hacc ⟨j, h.next, h1.next, g⟩ List.mem_cons_self i (by omega) (by omega)
        · simp only [if_neg hik, if_neg hjk, if_neg (show ¬ j + 1 = k by omega)]; exact q.conf j i (by omega) h2i (by omega)
      · by_cases hik : i = k
        · subst hik; simp only [if_true]; exact hc x hx
        · simp only [if_neg hik]; exact hacc x (List.mem_cons_of_mem _ hx) i (by omega) (by omega)
theorem Log.addRs_adds (b : Nat) (l : List Nat) (g : Log) : ∃ g', (∀ {β : Type} (k : Log → β), logRds b l g k = k g') ∧ Log.Adds b g g' ∧ ∀ i, i ∈ l → i < b → i ∈ g'.rd := by
  obtain ⟨g', e, s, m, n, w⟩ := logRds_spec b l g fun x => x
  refine ⟨g', fun k => ?_, ⟨s, fun j => ⟨fun hj => (n j hj).imp id (·.2), fun hj => .inl (w ▸ hj)⟩⟩, m⟩
  rw [logRds_eq, e]
theorem Log.addWs_adds (b : Nat) (l : List Nat) (g : Log) : ∃ g', (∀ {β : Type} (k : Log → β), logWrs b l g k = k g') ∧ Log.Adds b g g' ∧ ∀ i, i ∈ l → i < b → i ∈ g'.wr := by
  obtain ⟨g', e, s, m, n, w⟩ := logWrs_spec b l g fun x => x
  refine ⟨g', fun k => ?_, ⟨s, fun j => ⟨fun hj => .inl (w ▸ hj), fun hj => (n j hj).imp id (·.2)⟩⟩, m⟩
  rw [logWrs_eq, e]
theorem dropK_eq {β : Type} (a n : Nat) (h : THeap) (k : Tr → β) : dropK a n h.t k = k (dropIdsT a n h).t := by
  induction n generalizing k with
  | zero => rfl
  | succ n ih =>
    show dropK a n h.t (fun t' => Tr.setP (p4 (Nat.add a n)) none t' k) = _
    rw [ih, Tr.setP_put]; rfl

inductive AllTr (f : Res → THeap → Log → Out) : List (Res × THeap) → Log → List (Res × THeap) → Log → Prop
  | nil (g : Log) : AllTr f [] g [] g
  | cons {x : Res × THeap} {l : List (Res × THeap)} {g : Log} {l1 : List (Res × THeap)} {g1 : Log} {l2 : List (Res × THeap)} {g2 : Log} (e : f x.1 x.2 g = .ok l1 g1) (t : AllTr f l g1 l2 g2) : AllTr f (x :: l) g (l1 ++ l2) g2
theorem runAll_tr {f : Res → THeap → Log → Out} : ∀ {l : List (Res × THeap)} {g : Log} {outs : List (Res × THeap)} {g' : Log}, runAll f l g = .ok outs g' → AllTr f l g outs g'
  | [], g, outs, g', e => by
    have e' : Out.ok [] g = .ok outs g' := e
    cases e'; exact .nil _
  | x :: l, g, outs, g', e => by
    have e' : Out.rec (motive := fun _ => Out) (fun n => .err n) (fun l1 g1 => Out.rec (motive := fun _ => Out) (fun n => .err n) (fun l2 g2 => .ok (l1 ++ l2) g2) (runAll f l g1)) (f x.1 x.2 g) = .ok outs g' := e
    cases h1 : f x.1 x.2 g with
    | err n => rw [h1] at e'; cases e'
    | ok l1 g1 =>
      rw [h1] at e'
      have e2 : Out.rec (motive := fun _ => Out) (fun n => .err n) (fun l2 g2 => .ok (l1 ++ l2) g2) (runAll f l g1) = .ok outs g' := e'
      cases h2 : runAll f l g1 with
      | err n => rw [h2] at e2; cases e2
      | ok l2 g2 => rw [h2] at e2; cases e2; exact .cons h1 (runAll_tr h2)
/-- what a run leaves alone of a heap -/
structure HF (b : Nat) (h h' : THeap) (wr : List Nat) : Prop where
  wf : h'.WF
  next : h.next ≤ h'.next
  lim : h'.lim = h.lim
  same : ∀ i, i < b → i ∉ wr → h'.get i = h.get i
  over : ∀ i, h.lim ≤ i → h'.get i = h.get i
theorem HF.refl {b : Nat} {h : THeap} (w : h.WF) (wr : List Nat) : HF b h h wr := ⟨w, Nat.le_refl _, rfl, fun _ _ _ => rfl, fun _ _ => rfl⟩
theorem HF.mono {b : Nat} {h h' : THeap} {wr wr' : List Nat} (f : HF b h h' wr) (hw : ∀ i, i ∈ wr → i < b → i ∈ wr') : HF b h h' wr' :=
  ⟨f.wf, f.next, f.lim, fun i hi hn => f.same i hi fun hm => hn (hw i hm hi), f.over⟩
theorem HF.down {b b' : Nat} {h h' : THeap} {wr : List Nat} (f : HF b h h' wr) (hb : b' ≤ b) : HF b' h h' wr :=
  ⟨f.wf, f.next, f.lim, fun i hi hn => f.same i (Nat.lt_of_lt_of_le hi hb) hn, f.over⟩
theorem HF.trans {b : Nat} {h h1 h2 : THeap} {wr : List Nat} (f : HF b h h1 wr) (k : HF b h1 h2 wr) : HF b h h2 wr :=
  ⟨k.wf, Nat.le_trans f.next k.next, k.lim.trans f.lim, fun i hi hn => (k.same i hi hn).trans (f.same i hi hn), fun i hi => (k.over i (by rw [f.lim]; exact hi)).trans (f.over i hi)⟩
theorem Fr.hf {b : Nat} {h : THeap} {g : Log} {h' : THeap} {g' : Log} (f : Fr b h g h' g') : HF b h h' g'.wr := ⟨f.wf, f.next, f.lim, f.same, f.over⟩
structure FrO (b : Nat) (h : THeap) (g : Log) (outs : List (Res × THeap)) (g' : Log) : Prop where
  log : Log.Adds b g g'
  outs : ∀ o, o ∈ outs → HF b h o.2 g'.wr
theorem AllTr.log {f : Res → THeap → Log → Out} {b : Nat} {l : List (Res × THeap)} {g : Log} {outs : List (Res × THeap)} {g' : Log} (t : AllTr f l g outs g') (hf : ∀ x, x ∈ l → ∀ g o g1, f x.1 x.2 g = .ok o g1 → Log.Adds b g g1) : Log.Adds b g g' := by
  induction t with
  | nil g => exact .refl _ _
  | cons e t ih => exact (hf _ List.mem_cons_self _ _ _ e).trans (ih fun x hx => hf x (List.mem_cons_of_mem _ hx))
theorem AllTr.each {f : Res → THeap → Log → Out} {b : Nat} {l : List (Res × THeap)} {g : Log} {outs : List (Res × THeap)} {g' : Log} (t : AllTr f l g outs g') (hf : ∀ x, x ∈ l → ∀ g o g1, f x.1 x.2 g = .ok o g1 → Log.Adds b g g1) :
    (∀ o, o ∈ outs → ∃ x g0 g1 o1, x ∈ l ∧ f x.1 x.2 g0 = .ok o1 g1 ∧ o ∈ o1 ∧ Log.Adds b g g0 ∧ Log.Adds b g1 g') ∧
    (∀ x, x ∈ l → ∃ g0 g1 o1, f x.1 x.2 g0 = .ok o1 g1 ∧ (∀ o, o ∈ o1 → o ∈ outs) ∧ Log.Adds b g g0 ∧ Log.Adds b g1 g') := by
  induction t with
  | nil g => exact ⟨fun _ h => absurd h List.not_mem_nil, fun _ h => absurd h List.not_mem_nil⟩
  | @cons x l g l1 g1 l2 g2 e t ih =>
    have hx := hf x List.mem_cons_self _ _ _ e
    have ht := t.log (b := b) fun x hx => hf x (List.mem_cons_of_mem _ hx)
    obtain ⟨i1, i2⟩ := ih fun x hx => hf x (List.mem_cons_of_mem _ hx)
    refine ⟨fun o ho => ?_, fun y hy => ?_⟩
    · rcases List.mem_append.1 ho with ho | ho
      · exact ⟨x, g, g1, l1, List.mem_cons_self, e, ho, .refl _ _, ht⟩
      · obtain ⟨y, g0, g3, o1, h1, h2, h3, h4, h5⟩ := i1 o ho
        exact ⟨y, g0, g3, o1, List.mem_cons_of_mem _ h1, h2, h3, hx.trans h4, h5⟩
    · rcases List.mem_cons.1 hy with rfl | hy
      · exact ⟨g, g1, l1, e, fun o ho => List.mem_append_left _ ho, .refl _ _, ht⟩
      · obtain ⟨g0, g3, o1, h1, h2, h3, h4⟩ := i2 y hy
        exact ⟨g0, g3, o1, h1, fun o ho => List.mem_append_right _ (h2 o ho), hx.trans h3, h4⟩

/-! #### equal outcomes are one -/
theorem anyL_iff {α : Type} {f : α → Bool} {l : List α} : anyL f l = true ↔ ∃ x, x ∈ l ∧ f x = true := by
  induction l with
  | nil => exact ⟨fun h => ff h, fun ⟨x, hx, _⟩ => absurd hx List.not_mem_nil⟩
  | cons y t ih =>
    show cnd (f y) true (anyL f t) = true ↔ _
    cases hy : f y
    · rw [cnd_false, ih]
      exact ⟨fun ⟨x, hx, h⟩ => ⟨x, List.mem_cons_of_mem _ hx, h⟩, fun ⟨x, hx, h⟩ => (List.mem_cons.1 hx).elim (fun e => by subst e; rw [hy] at h; cases h) (fun hx => ⟨x, hx, h⟩)⟩
    · exact ⟨fun _ => ⟨y, List.mem_cons_self, hy⟩, fun _ => rfl⟩
theorem eqFrom_spec {a c : THeap} {lo : Nat} : ∀ {n : Nat}, eqFrom a c lo n = true → ∀ i, lo ≤ i → i < lo + n → a.get i = c.get i
  | 0, _, i, h1, h2 => by omega
  | n + 1, h, i, h1, h2 => by
    have h' : cnd (eqFrom a c lo n) (eqOObj (a.get (lo + n)) (c.get (lo + n))) false = true := h
    obtain ⟨p, q⟩ := cnd_and.1 h'
    by_cases e : i = lo + n
    · subst e; exact eqOObj_eq q
    · exact eqFrom_spec p i h1 (by omega)
theorem sameOut_eq {ws : List Nat} {lo : Nat} {h : THeap} {x y : Res × THeap} (hx : HF lo h x.2 ws) (hy : HF lo h y.2 ws) (e : sameOut ws lo x y = true) : x = y := by
  obtain ⟨e1, e2⟩ := cnd_and.1 e
  obtain ⟨e2, e3⟩ := cnd_and.1 e2
  obtain ⟨e3, e4⟩ := cnd_and.1 e3
  have hn := natbeq e2
  refine Prod.ext (eqRes_eq e1) (THeap.ext (fun i => ?_) hn (hx.lim.trans hy.lim.symm))
  by_cases hw : i ∈ ws
  · exact eqOObj_eq (allL_iff.1 e3 i hw)
  · by_cases hlo : i < lo
    · rw [hx.same i hlo hw, hy.same i hlo hw]
    · by_cases hnx : i < x.2.next
      · exact eqFrom_spec e4 i (by omega) (by simp only [Nat.sub_eq]; omega)
      · by_cases hl : i < h.lim
        · rw [hx.wf.none i (by omega) (by rw [hx.lim]; exact hl), hy.wf.none i (by omega) (by rw [hy.lim]; exact hl)]
        · rw [hx.over i (by omega), hy.over i (by omega)]
theorem dedupe_sub {ws : List Nat} {lo : Nat} : ∀ {l : List (Res × THeap)} {x : Res × THeap}, x ∈ dedupe ws lo l → x ∈ l
  | [], _, h => h
  | y :: l, x, h => by
    have h' : x ∈ cnd (anyL (fun z => sameOut ws lo y z) (dedupe ws lo l)) (dedupe ws lo l) (y :: dedupe ws lo l) := h
    cases hb : anyL (fun z => sameOut ws lo y z) (dedupe ws lo l)
    · rw [hb, cnd_false] at h'
      exact (List.mem_cons.1 h').elim (fun e => e ▸ List.mem_cons_self) (fun h => List.mem_cons_of_mem _ (dedupe_sub h))
    · rw [hb, cnd_true] at h'; exact List.mem_cons_of_mem _ (dedupe_sub h')
theorem dedupe_mem {ws : List Nat} {lo : Nat} {h : THeap} : ∀ {l : List (Res × THeap)}, (∀ x, x ∈ l → HF lo h x.2 ws) → ∀ x, x ∈ l → x ∈ dedupe ws lo l
  | [], _, _, h => h
  | y :: l, hl, x, hx => by
    have ih := dedupe_mem (l := l) (fun z hz => hl z (List.mem_cons_of_mem _ hz))
    show x ∈ cnd (anyL (fun z => sameOut ws lo y z) (dedupe ws lo l)) (dedupe ws lo l) (y :: dedupe ws lo l)
    cases hb : anyL (fun z => sameOut ws lo y z) (dedupe ws lo l)
    · rw [cnd_false]
      exact (List.mem_cons.1 hx).elim (fun e => e ▸ List.mem_cons_self) (fun h => List.mem_cons_of_mem _ (ih x h))
    · rw [cnd_true]
      rcases List.mem_cons.1 hx with e | hx
      · subst e
        obtain ⟨z, hz, hs⟩ := anyL_iff.1 hb
        rw [sameOut_eq (hl x List.mem_cons_self) (hl z (List.mem_cons_of_mem _ (dedupe_sub hz))) hs]
        exact hz
      · exact ih x hx
theorem filL_iff {f : Res → Bool} {l : List (Res × THeap)} {x : Res × THeap} : x ∈ filL f l ↔ x ∈ l ∧ f x.1 = true := by
  induction l with
  | nil => exact ⟨fun h => absurd h List.not_mem_nil, fun h => h.1⟩
  | cons y t ih =>
    show x ∈ cnd (f y.1) (y :: filL f t) (filL f t) ↔ _
    cases hy : f y.1
    · rw [cnd_false, ih]
      exact ⟨fun ⟨a, b⟩ => ⟨List.mem_cons_of_mem _ a, b⟩, fun ⟨a, b⟩ => ⟨(List.mem_cons.1 a).elim (fun e => by subst e; rw [hy] at b; cases b) id, b⟩⟩
    · rw [cnd_true, List.mem_cons, List.mem_cons, ih]
      exact ⟨fun h => h.elim (fun e => ⟨.inl e, e ▸ hy⟩) (fun ⟨a, b⟩ => ⟨.inr a, b⟩), fun ⟨a, b⟩ => a.elim .inl (fun a => .inr ⟨a, b⟩)⟩
end Go.X

namespace Go.X

theorem Log.addRW (b : Nat) (l l' : List Nat) (g : Log) : ∃ g', (∀ {β : Type} (k : Log → β), (logRds b l g fun g0 => logWrs b l' g0 k) = k g') ∧ Log.Adds b g g' ∧ (∀ i, i ∈ l → i < b → i ∈ g'.rd) ∧ ∀ i, i ∈ l' → i < b → i ∈ g'.wr := by
  obtain ⟨g1, e1, a1, m1⟩ := Log.addRs_adds b l g
  obtain ⟨g2, e2, a2, m2⟩ := Log.addWs_adds b l' g1
  exact ⟨g2, fun k => by rw [e1, e2], a1.trans a2, fun i hi hb => a2.rd i (m1 i hi hb), m2⟩
theorem one_ok {o : Out} {r : Res} {h : THeap} {g : Log} (e : one o = .ok r h g) : o = .ok [(r, h)] g := by
  cases o with
  | err w => cases e
  | ok l g0 =>
    cases l with
    | nil => cases e
    | cons x t =>
      cases t with
      | nil => cases x; cases e; rfl
      | cons y t => cases e
theorem one_eq (r : Res) (h : THeap) (g : Log) : one (.ok [(r, h)] g) = .ok r h g := rfl
theorem run_get (i : Nat) (k : AObj → FM) (b : Nat) (h : THeap) (g : Log) :
    (FM.get i k).run b h g = if i < h.next then match h.get i with | some o => (k o).run b h (g.addR b i) | none => .err 1000 else .err 1000 := by
  show cnd (ltb i h.next) (Option.rec (motive := fun _ => Out) (.err 1000) (fun o => logRd b i g fun g' => (k o).run b h g') (h.get i)) (.err 1000) = _
  by_cases e : i < h.next
  · rw [if_pos e, ltb_iff.2 e, cnd_true]
    cases h.get i with
    | none => rfl
    | some o => exact logRd_eq _ _ _ _
  · rw [if_neg e, ltb_false.2 (Nat.le_of_not_lt e), cnd_false]
theorem run_set (i : Nat) (o : AObj) (m : FM) (b : Nat) (h : THeap) (g : Log) : (FM.set i o m).run b h g = if i < h.next then m.run b (h.put i (some o)) (g.addW b i) else .err 1001 := by
  show cnd (ltb i h.next) (Tr.setP (p4 i) (some o) h.t fun t' => logWr b i g fun g' => m.run b ⟨t', h.next, h.lim⟩ g') (.err 1001) = _
  by_cases e : i < h.next
  · rw [if_pos e, ltb_iff.2 e, cnd_true, Tr.setP_put, logWr_eq]; rfl
  · rw [if_neg e, ltb_false.2 (Nat.le_of_not_lt e), cnd_false]
theorem run_new (o : AObj) (k : Nat → FM) (b : Nat) (h : THeap) (g : Log) : (FM.new o k).run b h g = if h.next < h.lim then (k h.next).run b (h.newO o) g else .err 1002 := by
  show cnd (ltb h.next h.lim) (Tr.setP (p4 h.next) (some o) h.t fun t' => forceNat (Nat.succ h.next) fun n => (k h.next).run b ⟨t', n, h.lim⟩ g) (.err 1002) = _
  by_cases e : h.next < h.lim
  · rw [if_pos e, ltb_iff.2 e, cnd_true, Tr.setP_put, forceNat_eq]; rfl
  · rw [if_neg e, ltb_false.2 (Nat.le_of_not_lt e), cnd_false]
theorem ble_iff {a b : Nat} : Nat.ble a b = true ↔ a ≤ b := ⟨Nat.le_of_ble_eq_true, Nat.ble_eq_true_of_le⟩
theorem run_drop (a w : Nat) (m : FM) (b : Nat) (h : THeap) (g : Log) {outs : List (Res × THeap)} {g' : Log} (e : (FM.drop a w m).run b h g = .ok outs g') :
    b ≤ a ∧ a ≤ h.next ∧ h.next ≤ a + w ∧ a + w ≤ h.lim ∧ m.run b ((dropIdsT a (h.next - a) h).win (a + w) h.lim) g = .ok outs g' := by
  have e' : cnd (cnd (cnd (Nat.ble b a) (Nat.ble a h.next) false) (cnd (Nat.ble h.next (Nat.add a w)) (Nat.ble (Nat.add a w) h.lim) false) false)
      (dropK a (Nat.sub h.next a) h.t fun t' => forceNat (Nat.add a w) fun n => m.run b ⟨t', n, h.lim⟩ g) (.err 1012) = .ok outs g' := e
  cases hc : cnd (cnd (Nat.ble b a) (Nat.ble a h.next) false) (cnd (Nat.ble h.next (Nat.add a w)) (Nat.ble (Nat.add a w) h.lim) false) false
  · rw [hc, cnd_false] at e'; cases e'
  · rw [hc, cnd_true, dropK_eq, forceNat_eq] at e'
    obtain ⟨h1, h2⟩ := cnd_and.1 hc
    obtain ⟨h1, h3⟩ := cnd_and.1 h1
    obtain ⟨h2, h4⟩ := cnd_and.1 h2
    exact ⟨ble_iff.1 h1, ble_iff.1 h3, ble_iff.1 h2, ble_iff.1 h4, e'⟩
theorem chooseRun_spec {f : Nat → Log → Out} {b : Nat} {g : Log} (hf : ∀ j g o g1, f j g = .ok o g1 → Log.Adds b g g1) : ∀ {n : Nat} {outs : List (Res × THeap)} {g' : Log}, chooseRun f g n = .ok outs g' →
    Log.Adds b g g' ∧ (∀ o, o ∈ outs → ∃ j g0 g1 o1, j < n ∧ f j g0 = .ok o1 g1 ∧ o ∈ o1 ∧ Log.Adds b g1 g') ∧ (∀ j, j < n → ∃ g0 g1 o1, f j g0 = .ok o1 g1 ∧ ∀ o, o ∈ o1 → o ∈ outs)
  | 0, outs, g', e => by
    have e' : Out.ok [] g = .ok outs g' := e
    cases e'
    exact ⟨.refl _ _, fun _ h => absurd h List.not_mem_nil, fun j hj => by omega⟩
  | n + 1, outs, g', e => by
    have e' : Out.rec (motive := fun _ => Out) (fun w => .err w) (fun l g1 => Out.rec (motive := fun _ => Out) (fun w => .err w) (fun l' g2 => .ok (l ++ l') g2) (f n g1)) (chooseRun f g n) = .ok outs g' := e
    cases h1 : chooseRun f g n with
    | err w => rw [h1] at e'; cases e'
    | ok l g1 =>
      rw [h1] at e'
      have e2 : Out.rec (motive := fun _ => Out) (fun w => .err w) (fun l' g2 => .ok (l ++ l') g2) (f n g1) = .ok outs g' := e'
      cases h2 : f n g1 with
      | err w => rw [h2] at e2; cases e2
      | ok l' g2 =>
        rw [h2] at e2; cases e2
        obtain ⟨a1, a2, a3⟩ := chooseRun_spec hf h1
        have a4 := hf _ _ _ _ h2
        refine ⟨a1.trans a4, fun o ho => ?_, fun j hj => ?_⟩
        · rcases List.mem_append.1 ho with ho | ho
          · obtain ⟨j, g0, g3, o1, b1, b2, b3, b4⟩ := a2 o ho
            exact ⟨j, g0, g3, o1, by omega, b2, b3, b4.trans a4⟩
          · exact ⟨n, g1, _, l', by omega, h2, ho, .refl _ _⟩
        · by_cases hjn : j = n
          · subst hjn; exact ⟨g1, _, l', h2, fun o ho => List.mem_append_right _ ho⟩
          · obtain ⟨g0, g3, o1, b1, b2⟩ := a3 j (by omega)
            exact ⟨g0, g3, o1, b1, fun o ho => List.mem_append_left _ (b2 o ho)⟩

/-- rounds of a loop, breadth first -/
structure LoopIn (body : St → THeap → Log → Out) (lo : Nat) (h0 : THeap) : Prop where
  fr : ∀ st h g outs g', body st h g = .ok outs g' → h.WF → lo ≤ h.next → FrO lo h g outs g'
theorem stK_ok {r : Res} {k : XExit → St → Out} {l : List (Res × THeap)} {g : Log} (e : stK r k = .ok l g) : ∃ x s, r = .st x s ∧ k x s = .ok l g := by
  cases r with
  | st x s => exact ⟨x, s, rfl, e⟩
  | _ => cases e
theorem loopRun_spec {body : St → THeap → Log → Out} {lo : Nat} {h0 : THeap} (hb : LoopIn body lo h0) (hlo : lo ≤ h0.next)
    {bodyS : St → PostT → THeap → Prop} (hS : ∀ st h g outs g' (p : PostT), body st h g = .ok outs g' → h.WF → lo ≤ h.next → (∀ o, o ∈ outs → p o.1 o.2) → bodyS st p h)
    {fin : List (Res × THeap) → Log → Out} {res : List (Res × THeap)} {gr : Log} (hfin : ∀ acc gl, fin acc gl = .ok res gr → ∀ x, x ∈ acc → ∃ e s, x.1 = .st e s) :
    ∀ (n : Nat) (f acc : List (Res × THeap)) (gl : Log), loopRun body lo fin n f acc gl = .ok res gr → (∀ x, x ∈ f → HF lo h0 x.2 gl.wr ∧ isNorm x.1 = true) → (∀ x, x ∈ acc → HF lo h0 x.2 gl.wr) →
    ∃ accF glF, fin accF glF = .ok res gr ∧ Log.Adds lo gl glF ∧ (∀ x, x ∈ accF → HF lo h0 x.2 glF.wr) ∧ (∀ x, x ∈ acc → x ∈ accF) ∧
      (∀ x st, x ∈ f → x.1 = .st .normal st → loopSatT bodyS (fun e s h => (Res.st e s, h) ∈ accF) n st x.2) := by
  intro n
  have nilCase : ∀ (f acc : List (Res × THeap)) (gl : Log) (m : Nat), isNilL f = true → fin acc gl = .ok res gr → (∀ x, x ∈ acc → HF lo h0 x.2 gl.wr) →
      ∃ accF glF, fin accF glF = .ok res gr ∧ Log.Adds lo gl glF ∧ (∀ x, x ∈ accF → HF lo h0 x.2 glF.wr) ∧ (∀ x, x ∈ acc → x ∈ accF) ∧
      (∀ x st, x ∈ f → x.1 = .st .normal st → loopSatT bodyS (fun e s h => (Res.st e s, h) ∈ accF) m st x.2) := by
    intro f acc gl m hn e hacc
    cases f with
    | nil => exact ⟨acc, gl, e, .refl _ _, hacc, fun _ h => h, fun _ _ h => absurd h List.not_mem_nil⟩
    | cons x t => exact ff hn
  induction n with
  | zero =>
    intro f acc gl e hf hacc
    have e' : cnd (isNilL f) (fin acc gl) (.err 1011) = .ok res gr := e
    cases hn : isNilL f
    · rw [hn, cnd_false] at e'; cases e'
    · rw [hn, cnd_true] at e'; exact nilCase f acc gl 0 hn e' hacc
  | succ n ih =>
    intro f acc gl e hf hacc
    have e' : cnd (isNilL f) (fin acc gl)
      (Out.rec (motive := fun _ => Out) (fun n => .err n) (fun l gl' => loopRun body lo fin n (dedupe gl'.wr lo (filL isNorm l)) (dedupe gl'.wr lo (filL (fun r => notB (isNorm r)) l ++ acc)) gl')
        (runAll (fun r h g => stK r fun _ st => body st h g) f gl)) = .ok res gr := e
    cases hn : isNilL f
    · rw [hn, cnd_false] at e'
      cases hr : runAll (fun r h g => stK r fun _ st => body st h g) f gl with
      | err w => rw [hr] at e'; cases e'
      | ok l gl' =>
        rw [hr] at e'
        have e2 : loopRun body lo fin n (dedupe gl'.wr lo (filL isNorm l)) (dedupe gl'.wr lo (filL (fun r => notB (isNorm r)) l ++ acc)) gl' = .ok res gr := e'
        have tr := runAll_tr hr
        have hstep : ∀ x, x ∈ f → ∀ g o g1, (stK x.1 fun _ st => body st x.2 g) = .ok o g1 → Log.Adds lo g g1 := by
          intro x hx g o g1 e
          obtain ⟨_, st, _, e3⟩ := stK_ok e
          exact (hb.fr _ _ _ _ _ e3 (hf x hx).1.wf (Nat.le_trans hlo (hf x hx).1.next)).log
        have hlog := tr.log hstep
        obtain ⟨i1, i2⟩ := tr.each hstep
        have hl : ∀ o, o ∈ l → HF lo h0 o.2 gl'.wr := by
          intro o ho
          obtain ⟨x, g0, g1, o1, hx, e3, hoo, a1, a2⟩ := i1 o ho
          obtain ⟨_, st, _, e4⟩ := stK_ok e3
          have f1 := (hf x hx).1
          have f2 := (hb.fr _ _ _ _ _ e4 f1.wf (Nat.le_trans hlo f1.next)).outs o hoo
          exact (f1.mono fun i hi _ => hlog.wr i hi).trans (f2.mono fun i hi _ => a2.wr i hi)
        have hN : ∀ x, x ∈ filL isNorm l → HF lo h0 x.2 gl'.wr := fun x hx => hl x (filL_iff.1 hx).1
        have hE : ∀ x, x ∈ filL (fun r => notB (isNorm r)) l ++ acc → HF lo h0 x.2 gl'.wr := by
          intro x hx
          rcases List.mem_append.1 hx with hx | hx
          · exact hl x (filL_iff.1 hx).1
          · exact (hacc x hx).mono fun i hi _ => hlog.wr i hi
        obtain ⟨accF, glF, c1, c2, c3, c4, c5⟩ := ih _ _ _ e2 (fun x hx => ⟨hN x (dedupe_sub hx), (filL_iff.1 (dedupe_sub hx)).2⟩) (fun x hx => hE x (dedupe_sub hx))
        refine ⟨accF, glF, c1, hlog.trans c2, c3, fun x hx => c4 x (dedupe_mem hE x (List.mem_append_right _ hx)), fun x st hx hst => ?_⟩
        obtain ⟨g0, g1, o1, e3, hsub, _, _⟩ := i2 x hx
        rw [hst] at e3
        have e4 : body st x.2 g0 = .ok o1 g1 := e3
        refine hS _ _ _ _ _ _ e4 (hf x hx).1.wf (Nat.le_trans hlo (hf x hx).1.next) fun o ho => ?_
        have hol := hsub o ho
        obtain ⟨r, h⟩ := o
        cases r with
        | st ex s =>
          cases ex with
          | normal => exact c5 (.st .normal s, h) s (dedupe_mem hN _ (filL_iff.2 ⟨hol, rfl⟩)) rfl
          | _ => exact c4 _ (dedupe_mem hE _ (List.mem_append_left _ (filL_iff.2 ⟨hol, rfl⟩)))
        | _ =>
          obtain ⟨_, _, hh⟩ := hfin _ _ c1 _ (c4 _ (dedupe_mem hE _ (List.mem_append_left _ (filL_iff.2 ⟨hol, rfl⟩))))
          cases hh
    · rw [hn, cnd_true] at e'; exact nilCase f acc gl (n + 1) hn e' hacc
theorem AllTr.ok {f : Res → THeap → Log → Out} {l : List (Res × THeap)} {g : Log} {outs : List (Res × THeap)} {g' : Log} (t : AllTr f l g outs g') : ∀ x, x ∈ l → ∃ g0 o1 g1, f x.1 x.2 g0 = .ok o1 g1 := by
  induction t with
  | nil g => exact fun _ h => absurd h List.not_mem_nil
  | cons e t ih => exact fun y hy => (List.mem_cons.1 hy).elim (fun h => by subst h; exact ⟨_, _, _, e⟩) (ih y)
theorem fin_st {k : XExit → St → FM} {b : Nat} {g : Log} {res : List (Res × THeap)} {gr : Log} (acc : List (Res × THeap)) (gl : Log)
    (e : (logRds b gl.rd g fun g0 => logWrs b gl.wr g0 fun g' => runAll (fun r h' g => stK r fun e s => (k e s).run b h' g) acc g') = .ok res gr) : ∀ x, x ∈ acc → ∃ e s, x.1 = .st e s := by
  intro x hx
  obtain ⟨g2, eq, _, _, _⟩ := Log.addRW b gl.rd gl.wr g
  rw [eq] at e
  obtain ⟨_, _, _, e3⟩ := (runAll_tr e).ok x hx
  obtain ⟨ex, s, h1, _⟩ := stK_ok e3
  exact ⟨ex, s, h1⟩
theorem run_choose {n : Nat} {k : Nat → FM} {b : Nat} {h : THeap} {g : Log} {outs : List (Res × THeap)} {g' : Log} (e : (FM.choose n k).run b h g = .ok outs g') : 0 < n ∧ chooseRun (fun j g => (k j).run b h g) g n = .ok outs g' := by
  have e' : cnd (Nat.beq n 0) (.err 1014) (chooseRun (fun j g => (k j).run b h g) g n) = .ok outs g' := e
  cases n with
  | zero => cases e'
  | succ n => exact ⟨Nat.succ_pos _, e'⟩
theorem run_join {m : FM} {k : Res → FM} {b : Nat} {h : THeap} {g : Log} {outs : List (Res × THeap)} {g' : Log} (e : (FM.join m k).run b h g = .ok outs g') :
    ∃ l g1 g2, m.run h.next h Log.nil = .ok l g1 ∧ Log.Adds b g g2 ∧ (∀ i, i ∈ g1.rd → i < b → i ∈ g2.rd) ∧ (∀ i, i ∈ g1.wr → i < b → i ∈ g2.wr) ∧ AllTr (fun r h' g => (k r).run b h' g) (dedupe g1.wr h.next l) g2 outs g' := by
  have e' : Out.rec (motive := fun _ => Out) (fun w => .err w) (fun l g1 => logRds b g1.rd g fun g0 => logWrs b g1.wr g0 fun g' => runAll (fun r h' g => (k r).run b h' g) (dedupe g1.wr h.next l) g') (m.run h.next h Log.nil) = .ok outs g' := e
  cases h1 : m.run h.next h Log.nil with
  | err w => rw [h1] at e'; cases e'
  | ok l g1 =>
    rw [h1] at e'
    obtain ⟨g2, eq, ad, mr, mem⟩ := Log.addRW b g1.rd g1.wr g
    have e2 : (logRds b g1.rd g fun g0 => logWrs b g1.wr g0 fun g' => runAll (fun r h' g => (k r).run b h' g) (dedupe g1.wr h.next l) g') = .ok outs g' := e'
    rw [eq] at e2
    exact ⟨l, g1, g2, rfl, ad, mr, mem, runAll_tr e2⟩
theorem run_loop (n : Nat) (body : St → FM) (st : St) (k : XExit → St → FM) (b : Nat) (h : THeap) (g : Log) :
    (FM.loop n body st k).run b h g = loopRun (fun s h' g => (body s).run h.next h' g) h.next (fun acc gl => logRds b gl.rd g fun g0 => logWrs b gl.wr g0 fun g' => runAll (fun r h' g => stK r fun e s => (k e s).run b h' g) acc g') n [(.st .normal st, h)] [] Log.nil := rfl
theorem run_regn {n : Nat} {ord : Nat → Nat → Bool} {slots : Nat → List Nat} {dst : Nat → Option Nat} {op : Nat → List AV → FM} {st : St} {k : St → FM} {b : Nat} {h : THeap} {g : Log} {outs : List (Res × THeap)} {g' : Log}
    (e : (FM.regn n ord slots dst op st k).run b h g = .ok outs g') :
    regOk n ord slots dst = true ∧ ∃ st' h1 l, regRun (fun i vs b h g => one ((op i vs).run b h g)) ord slots dst (rangeL n) st h [] = .ok st' h1 l ∧ (k st').run b h1 (g.addE b l) = .ok outs g' := by
  have e' : cnd (regOk n ord slots dst) (OutR.rec (motive := fun _ => Out) (fun w => .err w) (fun st' h' l => logREs b l g fun g' => (k st').run b h' g') (regRun (fun i vs b h g => one ((op i vs).run b h g)) ord slots dst (rangeL n) st h [])) (.err 1008) = .ok outs g' := e
  cases hok : regOk n ord slots dst
  · rw [hok, cnd_false] at e'; cases e'
  · rw [hok, cnd_true] at e'
    refine ⟨rfl, ?_⟩
    cases hr : regRun (fun i vs b h g => one ((op i vs).run b h g)) ord slots dst (rangeL n) st h [] with
    | err w => rw [hr] at e'; cases e'
    | ok st' h1 l =>
      rw [hr] at e'
      exact ⟨st', h1, l, rfl, (logREs_eq _ _ _ _).symm.trans e'⟩
theorem drop_wf {h : THeap} (w : h.WF) {a x : Nat} (h1 : a ≤ h.next) (h2 : h.next ≤ a + x) (h3 : a + x ≤ h.lim) : ((dropIdsT a (h.next - a) h).win (a + x) h.lim).WF := by
  have hl := w.lim; have ht := w.top
  refine ⟨h3, ht, fun i hi hi2 => ?_⟩
  simp only [THeap.win_next] at hi
  simp only [THeap.win_lim] at hi2
  rw [THeap.win_get, dropIdsT_get _ _ _ (by omega), if_neg (by omega)]
  exact w.none i (by omega) hi2
theorem FrO.fr1 {b : Nat} {h : THeap} {g : Log} {r : Res} {h' : THeap} {g' : Log} (f : FrO b h g [(r, h')] g') : Fr b h g h' g' := by
  have x := f.outs (r, h') (by simp)
  exact ⟨x.wf, x.next, x.lim, f.log, x.same, x.over⟩
theorem run_fr : ∀ (m : FM) (b : Nat) (h : THeap) (g : Log) (outs : List (Res × THeap)) (g' : Log), m.run b h g = .ok outs g' → h.WF → b ≤ h.next → FrO b h g outs g' := by
  intro m
  induction m with
  | ret r0 =>
    intro b h g outs g' e w _; cases e
    exact ⟨.refl _ _, fun o ho => by
      have : o = (r0, h) := by simpa using ho
      subst this; exact HF.refl w _⟩
  | fail => intro b h g outs g' e; cases e
  | get i k ih =>
    intro b h g outs g' e w hb
    rw [run_get] at e
    by_cases hi : i < h.next
    case neg => rw [if_neg hi] at e; cases e
    rw [if_pos hi] at e
    cases ho : h.get i with
    | none => rw [ho] at e; cases e
    | some o =>
      rw [ho] at e
      have f := ih o _ _ _ _ _ e w hb
      exact ⟨(Log.addR_adds b i g).1.trans f.log, f.outs⟩
  | set i o m ih =>
    intro b h g outs g' e w hb
    rw [run_set] at e
    by_cases hi : i < h.next
    case neg => rw [if_neg hi] at e; cases e
    rw [if_pos hi] at e
    have f := ih _ _ _ _ _ e (w.put hi o) hb
    have hit : i < top := by have := w.lim; have := w.top; omega
    refine ⟨(Log.addW_adds b i g).1.trans f.log, fun x hx => ?_⟩
    have fx := f.outs x hx
    refine ⟨fx.wf, fx.next, fx.lim, fun j hj hw => ?_, fun j hj => ?_⟩
    · rw [fx.same j hj hw, THeap.get_put _ hit, if_neg]
      rintro rfl
      exact hw (f.log.wr _ ((Log.addW_adds b j g).2.1 hj))
    · rw [fx.over j hj, THeap.get_put _ hit, if_neg (by have := w.lim; omega)]
  | new o k ih =>
    intro b h g outs g' e w hb
    rw [run_new] at e
    by_cases hi : h.next < h.lim
    case neg => rw [if_neg hi] at e; cases e
    rw [if_pos hi] at e
    have f := ih _ _ _ _ _ _ e (w.newO hi o) (Nat.le_trans hb (Nat.le_succ _))
    have hit : h.next < top := by have := w.top; omega
    refine ⟨f.log, fun x hx => ?_⟩
    have fx := f.outs x hx
    refine ⟨fx.wf, Nat.le_trans (Nat.le_succ _) fx.next, fx.lim, fun j hj hw => ?_, fun j hj => ?_⟩
    · rw [fx.same j hj hw, THeap.newO_get _ hit, if_neg (by omega)]
    · rw [fx.over j hj, THeap.newO_get _ hit, if_neg (by omega)]
  | here k ih => intro b h g outs g' e w hb; exact ih _ _ _ _ _ _ e w hb
  | drop a x m ih =>
    intro b h g outs g' e w hb
    obtain ⟨h0, h1, h2, h3, e2⟩ := run_drop _ _ _ _ _ _ e
    have f := ih _ _ _ _ _ e2 (drop_wf w h1 h2 h3) (by simp only [THeap.win_next]; omega)
    have hl := w.lim; have ht := w.top
    refine ⟨f.log, fun y hy => ?_⟩
    have fx := f.outs y hy
    refine ⟨fx.wf, Nat.le_trans h2 fx.next, fx.lim, fun j hj hw => ?_, fun j hj => ?_⟩
    · rw [fx.same j hj hw, THeap.win_get, dropIdsT_get _ _ _ (by omega), if_neg (by omega)]
    · rw [fx.over j hj, THeap.win_get, dropIdsT_get _ _ _ (by omega), if_neg (by omega)]
  | choose n k ih =>
    intro b h g outs g' e w hb
    obtain ⟨_, e⟩ := run_choose e
    obtain ⟨a1, a2, _⟩ := chooseRun_spec (b := b) (fun j g o g1 e => (ih j _ _ _ _ _ e w hb).log) e
    refine ⟨a1, fun o ho => ?_⟩
    obtain ⟨j, g0, g1, o1, _, e2, ho1, a4⟩ := a2 o ho
    exact ((ih j _ _ _ _ _ e2 w hb).outs o ho1).mono fun i hi _ => a4.wr i hi
  | any k ih => intro b h g outs g' e w hb; have e' : Out.err 1020 = .ok outs g' := e; cases e'
  | join m k ihm ihk =>
    intro b h g outs g' e w hb
    obtain ⟨l, g1, g2, e1, ad, mr, mem, tr⟩ := run_join e
    have fm := ihm _ _ _ _ _ e1 w (Nat.le_refl _)
    have hx : ∀ x, x ∈ dedupe g1.wr h.next l → HF h.next h x.2 g1.wr := fun x hx => fm.outs x (dedupe_sub hx)
    have hstep : ∀ x, x ∈ dedupe g1.wr h.next l → ∀ g o g3, (k x.1).run b x.2 g = .ok o g3 → Log.Adds b g g3 := fun x hxm g o g3 e =>
      (ihk x.1 _ _ _ _ _ e (hx x hxm).wf (Nat.le_trans hb (hx x hxm).next)).log
    have hlog := tr.log hstep
    refine ⟨ad.trans hlog, fun o ho => ?_⟩
    obtain ⟨x, g0, g3, o1, hxm, e3, ho1, a1, a2⟩ := (tr.each hstep).1 o ho
    have f1 := hx x hxm
    have f2 := (ihk x.1 _ _ _ _ _ e3 f1.wf (Nat.le_trans hb f1.next)).outs o ho1
    exact ((f1.down hb).mono fun i hi hib => hlog.wr i (mem i hi hib)).trans (f2.mono fun i hi _ => a2.wr i hi)
  | loop n body st k ihb ihk =>
    intro b h g outs g' e w hb
    rw [run_loop] at e
    have hin : LoopIn (fun s h' g => (body s).run h.next h' g) h.next h := ⟨fun st' h' g outs g' e w' hl => ihb st' _ _ _ _ _ e w' hl⟩
    obtain ⟨accF, glF, c1, c2, c3, _, _⟩ := loopRun_spec hin (Nat.le_refl _) (bodyS := fun _ _ _ => True) (fun _ _ _ _ _ _ _ _ _ _ => trivial)
      fin_st n _ _ _ e (fun x hx => by
        have : x = (.st .normal st, h) := by simpa using hx
        subst this; exact ⟨HF.refl w _, rfl⟩) (fun x hx => absurd hx List.not_mem_nil)
    have hst := fin_st accF glF c1
    obtain ⟨g2, eq, ad, mr, mem⟩ := Log.addRW b glF.rd glF.wr g
    rw [eq] at c1
    have tr := runAll_tr c1
    have hstep : ∀ x, x ∈ accF → ∀ g o g3, (stK x.1 fun e s => (k e s).run b x.2 g) = .ok o g3 → FrO b x.2 g o g3 := fun x hx g o g3 e => by
      obtain ⟨ex, s, _, e3⟩ := stK_ok e
      exact ihk ex s _ _ _ _ _ e3 (c3 x hx).wf (Nat.le_trans hb (c3 x hx).next)
    have hlog := tr.log fun x hx g o g3 e => (hstep x hx g o g3 e).log
    refine ⟨ad.trans hlog, fun o ho => ?_⟩
    obtain ⟨x, g0, g3, o1, hxm, e3, ho1, a1, a2⟩ := (tr.each fun x hx g o g3 e => (hstep x hx g o g3 e).log).1 o ho
    have f1 := c3 x hxm
    have f2 := (hstep x hxm _ _ _ e3).outs o ho1
    exact ((f1.down hb).mono fun i hi hib => hlog.wr i (mem i hi hib)).trans (f2.mono fun i hi _ => a2.wr i hi)
  | regn n ord slots dst op st k iho ihk =>
    intro b h g outs g' e w hb
    obtain ⟨hok, st', h1, l, hrr, e2⟩ := run_regn e
    have hop : ∀ i vs h r h' g', one ((op i vs).run h.next h Log.nil) = .ok r h' g' → h.WF → Fr h.next h Log.nil h' g' := fun i vs h r h' g' e w => (iho i vs _ _ _ _ _ (one_ok e) w (Nat.le_refl _)).fr1
    obtain ⟨w1, n1, l1, _, same, over⟩ := regTr_fr hop (regRun_tr hrr) w
    have f := ihk st' _ _ _ _ _ e2 w1 (Nat.le_trans hb n1)
    refine ⟨(Log.addE_adds b l g).1.trans f.log, fun x hx => ?_⟩
    have fx := f.outs x hx
    refine ⟨fx.wf, Nat.le_trans n1 fx.next, fx.lim.trans l1, fun j hj hw => ?_, fun j hj => (fx.over j (by rw [l1]; exact hj)).trans (over j hj)⟩
    rw [fx.same j hj hw]
    exact same j (by omega) fun y hy hyw => hw (f.log.wr _ (((Log.addE_adds b l g).2 y hy j hj).2 hyw))
end Go.X

namespace Go.X

/-! #### a run hangs on what it touches alone -/
/-- two heaps that agree on A, and two that came of them -/
structure Agree (A : Nat → Prop) (h h2 h' h2' : THeap) : Prop where
  next : h2'.next = h'.next
  lim : h2'.lim = h2.lim
  on : ∀ i, A i → h2'.get i = h'.get i
  off : ∀ i, ¬ A i → h2'.get i = h2.get i
theorem Agree.trans {A : Nat → Prop} {h h2 h' h2' k k2 : THeap} (a : Agree A h h2 h' h2') (c : Agree A h' h2' k k2) : Agree A h h2 k k2 :=
  ⟨c.next, c.lim.trans a.lim, c.on, fun i hi => (c.off i hi).trans (a.off i hi)⟩

def LocalAt (opR : Nat → THeap → Log → OutS) : Prop :=
  ∀ b h g r h' g', opR b h g = .ok r h' g' → h.WF → b ≤ h.next → ∀ (h2 : THeap) (A : Nat → Prop), h2.next = h.next → h'.next ≤ h2.lim → h2.lim ≤ top →
    (∀ i, i ∈ g'.rd → A i) → (∀ i, i ∈ g'.wr → A i) → (∀ i, b ≤ i → i < h2.lim → A i) → (∀ i, A i → h2.get i = h.get i) →
    ∃ h2', opR b h2 g = .ok r h2' g' ∧ Agree A h h2 h' h2'

theorem regTr_local {opR : Nat → List AV → Nat → THeap → Log → OutS} {ord : Nat → Nat → Bool} {slots : Nat → List Nat} {dst : Nat → Option Nat}
    (hop : ∀ i vs h r h' g', opR i vs h.next h Log.nil = .ok r h' g' → h.WF → Fr h.next h Log.nil h' g') (hloc : ∀ i vs, LocalAt (opR i vs)) {l : List Nat} {st : St} {h : THeap} {acc : List RE} {st' : St} {h' : THeap} {acc' : List RE}
    (t : RegTr opR ord slots dst l st h acc st' h' acc') : h.WF → ∀ (h2 : THeap) (A : Nat → Prop), h2.next = h.next → h'.next ≤ h2.lim → h2.lim ≤ top →
    (∀ x, x ∈ acc' → ∀ i, i ∈ x.g.rd ∨ i ∈ x.g.wr → A i) → (∀ i, h.next ≤ i → i < h2.lim → A i) → (∀ i, A i → h2.get i = h.get i) →
    ∃ h2', RegTr opR ord slots dst l st h2 acc st' h2' acc' ∧ Agree A h h2 h' h2' := by
  induction t with
  | nil st h acc => exact fun _ h2 A hn _ _ _ _ hA => ⟨h2, .nil _ _ _, hn, rfl, hA, fun _ _ => rfl⟩
  | @cons i l st h acc v h1 g st' h' acc' e c t ih =>
    intro w h2 A hn hlim htop hx hwin hA
    have f := hop _ _ _ _ _ _ e w
    obtain ⟨w', n', l', ⟨new, hnew⟩, _, _⟩ := regTr_fr hop t f.wf
    have hmem : (⟨i, h.next, h1.next, g⟩ : RE) ∈ acc' := by rw [hnew]; simp
    obtain ⟨h3, e3, a3⟩ := hloc i _ _ _ _ _ _ _ e w (Nat.le_refl _) h2 A hn (by omega) htop (fun j hj => hx _ hmem j (.inl hj)) (fun j hj => hx _ hmem j (.inr hj)) hwin hA
    have hl3 := a3.lim
    have hn3 := a3.next
    obtain ⟨h4, t4, a4⟩ := ih f.wf h3 A hn3 (by omega) (by omega) hx (fun j h1j h2j => hwin j (by have := f.next; omega) (by omega)) a3.on
    refine ⟨h4, ?_, a4.next, a4.lim.trans hl3, a4.on, fun j hj => (a4.off j hj).trans (a3.off j hj)⟩
    rw [← hn] at e3
    refine .cons e3 c ?_
    rw [hn, hn3]; exact t4

/-- outcomes side by side -/
inductive AgL (A : Nat → Prop) (h h2 : THeap) : List (Res × THeap) → List (Res × THeap) → Prop
  | nil : AgL A h h2 [] []
  | cons {r : Res} {h' h2' : THeap} {l l2 : List (Res × THeap)} (a : Agree A h h2 h' h2') (t : AgL A h h2 l l2) : AgL A h h2 ((r, h') :: l) ((r, h2') :: l2)
theorem AgL.base {A : Nat → Prop} {h h2 k k2 : THeap} (a : Agree A h h2 k k2) {l l2 : List (Res × THeap)} (t : AgL A k k2 l l2) : AgL A h h2 l l2 := by
  induction t with
  | nil => exact .nil
  | cons c _ ih => exact .cons (a.trans c) ih
theorem AgL.append {A : Nat → Prop} {h h2 : THeap} {l l2 k k2 : List (Res × THeap)} (t : AgL A h h2 l l2) (u : AgL A h h2 k k2) : AgL A h h2 (l ++ k) (l2 ++ k2) := by
  induction t with
  | nil => exact u
  | cons c _ ih => exact .cons c ih
theorem AgL.fil {A : Nat → Prop} {h h2 : THeap} {l l2 : List (Res × THeap)} (f : Res → Bool) (t : AgL A h h2 l l2) : AgL A h h2 (filL f l) (filL f l2) := by
  induction t with
  | nil => exact .nil
  | @cons r h' h2' l l2 c _ ih =>
    show AgL A h h2 (cnd (f r) ((r, h') :: filL f l) (filL f l)) (cnd (f r) ((r, h2') :: filL f l2) (filL f l2))
    cases f r
    · exact ih
    · exact .cons c ih
theorem AgL.nilL {A : Nat → Prop} {h h2 : THeap} {l l2 : List (Res × THeap)} (t : AgL A h h2 l l2) : isNilL l2 = isNilL l := by cases t <;> rfl
theorem eqAt_congr {a c a2 c2 : THeap} : ∀ {l : List Nat}, (∀ i, i ∈ l → a2.get i = a.get i ∧ c2.get i = c.get i) → eqAt a2 c2 l = eqAt a c l
  | [], _ => rfl
  | i :: l, hh => by
    show cnd (eqOObj (a2.get i) (c2.get i)) (eqAt a2 c2 l) false = cnd (eqOObj (a.get i) (c.get i)) (eqAt a c l) false
    rw [(hh i List.mem_cons_self).1, (hh i List.mem_cons_self).2, eqAt_congr fun j hj => hh j (List.mem_cons_of_mem _ hj)]
theorem eqFrom_congr {a c a2 c2 : THeap} {lo : Nat} : ∀ {n : Nat}, (∀ i, lo ≤ i → i < lo + n → a2.get i = a.get i ∧ c2.get i = c.get i) → eqFrom a2 c2 lo n = eqFrom a c lo n
  | 0, _ => rfl
  | n + 1, hh => by
    show cnd (eqFrom a2 c2 lo n) (eqOObj (a2.get (lo + n)) (c2.get (lo + n))) false = cnd (eqFrom a c lo n) (eqOObj (a.get (lo + n)) (c.get (lo + n))) false
    rw [(hh (lo + n) (by omega) (by omega)).1, (hh (lo + n) (by omega) (by omega)).2, eqFrom_congr fun j h1 h2 => hh j h1 (by omega)]
theorem sameOut_congr {A : Nat → Prop} {h h2 : THeap} {ws : List Nat} {lo : Nat} {r s : Res} {x x2 y y2 : THeap} (a : Agree A h h2 x x2) (c : Agree A h h2 y y2)
    (hA : ∀ i, i ∈ ws → A i) (hw : ∀ i, lo ≤ i → i < x.next → A i) : sameOut ws lo (r, x2) (s, y2) = sameOut ws lo (r, x) (s, y) := by
  unfold sameOut
  simp only
  rw [a.next, c.next, eqAt_congr (a := x) (c := y) fun i hi => ⟨a.on i (hA i hi), c.on i (hA i hi)⟩,
    eqFrom_congr (a := x) (c := y) fun i h1 h2 => by
      have hi := hw i h1 (by simp only [Nat.sub_eq] at h2; omega)
      exact ⟨a.on i hi, c.on i hi⟩]
theorem AgL.dedupe {A : Nat → Prop} {h h2 : THeap} {ws : List Nat} {lo : Nat} (hA : ∀ i, i ∈ ws → A i) {l l2 : List (Res × THeap)} (t : AgL A h h2 l l2) (hw : ∀ x, x ∈ l → ∀ i, lo ≤ i → i < x.2.next → A i) :
    AgL A h h2 (dedupe ws lo l) (dedupe ws lo l2) := by
  induction t with
  | nil => exact .nil
  | @cons r x x2 l l2 c t ih =>
    have ih := ih fun y hy => hw y (List.mem_cons_of_mem _ hy)
    have hx := hw (r, x) List.mem_cons_self
    have e : ∀ {k k2 : List (Res × THeap)}, AgL A h h2 k k2 → anyL (fun y => sameOut ws lo (r, x2) y) k2 = anyL (fun y => sameOut ws lo (r, x) y) k := by
      intro k k2 u
      induction u with
      | nil => rfl
      | @cons s y y2 k k2 d u ihu =>
        show cnd (sameOut ws lo (r, x2) (s, y2)) true (anyL _ k2) = cnd (sameOut ws lo (r, x) (s, y)) true (anyL _ k)
        rw [sameOut_congr c d hA hx, ihu]
    show AgL A h h2 (cnd (anyL (fun y => sameOut ws lo (r, x) y) (Go.X.dedupe ws lo l)) (Go.X.dedupe ws lo l) ((r, x) :: Go.X.dedupe ws lo l)) (cnd (anyL (fun y => sameOut ws lo (r, x2) y) (Go.X.dedupe ws lo l2)) (Go.X.dedupe ws lo l2) ((r, x2) :: Go.X.dedupe ws lo l2))
    rw [e ih]
    cases anyL (fun y => sameOut ws lo (r, x) y) (Go.X.dedupe ws lo l)
    · exact .cons c ih
    · exact ih

/-! #### a run has an outcome -/
theorem dedupe_ne {ws : List Nat} {lo : Nat} : ∀ {l : List (Res × THeap)}, l ≠ [] → dedupe ws lo l ≠ []
  | [], h => absurd rfl h
  | y :: l, _ => by
    show cnd (anyL (fun z => sameOut ws lo y z) (dedupe ws lo l)) (dedupe ws lo l) (y :: dedupe ws lo l) ≠ []
    cases hb : anyL (fun z => sameOut ws lo y z) (dedupe ws lo l)
    · exact fun h => by cases h
    · obtain ⟨z, hz, _⟩ := anyL_iff.1 hb
      intro e
      rw [cnd_true] at e; rw [e] at hz; cases hz
theorem runAll_cons {f : Res → THeap → Log → Out} {x : Res × THeap} {l : List (Res × THeap)} {g : Log} {outs : List (Res × THeap)} {g' : Log} (e : runAll f (x :: l) g = .ok outs g') :
    ∃ l1 g1 l2, f x.1 x.2 g = .ok l1 g1 ∧ runAll f l g1 = .ok l2 g' ∧ outs = l1 ++ l2 := by
  have e' : Out.rec (motive := fun _ => Out) (fun n => .err n) (fun l1 g1 => Out.rec (motive := fun _ => Out) (fun n => .err n) (fun l2 g2 => .ok (l1 ++ l2) g2) (runAll f l g1)) (f x.1 x.2 g) = .ok outs g' := e
  cases h1 : f x.1 x.2 g with
  | err n => rw [h1] at e'; cases e'
  | ok l1 g1 =>
    rw [h1] at e'
    have e2 : Out.rec (motive := fun _ => Out) (fun n => .err n) (fun l2 g2 => .ok (l1 ++ l2) g2) (runAll f l g1) = .ok outs g' := e'
    cases h2 : runAll f l g1 with
    | err n => rw [h2] at e2; cases e2
    | ok l2 g2 => rw [h2] at e2; cases e2; exact ⟨l1, g1, l2, rfl, h2, rfl⟩
theorem runAll_mk {f : Res → THeap → Log → Out} {x : Res × THeap} {l : List (Res × THeap)} {g g1 g2 : Log} {l1 l2 : List (Res × THeap)} (e : f x.1 x.2 g = .ok l1 g1) (e2 : runAll f l g1 = .ok l2 g2) : runAll f (x :: l) g = .ok (l1 ++ l2) g2 := by
  show Out.rec (motive := fun _ => Out) (fun n => .err n) (fun l1 g1 => Out.rec (motive := fun _ => Out) (fun n => .err n) (fun l2 g2 => .ok (l1 ++ l2) g2) (runAll f l g1)) (f x.1 x.2 g) = _
  rw [e]
  show Out.rec (motive := fun _ => Out) (fun n => .err n) (fun l2 g2 => .ok (l1 ++ l2) g2) (runAll f l g1) = _
  rw [e2]
theorem runAll_ne {f : Res → THeap → Log → Out} {l : List (Res × THeap)} {g : Log} {outs : List (Res × THeap)} {g' : Log} (hl : l ≠ []) (hf : ∀ r h g o g1, f r h g = .ok o g1 → o ≠ []) (e : runAll f l g = .ok outs g') : outs ≠ [] := by
  cases l with
  | nil => exact absurd rfl hl
  | cons x t =>
    obtain ⟨l1, g1, l2, h1, _, rfl⟩ := runAll_cons e
    exact fun h => hf _ _ _ _ _ h1 (List.append_eq_nil_iff.1 h).1
theorem loopRun_ne {body : St → THeap → Log → Out} {lo : Nat} {fin : List (Res × THeap) → Log → Out} {res : List (Res × THeap)} {gr : Log} (hb : ∀ s h g o g1, body s h g = .ok o g1 → o ≠ [])
    (hfin : ∀ acc gl, acc ≠ [] → fin acc gl = .ok res gr → res ≠ []) :
    ∀ (n : Nat) (f acc : List (Res × THeap)) (gl : Log), f ≠ [] ∨ acc ≠ [] → loopRun body lo fin n f acc gl = .ok res gr → res ≠ [] := by
  intro n
  induction n with
  | zero =>
    intro f acc gl ho e
    have e' : cnd (isNilL f) (fin acc gl) (.err 1011) = .ok res gr := e
    cases f with
    | nil => exact hfin acc gl (ho.resolve_left fun h => h rfl) e'
    | cons x t => cases e'
  | succ n ih =>
    intro f acc gl ho e
    cases f with
    | nil => exact hfin acc gl (ho.resolve_left fun h => h rfl) e
    | cons x t =>
      have e' : Out.rec (motive := fun _ => Out) (fun n => .err n) (fun l gl' => loopRun body lo fin n (dedupe gl'.wr lo (filL isNorm l)) (dedupe gl'.wr lo (filL (fun r => notB (isNorm r)) l ++ acc)) gl')
        (runAll (fun r h g => stK r fun _ st => body st h g) (x :: t) gl) = .ok res gr := e
      cases hr : runAll (fun r h g => stK r fun _ st => body st h g) (x :: t) gl with
      | err w => rw [hr] at e'; cases e'
      | ok l gl' =>
        rw [hr] at e'
        refine ih _ _ _ ?_ e'
        have hl : l ≠ [] := runAll_ne (by simp) (fun r h g o g1 e => by
          obtain ⟨_, st, _, e4⟩ := stK_ok e
          exact hb _ _ _ _ _ e4) hr
        cases l with
        | nil => exact absurd rfl hl
        | cons y u =>
          cases hy : isNorm y.1
          · refine .inr (dedupe_ne fun h => ?_)
            have : y ∈ filL (fun r => notB (isNorm r)) (y :: u) := filL_iff.2 ⟨List.mem_cons_self, by simp only [hy]; rfl⟩
            rw [(List.append_eq_nil_iff.1 h).1] at this; cases this
          · refine .inl (dedupe_ne fun h => ?_)
            have : y ∈ filL isNorm (y :: u) := filL_iff.2 ⟨List.mem_cons_self, hy⟩
            rw [h] at this; cases this
theorem run_ne : ∀ (m : FM) (b : Nat) (h : THeap) (g : Log) (outs : List (Res × THeap)) (g' : Log), m.run b h g = .ok outs g' → outs ≠ [] := by
  intro m
  induction m with
  | ret r0 => intro b h g outs g' e; cases e; simp
  | fail => intro b h g outs g' e; cases e
  | get i k ih =>
    intro b h g outs g' e
    rw [run_get] at e
    by_cases hi : i < h.next
    · rw [if_pos hi] at e
      cases ho : h.get i with
      | none => rw [ho] at e; cases e
      | some o => rw [ho] at e; exact ih o _ _ _ _ _ e
    · rw [if_neg hi] at e; cases e
  | set i o m ih =>
    intro b h g outs g' e
    rw [run_set] at e
    by_cases hi : i < h.next
    · rw [if_pos hi] at e; exact ih _ _ _ _ _ e
    · rw [if_neg hi] at e; cases e
  | new o k ih =>
    intro b h g outs g' e
    rw [run_new] at e
    by_cases hi : h.next < h.lim
    · rw [if_pos hi] at e; exact ih _ _ _ _ _ _ e
    · rw [if_neg hi] at e; cases e
  | here k ih => intro b h g outs g' e; exact ih _ _ _ _ _ _ e
  | drop a x m ih => intro b h g outs g' e; exact ih _ _ _ _ _ (run_drop _ _ _ _ _ _ e).2.2.2.2
  | choose n k ih =>
    intro b h g outs g' e
    obtain ⟨hn, e'⟩ := run_choose e
    cases n with
    | zero => omega
    | succ n =>
      have e2 : Out.rec (motive := fun _ => Out) (fun w => .err w) (fun l g1 => Out.rec (motive := fun _ => Out) (fun w => .err w) (fun l' g2 => .ok (l ++ l') g2) ((k n).run b h g1)) (chooseRun (fun j g => (k j).run b h g) g n) = .ok outs g' := e'
      cases h1 : chooseRun (fun j g => (k j).run b h g) g n with
      | err w => rw [h1] at e2; cases e2
      | ok l g1 =>
        rw [h1] at e2
        have e3 : Out.rec (motive := fun _ => Out) (fun w => .err w) (fun l' g2 => .ok (l ++ l') g2) ((k n).run b h g1) = .ok outs g' := e2
        cases h2 : (k n).run b h g1 with
        | err w => rw [h2] at e3; cases e3
        | ok l' g2 =>
          rw [h2] at e3; cases e3
          exact fun h => ih n _ _ _ _ _ h2 (List.append_eq_nil_iff.1 h).2
  | any k ih => intro b h g outs g' e; have e' : Out.err 1020 = .ok outs g' := e; cases e'
  | join m k ihm ihk =>
    intro b h g outs g' e
    have e' : Out.rec (motive := fun _ => Out) (fun w => .err w) (fun l g1 => logRds b g1.rd g fun g0 => logWrs b g1.wr g0 fun g' => runAll (fun r h' g => (k r).run b h' g) (dedupe g1.wr h.next l) g') (m.run h.next h Log.nil) = .ok outs g' := e
    cases h1 : m.run h.next h Log.nil with
    | err w => rw [h1] at e'; cases e'
    | ok l g1 =>
      rw [h1] at e'
      obtain ⟨g2, eq, _⟩ := Log.addRW b g1.rd g1.wr g
      have e2 : (logRds b g1.rd g fun g0 => logWrs b g1.wr g0 fun g' => runAll (fun r h' g => (k r).run b h' g) (dedupe g1.wr h.next l) g') = .ok outs g' := e'
      rw [eq] at e2
      exact runAll_ne (dedupe_ne (ihm _ _ _ _ _ h1)) (fun r h g o g1 e => ihk r _ _ _ _ _ e) e2
  | loop n body st k ihb ihk =>
    intro b h g outs g' e
    rw [run_loop] at e
    refine loopRun_ne (fun s h g o g1 e => ihb s _ _ _ _ _ e) (fun acc gl ha e => ?_) _ _ _ _ (.inl (by simp)) e
    obtain ⟨g2, eq, _⟩ := Log.addRW b gl.rd gl.wr g
    rw [eq] at e
    exact runAll_ne ha (fun r h g o g1 e => by
      obtain ⟨_, _, _, e4⟩ := stK_ok e
      exact ihk _ _ _ _ _ _ _ e4) e
  | regn n ord slots dst op st k iho ihk =>
    intro b h g outs g' e
    obtain ⟨hok, st', h1, l, hrr, e2⟩ := run_regn e
    exact ihk st' _ _ _ _ _ e2
end Go.X

namespace Go.X

theorem run_drop_mk (a w : Nat) (m : FM) (b : Nat) (h : THeap) (g : Log) (h1 : b ≤ a) (h2 : a ≤ h.next) (h3 : h.next ≤ a + w) (h4 : a + w ≤ h.lim) :
    (FM.drop a w m).run b h g = m.run b ((dropIdsT a (h.next - a) h).win (a + w) h.lim) g := by
  show cnd (cnd (cnd (Nat.ble b a) (Nat.ble a h.next) false) (cnd (Nat.ble h.next (Nat.add a w)) (Nat.ble (Nat.add a w) h.lim) false) false)
      (dropK a (Nat.sub h.next a) h.t fun t' => forceNat (Nat.add a w) fun n => m.run b ⟨t', n, h.lim⟩ g) (.err 1012) = _
  rw [ble_iff.2 h1, ble_iff.2 h2, show Nat.ble h.next (Nat.add a w) = true from ble_iff.2 h3, show Nat.ble (Nat.add a w) h.lim = true from ble_iff.2 h4]
  simp only [cnd_true]
  rw [dropK_eq, forceNat_eq]; rfl

def LocalM (m : FM) : Prop :=
  ∀ (b : Nat) (h : THeap) (g : Log) (outs : List (Res × THeap)) (g' : Log), m.run b h g = .ok outs g' → h.WF → b ≤ h.next → ∀ (h2 : THeap) (A : Nat → Prop), h2.next = h.next → (∀ o, o ∈ outs → o.2.next ≤ h2.lim) → h2.lim ≤ top →
    (∀ i, i ∈ g'.rd → A i) → (∀ i, i ∈ g'.wr → A i) → (∀ i, b ≤ i → i < h2.lim → A i) → (∀ i, A i → h2.get i = h.get i) →
    ∃ outs2, m.run b h2 g = .ok outs2 g' ∧ AgL A h h2 outs outs2
theorem LocalM.one {m : FM} (hm : LocalM m) : LocalAt fun b h g => one (m.run b h g) := by
  intro b h g r h' g' e w hb h2 A hn hl ht hr hw hwin hA
  have e1 := one_ok e
  obtain ⟨outs2, e2, a2⟩ := hm _ _ _ _ _ e1 w hb h2 A hn (fun o ho => by
    have : o = (r, h') := by simpa using ho
    subst this; exact hl) ht hr hw hwin hA
  cases a2 with
  | cons a t =>
    cases t
    exact ⟨_, by show Go.X.one (m.run b h2 g) = _; rw [e2]; rfl, a⟩
theorem run_lim {m : FM} {b : Nat} {h : THeap} {g : Log} {outs : List (Res × THeap)} {g' : Log} (e : m.run b h g = .ok outs g') (w : h.WF) (hb : b ≤ h.next) {L : Nat} (hL : ∀ o, o ∈ outs → o.2.next ≤ L) : h.next ≤ L := by
  cases outs with
  | nil => exact absurd rfl (run_ne _ _ _ _ _ _ e)
  | cons x t => exact Nat.le_trans ((run_fr _ _ _ _ _ _ e w hb).outs x List.mem_cons_self).next (hL x List.mem_cons_self)

theorem runAll_local {f : Res → THeap → Log → Out} {b L : Nat} {A : Nat → Prop} {h h2 : THeap} {l l2 : List (Res × THeap)} (t : AgL A h h2 l l2) :
    ∀ {g : Log} {outs : List (Res × THeap)} {g' : Log}, runAll f l g = .ok outs g' → (∀ x, x ∈ l → ∀ g o g1, f x.1 x.2 g = .ok o g1 → Log.Adds b g g1) →
    (∀ r h' h2', (r, h') ∈ l → Agree A h h2 h' h2' → ∀ g o g1, f r h' g = .ok o g1 → (∀ q, q ∈ o → q.2.next ≤ L) → (∀ i, i ∈ g1.rd → A i) → (∀ i, i ∈ g1.wr → A i) → ∃ o2, f r h2' g = .ok o2 g1 ∧ AgL A h h2 o o2) →
    (∀ q, q ∈ outs → q.2.next ≤ L) → (∀ i, i ∈ g'.rd → A i) → (∀ i, i ∈ g'.wr → A i) → ∃ outs2, runAll f l2 g = .ok outs2 g' ∧ AgL A h h2 outs outs2 := by
  induction t with
  | nil =>
    intro g outs g' e _ _ _ _ _
    have e' : Out.ok [] g = .ok outs g' := e
    cases e'
    exact ⟨[], rfl, .nil⟩
  | @cons r h' h2' l l2 a t ih =>
    intro g outs g' e hadd hstep hL hr hw
    obtain ⟨l1, g1, l3, e1, e2, rfl⟩ := runAll_cons e
    have hlog := (runAll_tr e2).log (b := b) fun x hx => hadd x (List.mem_cons_of_mem _ hx)
    obtain ⟨o2, f1, a1⟩ := hstep r h' h2' List.mem_cons_self a _ _ _ e1 (fun q hq => hL q (List.mem_append_left _ hq)) (fun i hi => hr i (hlog.rd i hi)) (fun i hi => hw i (hlog.wr i hi))
    obtain ⟨o3, f2, a2⟩ := ih e2 (fun x hx => hadd x (List.mem_cons_of_mem _ hx)) (fun r h' h2' hm => hstep r h' h2' (List.mem_cons_of_mem _ hm)) (fun q hq => hL q (List.mem_append_right _ hq)) hr hw
    exact ⟨o2 ++ o3, runAll_mk (x := (r, h2')) f1 f2, a1.append a2⟩
theorem chooseRun_local {f f2 : Nat → Log → Out} {b : Nat} {g : Log} {L : Nat} {A : Nat → Prop} {h h2 : THeap} (hf : ∀ j g o g1, f j g = .ok o g1 → Log.Adds b g g1) :
    ∀ {n : Nat} {outs : List (Res × THeap)} {g' : Log}, chooseRun f g n = .ok outs g' →
    (∀ j, j < n → ∀ g o g1, f j g = .ok o g1 → (∀ q, q ∈ o → q.2.next ≤ L) → (∀ i, i ∈ g1.rd → A i) → (∀ i, i ∈ g1.wr → A i) → ∃ o2, f2 j g = .ok o2 g1 ∧ AgL A h h2 o o2) →
    (∀ q, q ∈ outs → q.2.next ≤ L) → (∀ i, i ∈ g'.rd → A i) → (∀ i, i ∈ g'.wr → A i) → ∃ outs2, chooseRun f2 g n = .ok outs2 g' ∧ AgL A h h2 outs outs2
  | 0, outs, g', e, _, _, _, _ => by
    have e' : Out.ok [] g = .ok outs g' := e
    cases e'
    exact ⟨[], rfl, .nil⟩
  | n + 1, outs, g', e, hstep, hL, hr, hw => by
    have e' : Out.rec (motive := fun _ => Out) (fun w => .err w) (fun l g1 => Out.rec (motive := fun _ => Out) (fun w => .err w) (fun l' g2 => .ok (l ++ l') g2) (f n g1)) (chooseRun f g n) = .ok outs g' := e
    cases h1 : chooseRun f g n with
    | err w => rw [h1] at e'; cases e'
    | ok l g1 =>
      rw [h1] at e'
      have e2 : Out.rec (motive := fun _ => Out) (fun w => .err w) (fun l' g2 => .ok (l ++ l') g2) (f n g1) = .ok outs g' := e'
      cases h2 : f n g1 with
      | err w => rw [h2] at e2; cases e2
      | ok l' g2 =>
        rw [h2] at e2; cases e2
        have hlog := hf _ _ _ _ h2
        obtain ⟨o1, f1, a1⟩ := chooseRun_local hf h1 (fun j hj => hstep j (by omega)) (fun q hq => hL q (List.mem_append_left _ hq)) (fun i hi => hr i (hlog.rd i hi)) (fun i hi => hw i (hlog.wr i hi))
        obtain ⟨o2, e3, a2⟩ := hstep n (Nat.lt_succ_self _) _ _ _ h2 (fun q hq => hL q (List.mem_append_right _ hq)) hr hw
        refine ⟨o1 ++ o2, ?_, a1.append a2⟩
        show Out.rec (motive := fun _ => Out) (fun w => .err w) (fun l g1 => Out.rec (motive := fun _ => Out) (fun w => .err w) (fun l' g2 => .ok (l ++ l') g2) (f2 n g1)) (chooseRun f2 g n) = _
        rw [f1]
        show Out.rec (motive := fun _ => Out) (fun w => .err w) (fun l' g2 => .ok (o1 ++ l') g2) (f2 n g1) = _
        rw [e3]

theorem loopRun_local {body : St → THeap → Log → Out} {lo : Nat} {h0 : THeap} (hb : LoopIn body lo h0) (hlo : lo ≤ h0.next) (hne : ∀ s h g o g1, body s h g = .ok o g1 → o ≠ [])
    {L : Nat} {A : Nat → Prop} {h2 : THeap} (hwin : ∀ i, lo ≤ i → i < L → A i)
    (hloc : ∀ st h' h2' g o g1, body st h' g = .ok o g1 → h'.WF → lo ≤ h'.next → Agree A h0 h2 h' h2' → (∀ q, q ∈ o → q.2.next ≤ L) → (∀ i, i ∈ g1.rd → A i) → (∀ i, i ∈ g1.wr → A i) → ∃ o2, body st h2' g = .ok o2 g1 ∧ AgL A h0 h2 o o2)
    {fin : List (Res × THeap) → Log → Out} {res : List (Res × THeap)} {gr : Log} :
    ∀ (n : Nat) (f acc : List (Res × THeap)) (gl : Log), loopRun body lo fin n f acc gl = .ok res gr → (∀ x, x ∈ f → HF lo h0 x.2 gl.wr) → (∀ x, x ∈ acc → HF lo h0 x.2 gl.wr) →
    ∃ accF glF, fin accF glF = .ok res gr ∧ Log.Adds lo gl glF ∧ (∀ x, x ∈ accF → HF lo h0 x.2 glF.wr) ∧ (∀ x, x ∈ acc → x ∈ accF) ∧ (∀ x, x ∈ f → ∃ y, y ∈ accF ∧ x.2.next ≤ y.2.next) ∧
      ((∀ x, x ∈ accF → x.2.next ≤ L) → (∀ i, i ∈ glF.rd → A i) → (∀ i, i ∈ glF.wr → A i) → ∀ f2 acc2, AgL A h0 h2 f f2 → AgL A h0 h2 acc acc2 →
        ∃ accF2, AgL A h0 h2 accF accF2 ∧ ∀ fin' : List (Res × THeap) → Log → Out, loopRun body lo fin' n f2 acc2 gl = fin' accF2 glF) := by
  intro n
  have nilCase : ∀ (f acc : List (Res × THeap)) (gl : Log) (m : Nat), isNilL f = true → fin acc gl = .ok res gr → (∀ x, x ∈ acc → HF lo h0 x.2 gl.wr) →
      ∃ accF glF, fin accF glF = .ok res gr ∧ Log.Adds lo gl glF ∧ (∀ x, x ∈ accF → HF lo h0 x.2 glF.wr) ∧ (∀ x, x ∈ acc → x ∈ accF) ∧ (∀ x, x ∈ f → ∃ y, y ∈ accF ∧ x.2.next ≤ y.2.next) ∧
      ((∀ x, x ∈ accF → x.2.next ≤ L) → (∀ i, i ∈ glF.rd → A i) → (∀ i, i ∈ glF.wr → A i) → ∀ f2 acc2, AgL A h0 h2 f f2 → AgL A h0 h2 acc acc2 →
        ∃ accF2, AgL A h0 h2 accF accF2 ∧ ∀ fin' : List (Res × THeap) → Log → Out, loopRun body lo fin' m f2 acc2 gl = fin' accF2 glF) := by
    intro f acc gl m hn e hacc
    cases f with
    | nil =>
      refine ⟨acc, gl, e, .refl _ _, hacc, fun _ h => h, fun _ h => absurd h List.not_mem_nil, fun _ _ _ f2 acc2 a1 a2 => ⟨acc2, a2, fun fin' => ?_⟩⟩
      cases a1
      cases m <;> rfl
    | cons x t => exact ff hn
  induction n with
  | zero =>
    intro f acc gl e hf hacc
    have e' : cnd (isNilL f) (fin acc gl) (.err 1011) = .ok res gr := e
    cases hn : isNilL f
    · rw [hn, cnd_false] at e'; cases e'
    · rw [hn, cnd_true] at e'; exact nilCase f acc gl 0 hn e' hacc
  | succ n ih =>
    intro f acc gl e hf hacc
    have e' : cnd (isNilL f) (fin acc gl)
      (Out.rec (motive := fun _ => Out) (fun n => .err n) (fun l gl' => loopRun body lo fin n (dedupe gl'.wr lo (filL isNorm l)) (dedupe gl'.wr lo (filL (fun r => notB (isNorm r)) l ++ acc)) gl')
        (runAll (fun r h g => stK r fun _ st => body st h g) f gl)) = .ok res gr := e
    cases hn : isNilL f
    · rw [hn, cnd_false] at e'
      cases hr : runAll (fun r h g => stK r fun _ st => body st h g) f gl with
      | err w => rw [hr] at e'; cases e'
      | ok l gl' =>
        rw [hr] at e'
        have e2 : loopRun body lo fin n (dedupe gl'.wr lo (filL isNorm l)) (dedupe gl'.wr lo (filL (fun r => notB (isNorm r)) l ++ acc)) gl' = .ok res gr := e'
        have tr := runAll_tr hr
        have hstep : ∀ x, x ∈ f → ∀ g o g1, (stK x.1 fun _ st => body st x.2 g) = .ok o g1 → Log.Adds lo g g1 := by
          intro x hx g o g1 e
          obtain ⟨_, st, _, e3⟩ := stK_ok e
          exact (hb.fr _ _ _ _ _ e3 (hf x hx).wf (Nat.le_trans hlo (hf x hx).next)).log
        have hlog := tr.log hstep
        obtain ⟨i1, i2⟩ := tr.each hstep
        have hl : ∀ o, o ∈ l → HF lo h0 o.2 gl'.wr := by
          intro o ho
          obtain ⟨x, g0, g1, o1, hx, e3, hoo, a1, a2⟩ := i1 o ho
          obtain ⟨_, st, _, e4⟩ := stK_ok e3
          have f1 := hf x hx
          have f2 := (hb.fr _ _ _ _ _ e4 f1.wf (Nat.le_trans hlo f1.next)).outs o hoo
          exact (f1.mono fun i hi _ => hlog.wr i hi).trans (f2.mono fun i hi _ => a2.wr i hi)
        have hN : ∀ x, x ∈ filL isNorm l → HF lo h0 x.2 gl'.wr := fun x hx => hl x (filL_iff.1 hx).1
        have hE : ∀ x, x ∈ filL (fun r => notB (isNorm r)) l ++ acc → HF lo h0 x.2 gl'.wr := by
          intro x hx
          rcases List.mem_append.1 hx with hx | hx
          · exact hl x (filL_iff.1 hx).1
          · exact (hacc x hx).mono fun i hi _ => hlog.wr i hi
        obtain ⟨accF, glF, c1, c2, c3, c4, c5, c6⟩ := ih _ _ _ e2 (fun x hx => hN x (dedupe_sub hx)) (fun x hx => hE x (dedupe_sub hx))
        have hup : ∀ o, o ∈ l → ∃ y, y ∈ accF ∧ o.2.next ≤ y.2.next := by
          intro o ho
          cases hno : isNorm o.1
          · exact ⟨o, c4 _ (dedupe_mem hE _ (List.mem_append_left _ (filL_iff.2 ⟨ho, by simp only [hno]; rfl⟩))), Nat.le_refl _⟩
          · exact c5 o (dedupe_mem hN _ (filL_iff.2 ⟨ho, hno⟩))
        refine ⟨accF, glF, c1, hlog.trans c2, c3, fun x hx => c4 x (dedupe_mem hE x (List.mem_append_right _ hx)), fun x hx => ?_, fun hL hRd hWr f2 acc2 af aacc => ?_⟩
        · obtain ⟨g0, g1, o1, e3, hsub, _, _⟩ := i2 x hx
          obtain ⟨_, st, _, e4⟩ := stK_ok e3
          cases o1 with
          | nil => exact absurd rfl (hne _ _ _ _ _ e4)
          | cons q t =>
            obtain ⟨y, hy, hle⟩ := hup q (hsub q List.mem_cons_self)
            have := ((hb.fr _ _ _ _ _ e4 (hf x hx).wf (Nat.le_trans hlo (hf x hx).next)).outs q List.mem_cons_self).next
            exact ⟨y, hy, by omega⟩
        · have hlL : ∀ q, q ∈ l → q.2.next ≤ L := fun q hq => by
            obtain ⟨y, hy, hle⟩ := hup q hq
            have := hL y hy; omega
          have hrd' : ∀ i, i ∈ gl'.rd → A i := fun i hi => hRd i (c2.rd i hi)
          have hwr' : ∀ i, i ∈ gl'.wr → A i := fun i hi => hWr i (c2.wr i hi)
          obtain ⟨l2, r2, al⟩ := runAll_local (b := lo) af hr hstep (fun r h' h2' hm a g o g1 e hq h1 h2 => by
            obtain ⟨x, st, hx, e4⟩ := stK_ok e
            obtain ⟨o2, e5, a5⟩ := hloc st h' h2' g o g1 e4 (hf _ hm).wf (Nat.le_trans hlo (hf _ hm).next) a hq h1 h2
            refine ⟨o2, ?_, a5⟩
            have hx' : r = .st x st := hx
            rw [hx']; exact e5) hlL hrd' hwr'
          have hN2 := (al.fil isNorm).dedupe (ws := gl'.wr) (lo := lo) hwr' fun x hx i h1 h2 => hwin i h1 (by have := hlL x (filL_iff.1 hx).1; omega)
          have hE2 := ((al.fil (fun r => notB (isNorm r))).append aacc).dedupe (ws := gl'.wr) (lo := lo) hwr' fun x hx i h1 h2 => hwin i h1 (by
            have := hL x (c4 x (dedupe_mem hE x hx)); omega)
          obtain ⟨accF2, a6, e6⟩ := c6 hL hRd hWr _ _ hN2 hE2
          refine ⟨accF2, a6, fun fin' => ?_⟩
          show cnd (isNilL f2) (fin' acc2 gl)
            (Out.rec (motive := fun _ => Out) (fun n => .err n) (fun l gl' => loopRun body lo fin' n (dedupe gl'.wr lo (filL isNorm l)) (dedupe gl'.wr lo (filL (fun r => notB (isNorm r)) l ++ acc2)) gl')
              (runAll (fun r h g => stK r fun _ st => body st h g) f2 gl)) = _
          rw [af.nilL, hn, cnd_false, r2]
          exact e6 fin'
    · rw [hn, cnd_true] at e'; exact nilCase f acc gl (n + 1) hn e' hacc
end Go.X

namespace Go.X

theorem AgL.left {A : Nat → Prop} {h h2 : THeap} {l l2 : List (Res × THeap)} (t : AgL A h h2 l l2) : ∀ x, x ∈ l → ∃ y, (x.1, y) ∈ l2 ∧ Agree A h h2 x.2 y := by
  induction t with
  | nil => exact fun _ h => absurd h List.not_mem_nil
  | cons a t ih =>
    intro x hx
    rcases List.mem_cons.1 hx with rfl | hx
    · exact ⟨_, List.mem_cons_self, a⟩
    · obtain ⟨y, h1, h2⟩ := ih x hx
      exact ⟨y, List.mem_cons_of_mem _ h1, h2⟩
theorem run_local : ∀ (m : FM), LocalM m := by
  intro m
  induction m with
  | ret r0 =>
    intro b h g outs g' e w hb h2 A hn hl ht hr hw hwin hA
    cases e
    exact ⟨_, rfl, .cons ⟨hn, rfl, hA, fun _ _ => rfl⟩ .nil⟩
  | fail => intro b h g outs g' e; cases e
  | get i k ih =>
    intro b h g outs g' e w hb h2 A hn hl ht hr hw hwin hA
    rw [run_get] at e
    by_cases hi : i < h.next
    case neg => rw [if_neg hi] at e; cases e
    rw [if_pos hi] at e
    cases ho : h.get i with
    | none => rw [ho] at e; cases e
    | some o =>
      rw [ho] at e
      have f := run_fr _ _ _ _ _ _ e w hb
      have hlim := run_lim e w hb hl
      have hAi : A i := by
        by_cases hib : i < b
        · exact hr i (f.log.rd _ ((Log.addR_adds b i g).2.1 hib))
        · exact hwin i (by omega) (by omega)
      obtain ⟨h3, e3, a3⟩ := ih o _ _ _ _ _ e w hb h2 A hn hl ht hr hw hwin hA
      refine ⟨h3, ?_, a3⟩
      rw [run_get, if_pos (by omega), hA i hAi, ho]; exact e3
  | set i o m ih =>
    intro b h g outs g' e w hb h2 A hn hl ht hr hw hwin hA
    rw [run_set] at e
    by_cases hi : i < h.next
    case neg => rw [if_neg hi] at e; cases e
    rw [if_pos hi] at e
    have f := run_fr _ _ _ _ _ _ e (w.put hi o) hb
    have hlim := run_lim e (w.put hi o) hb hl
    simp only [THeap.next_put] at hlim
    have hAi : A i := by
      by_cases hib : i < b
      · exact hw i (f.log.wr _ ((Log.addW_adds b i g).2.1 hib))
      · exact hwin i (by omega) (by omega)
    have hit : i < top := by have := w.lim; have := w.top; omega
    obtain ⟨h3, e3, a3⟩ := ih _ _ _ _ _ e (w.put hi o) hb (h2.put i (some o)) A hn hl ht hr hw hwin (fun j hj => by rw [THeap.get_put _ hit, THeap.get_put _ hit, hA j hj])
    have ag : Agree A h h2 (h.put i (some o)) (h2.put i (some o)) := ⟨hn, rfl, fun j hj => by rw [THeap.get_put _ hit, THeap.get_put _ hit, hA j hj], fun j hj => by
      rw [THeap.get_put _ hit, if_neg (by rintro rfl; exact hj hAi)]⟩
    refine ⟨h3, ?_, a3.base ag⟩
    rw [run_set, if_pos (by omega)]; exact e3
  | new o k ih =>
    intro b h g outs g' e w hb h2 A hn hl ht hr hw hwin hA
    rw [run_new] at e
    by_cases hi : h.next < h.lim
    case neg => rw [if_neg hi] at e; cases e
    rw [if_pos hi] at e
    have w1 := w.newO hi o
    have hlim := run_lim e w1 (Nat.le_trans hb (Nat.le_succ _)) hl
    simp only [THeap.newO_next] at hlim
    have hAi : A h.next := hwin _ hb (by omega)
    have hit : h.next < top := by have := w.top; omega
    have hg : ∀ j, A j → (h2.newO o).get j = (h.newO o).get j := fun j hj => by rw [THeap.newO_get _ hit, THeap.newO_get _ (by omega), hA j hj, hn]
    obtain ⟨h3, e3, a3⟩ := ih _ _ _ _ _ _ e w1 (Nat.le_trans hb (Nat.le_succ _)) (h2.newO o) A (by simp [hn]) hl ht hr hw hwin hg
    have ag : Agree A h h2 (h.newO o) (h2.newO o) := ⟨by simp [hn], rfl, hg, fun j hj => by
      rw [THeap.newO_get _ (by omega), if_neg (fun hh => hj (by rw [hh, hn]; exact hAi))]⟩
    refine ⟨h3, ?_, a3.base ag⟩
    rw [run_new, if_pos (by omega), hn]; exact e3
  | here k ih =>
    intro b h g outs g' e w hb h2 A hn hl ht hr hw hwin hA
    obtain ⟨o2, e2, a2⟩ := ih h.next _ _ _ _ _ e w hb h2 A hn hl ht hr hw hwin hA
    refine ⟨o2, ?_, a2⟩
    show (k h2.next).run b h2 g = _
    rw [hn]; exact e2
  | drop a x m ih =>
    intro b h g outs g' e w hb h2 A hn hl ht hr hw hwin hA
    obtain ⟨d0, d1, d2, d3, e2⟩ := run_drop _ _ _ _ _ _ e
    have hl' := w.lim; have ht' := w.top
    have w1 := drop_wf w d1 d2 d3
    have hlim := run_lim e2 w1 (by simp only [THeap.win_next]; omega) hl
    simp only [THeap.win_next] at hlim
    have hg : ∀ j, A j → ((dropIdsT a (h2.next - a) h2).win (a + x) h2.lim).get j = ((dropIdsT a (h.next - a) h).win (a + x) h.lim).get j := fun j hj => by
      rw [THeap.win_get, THeap.win_get, dropIdsT_get _ _ _ (by omega), dropIdsT_get _ _ _ (by omega), hn, hA j hj]
    obtain ⟨o2, e3, a3⟩ := ih _ _ _ _ _ e2 w1 (by simp only [THeap.win_next]; omega) ((dropIdsT a (h2.next - a) h2).win (a + x) h2.lim) A rfl hl ht hr hw hwin hg
    have ag : Agree A h h2 ((dropIdsT a (h.next - a) h).win (a + x) h.lim) ((dropIdsT a (h2.next - a) h2).win (a + x) h2.lim) := ⟨rfl, rfl, hg, fun j hj => by
      rw [THeap.win_get, dropIdsT_get _ _ _ (by omega), if_neg (fun hh => hj (hwin j (by omega) (by omega)))]⟩
    refine ⟨o2, ?_, a3.base ag⟩
    rw [run_drop_mk _ _ _ _ _ _ d0 (by omega) (by omega) (by omega)]; exact e3
  | choose n k ih =>
    intro b h g outs g' e w hb h2 A hn hl ht hr hw hwin hA
    obtain ⟨hpos, e⟩ := run_choose e
    obtain ⟨o2, e2, a2⟩ := chooseRun_local (b := b) (f2 := fun j g => (k j).run b h2 g) (A := A) (h := h) (h2 := h2) (L := h2.lim) (fun j g o g1 e => (run_fr _ _ _ _ _ _ e w hb).log) e
      (fun j hj g o g1 e hq h1 h3 => ih j _ _ _ _ _ e w hb h2 A hn hq ht h1 h3 hwin hA) hl hr hw
    refine ⟨o2, ?_, a2⟩
    cases n with
    | zero => omega
    | succ n => exact e2
  | any k ih => intro b h g outs g' e w hb h2 A hn hl ht hr hw hwin hA; have e' : Out.err 1020 = .ok outs g' := e; cases e'
  | join m k ihm ihk =>
    intro b h g outs g' e w hb h2 A hn hl ht hr hw hwin hA
    have e' : Out.rec (motive := fun _ => Out) (fun w => .err w) (fun l g1 => logRds b g1.rd g fun g0 => logWrs b g1.wr g0 fun g' => runAll (fun r h' g => (k r).run b h' g) (dedupe g1.wr h.next l) g') (m.run h.next h Log.nil) = .ok outs g' := e
    cases e1 : m.run h.next h Log.nil with
    | err w => rw [e1] at e'; cases e'
    | ok l g1 =>
      rw [e1] at e'
      have fm := run_fr _ _ _ _ _ _ e1 w (Nat.le_refl _)
      obtain ⟨g2, eq, ad, mr, mem⟩ := Log.addRW b g1.rd g1.wr g
      have e2 : (logRds b g1.rd g fun g0 => logWrs b g1.wr g0 fun g' => runAll (fun r h' g => (k r).run b h' g) (dedupe g1.wr h.next l) g') = .ok outs g' := e'
      rw [eq] at e2
      have tr := runAll_tr e2
      have hx : ∀ x, x ∈ dedupe g1.wr h.next l → HF h.next h x.2 g1.wr := fun x hx => fm.outs x (dedupe_sub hx)
      have hstep : ∀ x, x ∈ dedupe g1.wr h.next l → ∀ g o g3, (k x.1).run b x.2 g = .ok o g3 → Log.Adds b g g3 := fun x hxm g o g3 e =>
        (run_fr _ _ _ _ _ _ e (hx x hxm).wf (Nat.le_trans hb (hx x hxm).next)).log
      have hlog := tr.log hstep
      have hlim : ∀ x, x ∈ l → x.2.next ≤ h2.lim := fun x hxl => by
        have hd := dedupe_mem (lo := h.next) (h := h) (ws := g1.wr) fm.outs x hxl
        obtain ⟨g0, g3, o1, e3, hsub, _, _⟩ := (tr.each hstep).2 x hd
        exact run_lim e3 (hx x hd).wf (Nat.le_trans hb (hx x hd).next) fun q hq => hl q (hsub q hq)
      have hnl : h.next ≤ h2.lim := run_lim e1 w (Nat.le_refl _) hlim
      have hAr : ∀ i, i ∈ g1.rd → A i := fun i hi => by
        have hlt : i < h.next := ((fm.log.lo i).1 hi).elim (fun h => absurd h List.not_mem_nil) id
        by_cases hib : i < b
        · exact hr i (hlog.rd i (mr i hi hib))
        · exact hwin i (by omega) (by omega)
      have hAw : ∀ i, i ∈ g1.wr → A i := fun i hi => by
        have hlt : i < h.next := ((fm.log.lo i).2 hi).elim (fun h => absurd h List.not_mem_nil) id
        by_cases hib : i < b
        · exact hw i (hlog.wr i (mem i hi hib))
        · exact hwin i (by omega) (by omega)
      obtain ⟨l2, e3, al⟩ := ihm _ _ _ _ _ e1 w (Nat.le_refl _) h2 A hn hlim ht hAr hAw (fun i h1 h2 => hwin i (by omega) h2) hA
      have ad2 := al.dedupe (ws := g1.wr) (lo := h.next) hAw fun x hx i h1 h2 => hwin i (by omega) (by have := hlim x hx; omega)
      obtain ⟨o2, e4, a4⟩ := runAll_local (b := b) (f := fun r h' g => (k r).run b h' g) (L := h2.lim) ad2 e2 hstep (fun r h' h2' hm a g o g1 e hq h1 h3 => by
        have hxm := hx _ hm
        obtain ⟨o3, e5, a5⟩ := ihk r _ _ _ _ _ e hxm.wf (Nat.le_trans hb hxm.next) h2' A a.next (by rw [a.lim]; exact hq) (by rw [a.lim]; exact ht) h1 h3 (by rw [a.lim]; exact hwin) a.on
        exact ⟨o3, e5, a5.base a⟩) hl hr hw
      refine ⟨o2, ?_, a4⟩
      show Out.rec (motive := fun _ => Out) (fun w => .err w) (fun l g1 => logRds b g1.rd g fun g0 => logWrs b g1.wr g0 fun g' => runAll (fun r h' g => (k r).run b h' g) (dedupe g1.wr h2.next l) g') (m.run h2.next h2 Log.nil) = _
      rw [hn, e3]
      exact (eq _).trans e4
  | loop n body st k ihb ihk =>
    intro b h g outs g' e w hb h2 A hn hl ht hr hw hwin hA
    rw [run_loop] at e
    have hin : LoopIn (fun s h' g => (body s).run h.next h' g) h.next h := ⟨fun st' h' g outs g' e w' hl => run_fr _ _ _ _ _ _ e w' hl⟩
    have h0 : Agree A h h2 h h2 := ⟨hn, rfl, hA, fun _ _ => rfl⟩
    obtain ⟨accF, glF, c1, c2, c3, c4, c5, c6⟩ := loopRun_local hin (Nat.le_refl _) (fun s h g o g1 e => run_ne _ _ _ _ _ _ e) (L := h2.lim) (A := A) (h2 := h2) (fun i h1 h2 => hwin i (by omega) h2)
      (fun st' h' h2' g o g1 e w' hlo a hq h1 h3 => by
        obtain ⟨o3, e5, a5⟩ := ihb st' _ _ _ _ _ e w' hlo h2' A a.next (by rw [a.lim]; exact hq) (by rw [a.lim]; exact ht) h1 h3 (by rw [a.lim]; exact fun i h1 h2 => hwin i (by omega) h2) a.on
        exact ⟨o3, e5, a5.base a⟩)
      n _ _ _ e (fun x hx => by
        have : x = (.st .normal st, h) := by simpa using hx
        subst this; exact HF.refl w _) (fun x hx => absurd hx List.not_mem_nil)
    obtain ⟨g2, eq, ad, mr, mem⟩ := Log.addRW b glF.rd glF.wr g
    have c1' := c1
    rw [eq] at c1'
    have tr := runAll_tr c1'
    have hstep : ∀ x, x ∈ accF → ∀ g o g3, (stK x.1 fun e s => (k e s).run b x.2 g) = .ok o g3 → FrO b x.2 g o g3 := fun x hx g o g3 e => by
      obtain ⟨ex, s, _, e3⟩ := stK_ok e
      exact run_fr _ _ _ _ _ _ e3 (c3 x hx).wf (Nat.le_trans hb (c3 x hx).next)
    have hstep' : ∀ x, x ∈ accF → ∀ g o g3, (stK x.1 fun e s => (k e s).run b x.2 g) = .ok o g3 → Log.Adds b g g3 := fun x hx g o g3 e => (hstep x hx g o g3 e).log
    have hlog := tr.log hstep'
    have hlim : ∀ x, x ∈ accF → x.2.next ≤ h2.lim := fun x hxl => by
      obtain ⟨g0, g3, o1, e3, hsub, _, _⟩ := (tr.each hstep').2 x hxl
      obtain ⟨ex, s, _, e4⟩ := stK_ok e3
      exact run_lim e4 (c3 x hxl).wf (Nat.le_trans hb (c3 x hxl).next) fun q hq => hl q (hsub q hq)
    have hnl : h.next ≤ h2.lim := by
      obtain ⟨y, hy, hle⟩ := c5 (.st .normal st, h) List.mem_cons_self
      have := hlim y hy; simp only at hle; omega
    have hAr : ∀ i, i ∈ glF.rd → A i := fun i hi => by
      have hlt : i < h.next := ((c2.lo i).1 hi).elim (fun h => absurd h List.not_mem_nil) id
      by_cases hib : i < b
      · exact hr i (hlog.rd i (mr i hi hib))
      · exact hwin i (by omega) (by omega)
    have hAw : ∀ i, i ∈ glF.wr → A i := fun i hi => by
      have hlt : i < h.next := ((c2.lo i).2 hi).elim (fun h => absurd h List.not_mem_nil) id
      by_cases hib : i < b
      · exact hw i (hlog.wr i (mem i hi hib))
      · exact hwin i (by omega) (by omega)
    obtain ⟨accF2, af, ef⟩ := c6 hlim hAr hAw [(.st .normal st, h2)] [] (.cons h0 .nil) .nil
    obtain ⟨o2, e4, a4⟩ := runAll_local (b := b) (L := h2.lim) af c1' hstep' (fun r h' h2' hm a g o g1 e hq h1 h3 => by
      obtain ⟨ex, s, hx, e4⟩ := stK_ok e
      have hxm := c3 _ hm
      obtain ⟨o3, e5, a5⟩ := ihk ex s _ _ _ _ _ e4 hxm.wf (Nat.le_trans hb hxm.next) h2' A a.next (by rw [a.lim]; exact hq) (by rw [a.lim]; exact ht) h1 h3 (by rw [a.lim]; exact hwin) a.on
      refine ⟨o3, ?_, a5.base a⟩
      rw [hx]; exact e5) hl hr hw
    refine ⟨o2, ?_, a4⟩
    rw [run_loop, hn]
    exact (ef _).trans ((eq _).trans e4)
  | regn n ord slots dst op st k iho ihk =>
    intro b h g outs g' e w hb h2 A hn hl ht hr hw hwin hA
    obtain ⟨hok, st', h1, l, hrr, e2⟩ := run_regn e
    have hop : ∀ i vs h r h' g', one ((op i vs).run h.next h Log.nil) = .ok r h' g' → h.WF → Fr h.next h Log.nil h' g' := fun i vs h r h' g' e w => (run_fr _ _ _ _ _ _ (one_ok e) w (Nat.le_refl _)).fr1
    have tr := regRun_tr hrr
    obtain ⟨w1, n1, l1, _, same, _⟩ := regTr_fr hop tr w
    have f := run_fr _ _ _ _ _ _ e2 w1 (Nat.le_trans hb n1)
    have hlim := run_lim e2 w1 (Nat.le_trans hb n1) hl
    have hlog : ∀ x, x ∈ l → ∀ i, i ∈ x.g.rd ∨ i ∈ x.g.wr → A i := by
      intro x hx i hi
      by_cases hib : i < b
      · rcases hi with hi | hi
        · exact hr i (f.log.rd _ (((Log.addE_adds b l g).2 x hx i hib).1 hi))
        · exact hw i (f.log.wr _ (((Log.addE_adds b l g).2 x hx i hib).2 hi))
      · refine hwin i (by omega) ?_
        have := regTr_logs hop tr w (fun x hx => absurd hx List.not_mem_nil) x hx i hi
        omega
    obtain ⟨h3, t3, a3⟩ := regTr_local hop (fun i vs => (iho i vs).one) tr w h2 A hn (by omega) ht hlog (fun i h1 h2 => hwin i (by omega) h2) hA
    have hl3 := a3.lim
    obtain ⟨o4, e4, a4⟩ := ihk st' _ _ _ _ _ e2 w1 (Nat.le_trans hb n1) h3 A a3.next (by rw [hl3]; exact hl) (by omega) hr hw (fun i h1 h2 => hwin i h1 (by omega)) a3.on
    refine ⟨o4, ?_, a4.base a3⟩
    show cnd (regOk n ord slots dst) (OutR.rec (motive := fun _ => Out) (fun w => .err w) (fun st' h' l => logREs b l g fun g' => (k st').run b h' g') (regRun (fun i vs b h g => one ((op i vs).run b h g)) ord slots dst (rangeL n) st h2 [])) (.err 1008) = _
    rw [hok, cnd_true, t3.run]
    exact (logREs_eq _ _ _ _).trans e4
end Go.X

namespace Go.X

section
variable {opR : Nat → List AV → Nat → THeap → Log → OutS} {ord : Nat → Nat → Bool} {slots : Nat → List Nat} {dst : Nat → Option Nat} {n : Nat} {sts : Nat → St} {hs : Nat → THeap} {vs : Nat → AV} {gs : Nat → Log}

/-- operation j writes the name i -/
def Wr (hs : Nat → THeap) (gs : Nat → Log) (j i : Nat) : Prop := i ∈ (gs j).wr ∨ ((hs j).next ≤ i ∧ i < (hs (j + 1)).next)
/-- operation j touches the name i -/
def Tch (hs : Nat → THeap) (gs : Nat → Log) (j i : Nat) : Prop := i ∈ (gs j).rd ∨ i ∈ (gs j).wr ∨ ((hs j).next ≤ i ∧ i < (hs (j + 1)).next)

structure SeqFacts (n : Nat) (hs : Nat → THeap) (gs : Nat → Log) : Prop where
  wf : ∀ i, i ≤ n → (hs i).WF
  lim : ∀ i, i ≤ n → (hs i).lim = (hs 0).lim
  step : ∀ i, i < n → Fr (hs i).next (hs i) Log.nil (hs (i + 1)) (gs i)
theorem seq_facts (hop : ∀ i vs h r h' g', opR i vs h.next h Log.nil = .ok r h' g' → h.WF → Fr h.next h Log.nil h' g') (q : RegSeq opR ord slots dst 0 n sts hs vs gs) (w : (hs 0).WF) : SeqFacts n hs gs := by
  have key : ∀ i, i ≤ n → (hs i).WF ∧ (hs i).lim = (hs 0).lim := by
    intro i
    induction i with
    | zero => exact fun _ => ⟨w, rfl⟩
    | succ i ih =>
      intro hi
      obtain ⟨w1, l1⟩ := ih (by omega)
      have f := hop _ _ _ _ _ _ (q.run i (Nat.zero_le _) (by omega)) w1
      exact ⟨f.wf, f.lim.trans l1⟩
  exact ⟨fun i hi => (key i hi).1, fun i hi => (key i hi).2, fun i hi => hop _ _ _ _ _ _ (q.run i (Nat.zero_le _) (by omega)) (key i (by omega)).1⟩
theorem SeqFacts.mono (s : SeqFacts n hs gs) : ∀ j i, i ≤ j → j ≤ n → (hs i).next ≤ (hs j).next := by
  intro j
  induction j with
  | zero =>
    intro i hi _
    have : i = 0 := by omega
    subst this; exact Nat.le_refl _
  | succ j ih =>
    intro i hi hj
    rcases Nat.lt_or_ge i (j + 1) with h | h
    · exact Nat.le_trans (ih i (by omega) (by omega)) (s.step j (by omega)).next
    · have : i = j + 1 := by omega
      subst this; exact Nat.le_refl _
theorem SeqFacts.logs (s : SeqFacts n hs gs) {j : Nat} (hj : j < n) (i : Nat) (h : i ∈ (gs j).rd ∨ i ∈ (gs j).wr) : i < (hs j).next := by
  have f := (s.step j hj).log.lo i
  rcases h with h | h
  · exact (f.1 h).elim (fun h => absurd h List.not_mem_nil) id
  · exact (f.2 h).elim (fun h => absurd h List.not_mem_nil) id
theorem SeqFacts.same (s : SeqFacts n hs gs) {j : Nat} (hj : j < n) {i : Nat} (h : ¬ Wr hs gs j i) : (hs (j + 1)).get i = (hs j).get i := by
  by_cases hi : i < (hs j).next
  · exact (s.step j hj).same i hi (fun hw => h (.inl hw))
  · have hi2 : ¬ i < (hs (j + 1)).next := fun h2 => h (.inr ⟨by omega, h2⟩)
    by_cases hl : i < (hs j).lim
    · rw [(s.wf j (by omega)).none i (by omega) hl, (s.wf (j + 1) (by omega)).none i (by omega) (by rw [(s.step j hj).lim]; exact hl)]
    · exact (s.step j hj).over i (by omega)
theorem SeqFacts.sameR (s : SeqFacts n hs gs) {i : Nat} : ∀ m' m, m ≤ m' → m' ≤ n → (∀ j, m ≤ j → j < m' → ¬ Wr hs gs j i) → (hs m').get i = (hs m).get i := by
  intro m'
  induction m' with
  | zero =>
    intro m h _ _
    have : m = 0 := by omega
    subst this; rfl
  | succ m' ih =>
    intro m h1 h2 hw
    rcases Nat.lt_or_ge m (m' + 1) with h | h
    · rw [s.same (by omega) (hw m' (by omega) (by omega))]
      exact ih m (by omega) (by omega) (fun j a c => hw j a (by omega))
    · have : m = m' + 1 := by omega
      subst this; rfl
theorem conf_ord (s : SeqFacts n hs gs) (q : RegSeq opR ord slots dst 0 n sts hs vs gs) {i j x : Nat} (hi : i < n) (hj : j < n) (ha : Tch hs gs i x) (hw : Wr hs gs j x) : i = j ∨ ord i j = true ∨ ord j i = true := by
  have key : ∀ a b, a < n → b < n → a < b → (Tch hs gs a x ∧ Wr hs gs b x) ∨ (Tch hs gs b x ∧ Wr hs gs a x) → ord a b = true := by
    intro a b ha hb hab h
    rcases q.conf a b (Nat.zero_le _) hab (by omega) with ho | c
    · exact ho
    · exfalso
      have m1 := s.mono b (a + 1) (by omega) (by omega)
      have lb := s.logs hb x
      have la := s.logs ha x
      rcases h with ⟨h1, h2⟩ | ⟨h1, h2⟩
      · rcases h2 with h2 | ⟨h2, h3⟩
        · rcases h1 with h1 | h1 | h1
          · exact c.rw x h2 h1
          · exact c.ww x h2 h1
          · exact c.w2 x h2 h1
        · rcases h1 with h1 | h1 | h1
          · have := la (.inl h1); have := (s.step a ha).next; omega
          · have := la (.inr h1); have := (s.step a ha).next; omega
          · omega
      · rcases h2 with h2 | ⟨h2, h3⟩
        · rcases h1 with h1 | h1 | h1
          · exact c.wr x h1 h2
          · exact c.ww x h1 h2
          · have := la (.inr h2); have := (s.step a ha).next; omega
        · rcases h1 with h1 | h1 | h1
          · exact c.w1 x h1 ⟨h2, h3⟩
          · exact c.w2 x h1 ⟨h2, h3⟩
          · omega
  rcases Nat.lt_trichotomy i j with h | h | h
  · exact .inr (.inl (key i j hi hj h (.inl ⟨ha, hw⟩)))
  · exact .inl h
  · exact .inr (.inr (key j i hj hi h (.inr ⟨ha, hw⟩)))
theorem Wr.tch {j i : Nat} (h : Wr hs gs j i) : Tch hs gs j i := h.elim (fun h => .inr (.inl h)) (fun h => .inr (.inr h))

/-- what the temporaries are when the operations of a have been done -/
structure TInv (dst : Nat → Option Nat) (vs : Nat → AV) (st0 : St) (a : List Nat) (st : St) : Prop where
  at' : ∀ s, s < 4096 → ∀ j, j ∈ a → dst j = some s → st.tmps.at s = vs j
  off : ∀ s, s < 4096 → (∀ j, j ∈ a → dst j ≠ some s) → st.tmps.at s = st0.tmps.at s
  defers : st.defers = st0.defers
  u : st.u = st0.u
theorem TInv.put (ok : RegOk n ord slots dst) {st0 st : St} {a : List Nat} (t : TInv dst vs st0 a st) (ha : ∀ j, j ∈ a → j < n) {i : Nat} (hi : i < n) (hia : i ∉ a) : TInv dst vs st0 (a ++ [i]) (st.put (dst i) (vs i)) := by
  cases hd : dst i with
  | none =>
    refine ⟨fun s hs j hj hjs => ?_, fun s hs h => t.off s hs fun j hj => h j (List.mem_append_left _ hj), t.defers, t.u⟩
    rcases List.mem_append.1 hj with hj | hj
    · exact t.at' s hs j hj hjs
    · have : j = i := by simpa using hj
      subst this; rw [hd] at hjs; cases hjs
  | some r =>
    have hr := ok.dlt i hi r hd
    refine ⟨fun s hs j hj hjs => ?_, fun s hs h => ?_, t.defers, t.u⟩
    · show (TT.put r (vs i) st.tmps).at s = vs j
      rw [TT.at_put hr hs]
      rcases List.mem_append.1 hj with hj | hj
      · rw [if_neg (fun e => ?_)]
        · exact t.at' s hs j hj hjs
        · subst e
          have := ok.apart i j s hi (ha j hj) hjs hd
          subst this; exact hia hj
      · have : j = i := by simpa using hj
        subst this; rw [hd] at hjs; cases hjs; rw [if_pos rfl]
    · show (TT.put r (vs i) st.tmps).at s = _
      rw [TT.at_put hr hs, if_neg (fun e => ?_)]
      · exact t.off s hs fun j hj => h j (List.mem_append_left _ hj)
      · subst e; exact h i (by simp) hd
theorem TInv.init (st : St) : TInv dst vs st [] st := ⟨fun _ _ _ h => absurd h List.not_mem_nil, fun _ _ _ => rfl, rfl, rfl⟩
theorem TInv.seq (ok : RegOk n ord slots dst) (q : RegSeq opR ord slots dst 0 n sts hs vs gs) : ∀ i, i ≤ n → TInv dst vs (sts 0) (List.range i) (sts i) := by
  intro i
  induction i with
  | zero => exact fun _ => TInv.init _
  | succ i ih =>
    intro hi
    rw [List.range_succ, q.st i (Nat.zero_le _) (by omega)]
    exact (ih (by omega)).put ok (fun j hj => by have := List.mem_range.1 hj; omega) (by omega) (by simp)
theorem TInv.eq {st0 st st' : St} {a a' : List Nat} (h : TInv dst vs st0 a st) (h' : TInv dst vs st0 a' st') (ha : ∀ j, j ∈ a ↔ j ∈ a') : st = st' := by
  have ht : st.tmps = st'.tmps := TT.ext fun s hs => by
    by_cases hj : ∃ j, j ∈ a ∧ dst j = some s
    · obtain ⟨j, hj, hd⟩ := hj
      rw [h.at' s hs j hj hd, h'.at' s hs j ((ha j).1 hj) hd]
    · rw [h.off s hs fun j hj' hd => hj ⟨j, hj', hd⟩, h'.off s hs fun j hj' hd => hj ⟨j, (ha j).2 hj', hd⟩]
  cases st; cases st'
  simp only at ht
  have e1 := h.defers; have e2 := h'.defers; have e3 := h.u; have e4 := h'.u
  simp only at e1 e2 e3 e4
  rw [ht, e1, e2, e3, e4]

/-- EVERY ORDER SERVES, where the text's order does and what unordered operations touch does not meet. -/
theorem regSatT_all (ok : RegOk n ord slots dst) (hop : ∀ i vs h r h' g', opR i vs h.next h Log.nil = .ok r h' g' → h.WF → Fr h.next h Log.nil h' g') (hloc : ∀ i vs, LocalAt (opR i vs))
    {opS : Nat → List AV → PostT → THeap → Prop} (hsat : ∀ i vs b h g r h' g', opR i vs b h g = .ok r h' g' → h.WF → b ≤ h.next → opS i vs (fun r2 h2 => r2 = r ∧ h2 = h') h)
    (hmono : ∀ i vs (p q : PostT), (∀ r g, p r g → q r g) → ∀ g, opS i vs p g → opS i vs q g)
    (q : RegSeq opR ord slots dst 0 n sts hs vs gs) (w : (hs 0).WF) {kS : St → THeap → Prop} (hk : kS (sts n) (hs n)) (l : List Nat) (hl : LinExt n ord l) :
    regSatT slots dst opS (fun i => (hs i).next) n (hs 0).lim kS l (sts 0) (hs 0) := by
  have s := seq_facts hop q w
  have main : ∀ (rest a : List Nat) (st : St) (h : THeap), l = a ++ rest → TInv dst vs (sts 0) a st →
      (∀ x m, m ≤ n → (∀ j, j < n → Wr hs gs j x → (j < m ↔ j ∈ a)) → h.get x = (hs m).get x) → regSatT slots dst opS (fun i => (hs i).next) n (hs 0).lim kS rest st h := by
    intro rest
    induction rest with
    | nil =>
      intro a st h hal t hh
      have hmem : ∀ j, j ∈ a ↔ j < n := fun j => by rw [← hl.mem j, hal, List.append_nil]
      have e1 : st = sts n := t.eq (TInv.seq ok q n (Nat.le_refl _)) fun j => by rw [hmem, List.mem_range]
      have e2 : h.win (hs n).next (hs 0).lim = hs n := THeap.ext (fun x => hh x n (Nat.le_refl _) fun j _ _ => (hmem j).symm) rfl (s.lim n (Nat.le_refl _)).symm
      show kS st (h.win (hs n).next (hs 0).lim)
      rw [e1, e2]; exact hk
    | cons i rest ih =>
      intro a st h hal t hh
      have hi : i < n := (hl.mem i).1 (by rw [hal]; simp)
      have hia : i ∉ a := fun h => by
        have := hl.nodup
        rw [hal, List.nodup_append] at this
        exact this.2.2 i h i (by simp) rfl
      have han : ∀ j, j ∈ a → j < n := fun j hj => (hl.mem j).1 (by rw [hal]; simp [hj])
      have hpre : ∀ j, j < n → ord j i = true → j ∈ a := fun j hj ho => hl.ord a i rest hal j hj ho
      -- whoever must go behind i has not gone
      have hpost : ∀ j, j ∈ a → ord i j = true → False := by
        intro j hj ho
        obtain ⟨a1, a2, rfl⟩ := List.append_of_mem hj
        have := hl.ord a1 j (a2 ++ i :: rest) (by rw [hal]; simp) i hi ho
        exact hia (by simp [this])
      have hsel : st.sel (slots i) = (sts i).sel (slots i) := by
        refine St.sel_congr fun r hr => ?_
        have hr4096 := ok.slot i hi r hr
        have ti := TInv.seq ok q i (by omega)
        by_cases hd : ∃ j, j < n ∧ dst j = some r
        · obtain ⟨j, hj, hdj⟩ := hd
          rcases ok.behind i j r hi hj hdj hr with ho | ho
          · rw [t.at' r hr4096 j (hpre j hj ho) hdj, ti.at' r hr4096 j (List.mem_range.2 (ok.ordlt i j hi hj ho)) hdj]
          · have hlt := ok.ordlt j i hj hi ho
            rw [t.off r hr4096 fun j' hj' hd' => ?_, ti.off r hr4096 fun j' hj' hd' => ?_]
            · have hj2 := List.mem_range.1 hj'
              have := ok.apart j j' r hj (by omega) hd' hdj
              omega
            · have := ok.apart j j' r hj (han j' hj') hd' hdj
              subst this; exact hpost j hj' ho
        · rw [t.off r hr4096 fun j hj hdj => hd ⟨j, han j hj, hdj⟩, ti.off r hr4096 fun j hj hdj => hd ⟨j, by have := List.mem_range.1 hj; omega, hdj⟩]
      have hrun := q.run i (Nat.zero_le _) (by omega)
      rw [← hsel] at hrun
      -- the names that i touches hold what they held in the text's order
      have hA : ∀ x, Tch hs gs i x → h.get x = (hs i).get x := by
        intro x hx
        refine hh x i (by omega) fun j hj hw => ?_
        rcases conf_ord s q hi hj hx hw with e | e | e
        · subst e; exact ⟨fun h => by omega, fun h => absurd h hia⟩
        · exact ⟨fun h => by have := ok.ordlt j i hj hi e; omega, fun h => absurd e (fun e => hpost j h e)⟩
        · exact ⟨fun _ => hpre j hj e, fun _ => ok.ordlt i j hi hj e⟩
      obtain ⟨h3, e3, a3⟩ := hloc i _ _ _ _ _ _ _ hrun (s.wf i (by omega)) (Nat.le_refl _) (h.win (hs i).next (hs (i + 1)).next) (Tch hs gs i) rfl (Nat.le_refl _)
        (by have := (s.wf (i + 1) (by omega)); have := this.lim; have := (s.wf (i + 1) (by omega)).top; simp only [THeap.win_lim]; omega)
        (fun x hx => .inl hx) (fun x hx => .inr (.inl hx)) (fun x h1 h2 => .inr (.inr ⟨h1, h2⟩)) (fun x hx => hA x hx)
      -- the heap at which i goes is well formed, but for the names of others; sat asks nothing of them
      show opS i (st.sel (slots i)) (fun r h' => ∃ v, r = .val v ∧ regSatT slots dst opS (fun i => (hs i).next) n (hs 0).lim kS rest (st.put (dst i) v) h') (h.win (hs i).next (hs (i + 1)).next)
      have hwf : (h.win (hs i).next (hs (i + 1)).next).WF := ⟨(s.step i hi).next, by have := (s.wf (i + 1) (by omega)); have := this.lim; have := (s.wf (i + 1) (by omega)).top; simp only [THeap.win_lim]; omega,
        fun x h1 h2 => by
          simp only [THeap.win_next] at h1
          simp only [THeap.win_lim] at h2
          rw [THeap.win_get, hA x (.inr (.inr ⟨h1, h2⟩))]
          exact (s.wf i (by omega)).none x h1 (by have := (s.wf (i + 1) (by omega)).lim; have := (s.step i hi).lim; omega)⟩
      refine hmono i _ _ _ ?_ _ (hsat i _ _ _ _ _ _ _ e3 hwf (Nat.le_refl _))
      rintro r h2 ⟨rfl, rfl⟩
      refine ⟨vs i, rfl, ih (a ++ [i]) _ _ (by rw [hal]; simp) (t.put ok han hi hia) fun x m hm hx => ?_⟩
      by_cases hT : Tch hs gs i x
      · rw [a3.on x hT]
        have hcmp : ∀ j, j < n → Wr hs gs j x → j ≠ i → (j < m ↔ j < i) := by
          intro j hj hw hne
          rw [hx j hj hw]
          rcases conf_ord s q hi hj hT hw with e | e | e
          · exact absurd e.symm hne
          · have hlt := ok.ordlt j i hj hi e
            refine ⟨fun hm => ?_, fun h => by omega⟩
            rcases List.mem_append.1 hm with hm | hm
            · exact absurd e (fun e => hpost j hm e)
            · exact absurd (by simpa using hm) hne
          · exact ⟨fun _ => ok.ordlt i j hi hj e, fun _ => List.mem_append_left _ (hpre j hj e)⟩
        have hii : Wr hs gs i x → i < m := fun hw => (hx i hi hw).2 (by simp)
        rcases Nat.lt_or_ge m (i + 1) with hlt | hge
        · refine s.sameR (i + 1) m (by omega) (by omega) fun j h1 h2 hw => ?_
          by_cases hji : j = i
          · subst hji; have := hii hw; omega
          · have := (hcmp j (by omega) hw hji).2 (by omega); omega
        · refine (s.sameR m (i + 1) hge hm fun j h1 h2 hw => ?_).symm
          have := (hcmp j (by omega) hw (by omega)).1 h2; omega
      · rw [a3.off x hT]
        refine hh x m hm fun j hj hw => ?_
        rw [hx j hj hw]
        refine ⟨fun hm => ?_, fun h => List.mem_append_left _ h⟩
        rcases List.mem_append.1 hm with hm | hm
        · exact hm
        · have : j = i := by simpa using hm
          subst this; exact absurd hw.tch hT
  exact main l [] (sts 0) (hs 0) rfl (TInv.init _) fun x m hm hx => (s.sameR m 0 (Nat.zero_le _) hm fun j _ hj hw => absurd ((hx j (by omega) hw).1 hj) List.not_mem_nil).symm
end
end Go.X

namespace Go.X

theorem run_satT : ∀ (m : FM) (b : Nat) (h : THeap) (g : Log) (outs : List (Res × THeap)) (g' : Log) (p : PostT), m.run b h g = .ok outs g' → h.WF → b ≤ h.next → (∀ o, o ∈ outs → p o.1 o.2) → m.satT p h := by
  intro m
  induction m with
  | ret r0 => intro b h g outs g' p e w _ hp; cases e; exact hp (r0, h) (by simp)
  | fail => intro b h g outs g' p e; cases e
  | get i k ih =>
    intro b h g outs g' p e w hb hp
    rw [run_get] at e
    by_cases hi : i < h.next
    case neg => rw [if_neg hi] at e; cases e
    rw [if_pos hi] at e
    cases ho : h.get i with
    | none => rw [ho] at e; cases e
    | some o => rw [ho] at e; exact ⟨o, ho, ih o _ _ _ _ _ _ e w hb hp⟩
  | set i o m ih =>
    intro b h g outs g' p e w hb hp
    rw [run_set] at e
    by_cases hi : i < h.next
    case neg => rw [if_neg hi] at e; cases e
    rw [if_pos hi] at e
    exact ⟨hi, ih _ _ _ _ _ _ e (w.put hi o) hb hp⟩
  | new o k ih =>
    intro b h g outs g' p e w hb hp
    rw [run_new] at e
    by_cases hi : h.next < h.lim
    case neg => rw [if_neg hi] at e; cases e
    rw [if_pos hi] at e
    exact ⟨hi, ih _ _ _ _ _ _ _ e (w.newO hi o) (Nat.le_trans hb (Nat.le_succ _)) hp⟩
  | here k ih => intro b h g outs g' p e w hb hp; exact ih _ _ _ _ _ _ _ e w hb hp
  | drop a x m ih =>
    intro b h g outs g' p e w hb hp
    obtain ⟨h0, h1, h2, h3, e2⟩ := run_drop _ _ _ _ _ _ e
    exact ⟨h1, h2, h3, ih _ _ _ _ _ _ e2 (drop_wf w h1 h2 h3) (by simp only [THeap.win_next]; omega) hp⟩
  | choose n k ih =>
    intro b h g outs g' p e w hb hp j hj
    obtain ⟨_, e⟩ := run_choose e
    obtain ⟨_, _, a3⟩ := chooseRun_spec (b := b) (fun j g o g1 e => (run_fr _ _ _ _ _ _ e w hb).log) e
    obtain ⟨g0, g1, o1, e2, hsub⟩ := a3 j hj
    exact ih j _ _ _ _ _ _ e2 w hb fun o ho => hp o (hsub o ho)
  | any k ih => intro b h g outs g' p e w hb hp; have e' : Out.err 1020 = .ok outs g' := e; cases e'
  | join m k ihm ihk =>
    intro b h g outs g' p e w hb hp
    obtain ⟨l, g1, g2, e1, ad, mr, mem, tr⟩ := run_join e
    have fm := run_fr _ _ _ _ _ _ e1 w (Nat.le_refl _)
    refine ihm _ _ _ _ _ _ e1 w (Nat.le_refl _) fun o ho => ?_
    have hd := dedupe_mem (lo := h.next) (h := h) (ws := g1.wr) fm.outs o ho
    have fo := fm.outs o ho
    have hx : ∀ x, x ∈ dedupe g1.wr h.next l → HF h.next h x.2 g1.wr := fun x hx => fm.outs x (dedupe_sub hx)
    have hstep : ∀ x, x ∈ dedupe g1.wr h.next l → ∀ g o g3, (k x.1).run b x.2 g = .ok o g3 → Log.Adds b g g3 := fun x hxm g o g3 e =>
      (run_fr _ _ _ _ _ _ e (hx x hxm).wf (Nat.le_trans hb (hx x hxm).next)).log
    obtain ⟨g0, g3, o1, e3, hsub, _, _⟩ := (tr.each hstep).2 o hd
    exact ihk o.1 _ _ _ _ _ _ e3 fo.wf (Nat.le_trans hb fo.next) fun q hq => hp q (hsub q hq)
  | loop n body st k ihb ihk =>
    intro b h g outs g' p e w hb hp
    rw [run_loop] at e
    have hin : LoopIn (fun s h' g => (body s).run h.next h' g) h.next h := ⟨fun st' h' g outs g' e w' hl => run_fr _ _ _ _ _ _ e w' hl⟩
    obtain ⟨accF, glF, c1, c2, c3, _, c5⟩ := loopRun_spec hin (Nat.le_refl _) (bodyS := fun s q g => (body s).satT q g) (fun st' h' g outs g' q e w' hl hq => ihb st' _ _ _ _ _ q e w' hl hq)
      fin_st n _ _ _ e (fun x hx => by
        have : x = (.st .normal st, h) := by simpa using hx
        subst this; exact ⟨HF.refl w _, rfl⟩) (fun x hx => absurd hx List.not_mem_nil)
    obtain ⟨g2, eq, ad, mr, mem⟩ := Log.addRW b glF.rd glF.wr g
    rw [eq] at c1
    have tr := runAll_tr c1
    have hstep : ∀ x, x ∈ accF → ∀ g o g3, (stK x.1 fun e s => (k e s).run b x.2 g) = .ok o g3 → FrO b x.2 g o g3 := fun x hx g o g3 e => by
      obtain ⟨ex, s, _, e3⟩ := stK_ok e
      exact run_fr _ _ _ _ _ _ e3 (c3 x hx).wf (Nat.le_trans hb (c3 x hx).next)
    have hL := c5 (.st .normal st, h) st (by simp) rfl
    refine loopSatT_mono (bodyS := fun s q g => (body s).satT q g) (kS := fun e s h => (Res.st e s, h) ∈ accF) (fun s q q' hq g hg => FM.satT_mono hq (body s) g hg) (fun ex s hh hm => ?_) n st h hL
    obtain ⟨g0, g3, o1, e3, hsub, _, _⟩ := (tr.each fun x hx g o g3 e => (hstep x hx g o g3 e).log).2 _ hm
    have fo := c3 _ hm
    exact ihk ex s _ _ _ _ _ _ e3 fo.wf (Nat.le_trans hb fo.next) fun q hq => hp q (hsub q hq)
  | regn n ord slots dst op st k iho ihk =>
    intro b h g outs g' p e w hb hp
    obtain ⟨hok, st', h1, l, hrr, e2⟩ := run_regn e
    have hop : ∀ i vs h r h' g', one ((op i vs).run h.next h Log.nil) = .ok r h' g' → h.WF → Fr h.next h Log.nil h' g' := fun i vs h r h' g' e w => (run_fr _ _ _ _ _ _ (one_ok e) w (Nat.le_refl _)).fr1
    have tr := regRun_tr hrr
    obtain ⟨w1, n1, _⟩ := regTr_fr hop tr w
    have hk := ihk st' _ _ _ _ _ _ e2 w1 (Nat.le_trans hb n1) hp
    have hr : rangeL n = List.range' 0 n := List.range_eq_range'
    rw [hr] at tr
    obtain ⟨sts, hs, vs, gs, e1, e2, e3, e4, q, _⟩ := regTr_seq n 0 tr
    rw [Nat.zero_add] at e3 e4
    subst e1; subst e2; subst e3; subst e4
    have s := seq_facts hop q w
    refine ⟨fun i => (hs i).next, rfl, fun i hi => (s.step i hi).next, ?_, fun l hl => ?_⟩
    · show (hs n).next ≤ (hs 0).lim
      have := (s.wf n (Nat.le_refl _)).lim; have := s.lim n (Nat.le_refl _); omega
    · refine regSatT_all (opR := fun i vs b h g => one ((op i vs).run b h g)) (opS := fun i vs q g => (op i vs).satT q g) (regOk_spec hok) hop (fun i vs => (run_local (op i vs)).one) (fun i vs b h g r h' g' e w hb => ?_) (fun i vs p q hpq g => FM.satT_mono hpq _ g) q w hk l hl
      refine iho i vs _ _ _ _ _ _ (one_ok e) w hb fun o ho => ?_
      have : o = (r, h') := by simpa using ho
      subst this; exact ⟨rfl, rfl⟩
end Go.X

namespace Go.X

/-! ### from heaps as tries to heaps as functions -/
noncomputable def THeap.fn (h : THeap) : Heap := ⟨h.get, h.next, h.lim, false⟩
structure THeap.Ok (h : THeap) : Prop where
  room : h.next ≤ h.lim
  lim : h.lim ≤ top
theorem THeap.fn_put (h : THeap) {i : Nat} (hi : i < top) (o : Option AObj) : (h.put i o).fn = h.fn.put i o :=
  Heap.ext (fun j => (THeap.get_put h hi j o).trans rfl) rfl rfl rfl
theorem THeap.fn_newO (h : THeap) (hi : h.next < top) (o : AObj) : (THeap.mk (h.put h.next (some o)).t (h.next + 1) h.lim).fn = h.fn.newO o :=
  Heap.ext (fun j => (THeap.newO_get h hi o j).trans rfl) rfl rfl rfl
theorem THeap.fn_win (h : THeap) (a b : Nat) : (h.win a b).fn = h.fn.win a b := rfl
theorem THeap.fn_drop (h : THeap) (a n : Nat) (hn : a + n ≤ top) : (dropIdsT a n h).fn = dropIds a n h.fn :=
  Heap.ext (fun j => (dropIdsT_get a n h hn j).trans rfl) (dropIdsT_next a n h) (dropIdsT_lim a n h) rfl
theorem THeap.Ok.put {h : THeap} (w : h.Ok) (i : Nat) (o : Option AObj) : (h.put i o).Ok := ⟨w.room, w.lim⟩
theorem pos_mono {pos : Nat → Nat} {n : Nat} (hm : ∀ i, i < n → pos i ≤ pos (i + 1)) : ∀ j i, i ≤ j → j ≤ n → pos i ≤ pos j := by
  intro j
  induction j with
  | zero => intro i hi _; have : i = 0 := by omega
            subst this; exact Nat.le_refl _
  | succ j ih =>
    intro i hi hj
    rcases Nat.lt_or_ge i (j + 1) with hlt | hge
    · exact Nat.le_trans (ih i (by omega) (by omega)) (hm j (by omega))
    · have : i = j + 1 := by omega
      subst this; exact Nat.le_refl _
theorem satT_sat : ∀ (m : FM) (p : PostT) (q : Post) (h : THeap), h.Ok → (∀ r g, g.Ok → p r g → q r g.fn) → m.satT p h → m.sat q h.fn := by
  intro m
  induction m with
  | ret r => exact fun p q h w hpq hs => hpq _ _ w hs
  | fail w => exact fun p q h w hpq hs => hs
  | get i k ih => exact fun p q h w hpq ⟨o, h1, h2⟩ => ⟨o, h1, ih o p q h w hpq h2⟩
  | set i o m ih =>
    intro p q h w hpq ⟨h1, h2⟩
    have hi : i < top := Nat.lt_of_lt_of_le h1 (Nat.le_trans w.room w.lim)
    refine ⟨h1, ?_⟩
    rw [← THeap.fn_put h hi]
    exact ih p q _ (w.put i _) hpq h2
  | new o k ih =>
    intro p q h w hpq ⟨h1, h2⟩
    have hi : h.next < top := Nat.lt_of_lt_of_le h1 w.lim
    refine ⟨.inr h1, ?_⟩
    rw [← THeap.fn_newO h hi]
    exact ih _ p q _ ⟨h1, w.lim⟩ hpq h2
  | here k ih => exact fun p q h w hpq hs => ih _ p q h w hpq hs
  | drop a x m ih =>
    intro p q h w hpq ⟨h1, h2, h3, h4⟩
    refine ⟨rfl, h1, h2, h3, ?_⟩
    have := ih p q ((dropIdsT a (h.next - a) h).win (a + x) h.lim) ⟨h3, w.lim⟩ hpq h4
    rw [THeap.fn_win, THeap.fn_drop _ _ _ (by have := w.lim; omega)] at this
    exact this
  | choose n k ih => exact fun p q h w hpq hs j hj => ih j p q h w hpq (hs j hj)
  | any k ih => exact fun p q h w hpq hs j => ih j p q h w hpq (hs j)
  | join m k ihm ihk => exact fun p q h w hpq hs => ihm _ _ h w (fun r g wg hg => ihk r p q g wg hpq hg) hs
  | loop n body st k ihb ihk =>
    intro p q h w hpq hs
    have key : ∀ n st (h : THeap), h.Ok → loopSatT (fun s q g => (body s).satT q g) (fun e s g => (k e s).satT p g) n st h → loopSat (fun s q g => (body s).sat q g) (fun e s g => (k e s).sat q g) n st h.fn := by
      intro n
      induction n with
      | zero => exact fun _ _ _ h => h
      | succ n ih =>
        intro st h w hs
        refine ihb st _ _ h w (fun r g wg hg => ?_) hs
        cases r with
        | st e s => cases e <;> first | exact ih _ _ wg hg | exact ihk _ _ p q g wg hpq hg
        | _ => exact hg
    exact key n st h w hs
  | regn n ord slots dst op st k iho ihk =>
    intro p q h w hpq ⟨pos, h1, h2, h3, h4⟩
    refine .inl ⟨rfl, pos, h1, h2, h3, fun l hl => ?_⟩
    have key : ∀ (l : List Nat), (∀ i, i ∈ l → i < n) → ∀ st (h0 : THeap), regSatT slots dst (fun i vs q g => (op i vs).satT q g) pos n h.lim (fun s g => (k s).satT p g) l st h0 →
        regSat slots dst (fun i vs q g => (op i vs).sat q g) pos n h.lim (fun s g => (k s).sat q g) l st h0.fn := by
      intro l
      induction l with
      | nil => exact fun _ st h0 hs => ihk st p q (h0.win (pos n) h.lim) ⟨h3, w.lim⟩ hpq hs
      | cons i l ih =>
        intro hin st h0 hs
        have hi := hin i List.mem_cons_self
        have hw : (h0.win (pos i) (pos (i + 1))).Ok := ⟨h2 i hi, Nat.le_trans (pos_mono h2 n (i + 1) (by omega) (Nat.le_refl _)) (Nat.le_trans h3 w.lim)⟩
        exact iho i _ _ _ _ hw (fun r g _ ⟨v, e, hg⟩ => ⟨v, e, ih (fun j hj => hin j (List.mem_cons_of_mem _ hj)) _ _ hg⟩) hs
    exact key l (fun i hi => (hl.mem i).1 hi) st h (h4 l hl)
theorem run_sat (m : FM) (b : Nat) (h : THeap) (g : Log) (outs : List (Res × THeap)) (g' : Log) (p : Post) (e : m.run b h g = .ok outs g') (w : h.WF) (hb : b ≤ h.next) (hp : ∀ o, o ∈ outs → p o.1 o.2.fn) : m.sat p h.fn :=
  satT_sat m (fun r g => p r g.fn) p h ⟨w.lim, w.top⟩ (fun _ _ _ h => h) (run_satT m b h g outs g' _ e w hb hp)
end Go.X
