/-
 PROVED: abstract values,and runs of programs over abstract heaps: a run all of whose outcomes are good is good on every way. No condition.
-/
import GoSem.Step
set_option linter.unusedVariables false
set_option linter.unusedSimpArgs false
open List renaming mem_cons_of_mem -> zA0, mem_cons_self -> zB0, mem_append_left -> zG0, mem_append_right -> zH0, not_mem_nil -> zK0
open Nat renaming lt_of_lt_of_le -> zE0, ble_eq_true_of_le -> zF0, le_refl -> zL0, le_trans -> zM0, le_of_ble_eq_true -> zS0
noncomputable section
namespace Go.X
def cnd {β:Type} (b:Bool) (t e:β):β:=Bool.rec e t b
def ltb (a b:Nat):Bool:=Nat.ble (Nat.succ a) b
inductive D16 where
 | d0 | d1 | d2 | d3 | d4 | d5 | d6 | d7 | d8 | d9 | d10 | d11 | d12 | d13 | d14 | d15
 deriving DecidableEq
inductive N16 (α:Type) where
 | mk (a0 a1 a2 a3 a4 a5 a6 a7 a8 a9 a10 a11 a12 a13 a14 a15:α)
def N16.get {α:Type} (d:D16) (n:N16 α):α :=
 N16.rec (motive:=λ_=>α) (λa0 a1 a2 a3 a4 a5 a6 a7 a8 a9 a10 a11 a12 a13 a14 a15=>D16.rec (motive:=λ_=>α) a0 a1 a2 a3 a4 a5 a6 a7 a8 a9 a10 a11 a12 a13 a14 a15 d) n
def N16.set0 {α β:Type} (v:α) (n:N16 α) (k:N16 α->β):β:=N16.rec (motive:=λ_=>β) (λ_ a1 a2 a3 a4 a5 a6 a7 a8 a9 a10 a11 a12 a13 a14 a15=>k (.mk v a1 a2 a3 a4 a5 a6 a7 a8 a9 a10 a11 a12 a13 a14 a15)) n
def N16.set1 {α β:Type} (v:α) (n:N16 α) (k:N16 α->β):β:=N16.rec (motive:=λ_=>β) (λa0 _ a2 a3 a4 a5 a6 a7 a8 a9 a10 a11 a12 a13 a14 a15=>k (.mk a0 v a2 a3 a4 a5 a6 a7 a8 a9 a10 a11 a12 a13 a14 a15)) n
def N16.set2 {α β:Type} (v:α) (n:N16 α) (k:N16 α->β):β:=N16.rec (motive:=λ_=>β) (λa0 a1 _ a3 a4 a5 a6 a7 a8 a9 a10 a11 a12 a13 a14 a15=>k (.mk a0 a1 v a3 a4 a5 a6 a7 a8 a9 a10 a11 a12 a13 a14 a15)) n
def N16.set3 {α β:Type} (v:α) (n:N16 α) (k:N16 α->β):β:=N16.rec (motive:=λ_=>β) (λa0 a1 a2 _ a4 a5 a6 a7 a8 a9 a10 a11 a12 a13 a14 a15=>k (.mk a0 a1 a2 v a4 a5 a6 a7 a8 a9 a10 a11 a12 a13 a14 a15)) n
def N16.set4 {α β:Type} (v:α) (n:N16 α) (k:N16 α->β):β:=N16.rec (motive:=λ_=>β) (λa0 a1 a2 a3 _ a5 a6 a7 a8 a9 a10 a11 a12 a13 a14 a15=>k (.mk a0 a1 a2 a3 v a5 a6 a7 a8 a9 a10 a11 a12 a13 a14 a15)) n
def N16.set5 {α β:Type} (v:α) (n:N16 α) (k:N16 α->β):β:=N16.rec (motive:=λ_=>β) (λa0 a1 a2 a3 a4 _ a6 a7 a8 a9 a10 a11 a12 a13 a14 a15=>k (.mk a0 a1 a2 a3 a4 v a6 a7 a8 a9 a10 a11 a12 a13 a14 a15)) n
def N16.set6 {α β:Type} (v:α) (n:N16 α) (k:N16 α->β):β:=N16.rec (motive:=λ_=>β) (λa0 a1 a2 a3 a4 a5 _ a7 a8 a9 a10 a11 a12 a13 a14 a15=>k (.mk a0 a1 a2 a3 a4 a5 v a7 a8 a9 a10 a11 a12 a13 a14 a15)) n
def N16.set7 {α β:Type} (v:α) (n:N16 α) (k:N16 α->β):β:=N16.rec (motive:=λ_=>β) (λa0 a1 a2 a3 a4 a5 a6 _ a8 a9 a10 a11 a12 a13 a14 a15=>k (.mk a0 a1 a2 a3 a4 a5 a6 v a8 a9 a10 a11 a12 a13 a14 a15)) n
def N16.set8 {α β:Type} (v:α) (n:N16 α) (k:N16 α->β):β:=N16.rec (motive:=λ_=>β) (λa0 a1 a2 a3 a4 a5 a6 a7 _ a9 a10 a11 a12 a13 a14 a15=>k (.mk a0 a1 a2 a3 a4 a5 a6 a7 v a9 a10 a11 a12 a13 a14 a15)) n
def N16.set9 {α β:Type} (v:α) (n:N16 α) (k:N16 α->β):β:=N16.rec (motive:=λ_=>β) (λa0 a1 a2 a3 a4 a5 a6 a7 a8 _ a10 a11 a12 a13 a14 a15=>k (.mk a0 a1 a2 a3 a4 a5 a6 a7 a8 v a10 a11 a12 a13 a14 a15)) n
def N16.set10 {α β:Type} (v:α) (n:N16 α) (k:N16 α->β):β:=N16.rec (motive:=λ_=>β) (λa0 a1 a2 a3 a4 a5 a6 a7 a8 a9 _ a11 a12 a13 a14 a15=>k (.mk a0 a1 a2 a3 a4 a5 a6 a7 a8 a9 v a11 a12 a13 a14 a15)) n
def N16.set11 {α β:Type} (v:α) (n:N16 α) (k:N16 α->β):β:=N16.rec (motive:=λ_=>β) (λa0 a1 a2 a3 a4 a5 a6 a7 a8 a9 a10 _ a12 a13 a14 a15=>k (.mk a0 a1 a2 a3 a4 a5 a6 a7 a8 a9 a10 v a12 a13 a14 a15)) n
def N16.set12 {α β:Type} (v:α) (n:N16 α) (k:N16 α->β):β:=N16.rec (motive:=λ_=>β) (λa0 a1 a2 a3 a4 a5 a6 a7 a8 a9 a10 a11 _ a13 a14 a15=>k (.mk a0 a1 a2 a3 a4 a5 a6 a7 a8 a9 a10 a11 v a13 a14 a15)) n
def N16.set13 {α β:Type} (v:α) (n:N16 α) (k:N16 α->β):β:=N16.rec (motive:=λ_=>β) (λa0 a1 a2 a3 a4 a5 a6 a7 a8 a9 a10 a11 a12 _ a14 a15=>k (.mk a0 a1 a2 a3 a4 a5 a6 a7 a8 a9 a10 a11 a12 v a14 a15)) n
def N16.set14 {α β:Type} (v:α) (n:N16 α) (k:N16 α->β):β:=N16.rec (motive:=λ_=>β) (λa0 a1 a2 a3 a4 a5 a6 a7 a8 a9 a10 a11 a12 a13 _ a15=>k (.mk a0 a1 a2 a3 a4 a5 a6 a7 a8 a9 a10 a11 a12 a13 v a15)) n
def N16.set15 {α β:Type} (v:α) (n:N16 α) (k:N16 α->β):β:=N16.rec (motive:=λ_=>β) (λa0 a1 a2 a3 a4 a5 a6 a7 a8 a9 a10 a11 a12 a13 a14 _=>k (.mk a0 a1 a2 a3 a4 a5 a6 a7 a8 a9 a10 a11 a12 a13 a14 v)) n
def N16.set {α β:Type} (d:D16):α->N16 α->(N16 α->β)->β :=
 D16.rec (motive:=λ_=>α->N16 α->(N16 α->β)->β) N16.set0 N16.set1 N16.set2 N16.set3 N16.set4 N16.set5 N16.set6 N16.set7 N16.set8 N16.set9 N16.set10 N16.set11 N16.set12 N16.set13 N16.set14 N16.set15 d
def N16.all {α:Type} (v:α):N16 α:=.mk v v v v v v v v v v v v v v v v
def digit (n:Nat):D16 :=
 (cnd (Nat.beq (Nat.land (Nat.shiftRight n 3) 1) 1) (cnd (Nat.beq (Nat.land (Nat.shiftRight n 2) 1) 1) (cnd (Nat.beq (Nat.land (Nat.shiftRight n 1) 1) 1) (cnd (Nat.beq (Nat.land (Nat.shiftRight n 0) 1) 1) .d15 .d14) (cnd (Nat.beq (Nat.land (Nat.shiftRight n 0) 1) 1) .d13 .d12)) (cnd (Nat.beq (Nat.land (Nat.shiftRight n 1) 1) 1) (cnd (Nat.beq (Nat.land (Nat.shiftRight n 0) 1) 1) .d11 .d10) (cnd (Nat.beq (Nat.land (Nat.shiftRight n 0) 1) 1) .d9 .d8))) (cnd (Nat.beq (Nat.land (Nat.shiftRight n 2) 1) 1) (cnd (Nat.beq (Nat.land (Nat.shiftRight n 1) 1) 1) (cnd (Nat.beq (Nat.land (Nat.shiftRight n 0) 1) 1) .d7 .d6) (cnd (Nat.beq (Nat.land (Nat.shiftRight n 0) 1) 1) .d5 .d4)) (cnd (Nat.beq (Nat.land (Nat.shiftRight n 1) 1) 1) (cnd (Nat.beq (Nat.land (Nat.shiftRight n 0) 1) 1) .d3 .d2) (cnd (Nat.beq (Nat.land (Nat.shiftRight n 0) 1) 1) .d1 .d0))))
inductive AFn where
 | plain (f:Fn)
 | yield (i:Nat)
inductive AV where
 | junk
 | bool (b:Bool)
 | int (q:IntKind) (n:Int)
 | str (s:List Nat)
 | nilp
 | ptr (i o:Nat)
 | nils
 | slice (i o len cap:Nat) (ext:Bool)
 | emp
 | nilMap
 | map (i:Nat)
 | func (f:AFn) (first captured:List AV)
 | nilFunc
 | iface (t:TypeId) (v:AV)
 | nilIface
 | agg (cs:List AV)
 | tuple (vs:List AV)
structure qk where
 fn:AFn
 args:List AV
abbrev QD:=List (AV × Bool)
inductive QY where
 | na
 | returning
 | panicking (chain:QD)
inductive qd where
 | normal
 | exit (id:Nat)
 | goto (l:Nat)
 | ret
 | panic (chain:QD)
abbrev TT:=N16 (N16 (N16 AV))
inductive LSt where
 | ready | busy | done | exhausted
structure ALoop where
 state:LSt
 pending:qd
 fn:FuncId
 tmps:TT
 params:List Tmp
 assign:Code
 body:Code
 defers:Nat
inductive Q4 where
 | cells (c:List AV) (esz:Nat) (grown mark:Bool)
 | map (es:List (AV × AV)) (ver:Nat)
 | mapIter (m ver:Nat) (left:List (AV × AV)) (cur:AV)
 | nilIter
 | tomb
 | strIter (s:List Nat) (pos:Nat)
 | loop (l:ALoop)
 | deferred (ds:Option (List qk))
 | ro (c:List AV)
structure St where
 tmps:TT
 defers:List qk
 u:QY
inductive Res where
 | val (v:AV)
 | st (e:qd) (s:St)
 | done (v:AV) (u:QY)
 | pan (ch:QD) (u:QY)
abbrev Tr:=N16 (N16 (N16 (N16 (Option Q4))))
structure Q5 where
 t:Tr
 next:Nat
 lim:Nat
structure P4 where
 p:D16
 q:D16
 r:D16
 s:D16
 deriving DecidableEq
def p4 (n:Nat):P4:=⟨digit n,digit (Nat.shiftRight n 4),digit (Nat.shiftRight n 8),digit (Nat.shiftRight n 12)⟩
def Tr.getP (p:P4) (t:Tr):Option Q4:=P4.rec (motive:=λ_=>Option Q4) (λa b c d=>N16.get a (N16.get b (N16.get c (N16.get d t)))) p
def Tr.setP {β:Type} (p:P4) (v:Option Q4) (t:Tr) (k:Tr->β):β :=
 P4.rec (motive:=λ_=>β) (λa b c d=>N16.set a v (N16.get b (N16.get c (N16.get d t))) λx=>N16.set b x (N16.get c (N16.get d t)) λy=>N16.set c y (N16.get d t) λz=>N16.set d z t k) p
def Tr.empty:Tr:=N16.all (N16.all (N16.all (N16.all none)))
def top:Nat:=65536
def Q5.get (h:Q5) (i:Nat):Option Q4:=cnd (ltb i top) (Tr.getP (p4 i) h.t) none
def Qc {β:Type} (n:Nat) (k:Nat->β):β:=Nat.rec (motive:=λ_=>β) (k Nat.zero) (λm _=>k (Nat.succ m)) n
def jY {β:Type} (n:Int) (k:Int->β):β :=
 Int.rec (motive:=λ_=>β) (λm=>Qc m λm'=>k (Int.ofNat m')) (λm=>Qc m λm'=>k (Int.negSucc m')) n
inductive FM where
 | ret (r:Res)
 | fail (why:Nat)
 | get (i:Nat) (k:Q4->FM)
 | set (i:Nat) (o:Q4) (m:FM)
 | new (o:Q4) (k:Nat->FM)
 | here (k:Nat->FM)
 | drop (a w:Nat) (m:FM)
 | choose (n:Nat) (k:Nat->FM)
 | any (k:Nat->FM)
 | join (m:FM) (k:Res->FM)
 | loop (n:Nat) (body:St->FM) (st:St) (k:qd->St->FM)
 | regn (n:Nat) (ord:Nat->Nat->Bool) (slots:Nat->List Nat) (dst:Nat->Option Nat) (op:Nat->List AV->FM) (st:St) (k:St->FM)
end Go.X
namespace Go.X
def beqB (a b:Bool):Bool:=cnd a b (cnd b false true)
def eqI (a b:Int):Bool :=
 Int.rec (motive:=λ_=>Bool) (λm=>Int.rec (motive:=λ_=>Bool) (λp=>Nat.beq m p) (λ_=>false) b)
  (λm=>Int.rec (motive:=λ_=>Bool) (λ_=>false) (λp=>Nat.beq m p) b) a
def eqL {α:Type} (f:α->α->Bool) (a:List α):List α->Bool :=
 List.rec (motive:=λ_=>List α->Bool) (λb=>List.rec (motive:=λ_=>Bool) true (λ_ _ _=>false) b)
  (λx _ ih b=>List.rec (motive:=λ_=>Bool) false (λy s _=>cnd (f x y) (ih s) false) b) a
def eqNs (a b:List Nat):Bool:=eqL Nat.beq a b
def QT (q:IntKind):Nat:=IntKind.rec (motive:=λ_=>Nat) 0 1 2 3 4 5 6 7 q
def eqFn (f g:AFn):Bool :=
 AFn.rec (motive:=λ_=>Bool) (λa=>AFn.rec (motive:=λ_=>Bool) (λb=>decide (a=b)) (λ_=>false) g)
  (λi=>AFn.rec (motive:=λ_=>Bool) (λ_=>false) (λj=>Nat.beq i j) g) f
def qx (x:AV):AV->Bool :=
 AV.rec (motive_1:=λ_=>AV->Bool) (motive_2:=λ_=>List AV->Bool)
  (λy=>AV.rec (motive_1:=λ_=>Bool) (motive_2:=λ_=>PUnit) (true) (λ_=>false) (λ_ _=>false) (λ_=>false) false (λ_ _=>false) false (λ_ _ _ _ _=>false) false false (λ_=>false) (λ_ _ _ _ _=>false) false (λ_ _ _=>false) false (λ_ _=>false) (λ_ _=>false) PUnit.unit (λ_ _ _ _=>PUnit.unit) y)
  (λb y=>AV.rec (motive_1:=λ_=>Bool) (motive_2:=λ_=>PUnit) false (λc=>beqB b c) (λ_ _=>false) (λ_=>false) false (λ_ _=>false) false (λ_ _ _ _ _=>false) false false (λ_=>false) (λ_ _ _ _ _=>false) false (λ_ _ _=>false) false (λ_ _=>false) (λ_ _=>false) PUnit.unit (λ_ _ _ _=>PUnit.unit) y)
  (λq n y=>AV.rec (motive_1:=λ_=>Bool) (motive_2:=λ_=>PUnit) false (λ_=>false) (λr m=>cnd (Nat.beq (QT q) (QT r)) (eqI n m) false) (λ_=>false) false (λ_ _=>false) false (λ_ _ _ _ _=>false) false false (λ_=>false) (λ_ _ _ _ _=>false) false (λ_ _ _=>false) false (λ_ _=>false) (λ_ _=>false) PUnit.unit (λ_ _ _ _=>PUnit.unit) y)
  (λs y=>AV.rec (motive_1:=λ_=>Bool) (motive_2:=λ_=>PUnit) false (λ_=>false) (λ_ _=>false) (λt=>eqNs s t) false (λ_ _=>false) false (λ_ _ _ _ _=>false) false false (λ_=>false) (λ_ _ _ _ _=>false) false (λ_ _ _=>false) false (λ_ _=>false) (λ_ _=>false) PUnit.unit (λ_ _ _ _=>PUnit.unit) y)
  (λy=>AV.rec (motive_1:=λ_=>Bool) (motive_2:=λ_=>PUnit) false (λ_=>false) (λ_ _=>false) (λ_=>false) (true) (λ_ _=>false) false (λ_ _ _ _ _=>false) false false (λ_=>false) (λ_ _ _ _ _=>false) false (λ_ _ _=>false) false (λ_ _=>false) (λ_ _=>false) PUnit.unit (λ_ _ _ _=>PUnit.unit) y)
  (λi o y=>AV.rec (motive_1:=λ_=>Bool) (motive_2:=λ_=>PUnit) false (λ_=>false) (λ_ _=>false) (λ_=>false) false (λj p=>cnd (Nat.beq i j) (Nat.beq o p) false) false (λ_ _ _ _ _=>false) false false (λ_=>false) (λ_ _ _ _ _=>false) false (λ_ _ _=>false) false (λ_ _=>false) (λ_ _=>false) PUnit.unit (λ_ _ _ _=>PUnit.unit) y)
  (λy=>AV.rec (motive_1:=λ_=>Bool) (motive_2:=λ_=>PUnit) false (λ_=>false) (λ_ _=>false) (λ_=>false) false (λ_ _=>false) (true) (λ_ _ _ _ _=>false) false false (λ_=>false) (λ_ _ _ _ _=>false) false (λ_ _ _=>false) false (λ_ _=>false) (λ_ _=>false) PUnit.unit (λ_ _ _ _=>PUnit.unit) y)
  (λi o len cap ext y=>AV.rec (motive_1:=λ_=>Bool) (motive_2:=λ_=>PUnit) false (λ_=>false) (λ_ _=>false) (λ_=>false) false (λ_ _=>false) false (λj p len2 cap2 ext2=>cnd (cnd (Nat.beq i j) (Nat.beq o p) false) (cnd (cnd (Nat.beq len len2) (Nat.beq cap cap2) false) (beqB ext ext2) false) false) false false (λ_=>false) (λ_ _ _ _ _=>false) false (λ_ _ _=>false) false (λ_ _=>false) (λ_ _=>false) PUnit.unit (λ_ _ _ _=>PUnit.unit) y)
  (λy=>AV.rec (motive_1:=λ_=>Bool) (motive_2:=λ_=>PUnit) false (λ_=>false) (λ_ _=>false) (λ_=>false) false (λ_ _=>false) false (λ_ _ _ _ _=>false) (true) false (λ_=>false) (λ_ _ _ _ _=>false) false (λ_ _ _=>false) false (λ_ _=>false) (λ_ _=>false) PUnit.unit (λ_ _ _ _=>PUnit.unit) y)
  (λy=>AV.rec (motive_1:=λ_=>Bool) (motive_2:=λ_=>PUnit) false (λ_=>false) (λ_ _=>false) (λ_=>false) false (λ_ _=>false) false (λ_ _ _ _ _=>false) false (true) (λ_=>false) (λ_ _ _ _ _=>false) false (λ_ _ _=>false) false (λ_ _=>false) (λ_ _=>false) PUnit.unit (λ_ _ _ _=>PUnit.unit) y)
  (λi y=>AV.rec (motive_1:=λ_=>Bool) (motive_2:=λ_=>PUnit) false (λ_=>false) (λ_ _=>false) (λ_=>false) false (λ_ _=>false) false (λ_ _ _ _ _=>false) false false (λj=>Nat.beq i j) (λ_ _ _ _ _=>false) false (λ_ _ _=>false) false (λ_ _=>false) (λ_ _=>false) PUnit.unit (λ_ _ _ _=>PUnit.unit) y)
  (λf first captured hf hc y=>AV.rec (motive_1:=λ_=>Bool) (motive_2:=λ_=>PUnit) false (λ_=>false) (λ_ _=>false) (λ_=>false) false (λ_ _=>false) false (λ_ _ _ _ _=>false) false false (λ_=>false) (λg first2 captured2 _ _=>cnd (eqFn f g) (cnd (hf first2) (hc captured2) false) false) false (λ_ _ _=>false) false (λ_ _=>false) (λ_ _=>false) PUnit.unit (λ_ _ _ _=>PUnit.unit) y)
  (λy=>AV.rec (motive_1:=λ_=>Bool) (motive_2:=λ_=>PUnit) false (λ_=>false) (λ_ _=>false) (λ_=>false) false (λ_ _=>false) false (λ_ _ _ _ _=>false) false false (λ_=>false) (λ_ _ _ _ _=>false) (true) (λ_ _ _=>false) false (λ_ _=>false) (λ_ _=>false) PUnit.unit (λ_ _ _ _=>PUnit.unit) y)
  (λt v hv y=>AV.rec (motive_1:=λ_=>Bool) (motive_2:=λ_=>PUnit) false (λ_=>false) (λ_ _=>false) (λ_=>false) false (λ_ _=>false) false (λ_ _ _ _ _=>false) false false (λ_=>false) (λ_ _ _ _ _=>false) false (λt2 v2 _=>cnd (Nat.beq t t2) (hv v2) false) false (λ_ _=>false) (λ_ _=>false) PUnit.unit (λ_ _ _ _=>PUnit.unit) y)
  (λy=>AV.rec (motive_1:=λ_=>Bool) (motive_2:=λ_=>PUnit) false (λ_=>false) (λ_ _=>false) (λ_=>false) false (λ_ _=>false) false (λ_ _ _ _ _=>false) false false (λ_=>false) (λ_ _ _ _ _=>false) false (λ_ _ _=>false) (true) (λ_ _=>false) (λ_ _=>false) PUnit.unit (λ_ _ _ _=>PUnit.unit) y)
  (λcs hcs y=>AV.rec (motive_1:=λ_=>Bool) (motive_2:=λ_=>PUnit) false (λ_=>false) (λ_ _=>false) (λ_=>false) false (λ_ _=>false) false (λ_ _ _ _ _=>false) false false (λ_=>false) (λ_ _ _ _ _=>false) false (λ_ _ _=>false) false (λds _=>hcs ds) (λ_ _=>false) PUnit.unit (λ_ _ _ _=>PUnit.unit) y)
  (λvs hvs y=>AV.rec (motive_1:=λ_=>Bool) (motive_2:=λ_=>PUnit) false (λ_=>false) (λ_ _=>false) (λ_=>false) false (λ_ _=>false) false (λ_ _ _ _ _=>false) false false (λ_=>false) (λ_ _ _ _ _=>false) false (λ_ _ _=>false) false (λ_ _=>false) (λws _=>hvs ws) PUnit.unit (λ_ _ _ _=>PUnit.unit) y)
  (λl=>List.rec (motive:=λ_=>Bool) true (λ_ _ _=>false) l)
  (λ_ _ hh ht l=>List.rec (motive:=λ_=>Bool) false (λa r _=>cnd (hh a) (ht r) false) l)
  x
def jAh (x:List AV):List AV->Bool :=
 AV.rec_1 (motive_1:=λ_=>AV->Bool) (motive_2:=λ_=>List AV->Bool)
  (λy=>AV.rec (motive_1:=λ_=>Bool) (motive_2:=λ_=>PUnit) (true) (λ_=>false) (λ_ _=>false) (λ_=>false) false (λ_ _=>false) false (λ_ _ _ _ _=>false) false false (λ_=>false) (λ_ _ _ _ _=>false) false (λ_ _ _=>false) false (λ_ _=>false) (λ_ _=>false) PUnit.unit (λ_ _ _ _=>PUnit.unit) y)
  (λb y=>AV.rec (motive_1:=λ_=>Bool) (motive_2:=λ_=>PUnit) false (λc=>beqB b c) (λ_ _=>false) (λ_=>false) false (λ_ _=>false) false (λ_ _ _ _ _=>false) false false (λ_=>false) (λ_ _ _ _ _=>false) false (λ_ _ _=>false) false (λ_ _=>false) (λ_ _=>false) PUnit.unit (λ_ _ _ _=>PUnit.unit) y)
  (λq n y=>AV.rec (motive_1:=λ_=>Bool) (motive_2:=λ_=>PUnit) false (λ_=>false) (λr m=>cnd (Nat.beq (QT q) (QT r)) (eqI n m) false) (λ_=>false) false (λ_ _=>false) false (λ_ _ _ _ _=>false) false false (λ_=>false) (λ_ _ _ _ _=>false) false (λ_ _ _=>false) false (λ_ _=>false) (λ_ _=>false) PUnit.unit (λ_ _ _ _=>PUnit.unit) y)
  (λs y=>AV.rec (motive_1:=λ_=>Bool) (motive_2:=λ_=>PUnit) false (λ_=>false) (λ_ _=>false) (λt=>eqNs s t) false (λ_ _=>false) false (λ_ _ _ _ _=>false) false false (λ_=>false) (λ_ _ _ _ _=>false) false (λ_ _ _=>false) false (λ_ _=>false) (λ_ _=>false) PUnit.unit (λ_ _ _ _=>PUnit.unit) y)
  (λy=>AV.rec (motive_1:=λ_=>Bool) (motive_2:=λ_=>PUnit) false (λ_=>false) (λ_ _=>false) (λ_=>false) (true) (λ_ _=>false) false (λ_ _ _ _ _=>false) false false (λ_=>false) (λ_ _ _ _ _=>false) false (λ_ _ _=>false) false (λ_ _=>false) (λ_ _=>false) PUnit.unit (λ_ _ _ _=>PUnit.unit) y)
  (λi o y=>AV.rec (motive_1:=λ_=>Bool) (motive_2:=λ_=>PUnit) false (λ_=>false) (λ_ _=>false) (λ_=>false) false (λj p=>cnd (Nat.beq i j) (Nat.beq o p) false) false (λ_ _ _ _ _=>false) false false (λ_=>false) (λ_ _ _ _ _=>false) false (λ_ _ _=>false) false (λ_ _=>false) (λ_ _=>false) PUnit.unit (λ_ _ _ _=>PUnit.unit) y)
  (λy=>AV.rec (motive_1:=λ_=>Bool) (motive_2:=λ_=>PUnit) false (λ_=>false) (λ_ _=>false) (λ_=>false) false (λ_ _=>false) (true) (λ_ _ _ _ _=>false) false false (λ_=>false) (λ_ _ _ _ _=>false) false (λ_ _ _=>false) false (λ_ _=>false) (λ_ _=>false) PUnit.unit (λ_ _ _ _=>PUnit.unit) y)
  (λi o len cap ext y=>AV.rec (motive_1:=λ_=>Bool) (motive_2:=λ_=>PUnit) false (λ_=>false) (λ_ _=>false) (λ_=>false) false (λ_ _=>false) false (λj p len2 cap2 ext2=>cnd (cnd (Nat.beq i j) (Nat.beq o p) false) (cnd (cnd (Nat.beq len len2) (Nat.beq cap cap2) false) (beqB ext ext2) false) false) false false (λ_=>false) (λ_ _ _ _ _=>false) false (λ_ _ _=>false) false (λ_ _=>false) (λ_ _=>false) PUnit.unit (λ_ _ _ _=>PUnit.unit) y)
  (λy=>AV.rec (motive_1:=λ_=>Bool) (motive_2:=λ_=>PUnit) false (λ_=>false) (λ_ _=>false) (λ_=>false) false (λ_ _=>false) false (λ_ _ _ _ _=>false) (true) false (λ_=>false) (λ_ _ _ _ _=>false) false (λ_ _ _=>false) false (λ_ _=>false) (λ_ _=>false) PUnit.unit (λ_ _ _ _=>PUnit.unit) y)
  (λy=>AV.rec (motive_1:=λ_=>Bool) (motive_2:=λ_=>PUnit) false (λ_=>false) (λ_ _=>false) (λ_=>false) false (λ_ _=>false) false (λ_ _ _ _ _=>false) false (true) (λ_=>false) (λ_ _ _ _ _=>false) false (λ_ _ _=>false) false (λ_ _=>false) (λ_ _=>false) PUnit.unit (λ_ _ _ _=>PUnit.unit) y)
  (λi y=>AV.rec (motive_1:=λ_=>Bool) (motive_2:=λ_=>PUnit) false (λ_=>false) (λ_ _=>false) (λ_=>false) false (λ_ _=>false) false (λ_ _ _ _ _=>false) false false (λj=>Nat.beq i j) (λ_ _ _ _ _=>false) false (λ_ _ _=>false) false (λ_ _=>false) (λ_ _=>false) PUnit.unit (λ_ _ _ _=>PUnit.unit) y)
  (λf first captured hf hc y=>AV.rec (motive_1:=λ_=>Bool) (motive_2:=λ_=>PUnit) false (λ_=>false) (λ_ _=>false) (λ_=>false) false (λ_ _=>false) false (λ_ _ _ _ _=>false) false false (λ_=>false) (λg first2 captured2 _ _=>cnd (eqFn f g) (cnd (hf first2) (hc captured2) false) false) false (λ_ _ _=>false) false (λ_ _=>false) (λ_ _=>false) PUnit.unit (λ_ _ _ _=>PUnit.unit) y)
  (λy=>AV.rec (motive_1:=λ_=>Bool) (motive_2:=λ_=>PUnit) false (λ_=>false) (λ_ _=>false) (λ_=>false) false (λ_ _=>false) false (λ_ _ _ _ _=>false) false false (λ_=>false) (λ_ _ _ _ _=>false) (true) (λ_ _ _=>false) false (λ_ _=>false) (λ_ _=>false) PUnit.unit (λ_ _ _ _=>PUnit.unit) y)
  (λt v hv y=>AV.rec (motive_1:=λ_=>Bool) (motive_2:=λ_=>PUnit) false (λ_=>false) (λ_ _=>false) (λ_=>false) false (λ_ _=>false) false (λ_ _ _ _ _=>false) false false (λ_=>false) (λ_ _ _ _ _=>false) false (λt2 v2 _=>cnd (Nat.beq t t2) (hv v2) false) false (λ_ _=>false) (λ_ _=>false) PUnit.unit (λ_ _ _ _=>PUnit.unit) y)
  (λy=>AV.rec (motive_1:=λ_=>Bool) (motive_2:=λ_=>PUnit) false (λ_=>false) (λ_ _=>false) (λ_=>false) false (λ_ _=>false) false (λ_ _ _ _ _=>false) false false (λ_=>false) (λ_ _ _ _ _=>false) false (λ_ _ _=>false) (true) (λ_ _=>false) (λ_ _=>false) PUnit.unit (λ_ _ _ _=>PUnit.unit) y)
  (λcs hcs y=>AV.rec (motive_1:=λ_=>Bool) (motive_2:=λ_=>PUnit) false (λ_=>false) (λ_ _=>false) (λ_=>false) false (λ_ _=>false) false (λ_ _ _ _ _=>false) false false (λ_=>false) (λ_ _ _ _ _=>false) false (λ_ _ _=>false) false (λds _=>hcs ds) (λ_ _=>false) PUnit.unit (λ_ _ _ _=>PUnit.unit) y)
  (λvs hvs y=>AV.rec (motive_1:=λ_=>Bool) (motive_2:=λ_=>PUnit) false (λ_=>false) (λ_ _=>false) (λ_=>false) false (λ_ _=>false) false (λ_ _ _ _ _=>false) false false (λ_=>false) (λ_ _ _ _ _=>false) false (λ_ _ _=>false) false (λ_ _=>false) (λws _=>hvs ws) PUnit.unit (λ_ _ _ _=>PUnit.unit) y)
  (λl=>List.rec (motive:=λ_=>Bool) true (λ_ _ _=>false) l)
  (λ_ _ hh ht l=>List.rec (motive:=λ_=>Bool) false (λa r _=>cnd (hh a) (ht r) false) l)
  x
def N16.eq {α:Type} (f:α->α->Bool) (x y:N16 α):Bool :=
 N16.rec (motive:=λ_=>Bool) (λa0 a1 a2 a3 a4 a5 a6 a7 a8 a9 a10 a11 a12 a13 a14 a15=>N16.rec (motive:=λ_=>Bool) (λb0 b1 b2 b3 b4 b5 b6 b7 b8 b9 b10 b11 b12 b13 b14 b15=>cnd (f a0 b0) (cnd (f a1 b1) (cnd (f a2 b2) (cnd (f a3 b3) (cnd (f a4 b4) (cnd (f a5 b5) (cnd (f a6 b6) (cnd (f a7 b7) (cnd (f a8 b8) (cnd (f a9 b9) (cnd (f a10 b10) (cnd (f a11 b11) (cnd (f a12 b12) (cnd (f a13 b13) (cnd (f a14 b14) (f a15 b15) false) false) false) false) false) false) false) false) false) false) false) false) false) false) false) y) x
def qXe (a b:QD):Bool:=eqL (λx y=>cnd (qx x.1 y.1) (beqB x.2 y.2) false) a b
def jE9 (a b:QY):Bool :=
 QY.rec (motive:=λ_=>Bool) (QY.rec (motive:=λ_=>Bool) true false (λ_=>false) b) (QY.rec (motive:=λ_=>Bool) false true (λ_=>false) b)
  (λc=>QY.rec (motive:=λ_=>Bool) false false (λd=>qXe c d) b) a
def eqDef (a b:qk):Bool:=cnd (eqFn a.fn b.fn) (eqL qx a.args b.args) false
def eqSt (a b:St):Bool:=cnd (N16.eq (N16.eq (N16.eq qx)) a.tmps b.tmps) (cnd (eqL eqDef a.defers b.defers) (jE9 a.u b.u) false) false
def eqExit (a b:qd):Bool :=
 qd.rec (motive:=λ_=>Bool)
  (qd.rec (motive:=λ_=>Bool) true (λ_=>false) (λ_=>false) false (λ_=>false) b)
  (λi=>qd.rec (motive:=λ_=>Bool) false (λj=>Nat.beq i j) (λ_=>false) false (λ_=>false) b)
  (λi=>qd.rec (motive:=λ_=>Bool) false (λ_=>false) (λj=>Nat.beq i j) false (λ_=>false) b)
  (qd.rec (motive:=λ_=>Bool) false (λ_=>false) (λ_=>false) true (λ_=>false) b)
  (λc=>qd.rec (motive:=λ_=>Bool) false (λ_=>false) (λ_=>false) false (λd=>qXe c d) b) a
def jAc (a b:Res):Bool :=
 Res.rec (motive:=λ_=>Bool)
  (λv=>Res.rec (motive:=λ_=>Bool) (λw=>qx v w) (λ_ _=>false) (λ_ _=>false) (λ_ _=>false) b)
  (λe s=>Res.rec (motive:=λ_=>Bool) (λ_=>false) (λe' s'=>cnd (eqExit e e') (eqSt s s') false) (λ_ _=>false) (λ_ _=>false) b)
  (λv u=>Res.rec (motive:=λ_=>Bool) (λ_=>false) (λ_ _=>false) (λv' u'=>cnd (qx v v') (jE9 u u') false) (λ_ _=>false) b)
  (λc u=>Res.rec (motive:=λ_=>Bool) (λ_=>false) (λ_ _=>false) (λ_ _=>false) (λc' u'=>cnd (qXe c c') (jE9 u u') false) b) a
def jE7 (a b:AV × AV):Bool:=cnd (qx a.1 b.1) (qx a.2 b.2) false
def eqObj (a b:Q4):Bool :=
 Q4.rec (motive:=λ_=>Bool)
  (λc e g k=>Q4.rec (motive:=λ_=>Bool) (λc' e' g' k'=>cnd (cnd (eqL qx c c') (Nat.beq e e') false) (cnd (beqB g g') (beqB k k') false) false) (λ_ _=>false) (λ_ _ _ _=>false) false false (λ_ _=>false) (λ_=>false) (λ_=>false) (λ_=>false) b)
  (λes v=>Q4.rec (motive:=λ_=>Bool) (λ_ _ _ _=>false) (λes' v'=>cnd (eqL jE7 es es') (Nat.beq v v') false) (λ_ _ _ _=>false) false false (λ_ _=>false) (λ_=>false) (λ_=>false) (λ_=>false) b)
  (λm v l c=>Q4.rec (motive:=λ_=>Bool) (λ_ _ _ _=>false) (λ_ _=>false) (λm' v' l' c'=>cnd (cnd (Nat.beq m m') (Nat.beq v v') false) (cnd (eqL jE7 l l') (qx c c') false) false) false false (λ_ _=>false) (λ_=>false) (λ_=>false) (λ_=>false) b)
  (Q4.rec (motive:=λ_=>Bool) (λ_ _ _ _=>false) (λ_ _=>false) (λ_ _ _ _=>false) true false (λ_ _=>false) (λ_=>false) (λ_=>false) (λ_=>false) b)
  (Q4.rec (motive:=λ_=>Bool) (λ_ _ _ _=>false) (λ_ _=>false) (λ_ _ _ _=>false) false true (λ_ _=>false) (λ_=>false) (λ_=>false) (λ_=>false) b)
  (λs p=>Q4.rec (motive:=λ_=>Bool) (λ_ _ _ _=>false) (λ_ _=>false) (λ_ _ _ _=>false) false false (λs' p'=>cnd (eqNs s s') (Nat.beq p p') false) (λ_=>false) (λ_=>false) (λ_=>false) b)
  (λ_=>false) (λ_=>false)
  (λc=>Q4.rec (motive:=λ_=>Bool) (λ_ _ _ _=>false) (λ_ _=>false) (λ_ _ _ _=>false) false false (λ_ _=>false) (λ_=>false) (λ_=>false) (λc'=>eqL qx c c') b) a
def qHa (a b:Option Q4):Bool :=
 Option.rec (motive:=λ_=>Bool) (Option.rec (motive:=λ_=>Bool) true (λ_=>false) b) (λx=>Option.rec (motive:=λ_=>Bool) false (λy=>eqObj x y) b) a
theorem ff {p:Prop} (h:false=true):p:=by cases h
theorem Q6 {β:Type} (t e:β):cnd true t e=t:=rfl
theorem Q8 {β:Type} (t e:β):cnd false t e=e:=rfl
theorem Qk {a b:Bool}:cnd a b false=true↔a=true/\b=true:=by cases a <;> cases b <;> simp[cnd]
theorem qKm {a b:Bool}:beqB a b=true↔a=b:=by cases a <;> cases b <;> simp[beqB,cnd]
theorem jAf {a b:Int}:eqI a b=true↔a=b:=by cases a <;> cases b <;> simp[eqI] <;> omega
theorem jAe {α:Type} {f:α->α->Bool} {a:List α} (h:∀x∈a,∀y,f x y=true->x=y):∀{b:List α},eqL f a b=true->a=b:=by
 induction a with
 | nil=>intro b hb;cases b with
  | nil=>rfl
  | cons y s=>exact ff hb
 | cons x t ih=>intro b hb;cases b with
  | nil=>exact ff hb
  | cons y s =>have h':cnd (f x y) (eqL f t s) false=true:=hb;obtain⟨h1,h2⟩:=Qk.1 h';rw[h x (by simp) y h1,ih (λz hz=>h z (by simp[hz])) h2]
theorem QA {a b:Nat} (h:Nat.beq a b=true):a=b:=Nat.eq_of_beq_eq_true h
theorem qSo {a b:List Nat} (h:eqNs a b=true):a=b:=jAe (λ_ _ _ h=>QA h) h
theorem qP2 {q r:IntKind} (h:Nat.beq (QT q) (QT r)=true):q=r:=by cases q <;> cases r <;> simp_all [QT]
theorem eqFn_eq {f g:AFn} (h:eqFn f g=true):f=g:=by
 cases f <;> cases g
 .exact congrArg AFn.plain (of_decide_eq_true h)
 .exact ff h
 .exact ff h
 .exact congrArg AFn.yield (QA h)
theorem qG1:∀x y,qx x y=true->x=y:=by
 intro x
 induction x using AV.rec (motive_2:=λl=>∀l',jAh l l'=true->l=l') with
 | func f first captured h1 h2 =>
  intro y h;cases y <;> first | exact ff h | skip
  have h':cnd (eqFn f _) (cnd (jAh first _) (jAh captured _) false) false=true:=h;obtain⟨a,b⟩:=Qk.1 h';obtain⟨b,c⟩:=Qk.1 b;rw[eqFn_eq a,h1 _ b,h2 _ c]
 | iface t v ih =>
  intro y h;cases y <;> first | exact ff h | skip
  have h':cnd (Nat.beq t _) (qx v _) false=true:=h;obtain⟨a,b⟩:=Qk.1 h';rw[QA a,ih _ b]
 | agg cs ih =>
  intro y h;cases y <;> first | exact ff h | skip
  rw[ih _ h]
 | tuple cs ih =>
  intro y h;cases y <;> first | exact ff h | skip
  rw[ih _ h]
 | junk=>intro y h;cases y <;> first | rfl | exact ff h
 | bool b=>
  intro y h;cases y <;> first | exact ff h | skip
  rw[qKm.1 h]
 | int q n =>
  intro y h;cases y <;> first | exact ff h | skip
  have h':cnd (Nat.beq (QT q) _) (eqI n _) false=true:=h;obtain⟨a,b⟩:=Qk.1 h';rw[qP2 a,jAf.1 b]
 | str s =>
  intro y h;cases y <;> first | exact ff h | skip
  rw[qSo h]
 | nilp=>intro y h;cases y <;> first | rfl | exact ff h
 | ptr i o =>
  intro y h;cases y <;> first | exact ff h | skip
  have h':cnd (Nat.beq i _) (Nat.beq o _) false=true:=h;obtain⟨a,b⟩:=Qk.1 h';rw[QA a,QA b]
 | nils=>intro y h;cases y <;> first | rfl | exact ff h
 | slice i o len cap ext =>
  intro y h;cases y <;> first | exact ff h | skip
  rename_i j p l2 c2 e2;have h':cnd (cnd (Nat.beq i j) (Nat.beq o p) false) (cnd (cnd (Nat.beq len l2) (Nat.beq cap c2) false) (beqB ext e2) false) false=true:=h;obtain⟨a,b⟩:=Qk.1 h';obtain⟨a1,a2⟩:=Qk.1 a;obtain⟨b1,b2⟩:=Qk.1 b;obtain⟨b3,b4⟩:=Qk.1 b1;rw[QA a1,QA a2,QA b3,QA b4,qKm.1 b2]
 | emp=>intro y h;cases y <;> first | rfl | exact ff h
 | nilMap=>intro y h;cases y <;> first | rfl | exact ff h
 | map i =>
  intro y h;cases y <;> first | exact ff h | skip
  rw[QA h]
 | nilFunc=>intro y h;cases y <;> first | rfl | exact ff h
 | nilIface=>intro y h;cases y <;> first | rfl | exact ff h
 | nil=>rename_i l' h;cases l' with
  | nil=>rfl
  | cons y s=>exact ff h
 | cons a t ha ht=>rename_i l' h;cases l' with
  | nil=>exact ff h
  | cons y s =>have h':cnd (qx a y) (jAh t s) false=true:=h;obtain⟨p,q⟩:=Qk.1 h';rw[ha _ p,ht _ q]
theorem N16.eq_eq {α:Type} {f:α->α->Bool} (hf:∀x y,f x y=true->x=y) {x y:N16 α} (h:N16.eq f x y=true):x=y:=by cases x;cases y;simp only[N16.eq,Qk] at h;simp only[N16.mk.injEq];refine⟨?_,?_,?_,?_,?_,?_,?_,?_,?_,?_,?_,?_,?_,?_,?_,?_⟩ <;> (apply hf;simp[h])
theorem qNu {a b:QD} (h:qXe a b=true):a=b :=
 jAe (λx _ y hxy=>by
  obtain⟨p,q⟩:=Qk.1 hxy;exact Prod.ext (qG1 _ _ p) (qKm.1 q)) h
theorem qSp {a b:QY} (h:jE9 a b=true):a=b:=by cases a <;> cases b <;> first | rfl | exact ff h | exact congrArg QY.panicking (qNu h)
theorem qI4 {a b:List AV} (h:eqL qx a b=true):a=b:=jAe (λx _ y=>qG1 x y) h
theorem eqDef_eq {a b:qk} (h:eqDef a b=true):a=b:=by obtain⟨p,q⟩:=Qk.1 h;cases a;cases b;simp only[qk.mk.injEq];exact⟨eqFn_eq p,qI4 q⟩
theorem eqSt_eq {a b:St} (h:eqSt a b=true):a=b:=by obtain⟨p,q⟩:=Qk.1 h;obtain⟨q,r⟩:=Qk.1 q;cases a;cases b;simp only[St.mk.injEq];exact⟨N16.eq_eq (λ_ _ h=>N16.eq_eq (λ_ _ h=>N16.eq_eq (λ_ _=>qG1 _ _) h) h) p,jAe (λ_ _ _ h=>eqDef_eq h) q,qSp r⟩
theorem eqExit_eq {a b:qd} (h:eqExit a b=true):a=b:=by cases a <;> cases b <;> first | rfl | exact ff h | exact congrArg qd.exit (QA h) | exact congrArg qd.goto (QA h) | exact congrArg qd.panic (qNu h)
theorem qXd {a b:Res} (h:jAc a b=true):a=b:=by
 cases a <;> cases b <;> first | exact ff h | skip
 .exact congrArg Res.val (qG1 _ _ h)
 .obtain⟨p,q⟩:=Qk.1 h;rw[eqExit_eq p,eqSt_eq q]
 .obtain⟨p,q⟩:=Qk.1 h;rw[qG1 _ _ p,qSp q]
 .obtain⟨p,q⟩:=Qk.1 h;rw[qNu p,qSp q]
theorem eqPair_eq {a b:AV × AV} (h:jE7 a b=true):a=b:=by obtain⟨p,q⟩:=Qk.1 h;exact Prod.ext (qG1 _ _ p) (qG1 _ _ q)
theorem qUv {a b:List (AV × AV)} (h:eqL jE7 a b=true):a=b:=jAe (λ_ _ _ h=>eqPair_eq h) h
theorem jE8 {a b:Q4} (h:eqObj a b=true):a=b:=by
 cases a <;> cases b <;> first | rfl | exact ff h | skip
 .obtain⟨p,q⟩:=Qk.1 h;obtain⟨p1,p2⟩:=Qk.1 p;obtain⟨q1,q2⟩:=Qk.1 q;rw[qI4 p1,QA p2,qKm.1 q1,qKm.1 q2]
 .obtain⟨p,q⟩:=Qk.1 h;rw[qUv p,QA q]
 .obtain⟨p,q⟩:=Qk.1 h;obtain⟨p1,p2⟩:=Qk.1 p;obtain⟨q1,q2⟩:=Qk.1 q;rw[QA p1,QA p2,qUv q1,qG1 _ _ q2]
 .obtain⟨p,q⟩:=Qk.1 h;rw[qSo p,QA q]
 .rw[qI4 h]
theorem qMg {a b:Option Q4} (h:qHa a b=true):a=b:=by cases a <;> cases b <;> first | rfl | exact ff h | exact congrArg some (jE8 h)
end Go.X
namespace Go.X
def N16.put {α:Type} (d:D16) (v:α) (n:N16 α):N16 α:=N16.set d v n λx=>x
theorem N16.set_put {α β:Type} (d:D16) (v:α) (n:N16 α) (k:N16 α->β):N16.set d v n k=k (N16.put d v n):=by cases n;cases d <;> rfl
theorem N16.get_put {α:Type} (d e:D16) (v:α) (n:N16 α):N16.get d (N16.put e v n)=if d=e then v else N16.get d n:=by cases n;cases d <;> cases e <;> first | rfl | (rw[if_neg (by intro h;cases h)];rfl) | (rw[if_pos rfl];rfl)
theorem N16.ext {α:Type} {x y:N16 α} (h:∀d,N16.get d x=N16.get d y):x=y:=by cases x;cases y;simp only[N16.mk.injEq];exact⟨h .d0,h .d1,h .d2,h .d3,h .d4,h .d5,h .d6,h .d7,h .d8,h .d9,h .d10,h .d11,h .d12,h .d13,h .d14,h .d15⟩
def dN (d:D16):Nat:=D16.rec (motive:=λ_=>Nat) 0 1 2 3 4 5 6 7 8 9 10 11 12 13 14 15 d
theorem Jg (d:D16):dN d<16:=by cases d <;> decide
theorem qHb {d e:D16} (h:dN d=dN e):d=e:=by cases d <;> cases e <;> first | rfl | exact absurd h (by decide)
theorem bit_cnd {β:Type} (n k:Nat) (t e:β):cnd (Nat.beq (Nat.land (Nat.shiftRight n k) 1) 1) t e=if n / 2 ^ k % 2=1 then t else e:=by
 have h:Nat.land (Nat.shiftRight n k) 1=n / 2 ^ k % 2:=by show (n >>> k) &&& 1=_;rw[Nat.and_one_is_mod,Nat.shiftRight_eq_div_pow]
 rw[h];by_cases hb:n / 2 ^ k % 2=1
 .rw[hb,if_pos rfl];rfl
 .rw[if_neg hb]
  have:Nat.beq (n / 2 ^ k % 2) 1=false:=by
   cases hq:Nat.beq (n / 2 ^ k % 2) 1
   .rfl
   .exact absurd (QA hq) hb
  rw[this];rfl
theorem Jh (n:Nat):dN (digit n)=n % 16:=by unfold digit;simp only[bit_cnd];split <;> split <;> split <;> split <;> simp only[dN] <;> omega
theorem qK3 (n k:Nat):Nat.shiftRight n k=n / 2 ^ k:=Nat.shiftRight_eq_div_pow n k
theorem p4_inj {n m:Nat} (hn:n<65536) (hm:m<65536) (h:p4 n=p4 m):n=m:=by simp only[p4,P4.mk.injEq,qK3] at h;obtain⟨h1,h2,h3,h4⟩:=h;have e1:=congrArg dN h1;have e2:=congrArg dN h2;have e3:=congrArg dN h3;have e4:=congrArg dN h4;simp only[Jh] at e1 e2 e3 e4;omega
def Tr.put (p:P4) (v:Option Q4) (t:Tr):Tr:=Tr.setP p v t λx=>x
theorem Tr.setP_put {β:Type} (p:P4) (v:Option Q4) (t:Tr) (k:Tr->β):Tr.setP p v t k=k (Tr.put p v t):=by cases p;simp only[Tr.put,Tr.setP,N16.set_put]
theorem Tr.get_put (p q:P4) (v:Option Q4) (t:Tr):Tr.getP p (Tr.put q v t)=if p=q then v else Tr.getP p t:=by cases p;cases q;simp only[Tr.put,Tr.setP,Tr.getP,N16.set_put,N16.get_put,P4.mk.injEq];rename_i a b c d a' b' c' d';by_cases h1:d=d' <;> by_cases h2:c=c' <;> by_cases h3:b=b' <;> by_cases h4:a=a' <;> simp[h1,h2,h3,h4,N16.get_put]
theorem Tr.ext {t u:Tr} (h:∀p,Tr.getP p t=Tr.getP p u):t=u :=
 N16.ext λd=>N16.ext λc=>N16.ext λb=>N16.ext λa=>h ⟨a,b,c,d⟩
theorem N16.get_all {α:Type} (d:D16) (v:α):N16.get d (N16.all v)=v:=by cases d <;> rfl
theorem Tr.get_empty (p:P4):Tr.getP p Tr.empty=none:=by cases p;simp only[Tr.getP,Tr.empty,N16.get_all]
theorem Qo {a b:Nat}:ltb a b=true↔a<b:=by simp[ltb];omega
theorem qE {a b:Nat}:ltb a b=false↔b<=a:=by
 cases h:ltb a b
 .simp;exact Nat.le_of_not_lt λhlt=>by rw[Qo.2 hlt] at h;cases h
 .simp;exact Qo.1 h
def Q5.put (h:Q5) (i:Nat) (o:Option Q4):Q5:=⟨Tr.put (p4 i) o h.t,h.next,h.lim⟩
theorem qYh:top=65536:=rfl
theorem Q5.get_of_lt {h:Q5} {i:Nat} (hi:i<top):h.get i=Tr.getP (p4 i) h.t:=by unfold Q5.get;rw[Qo.2 hi];rfl
theorem Q5.get_big {h:Q5} {i:Nat} (hi:top<=i):h.get i=none:=by unfold Q5.get;rw[qE.2 hi];rfl
theorem Q5.get_put (h:Q5) {i:Nat} (hi:i<top) (j:Nat) (o:Option Q4):(h.put i o).get j=if j=i then o else h.get j:=by
 by_cases hj:j<top
 .rw[Q5.get_of_lt hj,Q5.get_of_lt hj];simp only[Q5.put,Tr.get_put];by_cases e:j=i
  .subst e;simp
  .rw[if_neg e,if_neg (λh'=>e (p4_inj (by rw[<- qYh];exact hj) (by rw[<- qYh];exact hi) h'))]
 .have hj':=Nat.le_of_not_lt hj;rw[Q5.get_big hj',Q5.get_big hj',if_neg (by omega)]
@[simp] theorem Q5.next_put (h:Q5) (i:Nat) (o:Option Q4):(h.put i o).next=h.next:=rfl
@[simp] theorem Q5.lim_put (h:Q5) (i:Nat) (o:Option Q4):(h.put i o).lim=h.lim:=rfl
theorem P4.surj (p:P4):∃i,i<top/\p4 i=p:=by
 cases p;rename_i a b c d;refine⟨dN a+16*dN b+256*dN c+4096*dN d,?_,?_⟩
 .have:=Jg a;have:=Jg b;have:=Jg c;have:=Jg d;rw[qYh];omega
 .have ha:=Jg a;have hb:=Jg b;have hc:=Jg c;have hd:=Jg d;simp only[p4,qK3,P4.mk.injEq];refine⟨qHb ?_,qHb ?_,qHb ?_,qHb ?_⟩ <;> rw[Jh] <;> omega
theorem Q5.ext {h g:Q5} (ht:∀i,h.get i=g.get i) (hn:h.next=g.next) (hl:h.lim=g.lim):h=g:=by
 cases h;cases g;simp only at hn hl;subst hn;subst hl;congr;refine Tr.ext λp=>?_;obtain⟨i,hi,rfl⟩:=P4.surj p
 have:=ht i
 rwa [Q5.get_of_lt hi,Q5.get_of_lt hi] at this
theorem Qb {β:Type} (n:Nat) (k:Nat->β):Qc n k=k n:=by cases n <;> rfl
theorem jX {β:Type} (n:Int) (k:Int->β):jY n k=k n:=by cases n <;> simp[jY,Qb]
def qH (a:Nat) (n:Nat) (h:Q5):Q5:=Nat.rec (motive:=λ_=>Q5) h (λj g=>g.put (Nat.add a j) none) n
theorem jG (a n:Nat) (h:Q5) (hn:a+n<=top) (j:Nat):(qH a n h).get j=if a<=j/\j<a+n then none else h.get j:=by
 induction n with
 | zero=>rw[if_neg (by omega)];rfl
 | succ n ih =>
  show ((qH a n h).put (a+n) none).get j=_;rw[Q5.get_put _ (by omega),ih (by omega)];by_cases e:j=a+n
  .rw[if_pos e,if_pos (by omega)]
  .rw[if_neg e];by_cases e2:a<=j/\j<a+n
   .rw[if_pos e2,if_pos (by omega)]
   .rw[if_neg e2,if_neg (by omega)]
@[simp] theorem qXg (a n:Nat) (h:Q5):(qH a n h).next=h.next:=by induction n with | zero=>rfl | succ n ih=>exact ih
@[simp] theorem jAi (a n:Nat) (h:Q5):(qH a n h).lim=h.lim:=by induction n with | zero=>rfl | succ n ih=>exact ih
end Go.X
namespace Go.X
structure P2 where
 p:D16
 q:D16
 r:D16
 deriving DecidableEq
def p2 (n:Nat):P2:=⟨digit n,digit (Nat.shiftRight n 4),digit (Nat.shiftRight n 8)⟩
def TT.getP (p:P2) (t:TT):AV:=P2.rec (motive:=λ_=>AV) (λa b c=>N16.get a (N16.get b (N16.get c t))) p
def TT.setP {β:Type} (p:P2) (v:AV) (t:TT) (k:TT->β):β:=P2.rec (motive:=λ_=>β) (λa b c=>N16.set a v (N16.get b (N16.get c t)) λx=>N16.set b x (N16.get c t) λy=>N16.set c y t k) p
def TT.at (s:Nat) (t:TT):AV:=TT.getP (p2 s) t
def TT.putK {β:Type} (s:Nat) (v:AV) (t:TT) (k:TT->β):β:=TT.setP (p2 s) v t k
def TT.put (s:Nat) (v:AV) (t:TT):TT:=TT.putK s v t λx=>x
def TT.empty:TT:=N16.all (N16.all (N16.all .junk))
theorem TT.putK_eq {β:Type} (s:Nat) (v:AV) (t:TT) (k:TT->β):TT.putK s v t k=k (TT.put s v t):=by simp only[TT.put,TT.putK,TT.setP,p2,N16.set_put]
theorem p2_inj {n m:Nat} (hn:n<4096) (hm:m<4096) (h:p2 n=p2 m):n=m:=by simp only[p2,P2.mk.injEq,qK3] at h;obtain⟨h1,h2,h3⟩:=h;have e1:=congrArg dN h1;have e2:=congrArg dN h2;have e3:=congrArg dN h3;simp only[Jh] at e1 e2 e3;omega
theorem TT.getP_put (p:P2) (s:Nat) (v:AV) (t:TT):TT.getP p (TT.put s v t)=if p=p2 s then v else TT.getP p t:=by cases p;rename_i a b c;simp only[TT.put,TT.putK,TT.setP,TT.getP,p2,N16.set_put,N16.get_put,P2.mk.injEq];generalize digit (Nat.shiftRight s 8)=w;generalize digit (Nat.shiftRight s 4)=x;generalize digit s=y;by_cases h0:c=w <;> by_cases h1:b=x <;> by_cases h2:a=y <;> simp[h0,h1,h2,N16.get_put]
theorem TT.at_put {s:Nat} (hs:s<4096) {r:Nat} (hr:r<4096) (v:AV) (t:TT):(TT.put s v t).at r=if r=s then v else t.at r:=by
 unfold TT.at
 rw[TT.getP_put];by_cases e:r=s
 .subst e;simp
 .rw[if_neg e,if_neg (λh=>e (p2_inj hr hs h))]
theorem TT.ext {t u:TT} (h:∀s,s<4096->t.at s=u.at s):t=u:=by
 refine N16.ext λc=>N16.ext λb=>N16.ext λa=>?_
 have:=h (dN a+16*dN b+256*dN c) (by have:=Jg a;have:=Jg b;have:=Jg c;omega)
 unfold TT.at p2 TT.getP at this;have e1:digit (dN a+16*dN b+256*dN c)=a:=qHb (by rw[Jh];have:=Jg a;omega);have e2:digit (Nat.shiftRight (dN a+16*dN b+256*dN c) 4)=b:=qHb (by rw[Jh,qK3];have:=Jg a;have:=Jg b;omega);have e3:digit (Nat.shiftRight (dN a+16*dN b+256*dN c) 8)=c:=qHb (by rw[Jh,qK3];have:=Jg a;have:=Jg b;have:=Jg c;omega);rw[e1,e2,e3] at this;exact this
def St.put (d:Option Nat) (v:AV) (st:St):St:=Option.rec (motive:=λ_=>St) st (λs=>⟨TT.put s v st.tmps,st.defers,st.u⟩) d
def St.sel (l:List Nat) (st:St):List AV:=List.rec (motive:=λ_=>List AV) [] (λs _ ih=>st.tmps.at s::ih) l
theorem St.sel_congr {l:List Nat} {a b:St} (h:∀s∈l,a.tmps.at s=b.tmps.at s):a.sel l=b.sel l:=by
 induction l with
 | nil=>rfl
 | cons s t ih =>show a.tmps.at s::a.sel t=b.tmps.at s::b.sel t;rw[h s (by simp),ih (λr hr=>h r (by simp[hr]))]
structure LinExt (n:Nat) (ord:Nat->Nat->Bool) (l:List Nat):Prop where
 nodup:l.Nodup
 mem:∀i,i∈l↔i<n
 ord:∀a i b,l=a++i::b->∀j,j<n->ord j i=true->j∈a
end Go.X
namespace Go.X
abbrev qMl:=Res->Q5->Prop
def qGx (bodyS:St->qMl->Q5->Prop) (kS:qd->St->Q5->Prop):Nat->St->Q5->Prop
 | 0,_,_=>False
 | n+1,st,h=>bodyS st (λr h'=>match r with
   | .st .normal st'=>qGx bodyS kS n st' h'
   | .st e st'=>kS e st' h'
   | _=>False) h
def Q5.win (h:Q5) (next lim:Nat):Q5:=⟨h.t,next,lim⟩
@[simp] theorem Q5.win_get (h:Q5) (a b i:Nat):(h.win a b).get i=h.get i:=rfl
@[simp] theorem Q5.win_next (h:Q5) (a b:Nat):(h.win a b).next=a:=rfl
@[simp] theorem Q5.win_lim (h:Q5) (a b:Nat):(h.win a b).lim=b:=rfl
def qHt (slots:Nat->List Nat) (dst:Nat->Option Nat) (opS:Nat->List AV->qMl->Q5->Prop) (pos:Nat->Nat) (n lim:Nat) (kS:St->Q5->Prop):List Nat->St->Q5->Prop
 | [],st,h=>kS st (h.win (pos n) lim)
 | i::l,st,h=>opS i (st.sel (slots i)) (λr h'=>∃v,r=.val v/\qHt slots dst opS pos n lim kS l (st.put (dst i) v) h') (h.win (pos i) (pos (i+1)))
def FM.satT:FM->qMl->Q5->Prop
 | .ret r,p,h=>p r h
 | .fail _,_,_=>False
 | .get i k,p,h=>∃o,h.get i=some o/\(k o).satT p h
 | .set i o m,p,h=>i<h.next/\m.satT p (h.put i (some o))
 | .new o k,p,h=>h.next<h.lim/\(k h.next).satT p ⟨(h.put h.next (some o)).t,h.next+1,h.lim⟩
 | .here k,p,h=>(k h.next).satT p h
 | .drop a w m,p,h=>a<=h.next/\h.next<=a+w/\a+w<=h.lim/\m.satT p ((qH a (h.next-a) h).win (a+w) h.lim)
 | .choose n k,p,h=>∀j,j<n->(k j).satT p h
 | .any k,p,h=>∀j,(k j).satT p h
 | .join m k,p,h=>m.satT (λr h'=>(k r).satT p h') h
 | .loop n body st k,p,h=>qGx (λs q g=>(body s).satT q g) (λe s g=>(k e s).satT p g) n st h
 | .regn n ord slots dst op st k,p,h=>∃pos:Nat->Nat,pos 0=h.next/\(∀i,i<n->pos i<=pos (i+1))/\pos n<=h.lim /\
   ∀l,LinExt n ord l->qHt slots dst (λi vs q g=>(op i vs).satT q g) pos n h.lim (λs g=>(k s).satT p g) l st h
theorem qL8 {bodyS:St->qMl->Q5->Prop} {kS kS':qd->St->Q5->Prop}
  (hb:∀s (q q':qMl),(∀r g,q r g->q' r g)->∀g,bodyS s q g->bodyS s q' g) (hk:∀e s g,kS e s g->kS' e s g) :
  ∀n st h,qGx bodyS kS n st h->qGx bodyS kS' n st h:=by
 intro n
 induction n with
 | zero=>exact λ_ _ h=>h
 | succ n ih =>
  intro st h hh;refine hb _ _ _ (λr g hg=>?_) _ hh;cases r with
  | st e s=>cases e <;> first | exact ih _ _ hg | exact hk _ _ _ hg
  | _=>exact hg
theorem qYz {slots:Nat->List Nat} {dst:Nat->Option Nat} {opS:Nat->List AV->qMl->Q5->Prop} {pos:Nat->Nat} {n lim:Nat} {kS kS':St->Q5->Prop}
  (hb:∀i s (q q':qMl),(∀r g,q r g->q' r g)->∀g,opS i s q g->opS i s q' g) (hk:∀s g,kS s g->kS' s g) :
  ∀l st h,qHt slots dst opS pos n lim kS l st h->qHt slots dst opS pos n lim kS' l st h:=by
 intro l
 induction l with
 | nil=>exact λ_ _ h=>hk _ _ h
 | cons i l ih=>exact λst h hh=>hb _ _ _ _ (λr g ⟨v,e,hg⟩=>⟨v,e,ih _ _ hg⟩) _ hh
theorem FM.satT_mono {p q:qMl} (h:∀r g,p r g->q r g):∀(m:FM) (g:Q5),m.satT p g->m.satT q g:=by
 intro m
 induction m generalizing p q with
 | ret r=>exact λg hg=>h _ _ hg
 | fail w=>exact λg hg=>hg
 | get i k ih=>exact λg ⟨o,h1,h2⟩=>⟨o,h1,ih o h g h2⟩
 | set i o m ih=>exact λg ⟨h1,h2⟩=>⟨h1,ih h _ h2⟩
 | new o k ih=>exact λg ⟨h1,h2⟩=>⟨h1,ih _ h _ h2⟩
 | here k ih=>exact λg hg=>ih _ h _ hg
 | drop a w m ih=>exact λg ⟨h1,h2,h3,h4⟩=>⟨h1,h2,h3,ih h _ h4⟩
 | choose n k ih=>exact λg hg j hj=>ih j h g (hg j hj)
 | any k ih=>exact λg hg j=>ih j h g (hg j)
 | join m k ihm ihk=>exact λg hg=>ihm (λr g' hk=>ihk r h g' hk) g hg
 | loop n body st k ihb ihk=>exact λg hg=>qL8 (λs q q' hq g=>ihb s hq g) (λe s g=>ihk e s h g) n st g hg
 | regn n ord slots dst op st k iho ihk =>exact λg ⟨pos,h1,h2,h3,h4⟩=>⟨pos,h1,h2,h3,λl hl=>qYz (λi s q q' hq g=>iho i s hq g) (λs g=>ihk s h g) l st g (h4 l hl)⟩
end Go.X
namespace Go.X
structure Q0 where
 t:Nat->Option Q4
 next:Nat
 lim:Nat
 inf:Bool
def Q0.get (h:Q0) (i:Nat):Option Q4:=h.t i
def Q0.put (h:Q0) (i:Nat) (o:Option Q4):Q0:=⟨λj=>if j=i then o else h.t j,h.next,h.lim,h.inf⟩
theorem Q0.get_put (h:Q0) {i:Nat} {q:Prop} (_:q) (j:Nat) (o:Option Q4):(h.put i o).get j=if j=i then o else h.get j:=rfl
@[simp] theorem Q0.next_put (h:Q0) (i:Nat) (o:Option Q4):(h.put i o).next=h.next:=rfl
@[simp] theorem Q0.lim_put (h:Q0) (i:Nat) (o:Option Q4):(h.put i o).lim=h.lim:=rfl
@[simp] theorem Q0.inf_put (h:Q0) (i:Nat) (o:Option Q4):(h.put i o).inf=h.inf:=rfl
theorem Q0.ext {h g:Q0} (ht:∀i,h.get i=g.get i) (hn:h.next=g.next) (hl:h.lim=g.lim) (hi:h.inf=g.inf):h=g:=by cases h;cases g;simp only at hn hl hi;subst hn;subst hl;subst hi;congr;exact funext ht
def Q0.fr (h:Q0) (i:Nat):Prop:=h.inf=true∨i<h.lim
@[simp] theorem Q0.fr_put (h:Q0) (i:Nat) (o:Option Q4) (j:Nat):(h.put i o).fr j↔h.fr j:=Iff.rfl
def Q0.newO (h:Q0) (o:Q4):Q0:=⟨(h.put h.next (some o)).t,h.next+1,h.lim,h.inf⟩
@[simp] theorem Q0.newO_next (h:Q0) (o:Q4):(h.newO o).next=h.next+1:=rfl
@[simp] theorem Q0.newO_lim (h:Q0) (o:Q4):(h.newO o).lim=h.lim:=rfl
@[simp] theorem Q0.newO_inf (h:Q0) (o:Q4):(h.newO o).inf=h.inf:=rfl
@[simp] theorem Q0.newO_fr (h:Q0) (o:Q4) (j:Nat):(h.newO o).fr j↔h.fr j:=Iff.rfl
theorem Q0.newO_get (h:Q0) {q:Prop} (_:q) (o:Q4) (j:Nat):(h.newO o).get j=if j=h.next then some o else h.get j:=rfl
def Q0.win (h:Q0) (next lim:Nat):Q0:=⟨h.t,next,lim,false⟩
@[simp] theorem Q0.win_get (h:Q0) (a b i:Nat):(h.win a b).get i=h.get i:=rfl
@[simp] theorem Q0.win_next (h:Q0) (a b:Nat):(h.win a b).next=a:=rfl
@[simp] theorem Q0.win_lim (h:Q0) (a b:Nat):(h.win a b).lim=b:=rfl
@[simp] theorem Q0.win_inf (h:Q0) (a b:Nat):(h.win a b).inf=false:=rfl
def qKi (a:Nat) (n:Nat) (h:Q0):Q0:=⟨λj=>if a<=j/\j<a+n then none else h.t j,h.next,h.lim,h.inf⟩
theorem qSu (a n:Nat) (h:Q0) {q:Prop} (_:q) (j:Nat):(qKi a n h).get j=if a<=j/\j<a+n then none else h.get j:=rfl
abbrev QF:=Res->Q0->Prop
def qW2 (bodyS:St->QF->Q0->Prop) (kS:qd->St->Q0->Prop):Nat->St->Q0->Prop
 | 0,_,_=>False
 | n+1,st,h=>bodyS st (λr h'=>match r with
   | .st .normal st'=>qW2 bodyS kS n st' h'
   | .st e st'=>kS e st' h'
   | _=>False) h
def qY0 (slots:Nat->List Nat) (dst:Nat->Option Nat) (opS:Nat->List AV->QF->Q0->Prop) (pos:Nat->Nat) (n lim:Nat) (kS:St->Q0->Prop):List Nat->St->Q0->Prop
 | [],st,h=>kS st (h.win (pos n) lim)
 | i::l,st,h=>opS i (st.sel (slots i)) (λr h'=>∃v,r=.val v/\qY0 slots dst opS pos n lim kS l (st.put (dst i) v) h') (h.win (pos i) (pos (i+1)))
def qJu (slots:Nat->List Nat) (dst:Nat->Option Nat) (opS:Nat->List AV->QF->Q0->Prop) (kS:St->Q0->Prop):List Nat->St->Q0->Prop
 | [],st,h=>kS st h
 | i::l,st,h=>opS i (st.sel (slots i)) (λr h'=>∃v,r=.val v/\qJu slots dst opS kS l (st.put (dst i) v) h') h
def FM.sat:FM->QF->Q0->Prop
 | .ret r,p,h=>p r h
 | .fail _,_,_=>False
 | .get i k,p,h=>∃o,h.get i=some o/\(k o).sat p h
 | .set i o m,p,h=>i<h.next/\m.sat p (h.put i (some o))
 | .new o k,p,h=>h.fr h.next/\(k h.next).sat p (h.newO o)
 | .here k,p,h=>(k h.next).sat p h
 | .drop a w m,p,h=>h.inf=false/\a<=h.next/\h.next<=a+w/\a+w<=h.lim/\m.sat p ((qKi a (h.next-a) h).win (a+w) h.lim)
 | .choose n k,p,h=>∀j,j<n->(k j).sat p h
 | .any k,p,h=>∀j,(k j).sat p h
 | .join m k,p,h=>m.sat (λr h'=>(k r).sat p h') h
 | .loop n body st k,p,h=>qW2 (λs q g=>(body s).sat q g) (λe s g=>(k e s).sat p g) n st h
 | .regn n ord slots dst op st k,p,h =>
  (h.inf=false/\∃pos:Nat->Nat,pos 0=h.next/\(∀i,i<n->pos i<=pos (i+1))/\pos n<=h.lim /\
   ∀l,LinExt n ord l->qY0 slots dst (λi vs q g=>(op i vs).sat q g) pos n h.lim (λs g=>(k s).sat p g) l st h) ∨
  (h.inf=true/\∀l,LinExt n ord l->qJu slots dst (λi vs q g=>(op i vs).sat q g) (λs g=>(k s).sat p g) l st h)
end Go.X
namespace Go.X
structure Log where
 rd:List Nat
 wr:List Nat
def Log.nil:Log:=⟨[],[]⟩
def memN (i:Nat) (l:List Nat):Bool:=List.rec (motive:=λ_=>Bool) false (λj _ ih=>cnd (Nat.beq i j) true ih) l
def qTj {β:Type} (b i:Nat) (g:Log) (k:Log->β):β :=
 Log.rec (motive:=λ_=>β) (λr w=>cnd (ltb i b) (cnd (memN i r) (k ⟨r,w⟩) (k ⟨i::r,w⟩)) (k ⟨r,w⟩)) g
def qTi {β:Type} (b i:Nat) (g:Log) (k:Log->β):β :=
 Log.rec (motive:=λ_=>β) (λr w=>cnd (ltb i b) (cnd (memN i w) (k ⟨r,w⟩) (k ⟨r,i::w⟩)) (k ⟨r,w⟩)) g
def j1 {β:Type} (b:Nat) (l:List Nat):Log->(Log->β)->β :=
 List.rec (motive:=λ_=>Log->(Log->β)->β) (λg k=>k g) (λi _ ih g k=>qTj b i g λg'=>ih g' k) l
def qK {β:Type} (b:Nat) (l:List Nat):Log->(Log->β)->β :=
 List.rec (motive:=λ_=>Log->(Log->β)->β) (λg k=>k g) (λi _ ih g k=>qTi b i g λg'=>ih g' k) l
inductive OutS where
 | err (n:Nat)
 | ok (r:Res) (h:Q5) (g:Log)
structure RE where
 i:Nat
 lo:Nat
 hi:Nat
 g:Log
inductive OutR where
 | err (n:Nat)
 | ok (st:St) (h:Q5) (l:List RE)
def allL {α:Type} (f:α->Bool) (l:List α):Bool:=List.rec (motive:=λ_=>Bool) true (λx _ ih=>cnd (f x) ih false) l
def notB (b:Bool):Bool:=cnd b false true
def noWin (lo hi:Nat) (l:List Nat):Bool:=allL (λi=>notB (cnd (Nat.ble lo i) (ltb i hi) false)) l
def disj (a l:List Nat):Bool:=allL (λi=>notB (memN i a)) l
def qWu (x:RE) (g:Log):Bool :=
 cnd (cnd (noWin x.lo x.hi g.rd) (noWin x.lo x.hi g.wr) false) (cnd (disj x.g.wr g.rd) (cnd (disj x.g.wr g.wr) (disj x.g.rd g.wr) false) false) false
def qOk (ord:Nat->Nat->Bool) (i:Nat) (g:Log) (l:List RE):Bool :=
 Log.rec (motive:=λ_=>Bool) (λr w=>List.rec (motive:=λ_=>Bool) (List.rec (motive:=λ_=>Bool) true (λ_ _ _=>allL (λx=>cnd (ord x.i i) true (qWu x ⟨r,w⟩)) l) w)
  (λ_ _ _=>allL (λx=>cnd (ord x.i i) true (qWu x ⟨r,w⟩)) l) r) g
def qHu (opR:Nat->List AV->Nat->Q5->Log->OutS) (ord:Nat->Nat->Bool) (slots:Nat->List Nat) (dst:Nat->Option Nat) (l:List Nat):St->Q5->List RE->OutR :=
 List.rec (motive:=λ_=>St->Q5->List RE->OutR) (λst h acc=>.ok st h acc)
  (λi _ ih st h acc=>OutS.rec (motive:=λ_=>OutR) (λn=>.err n)
   (λr h' g=>Res.rec (motive:=λ_=>OutR) (λv=>cnd (qOk ord i g acc) (ih (st.put (dst i) v) h' (⟨i,h.next,h'.next,g⟩::acc)) (.err 2000)) (λ_ _=>.err 2001) (λ_ _=>.err 2001) (λ_ _=>.err 2001) r)
   (opR i (st.sel (slots i)) h.next h Log.nil)) l
def qG8 {β:Type} (b:Nat) (l:List RE):Log->(Log->β)->β :=
 List.rec (motive:=λ_=>Log->(Log->β)->β) (λg k=>k g) (λx _ ih g k=>j1 b x.g.rd g λg1=>qK b x.g.wr g1 λg2=>ih g2 k) l
def qOe (n:Nat):List Nat:=List.range n
def qY1 (n:Nat) (ord:Nat->Nat->Bool) (slots:Nat->List Nat) (dst:Nat->Option Nat):Bool :=
 allL (λi=>cnd (allL (λs=>ltb s 4096) (slots i)) (allL (λj =>
   cnd (cnd (ord j i) (ltb j i) true)
    (Option.rec (motive:=λ_=>Bool) true (λs=>cnd (ltb s 4096) (cnd (cnd (memN s (slots i)) (cnd (ord j i) true (ord i j)) true)
     (cnd (Nat.beq i j) true (Option.rec (motive:=λ_=>Bool) true (λs'=>notB (Nat.beq s s')) (dst i))) false) false) (dst j)) false) (qOe n)) false) (qOe n)
inductive Out where
 | err (n:Nat)
 | ok (l:List (Res × Q5)) (g:Log)
def QW (f:Res->Q5->Log->Out) (l:List (Res × Q5)):Log->Out :=
 List.rec (motive:=λ_=>Log->Out) (λg=>.ok [] g)
  (λx _ ih g=>Out.rec (motive:=λ_=>Out) (λn=>.err n) (λl1 g1=>Out.rec (motive:=λ_=>Out) (λn=>.err n) (λl2 g2=>.ok (l1++l2) g2) (ih g1)) (f x.1 x.2 g)) l
def eqAt (a c:Q5) (l:List Nat):Bool:=allL (λi=>qHa (a.get i) (c.get i)) l
def qSr (a c:Q5) (lo n:Nat):Bool:=Nat.rec (motive:=λ_=>Bool) true (λj ih=>cnd ih (qHa (a.get (Nat.add lo j)) (c.get (Nat.add lo j))) false) n
def qV (ws:List Nat) (lo:Nat) (x y:Res × Q5):Bool :=
 cnd (jAc x.1 y.1) (cnd (Nat.beq x.2.next y.2.next) (cnd (eqAt x.2 y.2 ws) (qSr x.2 y.2 lo (Nat.sub x.2.next lo)) false) false) false
def anyL {α:Type} (f:α->Bool) (l:List α):Bool:=List.rec (motive:=λ_=>Bool) false (λx _ ih=>cnd (f x) true ih) l
def dedupe (ws:List Nat) (lo:Nat) (l:List (Res × Q5)):List (Res × Q5) :=
 List.rec (motive:=λ_=>List (Res × Q5)) [] (λx _ ih=>cnd (anyL (λy=>qV ws lo x y) ih) ih (x::ih)) l
def qF (r:Res):Bool:=Res.rec (motive:=λ_=>Bool) (λ_=>false) (λe _=>qd.rec (motive:=λ_=>Bool) true (λ_=>false) (λ_=>false) false (λ_=>false) e) (λ_ _=>false) (λ_ _=>false) r
def filL (f:Res->Bool) (l:List (Res × Q5)):List (Res × Q5):=List.rec (motive:=λ_=>List (Res × Q5)) [] (λx _ ih=>cnd (f x.1) (x::ih) ih) l
def J8 {α:Type} (l:List α):Bool:=List.rec (motive:=λ_=>Bool) true (λ_ _ _=>false) l
def stK (r:Res) (k:qd->St->Out):Out:=Res.rec (motive:=λ_=>Out) (λ_=>.err 1010) k (λ_ _=>.err 1010) (λ_ _=>.err 1010) r
def J2 (body:St->Q5->Log->Out) (lo:Nat) (fin:List (Res × Q5)->Log->Out) (n:Nat):List (Res × Q5)->List (Res × Q5)->Log->Out :=
 Nat.rec (motive:=λ_=>List (Res × Q5)->List (Res × Q5)->Log->Out) (λf acc gl=>cnd (J8 f) (fin acc gl) (.err 1011))
  (λ_ ih f acc gl=>cnd (J8 f) (fin acc gl)
   (Out.rec (motive:=λ_=>Out) (λn=>.err n) (λl gl'=>ih (dedupe gl'.wr lo (filL qF l)) (dedupe gl'.wr lo (filL (λr=>notB (qF r)) l++acc)) gl')
    (QW (λr h g=>stK r λ_ st=>body st h g) f gl))) n
def dropK {β:Type} (a n:Nat) (t:Tr) (k:Tr->β):β :=
 Nat.rec (motive:=λ_=>(Tr->β)->β) (λk=>k t) (λj ih k=>ih λt'=>Tr.setP (p4 (Nat.add a j)) none t' k) n k
def one (o:Out):OutS:=Out.rec (motive:=λ_=>OutS) (λw=>.err w) (λl g=>List.rec (motive:=λ_=>OutS) (.err 1013) (λx t _=>List.rec (motive:=λ_=>OutS) (.ok x.1 x.2 g) (λ_ _ _=>.err 1013) t) l) o
def qN (f:Nat->Log->Out) (g:Log) (n:Nat):Out :=
 Nat.rec (motive:=λ_=>Out) (.ok [] g) (λj acc=>Out.rec (motive:=λ_=>Out) (λw=>.err w) (λl g1=>Out.rec (motive:=λ_=>Out) (λw=>.err w) (λl' g2=>.ok (l++l') g2) (f j g1)) acc) n
def FM.run (m:FM):Nat->Q5->Log->Out :=
 FM.rec (motive:=λ_=>Nat->Q5->Log->Out)
  (λr _ h g=>.ok [(r,h)] g)
  (λw _ _ _=>.err w)
  (λi _ ih b h g=>cnd (ltb i h.next) (Option.rec (motive:=λ_=>Out) (.err 1000) (λo=>qTj b i g λg'=>ih o b h g') (h.get i)) (.err 1000))
  (λi o _ ih b h g=>cnd (ltb i h.next) (Tr.setP (p4 i) (some o) h.t λt'=>qTi b i g λg'=>ih b ⟨t',h.next,h.lim⟩ g') (.err 1001))
  (λo _ ih b h g=>cnd (ltb h.next h.lim) (Tr.setP (p4 h.next) (some o) h.t λt'=>Qc (Nat.succ h.next) λn=>ih h.next b ⟨t',n,h.lim⟩ g) (.err 1002))
  (λ_ ih b h g=>ih h.next b h g)
  (λa w _ ih b h g=>cnd (cnd (cnd (Nat.ble b a) (Nat.ble a h.next) false) (cnd (Nat.ble h.next (Nat.add a w)) (Nat.ble (Nat.add a w) h.lim) false) false)
   (dropK a (Nat.sub h.next a) h.t λt'=>Qc (Nat.add a w) λn=>ih b ⟨t',n,h.lim⟩ g) (.err 1012))
  (λn _ ih b h g=>cnd (Nat.beq n Nat.zero) (.err 1014) (qN (λj g=>ih j b h g) g n))
  (λ_ _ _ _ _=>.err 1020)
  (λ_ _ ihm ihk b h g=>Out.rec (motive:=λ_=>Out) (λw=>.err w) (λl g1=>j1 b g1.rd g λg0=>qK b g1.wr g0 λg'=>QW (λr h' g=>ihk r b h' g) (dedupe g1.wr h.next l) g') (ihm h.next h Log.nil))
  (λn _ st _ ihb ihk b h g=>J2 (λs h' g=>ihb s h.next h' g) h.next (λacc gl=>j1 b gl.rd g λg0=>qK b gl.wr g0 λg'=>QW (λr h' g=>stK r λe s=>ihk e s b h' g) acc g') n [(.st .normal st,h)] [] Log.nil)
  (λn ord slots dst op st _ iho ihk b h g =>
   cnd (qY1 n ord slots dst) (OutR.rec (motive:=λ_=>Out) (λw=>.err w) (λst' h' l=>qG8 b l g λg'=>ihk st' b h' g') (qHu (λi vs b h g=>one (iho i vs b h g)) ord slots dst (qOe n) st h [])) (.err 1008))
  m
structure Log.Sub (g g':Log):Prop where
 rd:∀i,i∈g.rd->i∈g'.rd
 wr:∀i,i∈g.wr->i∈g'.wr
theorem Log.Sub.refl (g:Log):g.Sub g:=⟨λ_ h=>h,λ_ h=>h⟩
theorem Log.Sub.trans {a b c:Log} (h:a.Sub b) (k:b.Sub c):a.Sub c:=⟨λi hi=>k.rd i (h.rd i hi),λi hi=>k.wr i (h.wr i hi)⟩
theorem qI3 {i:Nat} {l:List Nat}:memN i l=true↔i∈l:=by
 induction l with
 | nil=>exact⟨λh=>ff h,λh=>by cases h⟩
 | cons j t ih =>
  show cnd (Nat.beq i j) true (memN i t)=true↔_;cases hb:Nat.beq i j
  .rw[Q8,ih]
   have:i≠j:=λe=>by subst e;simp at hb
   simp[this]
  .rw[Q6];have:=QA hb;simp[this]
def Log.addR (b i:Nat) (g:Log):Log:=qTj b i g λx=>x
def Log.addW (b i:Nat) (g:Log):Log:=qTi b i g λx=>x
def Log.addE (b:Nat) (l:List RE) (g:Log):Log:=qG8 b l g λx=>x
theorem qW5 {β:Type} (b i:Nat) (g:Log) (k:Log->β):qTj b i g k=k (g.addR b i):=by
 cases g;unfold Log.addR qTj;cases hb:ltb i b
 .simp only[Q8]
 .rename_i r w;cases hm:memN i r <;> simp only[Q6,Q8,hm]
theorem qW4 {β:Type} (b i:Nat) (g:Log) (k:Log->β):qTi b i g k=k (g.addW b i):=by
 cases g;unfold Log.addW qTi;cases hb:ltb i b
 .simp only[Q8]
 .rename_i r w;cases hm:memN i w <;> simp only[Q6,Q8,hm]
theorem qMa {β:Type} (b:Nat):∀(l:List Nat) (g:Log) (k:Log->β),j1 b l g k=k (j1 b l g λx=>x)
 | [],_,_=>rfl
 | i::l,g,k=>by show qTj b i g (λg'=>j1 b l g' k)=k (qTj b i g λg'=>j1 b l g' λx=>x);rw[qW5,qW5];exact qMa b l _ k
theorem qL9 {β:Type} (b:Nat):∀(l:List Nat) (g:Log) (k:Log->β),qK b l g k=k (qK b l g λx=>x)
 | [],_,_=>rfl
 | i::l,g,k=>by show qTi b i g (λg'=>qK b l g' k)=k (qTi b i g λg'=>qK b l g' λx=>x);rw[qW4,qW4];exact qL9 b l _ k
theorem qR8 {β:Type} (b:Nat):∀(l:List RE) (g:Log) (k:Log->β),qG8 b l g k=k (g.addE b l)
 | [],_,_=>rfl
 | x::l,g,k=>by show j1 b x.g.rd g (λg1=>qK b x.g.wr g1 λg2=>qG8 b l g2 k)=k (j1 b x.g.rd g λg1=>qK b x.g.wr g1 λg2=>qG8 b l g2 λx=>x);rw[qMa,qMa b x.g.rd g (λg1=>qK b x.g.wr g1 λg2=>qG8 b l g2 λx=>x),qL9,qL9 b x.g.wr _ (λg2=>qG8 b l g2 λx=>x)];exact qR8 b l _ k
theorem qUh {β:Type} (b i:Nat) (g:Log) (k:Log->β):∃g',qTj b i g k=k g'/\g.Sub g'/\(i<b->i∈g'.rd)/\(∀j,j∈g'.rd->j∈g.rd∨(j=i/\i<b))/\g'.wr=g.wr:=by
 cases g;rename_i r w;unfold qTj;cases hb:ltb i b
 .exact⟨⟨r,w⟩,rfl,.refl _,λh=>absurd h (Nat.not_lt.2 (qE.1 hb)),λj hj=>.inl hj,rfl⟩
 .cases hm:memN i r
  .refine⟨⟨i::r,w⟩,?_,⟨λj hj=>zA0 _ hj,λ_ h=>h⟩,λ_=>zB0,λj hj=>?_,rfl⟩
   .simp only[Q6,hm,Q8]
   .rcases List.mem_cons.1 hj with h | h
    .exact .inr ⟨h,Qo.1 hb⟩
    .exact .inl h
  .refine⟨⟨r,w⟩,?_,.refl _,λ_=>qI3.1 hm,λj hj=>.inl hj,rfl⟩;simp only[Q6,hm]
theorem qUg {β:Type} (b i:Nat) (g:Log) (k:Log->β):∃g',qTi b i g k=k g'/\g.Sub g'/\(i<b->i∈g'.wr)/\(∀j,j∈g'.wr->j∈g.wr∨(j=i/\i<b))/\g'.rd=g.rd:=by
 cases g;rename_i r w;unfold qTi;cases hb:ltb i b
 .exact⟨⟨r,w⟩,rfl,.refl _,λh=>absurd h (Nat.not_lt.2 (qE.1 hb)),λj hj=>.inl hj,rfl⟩
 .cases hm:memN i w
  .refine⟨⟨r,i::w⟩,?_,⟨λ_ h=>h,λj hj=>zA0 _ hj⟩,λ_=>zB0,λj hj=>?_,rfl⟩
   .simp only[Q6,hm,Q8]
   .rcases List.mem_cons.1 hj with h | h
    .exact .inr ⟨h,Qo.1 hb⟩
    .exact .inl h
  .refine⟨⟨r,w⟩,?_,.refl _,λ_=>qI3.1 hm,λj hj=>.inl hj,rfl⟩;simp only[Q6,hm]
theorem qJ8 {β:Type} (b:Nat):∀(l:List Nat) (g:Log) (k:Log->β),∃g',j1 b l g k=k g'/\g.Sub g'/\(∀i,i∈l->i<b->i∈g'.rd)/\(∀j,j∈g'.rd->j∈g.rd∨(j∈l/\j<b))/\g'.wr=g.wr
 | [],g,k=>⟨g,rfl,.refl _,λ_ h _=>absurd h zK0,λ_ h=>.inl h,rfl⟩
 | i::l,g,k=>by
  obtain⟨g1,e1,s1,m1,n1,w1⟩:=qUh b i g λg'=>j1 b l g' k;obtain⟨g2,e2,s2,m2,n2,w2⟩:=qJ8 b l g1 k;refine⟨g2,e1.trans e2,s1.trans s2,λj hj hb=>?_,λj hj=>?_,w2.trans w1⟩
  .rcases List.mem_cons.1 hj with h | h
   .subst h;exact s2.rd _ (m1 hb)
   .exact m2 j h hb
  .rcases n2 j hj with h | ⟨h,hb⟩
   .rcases n1 j h with h | ⟨h,hb⟩
    .exact .inl h
    .subst h;exact .inr ⟨zB0,hb⟩
   .exact .inr ⟨zA0 _ h,hb⟩
theorem qJ7 {β:Type} (b:Nat):∀(l:List Nat) (g:Log) (k:Log->β),∃g',qK b l g k=k g'/\g.Sub g'/\(∀i,i∈l->i<b->i∈g'.wr)/\(∀j,j∈g'.wr->j∈g.wr∨(j∈l/\j<b))/\g'.rd=g.rd
 | [],g,k=>⟨g,rfl,.refl _,λ_ h _=>absurd h zK0,λ_ h=>.inl h,rfl⟩
 | i::l,g,k=>by
  obtain⟨g1,e1,s1,m1,n1,w1⟩:=qUg b i g λg'=>qK b l g' k;obtain⟨g2,e2,s2,m2,n2,w2⟩:=qJ7 b l g1 k;refine⟨g2,e1.trans e2,s1.trans s2,λj hj hb=>?_,λj hj=>?_,w2.trans w1⟩
  .rcases List.mem_cons.1 hj with h | h
   .subst h;exact s2.wr _ (m1 hb)
   .exact m2 j h hb
  .rcases n2 j hj with h | ⟨h,hb⟩
   .rcases n1 j h with h | ⟨h,hb⟩
    .exact .inl h
    .subst h;exact .inr ⟨zB0,hb⟩
   .exact .inr ⟨zA0 _ h,hb⟩
theorem qR7 {β:Type} (b:Nat):∀(l:List RE) (g:Log) (k:Log->β),∃g',qG8 b l g k=k g'/\g.Sub g' /\
  (∀x,x∈l->∀i,i<b->(i∈x.g.rd->i∈g'.rd)/\(i∈x.g.wr->i∈g'.wr))/\(∀j,(j∈g'.rd->j∈g.rd∨j<b)/\(j∈g'.wr->j∈g.wr∨j<b))
 | [],g,k=>⟨g,rfl,.refl _,λ_ h=>absurd h zK0,λ_=>⟨λh=>.inl h,λh=>.inl h⟩⟩
 | x::l,g,k=>by
  obtain⟨g1,e1,s1,m1,n1,w1⟩:=qJ8 b x.g.rd g λg1=>qK b x.g.wr g1 λg2=>qG8 b l g2 k;obtain⟨g2,e2,s2,m2,n2,w2⟩:=qJ7 b x.g.wr g1 λg2=>qG8 b l g2 k;obtain⟨g3,e3,s3,m3,n3⟩:=qR7 b l g2 k;refine⟨g3,e1.trans (e2.trans e3),(s1.trans s2).trans s3,λy hy i hb=>?_,λj=>⟨λhj=>?_,λhj=>?_⟩⟩
  .rcases List.mem_cons.1 hy with h | h
   .subst h;exact⟨λhi=>s3.rd _ (s2.rd _ (m1 i hi hb)),λhi=>s3.wr _ (m2 i hi hb)⟩
   .exact m3 y h i hb
  .rcases (n3 j).1 hj with h | h
   .rw[w2] at h;rcases n1 j h with h | ⟨_,h⟩
    .exact .inl h
    .exact .inr h
   .exact .inr h
  .rcases (n3 j).2 hj with h | h
   .rcases n2 j h with h | ⟨_,h⟩
    .rw[w1] at h;exact .inl h
    .exact .inr h
   .exact .inr h
structure Log.Adds (b:Nat) (g g':Log):Prop extends Log.Sub g g' where
 lo:∀j,(j∈g'.rd->j∈g.rd∨j<b)/\(j∈g'.wr->j∈g.wr∨j<b)
theorem Log.Adds.refl (b:Nat) (g:Log):Log.Adds b g g:=⟨.refl g,λ_=>⟨.inl,.inl⟩⟩
theorem Log.Adds.trans {b:Nat} {x y z:Log} (h:Log.Adds b x y) (k:Log.Adds b y z):Log.Adds b x z :=
 ⟨h.toSub.trans k.toSub,λj=>⟨λhj=>((k.lo j).1 hj).elim (h.lo j).1 .inr,λhj=>((k.lo j).2 hj).elim (h.lo j).2 .inr⟩⟩
theorem Log.addR_adds (b i:Nat) (g:Log):Log.Adds b g (g.addR b i)/\(i<b->i∈(g.addR b i).rd)/\(g.addR b i).wr=g.wr:=by obtain⟨g',e,s,m,n,w⟩:=qUh b i g λx=>x;have e':g.addR b i=g':=e;rw[e'];exact⟨⟨s,λj=>⟨λhj=>(n j hj).imp id (λ⟨a,c⟩=>by omega),λhj=>.inl (w ▸ hj)⟩⟩,m,w⟩
theorem Log.addW_adds (b i:Nat) (g:Log):Log.Adds b g (g.addW b i)/\(i<b->i∈(g.addW b i).wr)/\(∀j,j∈(g.addW b i).wr->j∈g.wr∨j=i):=by obtain⟨g',e,s,m,n,w⟩:=qUg b i g λx=>x;have e':g.addW b i=g':=e;rw[e'];exact⟨⟨s,λj=>⟨λhj=>.inl (w ▸ hj),λhj=>(n j hj).imp id (λ⟨a,c⟩=>by omega)⟩⟩,m,λj hj=>(n j hj).imp id (·.1)⟩
theorem Log.addE_adds (b:Nat) (l:List RE) (g:Log):Log.Adds b g (g.addE b l)/\(∀x,x∈l->∀i,i<b->(i∈x.g.rd->i∈(g.addE b l).rd)/\(i∈x.g.wr->i∈(g.addE b l).wr)):=by obtain⟨g',e,s,m,n⟩:=qR7 b l g λx=>x;have e':g.addE b l=g':=e;rw[e'];exact⟨⟨s,n⟩,m⟩
end Go.X
namespace Go.X
structure Q5.WF (h:Q5):Prop where
 lim:h.next<=h.lim
 top:h.lim<=top
 none:∀i,h.next<=i->i<h.lim->h.get i=none
theorem Q5.WF.put {h:Q5} (w:h.WF) {i:Nat} (hi:i<h.next) (o:Q4):(h.put i (some o)).WF :=
 ⟨w.lim,w.top,λj hj hl=>by
  rw[Q5.get_put _ (by have:=w.lim;have:=w.top;omega),if_neg (by simp at hj;omega)];exact w.none j hj hl⟩
def Q5.newO (h:Q5) (o:Q4):Q5:=⟨(h.put h.next (some o)).t,h.next+1,h.lim⟩
@[simp] theorem Q5.newO_next (h:Q5) (o:Q4):(h.newO o).next=h.next+1:=rfl
@[simp] theorem Q5.newO_lim (h:Q5) (o:Q4):(h.newO o).lim=h.lim:=rfl
theorem Q5.newO_get (h:Q5) (hn:h.next<top) (o:Q4) (j:Nat):(h.newO o).get j=if j=h.next then some o else h.get j:=by rw[<- Q5.get_put h hn];rfl
theorem Q5.WF.newO {h:Q5} (w:h.WF) (hn:h.next<h.lim) (o:Q4):(h.newO o).WF :=
 ⟨hn,w.top,λj hj hl=>by
  simp at hj hl;rw[Q5.newO_get _ (by have:=w.top;omega),if_neg (by omega)];exact w.none j (by omega) hl⟩
inductive RegTr (opR:Nat->List AV->Nat->Q5->Log->OutS) (ord:Nat->Nat->Bool) (slots:Nat->List Nat) (dst:Nat->Option Nat):List Nat->St->Q5->List RE->St->Q5->List RE->Prop
 | nil (st:St) (h:Q5) (acc:List RE):RegTr opR ord slots dst [] st h acc st h acc
 | cons {i:Nat} {l:List Nat} {st:St} {h:Q5} {acc:List RE} {v:AV} {h1:Q5} {g:Log} {st':St} {h':Q5} {acc':List RE}
   (e:opR i (st.sel (slots i)) h.next h Log.nil=.ok (.val v) h1 g) (c:qOk ord i g acc=true)
   (t:RegTr opR ord slots dst l (st.put (dst i) v) h1 (⟨i,h.next,h1.next,g⟩::acc) st' h' acc'):RegTr opR ord slots dst (i::l) st h acc st' h' acc'
theorem qLh {opR:Nat->List AV->Nat->Q5->Log->OutS} {ord:Nat->Nat->Bool} {slots:Nat->List Nat} {dst:Nat->Option Nat} :
  ∀{l:List Nat} {st:St} {h:Q5} {acc:List RE} {st':St} {h':Q5} {acc':List RE},qHu opR ord slots dst l st h acc=.ok st' h' acc'->RegTr opR ord slots dst l st h acc st' h' acc'
 | [],st,h,acc,st',h',acc',e=>by
  have e':OutR.ok st h acc=.ok st' h' acc':=e;cases e';exact .nil _ _ _
 | i::l,st,h,acc,st',h',acc',e=>by
  have e':OutS.rec (motive:=λ_=>OutR) (λn=>.err n)
   (λr h' g=>Res.rec (motive:=λ_=>OutR) (λv=>cnd (qOk ord i g acc) (qHu opR ord slots dst l (st.put (dst i) v) h' (⟨i,h.next,h'.next,g⟩::acc)) (.err 2000)) (λ_ _=>.err 2001) (λ_ _=>.err 2001) (λ_ _=>.err 2001) r)
   (opR i (st.sel (slots i)) h.next h Log.nil)=.ok st' h' acc':=e
  cases ho:opR i (st.sel (slots i)) h.next h Log.nil with
  | err n=>rw[ho] at e';cases e'
  | ok r h1 g =>
   rw[ho] at e';cases r with
   | val v =>
    have e2:cnd (qOk ord i g acc) (qHu opR ord slots dst l (st.put (dst i) v) h1 (⟨i,h.next,h1.next,g⟩::acc)) (.err 2000)=.ok st' h' acc':=e';cases hc:qOk ord i g acc
    .rw[hc,Q8] at e2;cases e2
    .rw[hc,Q6] at e2;exact .cons ho hc (qLh e2)
   | _=>cases e'
theorem RegTr.run {opR:Nat->List AV->Nat->Q5->Log->OutS} {ord:Nat->Nat->Bool} {slots:Nat->List Nat} {dst:Nat->Option Nat} {l:List Nat} {st:St} {h:Q5} {acc:List RE} {st':St} {h':Q5} {acc':List RE}
  (t:RegTr opR ord slots dst l st h acc st' h' acc'):qHu opR ord slots dst l st h acc=.ok st' h' acc':=by
 induction t with
 | nil=>rfl
 | @cons i l st h acc v h1 g st' h' acc' e c _ ih =>
  show OutS.rec (motive:=λ_=>OutR) (λn=>.err n)
   (λr h' g=>Res.rec (motive:=λ_=>OutR) (λv=>cnd (qOk ord i g acc) (qHu opR ord slots dst l (st.put (dst i) v) h' (⟨i,h.next,h'.next,g⟩::acc)) (.err 2000)) (λ_ _=>.err 2001) (λ_ _=>.err 2001) (λ_ _=>.err 2001) r)
   (opR i (st.sel (slots i)) h.next h Log.nil)=_
  rw[e];show cnd (qOk ord i g acc) (qHu opR ord slots dst l (st.put (dst i) v) h1 (⟨i,h.next,h1.next,g⟩::acc)) (.err 2000)=_;rw[c,Q6];exact ih
structure Fr (b:Nat) (h:Q5) (g:Log) (h':Q5) (g':Log):Prop where
 wf:h'.WF
 next:h.next<=h'.next
 lim:h'.lim=h.lim
 log:Log.Adds b g g'
 same:∀i,i<b->i ∉ g'.wr->h'.get i=h.get i
 over:∀i,h.lim<=i->h'.get i=h.get i
theorem qPu {opR:Nat->List AV->Nat->Q5->Log->OutS} {ord:Nat->Nat->Bool} {slots:Nat->List Nat} {dst:Nat->Option Nat}
  (hop:∀i vs h r h' g',opR i vs h.next h Log.nil=.ok r h' g'->h.WF->Fr h.next h Log.nil h' g') {l:List Nat} {st:St} {h:Q5} {acc:List RE} {st':St} {h':Q5} {acc':List RE}
  (t:RegTr opR ord slots dst l st h acc st' h' acc'):h.WF->h'.WF/\h.next<=h'.next/\h'.lim=h.lim/\(∃new,acc'=new++acc) /\
   (∀i,i<h.next->(∀x,x∈acc'->i ∉ x.g.wr)->h'.get i=h.get i)/\(∀i,h.lim<=i->h'.get i=h.get i):=by
 induction t with
 | nil st h acc=>exact λw=>⟨w,zL0 _,rfl,⟨[],rfl⟩,λ_ _ _=>rfl,λ_ _=>rfl⟩
 | @cons i l st h acc v h1 g st' h' acc' e c _ ih =>
  intro w;have f:=hop _ _ _ _ _ _ e w;obtain⟨w',n',l',⟨new,hnew⟩,same,over⟩:=ih f.wf;have hmem:(⟨i,h.next,h1.next,g⟩:RE)∈acc':=by rw[hnew];simp
  refine⟨w',zM0 f.next n',l'.trans f.lim,⟨new++[⟨i,h.next,h1.next,g⟩],by rw[hnew];simp⟩,λj hj hx=>?_,λj hj=>(over j (by rw[f.lim];exact hj)).trans (f.over j hj)⟩;rw[same j (zE0 hj f.next) hx];exact f.same j hj (hx _ hmem)
theorem jGf {opR:Nat->List AV->Nat->Q5->Log->OutS} {ord:Nat->Nat->Bool} {slots:Nat->List Nat} {dst:Nat->Option Nat}
  (hop:∀i vs h r h' g',opR i vs h.next h Log.nil=.ok r h' g'->h.WF->Fr h.next h Log.nil h' g') {l:List Nat} {st:St} {h:Q5} {acc:List RE} {st':St} {h':Q5} {acc':List RE}
  (t:RegTr opR ord slots dst l st h acc st' h' acc'):h.WF->(∀x,x∈acc->∀i,i∈x.g.rd∨i∈x.g.wr->i<h.next)->∀x,x∈acc'->∀i,i∈x.g.rd∨i∈x.g.wr->i<h'.next:=by
 induction t with
 | nil st h acc=>exact λ_ h=>h
 | @cons i l st h acc v h1 g st' h' acc' e c _ ih =>
  intro w hacc;have f:=hop _ _ _ _ _ _ e w;refine ih f.wf λx hx j hj=>?_;rcases List.mem_cons.1 hx with rfl | hx
  .have hg:j<h.next:=by
    rcases hj with hj | hj
    .exact ((f.log.lo j).1 hj).elim (λh=>absurd h zK0) id
    .exact ((f.log.lo j).2 hj).elim (λh=>absurd h zK0) id
   exact zE0 hg f.next
  .exact zE0 (hacc x hx j hj) f.next
theorem jo {α:Type} {f:α->Bool} {l:List α}:allL f l=true↔∀x,x∈l->f x=true:=by
 induction l with
 | nil=>exact⟨λ_ x hx=>absurd hx zK0,λ_=>rfl⟩
 | cons y t ih =>show cnd (f y) (allL f t) false=true↔_;rw[Qk,ih];exact⟨λ⟨h1,h2⟩ x hx=>(List.mem_cons.1 hx).elim (λe=>e ▸ h1) (h2 x),λh=>⟨h y zB0,λx hx=>h x (zA0 _ hx)⟩⟩
theorem qWs {b:Bool}:notB b=true↔b=false:=by cases b <;> simp[notB,cnd]
theorem qZo {lo hi:Nat} {l:List Nat}:noWin lo hi l=true↔∀i,i∈l->¬(lo<=i/\i<hi):=by
 unfold noWin;rw[jo];refine forall_congr' λi=>forall_congr' λ_=>?_;rw[qWs];constructor
 .intro h ⟨h1,h2⟩;rw[zF0 h1,Q6,Qo.2 h2] at h;cases h
 .intro h;cases h1:Nat.ble lo i
  .rfl
  .rw[Q6];exact qE.2 (Nat.le_of_not_lt λh2=>h ⟨zS0 h1,h2⟩)
theorem qXh {a l:List Nat}:disj a l=true↔∀i,i∈l->i ∉ a:=by
 unfold disj;rw[jo];refine forall_congr' λi=>forall_congr' λ_=>?_;rw[qWs];constructor
 .intro h hm;rw[qI3.2 hm] at h;cases h
 .intro h;cases hm:memN i a
  .rfl
  .exact absurd (qI3.1 hm) h
structure NoConf (x:RE) (g:Log):Prop where
 w1:∀i,i∈g.rd->¬(x.lo<=i/\i<x.hi)
 w2:∀i,i∈g.wr->¬(x.lo<=i/\i<x.hi)
 wr:∀i,i∈g.rd->i ∉ x.g.wr
 ww:∀i,i∈g.wr->i ∉ x.g.wr
 rw:∀i,i∈g.wr->i ∉ x.g.rd
theorem qZp {x:RE} {g:Log} (h:qWu x g=true):NoConf x g:=by obtain⟨h1,h2⟩:=Qk.1 h;obtain⟨a,b⟩:=Qk.1 h1;obtain⟨c,d⟩:=Qk.1 h2;obtain⟨d,e⟩:=Qk.1 d;exact⟨qZo.1 a,qZo.1 b,qXh.1 c,qXh.1 d,qXh.1 e⟩
theorem jCw {ord:Nat->Nat->Bool} {i:Nat} {g:Log} {l:List RE} (h:qOk ord i g l=true):∀x,x∈l->ord x.i i=true∨NoConf x g:=by
 intro x hx;have key:allL (λx=>cnd (ord x.i i) true (qWu x g)) l=true->ord x.i i=true∨NoConf x g:=by
  intro h
  have:=jo.1 h x hx
  cases ho:ord x.i i
  .rw[ho,Q8] at this;exact .inr (qZp this)
  .exact .inl rfl
 obtain⟨r,w⟩:=g;cases r with
 | cons a r=>exact key h
 | nil =>
  cases w with
  | cons a w=>exact key h
  | nil=>exact .inr ⟨λ_ h=>absurd h zK0,λ_ h=>absurd h zK0,λ_ h=>absurd h zK0,λ_ h=>absurd h zK0,λ_ h=>absurd h zK0⟩
structure RegOk (n:Nat) (ord:Nat->Nat->Bool) (slots:Nat->List Nat) (dst:Nat->Option Nat):Prop where
 slot:∀i,i<n->∀s,s∈slots i->s<4096
 ordlt:∀i j,i<n->j<n->ord j i=true->j<i
 dlt:∀j,j<n->∀s,dst j=some s->s<4096
 behind:∀i j s,i<n->j<n->dst j=some s->s∈slots i->ord j i=true∨ord i j=true
 apart:∀i j s,i<n->j<n->dst j=some s->dst i=some s->i=j
theorem jGg {n:Nat} {ord:Nat->Nat->Bool} {slots:Nat->List Nat} {dst:Nat->Option Nat} (h:qY1 n ord slots dst=true):RegOk n ord slots dst:=by
 have key:∀i,i<n->(∀s,s∈slots i->s<4096)/\∀j,j<n->(ord j i=true->j<i)/\∀s,dst j=some s->s<4096/\(s∈slots i->ord j i=true∨ord i j=true)/\(dst i=some s->i=j):=by
  intro i hi;have h1:=jo.1 h i (List.mem_range.2 hi);obtain⟨h2,h3⟩:=Qk.1 h1;refine⟨λs hs=>Qo.1 (jo.1 h2 s hs),λj hj=>?_⟩;have h4:=jo.1 h3 j (List.mem_range.2 hj);obtain⟨h5,h6⟩:=Qk.1 h4;refine⟨λho=>by rw[ho,Q6] at h5;exact Qo.1 h5,λs hs=>?_⟩;rw[hs] at h6;obtain⟨h7,h8⟩:=Qk.1 h6;obtain⟨h9,h10⟩:=Qk.1 h8;refine⟨Qo.1 h7,λhm=>by
   rw[qI3.2 hm,Q6] at h9;cases ho:ord j i
   .rw[ho,Q8] at h9;exact .inr h9
   .exact .inl rfl,λhd=>?_⟩
  cases hb:Nat.beq i j
  .rw[hb,Q8,hd] at h10
   have:=qWs.1 h10
   rw[show Nat.beq s s=true from Nat.beq_refl s] at this;cases this
  .exact QA hb
 exact⟨λi hi=>(key i hi).1,λi j hi hj=>((key i hi).2 j hj).1,λj hj s hs=>(((key j hj).2 j hj).2 s hs).1,
  λi j s hi hj hd hs=>(((key i hi).2 j hj).2 s hd).2.1 hs,λi j s hi hj hd hd'=>(((key i hi).2 j hj).2 s hd).2.2 hd'⟩
structure RegSeq (opR:Nat->List AV->Nat->Q5->Log->OutS) (ord:Nat->Nat->Bool) (slots:Nat->List Nat) (dst:Nat->Option Nat) (k m:Nat) (sts:Nat->St) (hs:Nat->Q5) (vs:Nat->AV) (gs:Nat->Log):Prop where
 run:∀i,k<=i->i<k+m->opR i ((sts i).sel (slots i)) (hs i).next (hs i) Log.nil=.ok (.val (vs i)) (hs (i+1)) (gs i)
 st:∀i,k<=i->i<k+m->sts (i+1)=(sts i).put (dst i) (vs i)
 conf:∀j i,k<=j->j<i->i<k+m->ord j i=true∨NoConf ⟨j,(hs j).next,(hs (j+1)).next,gs j⟩ (gs i)
theorem qYy {opR:Nat->List AV->Nat->Q5->Log->OutS} {ord:Nat->Nat->Bool} {slots:Nat->List Nat} {dst:Nat->Option Nat} :
  ∀(m k:Nat) {st:St} {h:Q5} {acc:List RE} {st':St} {h':Q5} {acc':List RE},RegTr opR ord slots dst (List.range' k m) st h acc st' h' acc' ->
  ∃sts hs vs gs,sts k=st/\hs k=h/\sts (k+m)=st'/\hs (k+m)=h'/\RegSeq opR ord slots dst k m sts hs vs gs /\
   (∀x,x∈acc->∀i,k<=i->i<k+m->ord x.i i=true∨NoConf x (gs i))
 | 0,k,st,h,acc,st',h',acc',t=>by
  cases t;exact⟨λ_=>st,λ_=>h,λ_=>.junk,λ_=>Log.nil,rfl,rfl,rfl,rfl,⟨λi h1 h2=>by omega,λi h1 h2=>by omega,λj i h1 h2 h3=>by omega⟩,λx _ i h1 h2=>by omega⟩
 | m+1,k,st,h,acc,st',h',acc',t=>by
  rw[List.range'_succ] at t;cases t with
  | @cons _ _ _ _ _ v h1 g _ _ _ e c t =>
   obtain⟨sts,hs,vs,gs,e1,e2,e3,e4,q,hacc⟩:=qYy m (k+1) t;have hc:=jCw c;refine⟨λi=>if i=k then st else sts i,λi=>if i=k then h else hs i,λi=>if i=k then v else vs i,λi=>if i=k then g else gs i,if_pos rfl,if_pos rfl,?_,?_,⟨λi h1i h2i=>?_,λi h1i h2i=>?_,λj i h1i h2i h3i=>?_⟩,λx hx i h1i h2i=>?_⟩
   .simp only[];rw[if_neg (by omega),<- e3];congr 1;omega
   .simp only[];rw[if_neg (by omega),<- e4];congr 1;omega
   .by_cases hik:i=k
    .subst hik;simp only[if_true,if_neg (show ¬i+1=i by omega)];rw[e2];exact e
    .simp only[if_neg hik,if_neg (show ¬i+1=k by omega)];exact q.run i (by omega) (by omega)
   .by_cases hik:i=k
    .subst hik;simp only[if_true,if_neg (show ¬i+1=i by omega)];exact e1
    .simp only[if_neg hik,if_neg (show ¬i+1=k by omega)];exact q.st i (by omega) (by omega)
   .have hik:¬i=k:=by omega
    by_cases hjk:j=k
    .subst hjk;simp only[if_true,if_neg hik,if_neg (show ¬j+1=j by omega),e2];exact hacc ⟨j,h.next,h1.next,g⟩ zB0 i (by omega) (by omega)
    .simp only[if_neg hik,if_neg hjk,if_neg (show ¬j+1=k by omega)];exact q.conf j i (by omega) h2i (by omega)
   .by_cases hik:i=k
    .subst hik;simp only[if_true];exact hc x hx
    .simp only[if_neg hik];exact hacc x (zA0 _ hx) i (by omega) (by omega)
theorem Log.addRs_adds (b:Nat) (l:List Nat) (g:Log):∃g',(∀{β:Type} (k:Log->β),j1 b l g k=k g')/\Log.Adds b g g'/\∀i,i∈l->i<b->i∈g'.rd:=by obtain⟨g',e,s,m,n,w⟩:=qJ8 b l g λx=>x;refine⟨g',λk=>?_,⟨s,λj=>⟨λhj=>(n j hj).imp id (·.2),λhj=>.inl (w ▸ hj)⟩⟩,m⟩;rw[qMa,e]
theorem Log.addWs_adds (b:Nat) (l:List Nat) (g:Log):∃g',(∀{β:Type} (k:Log->β),qK b l g k=k g')/\Log.Adds b g g'/\∀i,i∈l->i<b->i∈g'.wr:=by obtain⟨g',e,s,m,n,w⟩:=qJ7 b l g λx=>x;refine⟨g',λk=>?_,⟨s,λj=>⟨λhj=>.inl (w ▸ hj),λhj=>(n j hj).imp id (·.2)⟩⟩,m⟩;rw[qL9,e]
theorem jFd {β:Type} (a n:Nat) (h:Q5) (k:Tr->β):dropK a n h.t k=k (qH a n h).t:=by
 induction n generalizing k with
 | zero=>rfl
 | succ n ih =>show dropK a n h.t (λt'=>Tr.setP (p4 (Nat.add a n)) none t' k)=_;rw[ih,Tr.setP_put];rfl
inductive AllTr (f:Res->Q5->Log->Out):List (Res × Q5)->Log->List (Res × Q5)->Log->Prop
 | nil (g:Log):AllTr f [] g [] g
 | cons {x:Res × Q5} {l:List (Res × Q5)} {g:Log} {l1:List (Res × Q5)} {g1:Log} {l2:List (Res × Q5)} {g2:Log} (e:f x.1 x.2 g=.ok l1 g1) (t:AllTr f l g1 l2 g2):AllTr f (x::l) g (l1++l2) g2
theorem jK {f:Res->Q5->Log->Out}:∀{l:List (Res × Q5)} {g:Log} {outs:List (Res × Q5)} {g':Log},QW f l g=.ok outs g'->AllTr f l g outs g'
 | [],g,outs,g',e=>by
  have e':Out.ok [] g=.ok outs g':=e;cases e';exact .nil _
 | x::l,g,outs,g',e=>by
  have e':Out.rec (motive:=λ_=>Out) (λn=>.err n) (λl1 g1=>Out.rec (motive:=λ_=>Out) (λn=>.err n) (λl2 g2=>.ok (l1++l2) g2) (QW f l g1)) (f x.1 x.2 g)=.ok outs g':=e;cases h1:f x.1 x.2 g with
  | err n=>rw[h1] at e';cases e'
  | ok l1 g1 =>
   rw[h1] at e';have e2:Out.rec (motive:=λ_=>Out) (λn=>.err n) (λl2 g2=>.ok (l1++l2) g2) (QW f l g1)=.ok outs g':=e';cases h2:QW f l g1 with
   | err n=>rw[h2] at e2;cases e2
   | ok l2 g2=>rw[h2] at e2;cases e2;exact .cons h1 (jK h2)
structure HF (b:Nat) (h h':Q5) (wr:List Nat):Prop where
 wf:h'.WF
 next:h.next<=h'.next
 lim:h'.lim=h.lim
 same:∀i,i<b->i ∉ wr->h'.get i=h.get i
 over:∀i,h.lim<=i->h'.get i=h.get i
theorem HF.refl {b:Nat} {h:Q5} (w:h.WF) (wr:List Nat):HF b h h wr:=⟨w,zL0 _,rfl,λ_ _ _=>rfl,λ_ _=>rfl⟩
theorem HF.mono {b:Nat} {h h':Q5} {wr wr':List Nat} (f:HF b h h' wr) (hw:∀i,i∈wr->i<b->i∈wr'):HF b h h' wr' :=
 ⟨f.wf,f.next,f.lim,λi hi hn=>f.same i hi λhm=>hn (hw i hm hi),f.over⟩
theorem HF.down {b b':Nat} {h h':Q5} {wr:List Nat} (f:HF b h h' wr) (hb:b'<=b):HF b' h h' wr :=
 ⟨f.wf,f.next,f.lim,λi hi hn=>f.same i (zE0 hi hb) hn,f.over⟩
theorem HF.trans {b:Nat} {h h1 h2:Q5} {wr:List Nat} (f:HF b h h1 wr) (k:HF b h1 h2 wr):HF b h h2 wr :=
 ⟨k.wf,zM0 f.next k.next,k.lim.trans f.lim,λi hi hn=>(k.same i hi hn).trans (f.same i hi hn),λi hi=>(k.over i (by rw[f.lim];exact hi)).trans (f.over i hi)⟩
theorem Fr.hf {b:Nat} {h:Q5} {g:Log} {h':Q5} {g':Log} (f:Fr b h g h' g'):HF b h h' g'.wr:=⟨f.wf,f.next,f.lim,f.same,f.over⟩
structure FrO (b:Nat) (h:Q5) (g:Log) (outs:List (Res × Q5)) (g':Log):Prop where
 log:Log.Adds b g g'
 outs:∀o,o∈outs->HF b h o.2 g'.wr
theorem AllTr.log {f:Res->Q5->Log->Out} {b:Nat} {l:List (Res × Q5)} {g:Log} {outs:List (Res × Q5)} {g':Log} (t:AllTr f l g outs g') (hf:∀x,x∈l->∀g o g1,f x.1 x.2 g=.ok o g1->Log.Adds b g g1):Log.Adds b g g':=by
 induction t with
 | nil g=>exact .refl _ _
 | cons e t ih=>exact (hf _ zB0 _ _ _ e).trans (ih λx hx=>hf x (zA0 _ hx))
theorem AllTr.each {f:Res->Q5->Log->Out} {b:Nat} {l:List (Res × Q5)} {g:Log} {outs:List (Res × Q5)} {g':Log} (t:AllTr f l g outs g') (hf:∀x,x∈l->∀g o g1,f x.1 x.2 g=.ok o g1->Log.Adds b g g1) :
  (∀o,o∈outs->∃x g0 g1 o1,x∈l/\f x.1 x.2 g0=.ok o1 g1/\o∈o1/\Log.Adds b g g0/\Log.Adds b g1 g') /\
  (∀x,x∈l->∃g0 g1 o1,f x.1 x.2 g0=.ok o1 g1/\(∀o,o∈o1->o∈outs)/\Log.Adds b g g0/\Log.Adds b g1 g'):=by
 induction t with
 | nil g=>exact⟨λ_ h=>absurd h zK0,λ_ h=>absurd h zK0⟩
 | @cons x l g l1 g1 l2 g2 e t ih =>
  have hx:=hf x zB0 _ _ _ e;have ht:=t.log (b:=b) λx hx=>hf x (zA0 _ hx);obtain⟨i1,i2⟩:=ih λx hx=>hf x (zA0 _ hx);refine⟨λo ho=>?_,λy hy=>?_⟩
  .rcases List.mem_append.1 ho with ho | ho
   .exact⟨x,g,g1,l1,zB0,e,ho,.refl _ _,ht⟩
   .obtain⟨y,g0,g3,o1,h1,h2,h3,h4,h5⟩:=i1 o ho;exact⟨y,g0,g3,o1,zA0 _ h1,h2,h3,hx.trans h4,h5⟩
  .rcases List.mem_cons.1 hy with rfl | hy
   .exact⟨g,g1,l1,e,λo ho=>zG0 _ ho,.refl _ _,ht⟩
   .obtain⟨g0,g3,o1,h1,h2,h3,h4⟩:=i2 y hy;exact⟨g0,g3,o1,h1,λo ho=>zH0 _ (h2 o ho),hx.trans h3,h4⟩
theorem jFm {α:Type} {f:α->Bool} {l:List α}:anyL f l=true↔∃x,x∈l/\f x=true:=by
 induction l with
 | nil=>exact⟨λh=>ff h,λ⟨x,hx,_⟩=>absurd hx zK0⟩
 | cons y t ih =>
  show cnd (f y) true (anyL f t)=true↔_;cases hy:f y
  .rw[Q8,ih];exact⟨λ⟨x,hx,h⟩=>⟨x,zA0 _ hx,h⟩,λ⟨x,hx,h⟩=>(List.mem_cons.1 hx).elim (λe=>by subst e;rw[hy] at h;cases h) (λhx=>⟨x,hx,h⟩)⟩
  .exact⟨λ_=>⟨y,zB0,hy⟩,λ_=>rfl⟩
theorem qSq {a c:Q5} {lo:Nat}:∀{n:Nat},qSr a c lo n=true->∀i,lo<=i->i<lo+n->a.get i=c.get i
 | 0,_,i,h1,h2=>by omega
 | n+1,h,i,h1,h2=>by
  have h':cnd (qSr a c lo n) (qHa (a.get (lo+n)) (c.get (lo+n))) false=true:=h;obtain⟨p,q⟩:=Qk.1 h';by_cases e:i=lo+n
  .subst e;exact qMg q
  .exact qSq p i h1 (by omega)
theorem jGa {ws:List Nat} {lo:Nat} {h:Q5} {x y:Res × Q5} (hx:HF lo h x.2 ws) (hy:HF lo h y.2 ws) (e:qV ws lo x y=true):x=y:=by
 obtain⟨e1,e2⟩:=Qk.1 e;obtain⟨e2,e3⟩:=Qk.1 e2;obtain⟨e3,e4⟩:=Qk.1 e3;have hn:=QA e2;refine Prod.ext (qXd e1) (Q5.ext (λi=>?_) hn (hx.lim.trans hy.lim.symm));by_cases hw:i∈ws
 .exact qMg (jo.1 e3 i hw)
 .by_cases hlo:i<lo
  .rw[hx.same i hlo hw,hy.same i hlo hw]
  .by_cases hnx:i<x.2.next
   .exact qSq e4 i (by omega) (by simp only[Nat.sub_eq];omega)
   .by_cases hl:i<h.lim
    .rw[hx.wf.none i (by omega) (by rw[hx.lim];exact hl),hy.wf.none i (by omega) (by rw[hy.lim];exact hl)]
    .rw[hx.over i (by omega),hy.over i (by omega)]
theorem qT {ws:List Nat} {lo:Nat}:∀{l:List (Res × Q5)} {x:Res × Q5},x∈dedupe ws lo l->x∈l
 | [],_,h=>h
 | y::l,x,h=>by
  have h':x∈cnd (anyL (λz=>qV ws lo y z) (dedupe ws lo l)) (dedupe ws lo l) (y::dedupe ws lo l):=h;cases hb:anyL (λz=>qV ws lo y z) (dedupe ws lo l)
  .rw[hb,Q8] at h';exact (List.mem_cons.1 h').elim (λe=>e ▸ zB0) (λh=>zA0 _ (qT h))
  .rw[hb,Q6] at h';exact zA0 _ (qT h')
theorem qU {ws:List Nat} {lo:Nat} {h:Q5}:∀{l:List (Res × Q5)},(∀x,x∈l->HF lo h x.2 ws)->∀x,x∈l->x∈dedupe ws lo l
 | [],_,_,h=>h
 | y::l,hl,x,hx=>by
  have ih:=qU (l:=l) (λz hz=>hl z (zA0 _ hz));show x∈cnd (anyL (λz=>qV ws lo y z) (dedupe ws lo l)) (dedupe ws lo l) (y::dedupe ws lo l);cases hb:anyL (λz=>qV ws lo y z) (dedupe ws lo l)
  .rw[Q8];exact (List.mem_cons.1 hx).elim (λe=>e ▸ zB0) (λh=>zA0 _ (ih x h))
  .rw[Q6];rcases List.mem_cons.1 hx with e | hx
   .subst e;obtain⟨z,hz,hs⟩:=jFm.1 hb;rw[jGa (hl x zB0) (hl z (zA0 _ (qT hz))) hs];exact hz
   .exact ih x hx
theorem jl {f:Res->Bool} {l:List (Res × Q5)} {x:Res × Q5}:x∈filL f l↔x∈l/\f x.1=true:=by
 induction l with
 | nil=>exact⟨λh=>absurd h zK0,λh=>h.1⟩
 | cons y t ih =>
  show x∈cnd (f y.1) (y::filL f t) (filL f t)↔_;cases hy:f y.1
  .rw[Q8,ih];exact⟨λ⟨a,b⟩=>⟨zA0 _ a,b⟩,λ⟨a,b⟩=>⟨(List.mem_cons.1 a).elim (λe=>by subst e;rw[hy] at b;cases b) id,b⟩⟩
  .rw[Q6,List.mem_cons,List.mem_cons,ih];exact⟨λh=>h.elim (λe=>⟨.inl e,e ▸ hy⟩) (λ⟨a,b⟩=>⟨.inr a,b⟩),λ⟨a,b⟩=>a.elim .inl (λa=>.inr ⟨a,b⟩)⟩
end Go.X
namespace Go.X
theorem Log.addRW (b:Nat) (l l':List Nat) (g:Log):∃g',(∀{β:Type} (k:Log->β),(j1 b l g λg0=>qK b l' g0 k)=k g')/\Log.Adds b g g'/\(∀i,i∈l->i<b->i∈g'.rd)/\∀i,i∈l'->i<b->i∈g'.wr:=by obtain⟨g1,e1,a1,m1⟩:=Log.addRs_adds b l g;obtain⟨g2,e2,a2,m2⟩:=Log.addWs_adds b l' g1;exact⟨g2,λk=>by rw[e1,e2],a1.trans a2,λi hi hb=>a2.rd i (m1 i hi hb),m2⟩
theorem qY8 {o:Out} {r:Res} {h:Q5} {g:Log} (e:one o=.ok r h g):o=.ok [(r,h)] g:=by
 cases o with
 | err w=>cases e
 | ok l g0 =>
  cases l with
  | nil=>cases e
  | cons x t =>
   cases t with
   | nil=>cases x;cases e;rfl
   | cons y t=>cases e
theorem run_get (i:Nat) (k:Q4->FM) (b:Nat) (h:Q5) (g:Log) :
  (FM.get i k).run b h g=if i<h.next then match h.get i with | some o=>(k o).run b h (g.addR b i) | none=>.err 1000 else .err 1000:=by
 show cnd (ltb i h.next) (Option.rec (motive:=λ_=>Out) (.err 1000) (λo=>qTj b i g λg'=>(k o).run b h g') (h.get i)) (.err 1000)=_;by_cases e:i<h.next
 .rw[if_pos e,Qo.2 e,Q6];cases h.get i with
  | none=>rfl
  | some o=>exact qW5 _ _ _ _
 .rw[if_neg e,qE.2 (Nat.le_of_not_lt e),Q8]
theorem run_set (i:Nat) (o:Q4) (m:FM) (b:Nat) (h:Q5) (g:Log):(FM.set i o m).run b h g=if i<h.next then m.run b (h.put i (some o)) (g.addW b i) else .err 1001:=by
 show cnd (ltb i h.next) (Tr.setP (p4 i) (some o) h.t λt'=>qTi b i g λg'=>m.run b ⟨t',h.next,h.lim⟩ g') (.err 1001)=_;by_cases e:i<h.next
 .rw[if_pos e,Qo.2 e,Q6,Tr.setP_put,qW4];rfl
 .rw[if_neg e,qE.2 (Nat.le_of_not_lt e),Q8]
theorem qQu (o:Q4) (k:Nat->FM) (b:Nat) (h:Q5) (g:Log):(FM.new o k).run b h g=if h.next<h.lim then (k h.next).run b (h.newO o) g else .err 1002:=by
 show cnd (ltb h.next h.lim) (Tr.setP (p4 h.next) (some o) h.t λt'=>Qc (Nat.succ h.next) λn=>(k h.next).run b ⟨t',n,h.lim⟩ g) (.err 1002)=_;by_cases e:h.next<h.lim
 .rw[if_pos e,Qo.2 e,Q6,Tr.setP_put,Qb];rfl
 .rw[if_neg e,qE.2 (Nat.le_of_not_lt e),Q8]
theorem qs {a b:Nat}:Nat.ble a b=true↔a<=b:=⟨zS0,zF0⟩
theorem qPt (a w:Nat) (m:FM) (b:Nat) (h:Q5) (g:Log) {outs:List (Res × Q5)} {g':Log} (e:(FM.drop a w m).run b h g=.ok outs g') :
  b<=a/\a<=h.next/\h.next<=a+w/\a+w<=h.lim/\m.run b ((qH a (h.next-a) h).win (a+w) h.lim) g=.ok outs g':=by
 have e':cnd (cnd (cnd (Nat.ble b a) (Nat.ble a h.next) false) (cnd (Nat.ble h.next (Nat.add a w)) (Nat.ble (Nat.add a w) h.lim) false) false)
   (dropK a (Nat.sub h.next a) h.t λt'=>Qc (Nat.add a w) λn=>m.run b ⟨t',n,h.lim⟩ g) (.err 1012)=.ok outs g':=e
 cases hc:cnd (cnd (Nat.ble b a) (Nat.ble a h.next) false) (cnd (Nat.ble h.next (Nat.add a w)) (Nat.ble (Nat.add a w) h.lim) false) false
 .rw[hc,Q8] at e';cases e'
 .rw[hc,Q6,jFd,Qb] at e';obtain⟨h1,h2⟩:=Qk.1 hc;obtain⟨h1,h3⟩:=Qk.1 h1;obtain⟨h2,h4⟩:=Qk.1 h2;exact⟨qs.1 h1,qs.1 h3,qs.1 h2,qs.1 h4,e'⟩
theorem qFx {f:Nat->Log->Out} {b:Nat} {g:Log} (hf:∀j g o g1,f j g=.ok o g1->Log.Adds b g g1):∀{n:Nat} {outs:List (Res × Q5)} {g':Log},qN f g n=.ok outs g' ->
  Log.Adds b g g'/\(∀o,o∈outs->∃j g0 g1 o1,j<n/\f j g0=.ok o1 g1/\o∈o1/\Log.Adds b g1 g')/\(∀j,j<n->∃g0 g1 o1,f j g0=.ok o1 g1/\∀o,o∈o1->o∈outs)
 | 0,outs,g',e=>by
  have e':Out.ok [] g=.ok outs g':=e;cases e';exact⟨.refl _ _,λ_ h=>absurd h zK0,λj hj=>by omega⟩
 | n+1,outs,g',e=>by
  have e':Out.rec (motive:=λ_=>Out) (λw=>.err w) (λl g1=>Out.rec (motive:=λ_=>Out) (λw=>.err w) (λl' g2=>.ok (l++l') g2) (f n g1)) (qN f g n)=.ok outs g':=e;cases h1:qN f g n with
  | err w=>rw[h1] at e';cases e'
  | ok l g1 =>
   rw[h1] at e';have e2:Out.rec (motive:=λ_=>Out) (λw=>.err w) (λl' g2=>.ok (l++l') g2) (f n g1)=.ok outs g':=e';cases h2:f n g1 with
   | err w=>rw[h2] at e2;cases e2
   | ok l' g2 =>
    rw[h2] at e2;cases e2;obtain⟨a1,a2,a3⟩:=qFx hf h1;have a4:=hf _ _ _ _ h2;refine⟨a1.trans a4,λo ho=>?_,λj hj=>?_⟩
    .rcases List.mem_append.1 ho with ho | ho
     .obtain⟨j,g0,g3,o1,b1,b2,b3,b4⟩:=a2 o ho;exact⟨j,g0,g3,o1,by omega,b2,b3,b4.trans a4⟩
     .exact⟨n,g1,_,l',by omega,h2,ho,.refl _ _⟩
    .by_cases hjn:j=n
     .subst hjn;exact⟨g1,_,l',h2,λo ho=>zH0 _ ho⟩
     .obtain⟨g0,g3,o1,b1,b2⟩:=a3 j (by omega);exact⟨g0,g3,o1,b1,λo ho=>zG0 _ (b2 o ho)⟩
structure LoopIn (body:St->Q5->Log->Out) (lo:Nat) (h0:Q5):Prop where
 fr:∀st h g outs g',body st h g=.ok outs g'->h.WF->lo<=h.next->FrO lo h g outs g'
theorem qFk {r:Res} {k:qd->St->Out} {l:List (Res × Q5)} {g:Log} (e:stK r k=.ok l g):∃x s,r=.st x s/\k x s=.ok l g:=by
 cases r with
 | st x s=>exact⟨x,s,rfl,e⟩
 | _=>cases e
theorem qOp {body:St->Q5->Log->Out} {lo:Nat} {h0:Q5} (hb:LoopIn body lo h0) (hlo:lo<=h0.next)
  {bodyS:St->qMl->Q5->Prop} (hS:∀st h g outs g' (p:qMl),body st h g=.ok outs g'->h.WF->lo<=h.next->(∀o,o∈outs->p o.1 o.2)->bodyS st p h)
  {fin:List (Res × Q5)->Log->Out} {res:List (Res × Q5)} {gr:Log} (hfin:∀acc gl,fin acc gl=.ok res gr->∀x,x∈acc->∃e s,x.1=.st e s) :
  ∀(n:Nat) (f acc:List (Res × Q5)) (gl:Log),J2 body lo fin n f acc gl=.ok res gr->(∀x,x∈f->HF lo h0 x.2 gl.wr/\qF x.1=true)->(∀x,x∈acc->HF lo h0 x.2 gl.wr) ->
  ∃accF glF,fin accF glF=.ok res gr/\Log.Adds lo gl glF/\(∀x,x∈accF->HF lo h0 x.2 glF.wr)/\(∀x,x∈acc->x∈accF) /\
   (∀x st,x∈f->x.1=.st .normal st->qGx bodyS (λe s h=>(Res.st e s,h)∈accF) n st x.2):=by
 intro n
 have nilCase:∀(f acc:List (Res × Q5)) (gl:Log) (m:Nat),J8 f=true->fin acc gl=.ok res gr->(∀x,x∈acc->HF lo h0 x.2 gl.wr) ->
   ∃accF glF,fin accF glF=.ok res gr/\Log.Adds lo gl glF/\(∀x,x∈accF->HF lo h0 x.2 glF.wr)/\(∀x,x∈acc->x∈accF) /\
   (∀x st,x∈f->x.1=.st .normal st->qGx bodyS (λe s h=>(Res.st e s,h)∈accF) m st x.2):=by
  intro f acc gl m hn e hacc;cases f with
  | nil=>exact⟨acc,gl,e,.refl _ _,hacc,λ_ h=>h,λ_ _ h=>absurd h zK0⟩
  | cons x t=>exact ff hn
 induction n with
 | zero =>
  intro f acc gl e hf hacc;have e':cnd (J8 f) (fin acc gl) (.err 1011)=.ok res gr:=e;cases hn:J8 f
  .rw[hn,Q8] at e';cases e'
  .rw[hn,Q6] at e';exact nilCase f acc gl 0 hn e' hacc
 | succ n ih =>
  intro f acc gl e hf hacc
  have e':cnd (J8 f) (fin acc gl)
   (Out.rec (motive:=λ_=>Out) (λn=>.err n) (λl gl'=>J2 body lo fin n (dedupe gl'.wr lo (filL qF l)) (dedupe gl'.wr lo (filL (λr=>notB (qF r)) l++acc)) gl')
    (QW (λr h g=>stK r λ_ st=>body st h g) f gl))=.ok res gr:=e
  cases hn:J8 f
  .rw[hn,Q8] at e';cases hr:QW (λr h g=>stK r λ_ st=>body st h g) f gl with
   | err w=>rw[hr] at e';cases e'
   | ok l gl' =>
    rw[hr] at e';have e2:J2 body lo fin n (dedupe gl'.wr lo (filL qF l)) (dedupe gl'.wr lo (filL (λr=>notB (qF r)) l++acc)) gl'=.ok res gr:=e';have tr:=jK hr;have hstep:∀x,x∈f->∀g o g1,(stK x.1 λ_ st=>body st x.2 g)=.ok o g1->Log.Adds lo g g1:=by intro x hx g o g1 e;obtain⟨_,st,_,e3⟩:=qFk e;exact (hb.fr _ _ _ _ _ e3 (hf x hx).1.wf (zM0 hlo (hf x hx).1.next)).log
    have hlog:=tr.log hstep;obtain⟨i1,i2⟩:=tr.each hstep;have hl:∀o,o∈l->HF lo h0 o.2 gl'.wr:=by intro o ho;obtain⟨x,g0,g1,o1,hx,e3,hoo,a1,a2⟩:=i1 o ho;obtain⟨_,st,_,e4⟩:=qFk e3;have f1:=(hf x hx).1;have f2:=(hb.fr _ _ _ _ _ e4 f1.wf (zM0 hlo f1.next)).outs o hoo;exact (f1.mono λi hi _=>hlog.wr i hi).trans (f2.mono λi hi _=>a2.wr i hi)
    have hN:∀x,x∈filL qF l->HF lo h0 x.2 gl'.wr:=λx hx=>hl x (jl.1 hx).1;have hE:∀x,x∈filL (λr=>notB (qF r)) l++acc->HF lo h0 x.2 gl'.wr:=by
     intro x hx;rcases List.mem_append.1 hx with hx | hx
     .exact hl x (jl.1 hx).1
     .exact (hacc x hx).mono λi hi _=>hlog.wr i hi
    obtain⟨accF,glF,c1,c2,c3,c4,c5⟩:=ih _ _ _ e2 (λx hx=>⟨hN x (qT hx),(jl.1 (qT hx)).2⟩) (λx hx=>hE x (qT hx));refine⟨accF,glF,c1,hlog.trans c2,c3,λx hx=>c4 x (qU hE x (zH0 _ hx)),λx st hx hst=>?_⟩;obtain⟨g0,g1,o1,e3,hsub,_,_⟩:=i2 x hx;rw[hst] at e3;have e4:body st x.2 g0=.ok o1 g1:=e3;refine hS _ _ _ _ _ _ e4 (hf x hx).1.wf (zM0 hlo (hf x hx).1.next) λo ho=>?_;have hol:=hsub o ho;obtain⟨r,h⟩:=o;cases r with
    | st ex s =>
     cases ex with
     | normal=>exact c5 (.st .normal s,h) s (qU hN _ (jl.2 ⟨hol,rfl⟩)) rfl
     | _=>exact c4 _ (qU hE _ (zG0 _ (jl.2 ⟨hol,rfl⟩)))
    | _ =>obtain⟨_,_,hh⟩:=hfin _ _ c1 _ (c4 _ (qU hE _ (zG0 _ (jl.2 ⟨hol,rfl⟩))));cases hh
  .rw[hn,Q6] at e';exact nilCase f acc gl (n+1) hn e' hacc
theorem AllTr.ok {f:Res->Q5->Log->Out} {l:List (Res × Q5)} {g:Log} {outs:List (Res × Q5)} {g':Log} (t:AllTr f l g outs g'):∀x,x∈l->∃g0 o1 g1,f x.1 x.2 g0=.ok o1 g1:=by
 induction t with
 | nil g=>exact λ_ h=>absurd h zK0
 | cons e t ih=>exact λy hy=>(List.mem_cons.1 hy).elim (λh=>by subst h;exact⟨_,_,_,e⟩) (ih y)
theorem fin_st {k:qd->St->FM} {b:Nat} {g:Log} {res:List (Res × Q5)} {gr:Log} (acc:List (Res × Q5)) (gl:Log)
  (e:(j1 b gl.rd g λg0=>qK b gl.wr g0 λg'=>QW (λr h' g=>stK r λe s=>(k e s).run b h' g) acc g')=.ok res gr):∀x,x∈acc->∃e s,x.1=.st e s:=by
 intro x hx;obtain⟨g2,eq,_,_,_⟩:=Log.addRW b gl.rd gl.wr g;rw[eq] at e;obtain⟨_,_,_,e3⟩:=(jK e).ok x hx;obtain⟨ex,s,h1,_⟩:=qFk e3;exact⟨ex,s,h1⟩
theorem run_choose {n:Nat} {k:Nat->FM} {b:Nat} {h:Q5} {g:Log} {outs:List (Res × Q5)} {g':Log} (e:(FM.choose n k).run b h g=.ok outs g'):0<n/\qN (λj g=>(k j).run b h g) g n=.ok outs g':=by
 have e':cnd (Nat.beq n 0) (.err 1014) (qN (λj g=>(k j).run b h g) g n)=.ok outs g':=e;cases n with
 | zero=>cases e'
 | succ n=>exact⟨Nat.succ_pos _,e'⟩
theorem jEl {m:FM} {k:Res->FM} {b:Nat} {h:Q5} {g:Log} {outs:List (Res × Q5)} {g':Log} (e:(FM.join m k).run b h g=.ok outs g') :
  ∃l g1 g2,m.run h.next h Log.nil=.ok l g1/\Log.Adds b g g2/\(∀i,i∈g1.rd->i<b->i∈g2.rd)/\(∀i,i∈g1.wr->i<b->i∈g2.wr)/\AllTr (λr h' g=>(k r).run b h' g) (dedupe g1.wr h.next l) g2 outs g':=by
 have e':Out.rec (motive:=λ_=>Out) (λw=>.err w) (λl g1=>j1 b g1.rd g λg0=>qK b g1.wr g0 λg'=>QW (λr h' g=>(k r).run b h' g) (dedupe g1.wr h.next l) g') (m.run h.next h Log.nil)=.ok outs g':=e;cases h1:m.run h.next h Log.nil with
 | err w=>rw[h1] at e';cases e'
 | ok l g1 =>rw[h1] at e';obtain⟨g2,eq,ad,mr,mem⟩:=Log.addRW b g1.rd g1.wr g;have e2:(j1 b g1.rd g λg0=>qK b g1.wr g0 λg'=>QW (λr h' g=>(k r).run b h' g) (dedupe g1.wr h.next l) g')=.ok outs g':=e';rw[eq] at e2;exact⟨l,g1,g2,rfl,ad,mr,mem,jK e2⟩
theorem qK6 (n:Nat) (body:St->FM) (st:St) (k:qd->St->FM) (b:Nat) (h:Q5) (g:Log) :
  (FM.loop n body st k).run b h g=J2 (λs h' g=>(body s).run h.next h' g) h.next (λacc gl=>j1 b gl.rd g λg0=>qK b gl.wr g0 λg'=>QW (λr h' g=>stK r λe s=>(k e s).run b h' g) acc g') n [(.st .normal st,h)] [] Log.nil:=rfl
theorem qPs {n:Nat} {ord:Nat->Nat->Bool} {slots:Nat->List Nat} {dst:Nat->Option Nat} {op:Nat->List AV->FM} {st:St} {k:St->FM} {b:Nat} {h:Q5} {g:Log} {outs:List (Res × Q5)} {g':Log}
  (e:(FM.regn n ord slots dst op st k).run b h g=.ok outs g') :
  qY1 n ord slots dst=true/\∃st' h1 l,qHu (λi vs b h g=>one ((op i vs).run b h g)) ord slots dst (qOe n) st h []=.ok st' h1 l/\(k st').run b h1 (g.addE b l)=.ok outs g':=by
 have e':cnd (qY1 n ord slots dst) (OutR.rec (motive:=λ_=>Out) (λw=>.err w) (λst' h' l=>qG8 b l g λg'=>(k st').run b h' g') (qHu (λi vs b h g=>one ((op i vs).run b h g)) ord slots dst (qOe n) st h [])) (.err 1008)=.ok outs g':=e;cases hok:qY1 n ord slots dst
 .rw[hok,Q8] at e';cases e'
 .rw[hok,Q6] at e';refine⟨rfl,?_⟩;cases hr:qHu (λi vs b h g=>one ((op i vs).run b h g)) ord slots dst (qOe n) st h [] with
  | err w=>rw[hr] at e';cases e'
  | ok st' h1 l =>rw[hr] at e';exact⟨st',h1,l,rfl,(qR8 _ _ _ _).symm.trans e'⟩
theorem jDl {h:Q5} (w:h.WF) {a x:Nat} (h1:a<=h.next) (h2:h.next<=a+x) (h3:a+x<=h.lim):((qH a (h.next-a) h).win (a+x) h.lim).WF:=by have hl:=w.lim;have ht:=w.top;refine⟨h3,ht,λi hi hi2=>?_⟩;simp only[Q5.win_next] at hi;simp only[Q5.win_lim] at hi2;rw[Q5.win_get,jG _ _ _ (by omega),if_neg (by omega)];exact w.none i (by omega) hi2
theorem FrO.fr1 {b:Nat} {h:Q5} {g:Log} {r:Res} {h':Q5} {g':Log} (f:FrO b h g [(r,h')] g'):Fr b h g h' g':=by have x:=f.outs (r,h') (by simp);exact⟨x.wf,x.next,x.lim,f.log,x.same,x.over⟩
theorem jS:∀(m:FM) (b:Nat) (h:Q5) (g:Log) (outs:List (Res × Q5)) (g':Log),m.run b h g=.ok outs g'->h.WF->b<=h.next->FrO b h g outs g':=by
 intro m
 induction m with
 | ret r0 =>
  intro b h g outs g' e w _;cases e;exact⟨.refl _ _,λo ho=>by
   have:o=(r0,h):=by simpa using ho
   subst this;exact HF.refl w _⟩
 | fail=>intro b h g outs g' e;cases e
 | get i k ih =>
  intro b h g outs g' e w hb;rw[run_get] at e;by_cases hi:i<h.next
  case neg=>rw[if_neg hi] at e;cases e
  rw[if_pos hi] at e;cases ho:h.get i with
  | none=>rw[ho] at e;cases e
  | some o =>
   rw[ho] at e;have f:=ih o _ _ _ _ _ e w hb;exact⟨(Log.addR_adds b i g).1.trans f.log,f.outs⟩
 | set i o m ih =>
  intro b h g outs g' e w hb;rw[run_set] at e;by_cases hi:i<h.next
  case neg=>rw[if_neg hi] at e;cases e
  rw[if_pos hi] at e;have f:=ih _ _ _ _ _ e (w.put hi o) hb;have hit:i<top:=by have:=w.lim;have:=w.top;omega
  refine⟨(Log.addW_adds b i g).1.trans f.log,λx hx=>?_⟩;have fx:=f.outs x hx;refine⟨fx.wf,fx.next,fx.lim,λj hj hw=>?_,λj hj=>?_⟩
  .rw[fx.same j hj hw,Q5.get_put _ hit,if_neg];rintro rfl;exact hw (f.log.wr _ ((Log.addW_adds b j g).2.1 hj))
  .rw[fx.over j hj,Q5.get_put _ hit,if_neg (by have:=w.lim;omega)]
 | new o k ih =>
  intro b h g outs g' e w hb;rw[qQu] at e;by_cases hi:h.next<h.lim
  case neg=>rw[if_neg hi] at e;cases e
  rw[if_pos hi] at e;have f:=ih _ _ _ _ _ _ e (w.newO hi o) (zM0 hb (Nat.le_succ _));have hit:h.next<top:=by have:=w.top;omega
  refine⟨f.log,λx hx=>?_⟩;have fx:=f.outs x hx;refine⟨fx.wf,zM0 (Nat.le_succ _) fx.next,fx.lim,λj hj hw=>?_,λj hj=>?_⟩
  .rw[fx.same j hj hw,Q5.newO_get _ hit,if_neg (by omega)]
  .rw[fx.over j hj,Q5.newO_get _ hit,if_neg (by omega)]
 | here k ih=>intro b h g outs g' e w hb;exact ih _ _ _ _ _ _ e w hb
 | drop a x m ih =>
  intro b h g outs g' e w hb;obtain⟨h0,h1,h2,h3,e2⟩:=qPt _ _ _ _ _ _ e;have f:=ih _ _ _ _ _ e2 (jDl w h1 h2 h3) (by simp only[Q5.win_next];omega);have hl:=w.lim;have ht:=w.top;refine⟨f.log,λy hy=>?_⟩;have fx:=f.outs y hy;refine⟨fx.wf,zM0 h2 fx.next,fx.lim,λj hj hw=>?_,λj hj=>?_⟩
  .rw[fx.same j hj hw,Q5.win_get,jG _ _ _ (by omega),if_neg (by omega)]
  .rw[fx.over j hj,Q5.win_get,jG _ _ _ (by omega),if_neg (by omega)]
 | choose n k ih =>
  intro b h g outs g' e w hb;obtain⟨_,e⟩:=run_choose e;obtain⟨a1,a2,_⟩:=qFx (b:=b) (λj g o g1 e=>(ih j _ _ _ _ _ e w hb).log) e;refine⟨a1,λo ho=>?_⟩;obtain⟨j,g0,g1,o1,_,e2,ho1,a4⟩:=a2 o ho;exact ((ih j _ _ _ _ _ e2 w hb).outs o ho1).mono λi hi _=>a4.wr i hi
 | any k ih=>intro b h g outs g' e w hb;have e':Out.err 1020=.ok outs g':=e;cases e'
 | join m k ihm ihk =>
  intro b h g outs g' e w hb;obtain⟨l,g1,g2,e1,ad,mr,mem,tr⟩:=jEl e;have fm:=ihm _ _ _ _ _ e1 w (zL0 _);have hx:∀x,x∈dedupe g1.wr h.next l->HF h.next h x.2 g1.wr:=λx hx=>fm.outs x (qT hx)
  have hstep:∀x,x∈dedupe g1.wr h.next l->∀g o g3,(k x.1).run b x.2 g=.ok o g3->Log.Adds b g g3:=λx hxm g o g3 e =>
   (ihk x.1 _ _ _ _ _ e (hx x hxm).wf (zM0 hb (hx x hxm).next)).log
  have hlog:=tr.log hstep;refine⟨ad.trans hlog,λo ho=>?_⟩;obtain⟨x,g0,g3,o1,hxm,e3,ho1,a1,a2⟩:=(tr.each hstep).1 o ho;have f1:=hx x hxm;have f2:=(ihk x.1 _ _ _ _ _ e3 f1.wf (zM0 hb f1.next)).outs o ho1;exact ((f1.down hb).mono λi hi hib=>hlog.wr i (mem i hi hib)).trans (f2.mono λi hi _=>a2.wr i hi)
 | loop n body st k ihb ihk =>
  intro b h g outs g' e w hb;rw[qK6] at e;have hin:LoopIn (λs h' g=>(body s).run h.next h' g) h.next h:=⟨λst' h' g outs g' e w' hl=>ihb st' _ _ _ _ _ e w' hl⟩
  obtain⟨accF,glF,c1,c2,c3,_,_⟩:=qOp hin (zL0 _) (bodyS:=λ_ _ _=>True) (λ_ _ _ _ _ _ _ _ _ _=>trivial)
   fin_st n _ _ _ e (λx hx=>by
    have:x=(.st .normal st,h):=by simpa using hx
    subst this;exact⟨HF.refl w _,rfl⟩) (λx hx=>absurd hx zK0)
  have hst:=fin_st accF glF c1;obtain⟨g2,eq,ad,mr,mem⟩:=Log.addRW b glF.rd glF.wr g;rw[eq] at c1;have tr:=jK c1;have hstep:∀x,x∈accF->∀g o g3,(stK x.1 λe s=>(k e s).run b x.2 g)=.ok o g3->FrO b x.2 g o g3:=λx hx g o g3 e=>by obtain⟨ex,s,_,e3⟩:=qFk e;exact ihk ex s _ _ _ _ _ e3 (c3 x hx).wf (zM0 hb (c3 x hx).next)
  have hlog:=tr.log λx hx g o g3 e=>(hstep x hx g o g3 e).log;refine⟨ad.trans hlog,λo ho=>?_⟩;obtain⟨x,g0,g3,o1,hxm,e3,ho1,a1,a2⟩:=(tr.each λx hx g o g3 e=>(hstep x hx g o g3 e).log).1 o ho;have f1:=c3 x hxm;have f2:=(hstep x hxm _ _ _ e3).outs o ho1;exact ((f1.down hb).mono λi hi hib=>hlog.wr i (mem i hi hib)).trans (f2.mono λi hi _=>a2.wr i hi)
 | regn n ord slots dst op st k iho ihk =>
  intro b h g outs g' e w hb;obtain⟨hok,st',h1,l,hrr,e2⟩:=qPs e;have hop:∀i vs h r h' g',one ((op i vs).run h.next h Log.nil)=.ok r h' g'->h.WF->Fr h.next h Log.nil h' g':=λi vs h r h' g' e w=>(iho i vs _ _ _ _ _ (qY8 e) w (zL0 _)).fr1
  obtain⟨w1,n1,l1,_,same,over⟩:=qPu hop (qLh hrr) w;have f:=ihk st' _ _ _ _ _ e2 w1 (zM0 hb n1);refine⟨(Log.addE_adds b l g).1.trans f.log,λx hx=>?_⟩;have fx:=f.outs x hx;refine⟨fx.wf,zM0 n1 fx.next,fx.lim.trans l1,λj hj hw=>?_,λj hj=>(fx.over j (by rw[l1];exact hj)).trans (over j hj)⟩;rw[fx.same j hj hw];exact same j (by omega) λy hy hyw=>hw (f.log.wr _ (((Log.addE_adds b l g).2 y hy j hj).2 hyw))
end Go.X
namespace Go.X
structure Agree (A:Nat->Prop) (h h2 h' h2':Q5):Prop where
 next:h2'.next=h'.next
 lim:h2'.lim=h2.lim
 on:∀i,A i->h2'.get i=h'.get i
 off:∀i,¬A i->h2'.get i=h2.get i
theorem Agree.trans {A:Nat->Prop} {h h2 h' h2' k k2:Q5} (a:Agree A h h2 h' h2') (c:Agree A h' h2' k k2):Agree A h h2 k k2 :=
 ⟨c.next,c.lim.trans a.lim,c.on,λi hi=>(c.off i hi).trans (a.off i hi)⟩
def jD1 (opR:Nat->Q5->Log->OutS):Prop :=
 ∀b h g r h' g',opR b h g=.ok r h' g'->h.WF->b<=h.next->∀(h2:Q5) (A:Nat->Prop),h2.next=h.next->h'.next<=h2.lim->h2.lim<=top ->
  (∀i,i∈g'.rd->A i)->(∀i,i∈g'.wr->A i)->(∀i,b<=i->i<h2.lim->A i)->(∀i,A i->h2.get i=h.get i) ->
  ∃h2',opR b h2 g=.ok r h2' g'/\Agree A h h2 h' h2'
theorem jB3 {opR:Nat->List AV->Nat->Q5->Log->OutS} {ord:Nat->Nat->Bool} {slots:Nat->List Nat} {dst:Nat->Option Nat}
  (hop:∀i vs h r h' g',opR i vs h.next h Log.nil=.ok r h' g'->h.WF->Fr h.next h Log.nil h' g') (hloc:∀i vs,jD1 (opR i vs)) {l:List Nat} {st:St} {h:Q5} {acc:List RE} {st':St} {h':Q5} {acc':List RE}
  (t:RegTr opR ord slots dst l st h acc st' h' acc'):h.WF->∀(h2:Q5) (A:Nat->Prop),h2.next=h.next->h'.next<=h2.lim->h2.lim<=top ->
  (∀x,x∈acc'->∀i,i∈x.g.rd∨i∈x.g.wr->A i)->(∀i,h.next<=i->i<h2.lim->A i)->(∀i,A i->h2.get i=h.get i) ->
  ∃h2',RegTr opR ord slots dst l st h2 acc st' h2' acc'/\Agree A h h2 h' h2':=by
 induction t with
 | nil st h acc=>exact λ_ h2 A hn _ _ _ _ hA=>⟨h2,.nil _ _ _,hn,rfl,hA,λ_ _=>rfl⟩
 | @cons i l st h acc v h1 g st' h' acc' e c t ih =>
  intro w h2 A hn hlim htop hx hwin hA;have f:=hop _ _ _ _ _ _ e w;obtain⟨w',n',l',⟨new,hnew⟩,_,_⟩:=qPu hop t f.wf;have hmem:(⟨i,h.next,h1.next,g⟩:RE)∈acc':=by rw[hnew];simp
  obtain⟨h3,e3,a3⟩:=hloc i _ _ _ _ _ _ _ e w (zL0 _) h2 A hn (by omega) htop (λj hj=>hx _ hmem j (.inl hj)) (λj hj=>hx _ hmem j (.inr hj)) hwin hA;have hl3:=a3.lim;have hn3:=a3.next
  obtain⟨h4,t4,a4⟩:=ih f.wf h3 A hn3 (by omega) (by omega) hx (λj h1j h2j=>hwin j (by have:=f.next;omega) (by omega)) a3.on;refine⟨h4,?_,a4.next,a4.lim.trans hl3,a4.on,λj hj=>(a4.off j hj).trans (a3.off j hj)⟩;rw[<- hn] at e3;refine .cons e3 c ?_;rw[hn,hn3];exact t4
inductive AgL (A:Nat->Prop) (h h2:Q5):List (Res × Q5)->List (Res × Q5)->Prop
 | nil:AgL A h h2 [] []
 | cons {r:Res} {h' h2':Q5} {l l2:List (Res × Q5)} (a:Agree A h h2 h' h2') (t:AgL A h h2 l l2):AgL A h h2 ((r,h')::l) ((r,h2')::l2)
theorem AgL.base {A:Nat->Prop} {h h2 k k2:Q5} (a:Agree A h h2 k k2) {l l2:List (Res × Q5)} (t:AgL A k k2 l l2):AgL A h h2 l l2:=by
 induction t with
 | nil=>exact .nil
 | cons c _ ih=>exact .cons (a.trans c) ih
theorem AgL.append {A:Nat->Prop} {h h2:Q5} {l l2 k k2:List (Res × Q5)} (t:AgL A h h2 l l2) (u:AgL A h h2 k k2):AgL A h h2 (l++k) (l2++k2):=by
 induction t with
 | nil=>exact u
 | cons c _ ih=>exact .cons c ih
theorem AgL.fil {A:Nat->Prop} {h h2:Q5} {l l2:List (Res × Q5)} (f:Res->Bool) (t:AgL A h h2 l l2):AgL A h h2 (filL f l) (filL f l2):=by
 induction t with
 | nil=>exact .nil
 | @cons r h' h2' l l2 c _ ih =>
  show AgL A h h2 (cnd (f r) ((r,h')::filL f l) (filL f l)) (cnd (f r) ((r,h2')::filL f l2) (filL f l2));cases f r
  .exact ih
  .exact .cons c ih
theorem AgL.nilL {A:Nat->Prop} {h h2:Q5} {l l2:List (Res × Q5)} (t:AgL A h h2 l l2):J8 l2=J8 l:=by cases t <;> rfl
theorem qUw {a c a2 c2:Q5}:∀{l:List Nat},(∀i,i∈l->a2.get i=a.get i/\c2.get i=c.get i)->eqAt a2 c2 l=eqAt a c l
 | [],_=>rfl
 | i::l,hh=>by show cnd (qHa (a2.get i) (c2.get i)) (eqAt a2 c2 l) false=cnd (qHa (a.get i) (c.get i)) (eqAt a c l) false;rw[(hh i zB0).1,(hh i zB0).2,qUw λj hj=>hh j (zA0 _ hj)]
theorem qOx {a c a2 c2:Q5} {lo:Nat}:∀{n:Nat},(∀i,lo<=i->i<lo+n->a2.get i=a.get i/\c2.get i=c.get i)->qSr a2 c2 lo n=qSr a c lo n
 | 0,_=>rfl
 | n+1,hh=>by show cnd (qSr a2 c2 lo n) (qHa (a2.get (lo+n)) (c2.get (lo+n))) false=cnd (qSr a c lo n) (qHa (a.get (lo+n)) (c.get (lo+n))) false;rw[(hh (lo+n) (by omega) (by omega)).1,(hh (lo+n) (by omega) (by omega)).2,qOx λj h1 h2=>hh j h1 (by omega)]
theorem qVy {A:Nat->Prop} {h h2:Q5} {ws:List Nat} {lo:Nat} {r s:Res} {x x2 y y2:Q5} (a:Agree A h h2 x x2) (c:Agree A h h2 y y2)
  (hA:∀i,i∈ws->A i) (hw:∀i,lo<=i->i<x.next->A i):qV ws lo (r,x2) (s,y2)=qV ws lo (r,x) (s,y):=by
 unfold qV;simp only;rw[a.next,c.next,qUw (a:=x) (c:=y) λi hi=>⟨a.on i (hA i hi),c.on i (hA i hi)⟩,
  qOx (a:=x) (c:=y) λi h1 h2=>by
   have hi:=hw i h1 (by simp only[Nat.sub_eq] at h2;omega);exact⟨a.on i hi,c.on i hi⟩]
theorem AgL.dedupe {A:Nat->Prop} {h h2:Q5} {ws:List Nat} {lo:Nat} (hA:∀i,i∈ws->A i) {l l2:List (Res × Q5)} (t:AgL A h h2 l l2) (hw:∀x,x∈l->∀i,lo<=i->i<x.2.next->A i) :
  AgL A h h2 (dedupe ws lo l) (dedupe ws lo l2):=by
 induction t with
 | nil=>exact .nil
 | @cons r x x2 l l2 c t ih =>
  have ih:=ih λy hy=>hw y (zA0 _ hy);have hx:=hw (r,x) zB0;have e:∀{k k2:List (Res × Q5)},AgL A h h2 k k2->anyL (λy=>qV ws lo (r,x2) y) k2=anyL (λy=>qV ws lo (r,x) y) k:=by
   intro k k2 u
   induction u with
   | nil=>rfl
   | @cons s y y2 k k2 d u ihu =>show cnd (qV ws lo (r,x2) (s,y2)) true (anyL _ k2)=cnd (qV ws lo (r,x) (s,y)) true (anyL _ k);rw[qVy c d hA hx,ihu]
  show AgL A h h2 (cnd (anyL (λy=>qV ws lo (r,x) y) (Go.X.dedupe ws lo l)) (Go.X.dedupe ws lo l) ((r,x)::Go.X.dedupe ws lo l)) (cnd (anyL (λy=>qV ws lo (r,x2) y) (Go.X.dedupe ws lo l2)) (Go.X.dedupe ws lo l2) ((r,x2)::Go.X.dedupe ws lo l2));rw[e ih];cases anyL (λy=>qV ws lo (r,x) y) (Go.X.dedupe ws lo l)
  .exact .cons c ih
  .exact ih
theorem qSv {ws:List Nat} {lo:Nat}:∀{l:List (Res × Q5)},l≠[]->dedupe ws lo l≠[]
 | [],h=>absurd rfl h
 | y::l,_=>by
  show cnd (anyL (λz=>qV ws lo y z) (dedupe ws lo l)) (dedupe ws lo l) (y::dedupe ws lo l)≠[];cases hb:anyL (λz=>qV ws lo y z) (dedupe ws lo l)
  .exact λh=>by cases h
  .obtain⟨z,hz,_⟩:=jFm.1 hb;intro e;rw[Q6] at e;rw[e] at hz;cases hz
theorem qQx {f:Res->Q5->Log->Out} {x:Res × Q5} {l:List (Res × Q5)} {g:Log} {outs:List (Res × Q5)} {g':Log} (e:QW f (x::l) g=.ok outs g') :
  ∃l1 g1 l2,f x.1 x.2 g=.ok l1 g1/\QW f l g1=.ok l2 g'/\outs=l1++l2:=by
 have e':Out.rec (motive:=λ_=>Out) (λn=>.err n) (λl1 g1=>Out.rec (motive:=λ_=>Out) (λn=>.err n) (λl2 g2=>.ok (l1++l2) g2) (QW f l g1)) (f x.1 x.2 g)=.ok outs g':=e;cases h1:f x.1 x.2 g with
 | err n=>rw[h1] at e';cases e'
 | ok l1 g1 =>
  rw[h1] at e';have e2:Out.rec (motive:=λ_=>Out) (λn=>.err n) (λl2 g2=>.ok (l1++l2) g2) (QW f l g1)=.ok outs g':=e';cases h2:QW f l g1 with
  | err n=>rw[h2] at e2;cases e2
  | ok l2 g2=>rw[h2] at e2;cases e2;exact⟨l1,g1,l2,rfl,h2,rfl⟩
theorem runAll_mk {f:Res->Q5->Log->Out} {x:Res × Q5} {l:List (Res × Q5)} {g g1 g2:Log} {l1 l2:List (Res × Q5)} (e:f x.1 x.2 g=.ok l1 g1) (e2:QW f l g1=.ok l2 g2):QW f (x::l) g=.ok (l1++l2) g2:=by show Out.rec (motive:=λ_=>Out) (λn=>.err n) (λl1 g1=>Out.rec (motive:=λ_=>Out) (λn=>.err n) (λl2 g2=>.ok (l1++l2) g2) (QW f l g1)) (f x.1 x.2 g)=_;rw[e];show Out.rec (motive:=λ_=>Out) (λn=>.err n) (λl2 g2=>.ok (l1++l2) g2) (QW f l g1)=_;rw[e2]
theorem qQw {f:Res->Q5->Log->Out} {l:List (Res × Q5)} {g:Log} {outs:List (Res × Q5)} {g':Log} (hl:l≠[]) (hf:∀r h g o g1,f r h g=.ok o g1->o≠[]) (e:QW f l g=.ok outs g'):outs≠[]:=by
 cases l with
 | nil=>exact absurd rfl hl
 | cons x t =>obtain⟨l1,g1,l2,h1,_,rfl⟩:=qQx e;exact λh=>hf _ _ _ _ _ h1 (List.append_eq_nil_iff.1 h).1
theorem jGs {body:St->Q5->Log->Out} {lo:Nat} {fin:List (Res × Q5)->Log->Out} {res:List (Res × Q5)} {gr:Log} (hb:∀s h g o g1,body s h g=.ok o g1->o≠[])
  (hfin:∀acc gl,acc≠[]->fin acc gl=.ok res gr->res≠[]) :
  ∀(n:Nat) (f acc:List (Res × Q5)) (gl:Log),f≠[]∨acc≠[]->J2 body lo fin n f acc gl=.ok res gr->res≠[]:=by
 intro n
 induction n with
 | zero =>
  intro f acc gl ho e;have e':cnd (J8 f) (fin acc gl) (.err 1011)=.ok res gr:=e;cases f with
  | nil=>exact hfin acc gl (ho.resolve_left λh=>h rfl) e'
  | cons x t=>cases e'
 | succ n ih =>
  intro f acc gl ho e;cases f with
  | nil=>exact hfin acc gl (ho.resolve_left λh=>h rfl) e
  | cons x t =>
   have e':Out.rec (motive:=λ_=>Out) (λn=>.err n) (λl gl'=>J2 body lo fin n (dedupe gl'.wr lo (filL qF l)) (dedupe gl'.wr lo (filL (λr=>notB (qF r)) l++acc)) gl')
    (QW (λr h g=>stK r λ_ st=>body st h g) (x::t) gl)=.ok res gr:=e
   cases hr:QW (λr h g=>stK r λ_ st=>body st h g) (x::t) gl with
   | err w=>rw[hr] at e';cases e'
   | ok l gl' =>
    rw[hr] at e';refine ih _ _ _ ?_ e';have hl:l≠[]:=qQw (by simp) (λr h g o g1 e=>by
     obtain⟨_,st,_,e4⟩:=qFk e;exact hb _ _ _ _ _ e4) hr
    cases l with
    | nil=>exact absurd rfl hl
    | cons y u =>
     cases hy:qF y.1
     .refine .inr (qSv λh=>?_)
      have:y∈filL (λr=>notB (qF r)) (y::u):=jl.2 ⟨zB0,by simp only[hy];rfl⟩
      rw[(List.append_eq_nil_iff.1 h).1] at this;cases this
     .refine .inl (qSv λh=>?_)
      have:y∈filL qF (y::u):=jl.2 ⟨zB0,hy⟩
      rw[h] at this;cases this
theorem run_ne:∀(m:FM) (b:Nat) (h:Q5) (g:Log) (outs:List (Res × Q5)) (g':Log),m.run b h g=.ok outs g'->outs≠[]:=by
 intro m
 induction m with
 | ret r0=>intro b h g outs g' e;cases e;simp
 | fail=>intro b h g outs g' e;cases e
 | get i k ih =>
  intro b h g outs g' e;rw[run_get] at e;by_cases hi:i<h.next
  .rw[if_pos hi] at e;cases ho:h.get i with
   | none=>rw[ho] at e;cases e
   | some o=>rw[ho] at e;exact ih o _ _ _ _ _ e
  .rw[if_neg hi] at e;cases e
 | set i o m ih =>
  intro b h g outs g' e;rw[run_set] at e;by_cases hi:i<h.next
  .rw[if_pos hi] at e;exact ih _ _ _ _ _ e
  .rw[if_neg hi] at e;cases e
 | new o k ih =>
  intro b h g outs g' e;rw[qQu] at e;by_cases hi:h.next<h.lim
  .rw[if_pos hi] at e;exact ih _ _ _ _ _ _ e
  .rw[if_neg hi] at e;cases e
 | here k ih=>intro b h g outs g' e;exact ih _ _ _ _ _ _ e
 | drop a x m ih=>intro b h g outs g' e;exact ih _ _ _ _ _ (qPt _ _ _ _ _ _ e).2.2.2.2
 | choose n k ih =>
  intro b h g outs g' e;obtain⟨hn,e'⟩:=run_choose e;cases n with
  | zero=>omega
  | succ n =>
   have e2:Out.rec (motive:=λ_=>Out) (λw=>.err w) (λl g1=>Out.rec (motive:=λ_=>Out) (λw=>.err w) (λl' g2=>.ok (l++l') g2) ((k n).run b h g1)) (qN (λj g=>(k j).run b h g) g n)=.ok outs g':=e';cases h1:qN (λj g=>(k j).run b h g) g n with
   | err w=>rw[h1] at e2;cases e2
   | ok l g1 =>
    rw[h1] at e2;have e3:Out.rec (motive:=λ_=>Out) (λw=>.err w) (λl' g2=>.ok (l++l') g2) ((k n).run b h g1)=.ok outs g':=e2;cases h2:(k n).run b h g1 with
    | err w=>rw[h2] at e3;cases e3
    | ok l' g2 =>
     rw[h2] at e3;cases e3;exact λh=>ih n _ _ _ _ _ h2 (List.append_eq_nil_iff.1 h).2
 | any k ih=>intro b h g outs g' e;have e':Out.err 1020=.ok outs g':=e;cases e'
 | join m k ihm ihk =>
  intro b h g outs g' e;have e':Out.rec (motive:=λ_=>Out) (λw=>.err w) (λl g1=>j1 b g1.rd g λg0=>qK b g1.wr g0 λg'=>QW (λr h' g=>(k r).run b h' g) (dedupe g1.wr h.next l) g') (m.run h.next h Log.nil)=.ok outs g':=e;cases h1:m.run h.next h Log.nil with
  | err w=>rw[h1] at e';cases e'
  | ok l g1 =>
   rw[h1] at e';obtain⟨g2,eq,_⟩:=Log.addRW b g1.rd g1.wr g;have e2:(j1 b g1.rd g λg0=>qK b g1.wr g0 λg'=>QW (λr h' g=>(k r).run b h' g) (dedupe g1.wr h.next l) g')=.ok outs g':=e';rw[eq] at e2;exact qQw (qSv (ihm _ _ _ _ _ h1)) (λr h g o g1 e=>ihk r _ _ _ _ _ e) e2
 | loop n body st k ihb ihk =>
  intro b h g outs g' e;rw[qK6] at e;refine jGs (λs h g o g1 e=>ihb s _ _ _ _ _ e) (λacc gl ha e=>?_) _ _ _ _ (.inl (by simp)) e;obtain⟨g2,eq,_⟩:=Log.addRW b gl.rd gl.wr g;rw[eq] at e;exact qQw ha (λr h g o g1 e=>by
   obtain⟨_,_,_,e4⟩:=qFk e;exact ihk _ _ _ _ _ _ _ e4) e
 | regn n ord slots dst op st k iho ihk =>intro b h g outs g' e;obtain⟨hok,st',h1,l,hrr,e2⟩:=qPs e;exact ihk st' _ _ _ _ _ e2
end Go.X
namespace Go.X
theorem jBz (a w:Nat) (m:FM) (b:Nat) (h:Q5) (g:Log) (h1:b<=a) (h2:a<=h.next) (h3:h.next<=a+w) (h4:a+w<=h.lim) :
  (FM.drop a w m).run b h g=m.run b ((qH a (h.next-a) h).win (a+w) h.lim) g:=by
 show cnd (cnd (cnd (Nat.ble b a) (Nat.ble a h.next) false) (cnd (Nat.ble h.next (Nat.add a w)) (Nat.ble (Nat.add a w) h.lim) false) false)
   (dropK a (Nat.sub h.next a) h.t λt'=>Qc (Nat.add a w) λn=>m.run b ⟨t',n,h.lim⟩ g) (.err 1012)=_
 rw[qs.2 h1,qs.2 h2,show Nat.ble h.next (Nat.add a w)=true from qs.2 h3,show Nat.ble (Nat.add a w) h.lim=true from qs.2 h4];simp only[Q6];rw[jFd,Qb];rfl
def LocalM (m:FM):Prop :=
 ∀(b:Nat) (h:Q5) (g:Log) (outs:List (Res × Q5)) (g':Log),m.run b h g=.ok outs g'->h.WF->b<=h.next->∀(h2:Q5) (A:Nat->Prop),h2.next=h.next->(∀o,o∈outs->o.2.next<=h2.lim)->h2.lim<=top ->
  (∀i,i∈g'.rd->A i)->(∀i,i∈g'.wr->A i)->(∀i,b<=i->i<h2.lim->A i)->(∀i,A i->h2.get i=h.get i) ->
  ∃outs2,m.run b h2 g=.ok outs2 g'/\AgL A h h2 outs outs2
theorem LocalM.one {m:FM} (hm:LocalM m):jD1 λb h g=>one (m.run b h g):=by
 intro b h g r h' g' e w hb h2 A hn hl ht hr hw hwin hA;have e1:=qY8 e;obtain⟨outs2,e2,a2⟩:=hm _ _ _ _ _ e1 w hb h2 A hn (λo ho=>by
  have:o=(r,h'):=by simpa using ho
  subst this;exact hl) ht hr hw hwin hA
 cases a2 with
 | cons a t =>cases t;exact⟨_,by show Go.X.one (m.run b h2 g)=_;rw[e2];rfl,a⟩
theorem qHp {m:FM} {b:Nat} {h:Q5} {g:Log} {outs:List (Res × Q5)} {g':Log} (e:m.run b h g=.ok outs g') (w:h.WF) (hb:b<=h.next) {L:Nat} (hL:∀o,o∈outs->o.2.next<=L):h.next<=L:=by
 cases outs with
 | nil=>exact absurd rfl (run_ne _ _ _ _ _ _ e)
 | cons x t=>exact zM0 ((jS _ _ _ _ _ _ e w hb).outs x zB0).next (hL x zB0)
theorem qHq {f:Res->Q5->Log->Out} {b L:Nat} {A:Nat->Prop} {h h2:Q5} {l l2:List (Res × Q5)} (t:AgL A h h2 l l2) :
  ∀{g:Log} {outs:List (Res × Q5)} {g':Log},QW f l g=.ok outs g'->(∀x,x∈l->∀g o g1,f x.1 x.2 g=.ok o g1->Log.Adds b g g1) ->
  (∀r h' h2',(r,h')∈l->Agree A h h2 h' h2'->∀g o g1,f r h' g=.ok o g1->(∀q,q∈o->q.2.next<=L)->(∀i,i∈g1.rd->A i)->(∀i,i∈g1.wr->A i)->∃o2,f r h2' g=.ok o2 g1/\AgL A h h2 o o2) ->
  (∀q,q∈outs->q.2.next<=L)->(∀i,i∈g'.rd->A i)->(∀i,i∈g'.wr->A i)->∃outs2,QW f l2 g=.ok outs2 g'/\AgL A h h2 outs outs2:=by
 induction t with
 | nil =>
  intro g outs g' e _ _ _ _ _;have e':Out.ok [] g=.ok outs g':=e;cases e';exact⟨[],rfl,.nil⟩
 | @cons r h' h2' l l2 a t ih =>intro g outs g' e hadd hstep hL hr hw;obtain⟨l1,g1,l3,e1,e2,rfl⟩:=qQx e;have hlog:=(jK e2).log (b:=b) λx hx=>hadd x (zA0 _ hx);obtain⟨o2,f1,a1⟩:=hstep r h' h2' zB0 a _ _ _ e1 (λq hq=>hL q (zG0 _ hq)) (λi hi=>hr i (hlog.rd i hi)) (λi hi=>hw i (hlog.wr i hi));obtain⟨o3,f2,a2⟩:=ih e2 (λx hx=>hadd x (zA0 _ hx)) (λr h' h2' hm=>hstep r h' h2' (zA0 _ hm)) (λq hq=>hL q (zH0 _ hq)) hr hw;exact⟨o2++o3,runAll_mk (x:=(r,h2')) f1 f2,a1.append a2⟩
theorem qId {f f2:Nat->Log->Out} {b:Nat} {g:Log} {L:Nat} {A:Nat->Prop} {h h2:Q5} (hf:∀j g o g1,f j g=.ok o g1->Log.Adds b g g1) :
  ∀{n:Nat} {outs:List (Res × Q5)} {g':Log},qN f g n=.ok outs g' ->
  (∀j,j<n->∀g o g1,f j g=.ok o g1->(∀q,q∈o->q.2.next<=L)->(∀i,i∈g1.rd->A i)->(∀i,i∈g1.wr->A i)->∃o2,f2 j g=.ok o2 g1/\AgL A h h2 o o2) ->
  (∀q,q∈outs->q.2.next<=L)->(∀i,i∈g'.rd->A i)->(∀i,i∈g'.wr->A i)->∃outs2,qN f2 g n=.ok outs2 g'/\AgL A h h2 outs outs2
 | 0,outs,g',e,_,_,_,_=>by
  have e':Out.ok [] g=.ok outs g':=e;cases e';exact⟨[],rfl,.nil⟩
 | n+1,outs,g',e,hstep,hL,hr,hw=>by
  have e':Out.rec (motive:=λ_=>Out) (λw=>.err w) (λl g1=>Out.rec (motive:=λ_=>Out) (λw=>.err w) (λl' g2=>.ok (l++l') g2) (f n g1)) (qN f g n)=.ok outs g':=e;cases h1:qN f g n with
  | err w=>rw[h1] at e';cases e'
  | ok l g1 =>
   rw[h1] at e';have e2:Out.rec (motive:=λ_=>Out) (λw=>.err w) (λl' g2=>.ok (l++l') g2) (f n g1)=.ok outs g':=e';cases h2:f n g1 with
   | err w=>rw[h2] at e2;cases e2
   | ok l' g2 =>rw[h2] at e2;cases e2;have hlog:=hf _ _ _ _ h2;obtain⟨o1,f1,a1⟩:=qId hf h1 (λj hj=>hstep j (by omega)) (λq hq=>hL q (zG0 _ hq)) (λi hi=>hr i (hlog.rd i hi)) (λi hi=>hw i (hlog.wr i hi));obtain⟨o2,e3,a2⟩:=hstep n (Nat.lt_succ_self _) _ _ _ h2 (λq hq=>hL q (zH0 _ hq)) hr hw;refine⟨o1++o2,?_,a1.append a2⟩;show Out.rec (motive:=λ_=>Out) (λw=>.err w) (λl g1=>Out.rec (motive:=λ_=>Out) (λw=>.err w) (λl' g2=>.ok (l++l') g2) (f2 n g1)) (qN f2 g n)=_;rw[f1];show Out.rec (motive:=λ_=>Out) (λw=>.err w) (λl' g2=>.ok (o1++l') g2) (f2 n g1)=_;rw[e3]
theorem qW3 {body:St->Q5->Log->Out} {lo:Nat} {h0:Q5} (hb:LoopIn body lo h0) (hlo:lo<=h0.next) (hne:∀s h g o g1,body s h g=.ok o g1->o≠[])
  {L:Nat} {A:Nat->Prop} {h2:Q5} (hwin:∀i,lo<=i->i<L->A i)
  (hloc:∀st h' h2' g o g1,body st h' g=.ok o g1->h'.WF->lo<=h'.next->Agree A h0 h2 h' h2'->(∀q,q∈o->q.2.next<=L)->(∀i,i∈g1.rd->A i)->(∀i,i∈g1.wr->A i)->∃o2,body st h2' g=.ok o2 g1/\AgL A h0 h2 o o2)
  {fin:List (Res × Q5)->Log->Out} {res:List (Res × Q5)} {gr:Log} :
  ∀(n:Nat) (f acc:List (Res × Q5)) (gl:Log),J2 body lo fin n f acc gl=.ok res gr->(∀x,x∈f->HF lo h0 x.2 gl.wr)->(∀x,x∈acc->HF lo h0 x.2 gl.wr) ->
  ∃accF glF,fin accF glF=.ok res gr/\Log.Adds lo gl glF/\(∀x,x∈accF->HF lo h0 x.2 glF.wr)/\(∀x,x∈acc->x∈accF)/\(∀x,x∈f->∃y,y∈accF/\x.2.next<=y.2.next) /\
   ((∀x,x∈accF->x.2.next<=L)->(∀i,i∈glF.rd->A i)->(∀i,i∈glF.wr->A i)->∀f2 acc2,AgL A h0 h2 f f2->AgL A h0 h2 acc acc2 ->
    ∃accF2,AgL A h0 h2 accF accF2/\∀fin':List (Res × Q5)->Log->Out,J2 body lo fin' n f2 acc2 gl=fin' accF2 glF):=by
 intro n
 have nilCase:∀(f acc:List (Res × Q5)) (gl:Log) (m:Nat),J8 f=true->fin acc gl=.ok res gr->(∀x,x∈acc->HF lo h0 x.2 gl.wr) ->
   ∃accF glF,fin accF glF=.ok res gr/\Log.Adds lo gl glF/\(∀x,x∈accF->HF lo h0 x.2 glF.wr)/\(∀x,x∈acc->x∈accF)/\(∀x,x∈f->∃y,y∈accF/\x.2.next<=y.2.next) /\
   ((∀x,x∈accF->x.2.next<=L)->(∀i,i∈glF.rd->A i)->(∀i,i∈glF.wr->A i)->∀f2 acc2,AgL A h0 h2 f f2->AgL A h0 h2 acc acc2 ->
    ∃accF2,AgL A h0 h2 accF accF2/\∀fin':List (Res × Q5)->Log->Out,J2 body lo fin' m f2 acc2 gl=fin' accF2 glF):=by
  intro f acc gl m hn e hacc;cases f with
  | nil =>
   refine⟨acc,gl,e,.refl _ _,hacc,λ_ h=>h,λ_ h=>absurd h zK0,λ_ _ _ f2 acc2 a1 a2=>⟨acc2,a2,λfin'=>?_⟩⟩;cases a1;cases m <;> rfl
  | cons x t=>exact ff hn
 induction n with
 | zero =>
  intro f acc gl e hf hacc;have e':cnd (J8 f) (fin acc gl) (.err 1011)=.ok res gr:=e;cases hn:J8 f
  .rw[hn,Q8] at e';cases e'
  .rw[hn,Q6] at e';exact nilCase f acc gl 0 hn e' hacc
 | succ n ih =>
  intro f acc gl e hf hacc
  have e':cnd (J8 f) (fin acc gl)
   (Out.rec (motive:=λ_=>Out) (λn=>.err n) (λl gl'=>J2 body lo fin n (dedupe gl'.wr lo (filL qF l)) (dedupe gl'.wr lo (filL (λr=>notB (qF r)) l++acc)) gl')
    (QW (λr h g=>stK r λ_ st=>body st h g) f gl))=.ok res gr:=e
  cases hn:J8 f
  .rw[hn,Q8] at e';cases hr:QW (λr h g=>stK r λ_ st=>body st h g) f gl with
   | err w=>rw[hr] at e';cases e'
   | ok l gl' =>
    rw[hr] at e';have e2:J2 body lo fin n (dedupe gl'.wr lo (filL qF l)) (dedupe gl'.wr lo (filL (λr=>notB (qF r)) l++acc)) gl'=.ok res gr:=e';have tr:=jK hr;have hstep:∀x,x∈f->∀g o g1,(stK x.1 λ_ st=>body st x.2 g)=.ok o g1->Log.Adds lo g g1:=by intro x hx g o g1 e;obtain⟨_,st,_,e3⟩:=qFk e;exact (hb.fr _ _ _ _ _ e3 (hf x hx).wf (zM0 hlo (hf x hx).next)).log
    have hlog:=tr.log hstep;obtain⟨i1,i2⟩:=tr.each hstep;have hl:∀o,o∈l->HF lo h0 o.2 gl'.wr:=by intro o ho;obtain⟨x,g0,g1,o1,hx,e3,hoo,a1,a2⟩:=i1 o ho;obtain⟨_,st,_,e4⟩:=qFk e3;have f1:=hf x hx;have f2:=(hb.fr _ _ _ _ _ e4 f1.wf (zM0 hlo f1.next)).outs o hoo;exact (f1.mono λi hi _=>hlog.wr i hi).trans (f2.mono λi hi _=>a2.wr i hi)
    have hN:∀x,x∈filL qF l->HF lo h0 x.2 gl'.wr:=λx hx=>hl x (jl.1 hx).1;have hE:∀x,x∈filL (λr=>notB (qF r)) l++acc->HF lo h0 x.2 gl'.wr:=by
     intro x hx;rcases List.mem_append.1 hx with hx | hx
     .exact hl x (jl.1 hx).1
     .exact (hacc x hx).mono λi hi _=>hlog.wr i hi
    obtain⟨accF,glF,c1,c2,c3,c4,c5,c6⟩:=ih _ _ _ e2 (λx hx=>hN x (qT hx)) (λx hx=>hE x (qT hx));have hup:∀o,o∈l->∃y,y∈accF/\o.2.next<=y.2.next:=by
     intro o ho;cases hno:qF o.1
     .exact⟨o,c4 _ (qU hE _ (zG0 _ (jl.2 ⟨ho,by simp only[hno];rfl⟩))),zL0 _⟩
     .exact c5 o (qU hN _ (jl.2 ⟨ho,hno⟩))
    refine⟨accF,glF,c1,hlog.trans c2,c3,λx hx=>c4 x (qU hE x (zH0 _ hx)),λx hx=>?_,λhL hRd hWr f2 acc2 af aacc=>?_⟩
    .obtain⟨g0,g1,o1,e3,hsub,_,_⟩:=i2 x hx;obtain⟨_,st,_,e4⟩:=qFk e3;cases o1 with
     | nil=>exact absurd rfl (hne _ _ _ _ _ e4)
     | cons q t =>
      obtain⟨y,hy,hle⟩:=hup q (hsub q zB0)
      have:=((hb.fr _ _ _ _ _ e4 (hf x hx).wf (zM0 hlo (hf x hx).next)).outs q zB0).next
      exact⟨y,hy,by omega⟩
    .have hlL:∀q,q∈l->q.2.next<=L:=λq hq=>by
      obtain⟨y,hy,hle⟩:=hup q hq
      have:=hL y hy;omega
     have hrd':∀i,i∈gl'.rd->A i:=λi hi=>hRd i (c2.rd i hi);have hwr':∀i,i∈gl'.wr->A i:=λi hi=>hWr i (c2.wr i hi);obtain⟨l2,r2,al⟩:=qHq (b:=lo) af hr hstep (λr h' h2' hm a g o g1 e hq h1 h2=>by
      obtain⟨x,st,hx,e4⟩:=qFk e;obtain⟨o2,e5,a5⟩:=hloc st h' h2' g o g1 e4 (hf _ hm).wf (zM0 hlo (hf _ hm).next) a hq h1 h2;refine⟨o2,?_,a5⟩;have hx':r=.st x st:=hx;rw[hx'];exact e5) hlL hrd' hwr'
     have hN2:=(al.fil qF).dedupe (ws:=gl'.wr) (lo:=lo) hwr' λx hx i h1 h2=>hwin i h1 (by have:=hlL x (jl.1 hx).1;omega);have hE2:=((al.fil (λr=>notB (qF r))).append aacc).dedupe (ws:=gl'.wr) (lo:=lo) hwr' λx hx i h1 h2=>hwin i h1 (by
      have:=hL x (c4 x (qU hE x hx));omega)
     obtain⟨accF2,a6,e6⟩:=c6 hL hRd hWr _ _ hN2 hE2;refine⟨accF2,a6,λfin'=>?_⟩
     show cnd (J8 f2) (fin' acc2 gl)
      (Out.rec (motive:=λ_=>Out) (λn=>.err n) (λl gl'=>J2 body lo fin' n (dedupe gl'.wr lo (filL qF l)) (dedupe gl'.wr lo (filL (λr=>notB (qF r)) l++acc2)) gl')
       (QW (λr h g=>stK r λ_ st=>body st h g) f2 gl))=_
     rw[af.nilL,hn,Q8,r2];exact e6 fin'
  .rw[hn,Q6] at e';exact nilCase f acc gl (n+1) hn e' hacc
end Go.X
namespace Go.X
theorem AgL.left {A:Nat->Prop} {h h2:Q5} {l l2:List (Res × Q5)} (t:AgL A h h2 l l2):∀x,x∈l->∃y,(x.1,y)∈l2/\Agree A h h2 x.2 y:=by
 induction t with
 | nil=>exact λ_ h=>absurd h zK0
 | cons a t ih =>
  intro x hx;rcases List.mem_cons.1 hx with rfl | hx
  .exact⟨_,zB0,a⟩
  .obtain⟨y,h1,h2⟩:=ih x hx;exact⟨y,zA0 _ h1,h2⟩
theorem qYu:∀(m:FM),LocalM m:=by
 intro m
 induction m with
 | ret r0 =>
  intro b h g outs g' e w hb h2 A hn hl ht hr hw hwin hA;cases e;exact⟨_,rfl,.cons ⟨hn,rfl,hA,λ_ _=>rfl⟩ .nil⟩
 | fail=>intro b h g outs g' e;cases e
 | get i k ih =>
  intro b h g outs g' e w hb h2 A hn hl ht hr hw hwin hA;rw[run_get] at e;by_cases hi:i<h.next
  case neg=>rw[if_neg hi] at e;cases e
  rw[if_pos hi] at e;cases ho:h.get i with
  | none=>rw[ho] at e;cases e
  | some o =>
   rw[ho] at e;have f:=jS _ _ _ _ _ _ e w hb;have hlim:=qHp e w hb hl;have hAi:A i:=by
    by_cases hib:i<b
    .exact hr i (f.log.rd _ ((Log.addR_adds b i g).2.1 hib))
    .exact hwin i (by omega) (by omega)
   obtain⟨h3,e3,a3⟩:=ih o _ _ _ _ _ e w hb h2 A hn hl ht hr hw hwin hA;refine⟨h3,?_,a3⟩;rw[run_get,if_pos (by omega),hA i hAi,ho];exact e3
 | set i o m ih =>
  intro b h g outs g' e w hb h2 A hn hl ht hr hw hwin hA;rw[run_set] at e;by_cases hi:i<h.next
  case neg=>rw[if_neg hi] at e;cases e
  rw[if_pos hi] at e;have f:=jS _ _ _ _ _ _ e (w.put hi o) hb;have hlim:=qHp e (w.put hi o) hb hl;simp only[Q5.next_put] at hlim;have hAi:A i:=by
   by_cases hib:i<b
   .exact hw i (f.log.wr _ ((Log.addW_adds b i g).2.1 hib))
   .exact hwin i (by omega) (by omega)
  have hit:i<top:=by have:=w.lim;have:=w.top;omega
  obtain⟨h3,e3,a3⟩:=ih _ _ _ _ _ e (w.put hi o) hb (h2.put i (some o)) A hn hl ht hr hw hwin (λj hj=>by rw[Q5.get_put _ hit,Q5.get_put _ hit,hA j hj]);have ag:Agree A h h2 (h.put i (some o)) (h2.put i (some o)):=⟨hn,rfl,λj hj=>by rw[Q5.get_put _ hit,Q5.get_put _ hit,hA j hj],λj hj=>by
   rw[Q5.get_put _ hit,if_neg (by rintro rfl;exact hj hAi)]⟩
  refine⟨h3,?_,a3.base ag⟩;rw[run_set,if_pos (by omega)];exact e3
 | new o k ih =>
  intro b h g outs g' e w hb h2 A hn hl ht hr hw hwin hA;rw[qQu] at e;by_cases hi:h.next<h.lim
  case neg=>rw[if_neg hi] at e;cases e
  rw[if_pos hi] at e;have w1:=w.newO hi o;have hlim:=qHp e w1 (zM0 hb (Nat.le_succ _)) hl;simp only[Q5.newO_next] at hlim;have hAi:A h.next:=hwin _ hb (by omega)
  have hit:h.next<top:=by have:=w.top;omega
  have hg:∀j,A j->(h2.newO o).get j=(h.newO o).get j:=λj hj=>by rw[Q5.newO_get _ hit,Q5.newO_get _ (by omega),hA j hj,hn]
  obtain⟨h3,e3,a3⟩:=ih _ _ _ _ _ _ e w1 (zM0 hb (Nat.le_succ _)) (h2.newO o) A (by simp[hn]) hl ht hr hw hwin hg;have ag:Agree A h h2 (h.newO o) (h2.newO o):=⟨by simp[hn],rfl,hg,λj hj=>by
   rw[Q5.newO_get _ (by omega),if_neg (λhh=>hj (by rw[hh,hn];exact hAi))]⟩
  refine⟨h3,?_,a3.base ag⟩;rw[qQu,if_pos (by omega),hn];exact e3
 | here k ih =>
  intro b h g outs g' e w hb h2 A hn hl ht hr hw hwin hA;obtain⟨o2,e2,a2⟩:=ih h.next _ _ _ _ _ e w hb h2 A hn hl ht hr hw hwin hA
  refine⟨o2,?_,a2⟩;show (k h2.next).run b h2 g=_;rw[hn];exact e2
 | drop a x m ih =>
  intro b h g outs g' e w hb h2 A hn hl ht hr hw hwin hA;obtain⟨d0,d1,d2,d3,e2⟩:=qPt _ _ _ _ _ _ e;have hl':=w.lim;have ht':=w.top;have w1:=jDl w d1 d2 d3;have hlim:=qHp e2 w1 (by simp only[Q5.win_next];omega) hl;simp only[Q5.win_next] at hlim;have hg:∀j,A j->((qH a (h2.next-a) h2).win (a+x) h2.lim).get j=((qH a (h.next-a) h).win (a+x) h.lim).get j:=λj hj=>by rw[Q5.win_get,Q5.win_get,jG _ _ _ (by omega),jG _ _ _ (by omega),hn,hA j hj]
  obtain⟨o2,e3,a3⟩:=ih _ _ _ _ _ e2 w1 (by simp only[Q5.win_next];omega) ((qH a (h2.next-a) h2).win (a+x) h2.lim) A rfl hl ht hr hw hwin hg;have ag:Agree A h h2 ((qH a (h.next-a) h).win (a+x) h.lim) ((qH a (h2.next-a) h2).win (a+x) h2.lim):=⟨rfl,rfl,hg,λj hj=>by
   rw[Q5.win_get,jG _ _ _ (by omega),if_neg (λhh=>hj (hwin j (by omega) (by omega)))]⟩
  refine⟨o2,?_,a3.base ag⟩;rw[jBz _ _ _ _ _ _ d0 (by omega) (by omega) (by omega)];exact e3
 | choose n k ih =>
  intro b h g outs g' e w hb h2 A hn hl ht hr hw hwin hA;obtain⟨hpos,e⟩:=run_choose e
  obtain⟨o2,e2,a2⟩:=qId (b:=b) (f2:=λj g=>(k j).run b h2 g) (A:=A) (h:=h) (h2:=h2) (L:=h2.lim) (λj g o g1 e=>(jS _ _ _ _ _ _ e w hb).log) e
   (λj hj g o g1 e hq h1 h3=>ih j _ _ _ _ _ e w hb h2 A hn hq ht h1 h3 hwin hA) hl hr hw
  refine⟨o2,?_,a2⟩;cases n with
  | zero=>omega
  | succ n=>exact e2
 | any k ih=>intro b h g outs g' e w hb h2 A hn hl ht hr hw hwin hA;have e':Out.err 1020=.ok outs g':=e;cases e'
 | join m k ihm ihk =>
  intro b h g outs g' e w hb h2 A hn hl ht hr hw hwin hA;have e':Out.rec (motive:=λ_=>Out) (λw=>.err w) (λl g1=>j1 b g1.rd g λg0=>qK b g1.wr g0 λg'=>QW (λr h' g=>(k r).run b h' g) (dedupe g1.wr h.next l) g') (m.run h.next h Log.nil)=.ok outs g':=e;cases e1:m.run h.next h Log.nil with
  | err w=>rw[e1] at e';cases e'
  | ok l g1 =>
   rw[e1] at e';have fm:=jS _ _ _ _ _ _ e1 w (zL0 _);obtain⟨g2,eq,ad,mr,mem⟩:=Log.addRW b g1.rd g1.wr g;have e2:(j1 b g1.rd g λg0=>qK b g1.wr g0 λg'=>QW (λr h' g=>(k r).run b h' g) (dedupe g1.wr h.next l) g')=.ok outs g':=e';rw[eq] at e2;have tr:=jK e2;have hx:∀x,x∈dedupe g1.wr h.next l->HF h.next h x.2 g1.wr:=λx hx=>fm.outs x (qT hx)
   have hstep:∀x,x∈dedupe g1.wr h.next l->∀g o g3,(k x.1).run b x.2 g=.ok o g3->Log.Adds b g g3:=λx hxm g o g3 e =>
    (jS _ _ _ _ _ _ e (hx x hxm).wf (zM0 hb (hx x hxm).next)).log
   have hlog:=tr.log hstep;have hlim:∀x,x∈l->x.2.next<=h2.lim:=λx hxl=>by have hd:=qU (lo:=h.next) (h:=h) (ws:=g1.wr) fm.outs x hxl;obtain⟨g0,g3,o1,e3,hsub,_,_⟩:=(tr.each hstep).2 x hd;exact qHp e3 (hx x hd).wf (zM0 hb (hx x hd).next) λq hq=>hl q (hsub q hq)
   have hnl:h.next<=h2.lim:=qHp e1 w (zL0 _) hlim
   have hAr:∀i,i∈g1.rd->A i:=λi hi=>by
    have hlt:i<h.next:=((fm.log.lo i).1 hi).elim (λh=>absurd h zK0) id
    by_cases hib:i<b
    .exact hr i (hlog.rd i (mr i hi hib))
    .exact hwin i (by omega) (by omega)
   have hAw:∀i,i∈g1.wr->A i:=λi hi=>by
    have hlt:i<h.next:=((fm.log.lo i).2 hi).elim (λh=>absurd h zK0) id
    by_cases hib:i<b
    .exact hw i (hlog.wr i (mem i hi hib))
    .exact hwin i (by omega) (by omega)
   obtain⟨l2,e3,al⟩:=ihm _ _ _ _ _ e1 w (zL0 _) h2 A hn hlim ht hAr hAw (λi h1 h2=>hwin i (by omega) h2) hA;have ad2:=al.dedupe (ws:=g1.wr) (lo:=h.next) hAw λx hx i h1 h2=>hwin i (by omega) (by have:=hlim x hx;omega);obtain⟨o2,e4,a4⟩:=qHq (b:=b) (f:=λr h' g=>(k r).run b h' g) (L:=h2.lim) ad2 e2 hstep (λr h' h2' hm a g o g1 e hq h1 h3=>by
    have hxm:=hx _ hm;obtain⟨o3,e5,a5⟩:=ihk r _ _ _ _ _ e hxm.wf (zM0 hb hxm.next) h2' A a.next (by rw[a.lim];exact hq) (by rw[a.lim];exact ht) h1 h3 (by rw[a.lim];exact hwin) a.on
    exact⟨o3,e5,a5.base a⟩) hl hr hw
   refine⟨o2,?_,a4⟩;show Out.rec (motive:=λ_=>Out) (λw=>.err w) (λl g1=>j1 b g1.rd g λg0=>qK b g1.wr g0 λg'=>QW (λr h' g=>(k r).run b h' g) (dedupe g1.wr h2.next l) g') (m.run h2.next h2 Log.nil)=_;rw[hn,e3];exact (eq _).trans e4
 | loop n body st k ihb ihk =>
  intro b h g outs g' e w hb h2 A hn hl ht hr hw hwin hA;rw[qK6] at e;have hin:LoopIn (λs h' g=>(body s).run h.next h' g) h.next h:=⟨λst' h' g outs g' e w' hl=>jS _ _ _ _ _ _ e w' hl⟩
  have h0:Agree A h h2 h h2:=⟨hn,rfl,hA,λ_ _=>rfl⟩
  obtain⟨accF,glF,c1,c2,c3,c4,c5,c6⟩:=qW3 hin (zL0 _) (λs h g o g1 e=>run_ne _ _ _ _ _ _ e) (L:=h2.lim) (A:=A) (h2:=h2) (λi h1 h2=>hwin i (by omega) h2)
   (λst' h' h2' g o g1 e w' hlo a hq h1 h3=>by
    obtain⟨o3,e5,a5⟩:=ihb st' _ _ _ _ _ e w' hlo h2' A a.next (by rw[a.lim];exact hq) (by rw[a.lim];exact ht) h1 h3 (by rw[a.lim];exact λi h1 h2=>hwin i (by omega) h2) a.on
    exact⟨o3,e5,a5.base a⟩)
   n _ _ _ e (λx hx=>by
    have:x=(.st .normal st,h):=by simpa using hx
    subst this;exact HF.refl w _) (λx hx=>absurd hx zK0)
  obtain⟨g2,eq,ad,mr,mem⟩:=Log.addRW b glF.rd glF.wr g;have c1':=c1;rw[eq] at c1';have tr:=jK c1';have hstep:∀x,x∈accF->∀g o g3,(stK x.1 λe s=>(k e s).run b x.2 g)=.ok o g3->FrO b x.2 g o g3:=λx hx g o g3 e=>by obtain⟨ex,s,_,e3⟩:=qFk e;exact jS _ _ _ _ _ _ e3 (c3 x hx).wf (zM0 hb (c3 x hx).next)
  have hstep':∀x,x∈accF->∀g o g3,(stK x.1 λe s=>(k e s).run b x.2 g)=.ok o g3->Log.Adds b g g3:=λx hx g o g3 e=>(hstep x hx g o g3 e).log;have hlog:=tr.log hstep';have hlim:∀x,x∈accF->x.2.next<=h2.lim:=λx hxl=>by obtain⟨g0,g3,o1,e3,hsub,_,_⟩:=(tr.each hstep').2 x hxl;obtain⟨ex,s,_,e4⟩:=qFk e3;exact qHp e4 (c3 x hxl).wf (zM0 hb (c3 x hxl).next) λq hq=>hl q (hsub q hq)
  have hnl:h.next<=h2.lim:=by
   obtain⟨y,hy,hle⟩:=c5 (.st .normal st,h) zB0
   have:=hlim y hy;simp only at hle;omega
  have hAr:∀i,i∈glF.rd->A i:=λi hi=>by
   have hlt:i<h.next:=((c2.lo i).1 hi).elim (λh=>absurd h zK0) id
   by_cases hib:i<b
   .exact hr i (hlog.rd i (mr i hi hib))
   .exact hwin i (by omega) (by omega)
  have hAw:∀i,i∈glF.wr->A i:=λi hi=>by
   have hlt:i<h.next:=((c2.lo i).2 hi).elim (λh=>absurd h zK0) id
   by_cases hib:i<b
   .exact hw i (hlog.wr i (mem i hi hib))
   .exact hwin i (by omega) (by omega)
  obtain⟨accF2,af,ef⟩:=c6 hlim hAr hAw [(.st .normal st,h2)] [] (.cons h0 .nil) .nil;obtain⟨o2,e4,a4⟩:=qHq (b:=b) (L:=h2.lim) af c1' hstep' (λr h' h2' hm a g o g1 e hq h1 h3=>by
   obtain⟨ex,s,hx,e4⟩:=qFk e;have hxm:=c3 _ hm;obtain⟨o3,e5,a5⟩:=ihk ex s _ _ _ _ _ e4 hxm.wf (zM0 hb hxm.next) h2' A a.next (by rw[a.lim];exact hq) (by rw[a.lim];exact ht) h1 h3 (by rw[a.lim];exact hwin) a.on
   refine⟨o3,?_,a5.base a⟩;rw[hx];exact e5) hl hr hw
  refine⟨o2,?_,a4⟩;rw[qK6,hn];exact (ef _).trans ((eq _).trans e4)
 | regn n ord slots dst op st k iho ihk =>
  intro b h g outs g' e w hb h2 A hn hl ht hr hw hwin hA;obtain⟨hok,st',h1,l,hrr,e2⟩:=qPs e;have hop:∀i vs h r h' g',one ((op i vs).run h.next h Log.nil)=.ok r h' g'->h.WF->Fr h.next h Log.nil h' g':=λi vs h r h' g' e w=>(jS _ _ _ _ _ _ (qY8 e) w (zL0 _)).fr1
  have tr:=qLh hrr;obtain⟨w1,n1,l1,_,same,_⟩:=qPu hop tr w;have f:=jS _ _ _ _ _ _ e2 w1 (zM0 hb n1);have hlim:=qHp e2 w1 (zM0 hb n1) hl;have hlog:∀x,x∈l->∀i,i∈x.g.rd∨i∈x.g.wr->A i:=by
   intro x hx i hi;by_cases hib:i<b
   .rcases hi with hi | hi
    .exact hr i (f.log.rd _ (((Log.addE_adds b l g).2 x hx i hib).1 hi))
    .exact hw i (f.log.wr _ (((Log.addE_adds b l g).2 x hx i hib).2 hi))
   .refine hwin i (by omega) ?_
    have:=jGf hop tr w (λx hx=>absurd hx zK0) x hx i hi
    omega
  obtain⟨h3,t3,a3⟩:=jB3 hop (λi vs=>(iho i vs).one) tr w h2 A hn (by omega) ht hlog (λi h1 h2=>hwin i (by omega) h2) hA;have hl3:=a3.lim;obtain⟨o4,e4,a4⟩:=ihk st' _ _ _ _ _ e2 w1 (zM0 hb n1) h3 A a3.next (by rw[hl3];exact hl) (by omega) hr hw (λi h1 h2=>hwin i h1 (by omega)) a3.on
  refine⟨o4,?_,a4.base a3⟩;show cnd (qY1 n ord slots dst) (OutR.rec (motive:=λ_=>Out) (λw=>.err w) (λst' h' l=>qG8 b l g λg'=>(k st').run b h' g') (qHu (λi vs b h g=>one ((op i vs).run b h g)) ord slots dst (qOe n) st h2 [])) (.err 1008)=_;rw[hok,Q6,t3.run];exact (qR8 _ _ _ _).trans e4
end Go.X
namespace Go.X
section
variable {opR:Nat->List AV->Nat->Q5->Log->OutS} {ord:Nat->Nat->Bool} {slots:Nat->List Nat} {dst:Nat->Option Nat} {n:Nat} {sts:Nat->St} {hs:Nat->Q5} {vs:Nat->AV} {gs:Nat->Log}
def Wr (hs:Nat->Q5) (gs:Nat->Log) (j i:Nat):Prop:=i∈(gs j).wr∨((hs j).next<=i/\i<(hs (j+1)).next)
def Tch (hs:Nat->Q5) (gs:Nat->Log) (j i:Nat):Prop:=i∈(gs j).rd∨i∈(gs j).wr∨((hs j).next<=i/\i<(hs (j+1)).next)
structure Jk (n:Nat) (hs:Nat->Q5) (gs:Nat->Log):Prop where
 wf:∀i,i<=n->(hs i).WF
 lim:∀i,i<=n->(hs i).lim=(hs 0).lim
 step:∀i,i<n->Fr (hs i).next (hs i) Log.nil (hs (i+1)) (gs i)
theorem qYr (hop:∀i vs h r h' g',opR i vs h.next h Log.nil=.ok r h' g'->h.WF->Fr h.next h Log.nil h' g') (q:RegSeq opR ord slots dst 0 n sts hs vs gs) (w:(hs 0).WF):Jk n hs gs:=by
 have key:∀i,i<=n->(hs i).WF/\(hs i).lim=(hs 0).lim:=by
  intro i
  induction i with
  | zero=>exact λ_=>⟨w,rfl⟩
  | succ i ih =>intro hi;obtain⟨w1,l1⟩:=ih (by omega);have f:=hop _ _ _ _ _ _ (q.run i (Nat.zero_le _) (by omega)) w1;exact⟨f.wf,f.lim.trans l1⟩
 exact⟨λi hi=>(key i hi).1,λi hi=>(key i hi).2,λi hi=>hop _ _ _ _ _ _ (q.run i (Nat.zero_le _) (by omega)) (key i (by omega)).1⟩
theorem Jk.mono (s:Jk n hs gs):∀j i,i<=j->j<=n->(hs i).next<=(hs j).next:=by
 intro j
 induction j with
 | zero =>
  intro i hi _
  have:i=0:=by omega
  subst this;exact zL0 _
 | succ j ih =>
  intro i hi hj;rcases Nat.lt_or_ge i (j+1) with h | h
  .exact zM0 (ih i (by omega) (by omega)) (s.step j (by omega)).next
  .have:i=j+1:=by omega
   subst this;exact zL0 _
theorem Jk.logs (s:Jk n hs gs) {j:Nat} (hj:j<n) (i:Nat) (h:i∈(gs j).rd∨i∈(gs j).wr):i<(hs j).next:=by
 have f:=(s.step j hj).log.lo i;rcases h with h | h
 .exact (f.1 h).elim (λh=>absurd h zK0) id
 .exact (f.2 h).elim (λh=>absurd h zK0) id
theorem Jk.same (s:Jk n hs gs) {j:Nat} (hj:j<n) {i:Nat} (h:¬Wr hs gs j i):(hs (j+1)).get i=(hs j).get i:=by
 by_cases hi:i<(hs j).next
 .exact (s.step j hj).same i hi (λhw=>h (.inl hw))
 .have hi2:¬i<(hs (j+1)).next:=λh2=>h (.inr ⟨by omega,h2⟩)
  by_cases hl:i<(hs j).lim
  .rw[(s.wf j (by omega)).none i (by omega) hl,(s.wf (j+1) (by omega)).none i (by omega) (by rw[(s.step j hj).lim];exact hl)]
  .exact (s.step j hj).over i (by omega)
theorem Jk.sameR (s:Jk n hs gs) {i:Nat}:∀m' m,m<=m'->m'<=n->(∀j,m<=j->j<m'->¬Wr hs gs j i)->(hs m').get i=(hs m).get i:=by
 intro m'
 induction m' with
 | zero =>
  intro m h _ _
  have:m=0:=by omega
  subst this;rfl
 | succ m' ih =>
  intro m h1 h2 hw;rcases Nat.lt_or_ge m (m'+1) with h | h
  .rw[s.same (by omega) (hw m' (by omega) (by omega))];exact ih m (by omega) (by omega) (λj a c=>hw j a (by omega))
  .have:m=m'+1:=by omega
   subst this;rfl
theorem jFg (s:Jk n hs gs) (q:RegSeq opR ord slots dst 0 n sts hs vs gs) {i j x:Nat} (hi:i<n) (hj:j<n) (ha:Tch hs gs i x) (hw:Wr hs gs j x):i=j∨ord i j=true∨ord j i=true:=by
 have key:∀a b,a<n->b<n->a<b->(Tch hs gs a x/\Wr hs gs b x)∨(Tch hs gs b x/\Wr hs gs a x)->ord a b=true:=by
  intro a b ha hb hab h;rcases q.conf a b (Nat.zero_le _) hab (by omega) with ho | c
  .exact ho
  .exfalso;have m1:=s.mono b (a+1) (by omega) (by omega);have lb:=s.logs hb x;have la:=s.logs ha x;rcases h with ⟨h1,h2⟩ | ⟨h1,h2⟩
   .rcases h2 with h2 | ⟨h2,h3⟩
    .rcases h1 with h1 | h1 | h1
     .exact c.rw x h2 h1
     .exact c.ww x h2 h1
     .exact c.w2 x h2 h1
    .rcases h1 with h1 | h1 | h1
     .have:=la (.inl h1);have:=(s.step a ha).next;omega
     .have:=la (.inr h1);have:=(s.step a ha).next;omega
     .omega
   .rcases h2 with h2 | ⟨h2,h3⟩
    .rcases h1 with h1 | h1 | h1
     .exact c.wr x h1 h2
     .exact c.ww x h1 h2
     .have:=la (.inr h2);have:=(s.step a ha).next;omega
    .rcases h1 with h1 | h1 | h1
     .exact c.w1 x h1 ⟨h2,h3⟩
     .exact c.w2 x h1 ⟨h2,h3⟩
     .omega
 rcases Nat.lt_trichotomy i j with h | h | h
 .exact .inr (.inl (key i j hi hj h (.inl ⟨ha,hw⟩)))
 .exact .inl h
 .exact .inr (.inr (key j i hj hi h (.inr ⟨ha,hw⟩)))
theorem Wr.tch {j i:Nat} (h:Wr hs gs j i):Tch hs gs j i:=h.elim (λh=>.inr (.inl h)) (λh=>.inr (.inr h))
structure TInv (dst:Nat->Option Nat) (vs:Nat->AV) (st0:St) (a:List Nat) (st:St):Prop where
 at':∀s,s<4096->∀j,j∈a->dst j=some s->st.tmps.at s=vs j
 off:∀s,s<4096->(∀j,j∈a->dst j≠some s)->st.tmps.at s=st0.tmps.at s
 defers:st.defers=st0.defers
 u:st.u=st0.u
theorem TInv.put (ok:RegOk n ord slots dst) {st0 st:St} {a:List Nat} (t:TInv dst vs st0 a st) (ha:∀j,j∈a->j<n) {i:Nat} (hi:i<n) (hia:i ∉ a):TInv dst vs st0 (a++[i]) (st.put (dst i) (vs i)):=by
 cases hd:dst i with
 | none =>
  refine⟨λs hs j hj hjs=>?_,λs hs h=>t.off s hs λj hj=>h j (zG0 _ hj),t.defers,t.u⟩;rcases List.mem_append.1 hj with hj | hj
  .exact t.at' s hs j hj hjs
  .have:j=i:=by simpa using hj
   subst this;rw[hd] at hjs;cases hjs
 | some r =>
  have hr:=ok.dlt i hi r hd;refine⟨λs hs j hj hjs=>?_,λs hs h=>?_,t.defers,t.u⟩
  .show (TT.put r (vs i) st.tmps).at s=vs j;rw[TT.at_put hr hs];rcases List.mem_append.1 hj with hj | hj
   .rw[if_neg (λe=>?_)]
    .exact t.at' s hs j hj hjs
    .subst e
     have:=ok.apart i j s hi (ha j hj) hjs hd
     subst this;exact hia hj
   .have:j=i:=by simpa using hj
    subst this;rw[hd] at hjs;cases hjs;rw[if_pos rfl]
  .show (TT.put r (vs i) st.tmps).at s=_;rw[TT.at_put hr hs,if_neg (λe=>?_)]
   .exact t.off s hs λj hj=>h j (zG0 _ hj)
   .subst e;exact h i (by simp) hd
theorem TInv.init (st:St):TInv dst vs st [] st:=⟨λ_ _ _ h=>absurd h zK0,λ_ _ _=>rfl,rfl,rfl⟩
theorem TInv.seq (ok:RegOk n ord slots dst) (q:RegSeq opR ord slots dst 0 n sts hs vs gs):∀i,i<=n->TInv dst vs (sts 0) (List.range i) (sts i):=by
 intro i
 induction i with
 | zero=>exact λ_=>TInv.init _
 | succ i ih =>intro hi;rw[List.range_succ,q.st i (Nat.zero_le _) (by omega)];exact (ih (by omega)).put ok (λj hj=>by have:=List.mem_range.1 hj;omega) (by omega) (by simp)
theorem TInv.eq {st0 st st':St} {a a':List Nat} (h:TInv dst vs st0 a st) (h':TInv dst vs st0 a' st') (ha:∀j,j∈a↔j∈a'):st=st':=by
 have ht:st.tmps=st'.tmps:=TT.ext λs hs=>by
  by_cases hj:∃j,j∈a/\dst j=some s
  .obtain⟨j,hj,hd⟩:=hj;rw[h.at' s hs j hj hd,h'.at' s hs j ((ha j).1 hj) hd]
  .rw[h.off s hs λj hj' hd=>hj ⟨j,hj',hd⟩,h'.off s hs λj hj' hd=>hj ⟨j,(ha j).2 hj',hd⟩]
 cases st;cases st';simp only at ht;have e1:=h.defers;have e2:=h'.defers;have e3:=h.u;have e4:=h'.u;simp only at e1 e2 e3 e4;rw[ht,e1,e2,e3,e4]
theorem jB4 (ok:RegOk n ord slots dst) (hop:∀i vs h r h' g',opR i vs h.next h Log.nil=.ok r h' g'->h.WF->Fr h.next h Log.nil h' g') (hloc:∀i vs,jD1 (opR i vs))
  {opS:Nat->List AV->qMl->Q5->Prop} (hsat:∀i vs b h g r h' g',opR i vs b h g=.ok r h' g'->h.WF->b<=h.next->opS i vs (λr2 h2=>r2=r/\h2=h') h)
  (hmono:∀i vs (p q:qMl),(∀r g,p r g->q r g)->∀g,opS i vs p g->opS i vs q g)
  (q:RegSeq opR ord slots dst 0 n sts hs vs gs) (w:(hs 0).WF) {kS:St->Q5->Prop} (hk:kS (sts n) (hs n)) (l:List Nat) (hl:LinExt n ord l) :
  qHt slots dst opS (λi=>(hs i).next) n (hs 0).lim kS l (sts 0) (hs 0):=by
 have s:=qYr hop q w
 have main:∀(rest a:List Nat) (st:St) (h:Q5),l=a++rest->TInv dst vs (sts 0) a st ->
   (∀x m,m<=n->(∀j,j<n->Wr hs gs j x->(j<m↔j∈a))->h.get x=(hs m).get x)->qHt slots dst opS (λi=>(hs i).next) n (hs 0).lim kS rest st h:=by
  intro rest
  induction rest with
  | nil =>
   intro a st h hal t hh;have hmem:∀j,j∈a↔j<n:=λj=>by rw[<- hl.mem j,hal,List.append_nil]
   have e1:st=sts n:=t.eq (TInv.seq ok q n (zL0 _)) λj=>by rw[hmem,List.mem_range]
   have e2:h.win (hs n).next (hs 0).lim=hs n:=Q5.ext (λx=>hh x n (zL0 _) λj _ _=>(hmem j).symm) rfl (s.lim n (zL0 _)).symm
   show kS st (h.win (hs n).next (hs 0).lim);rw[e1,e2];exact hk
  | cons i rest ih =>
   intro a st h hal t hh;have hi:i<n:=(hl.mem i).1 (by rw[hal];simp);have hia:i ∉ a:=λh=>by
    have:=hl.nodup
    rw[hal,List.nodup_append] at this;exact this.2.2 i h i (by simp) rfl
   have han:∀j,j∈a->j<n:=λj hj=>(hl.mem j).1 (by rw[hal];simp[hj]);have hpre:∀j,j<n->ord j i=true->j∈a:=λj hj ho=>hl.ord a i rest hal j hj ho;have hpost:∀j,j∈a->ord i j=true->False:=by
    intro j hj ho;obtain⟨a1,a2,rfl⟩:=List.append_of_mem hj
    have:=hl.ord a1 j (a2++i::rest) (by rw[hal];simp) i hi ho
    exact hia (by simp[this])
   have hsel:st.sel (slots i)=(sts i).sel (slots i):=by
    refine St.sel_congr λr hr=>?_;have hr4096:=ok.slot i hi r hr;have ti:=TInv.seq ok q i (by omega);by_cases hd:∃j,j<n/\dst j=some r
    .obtain⟨j,hj,hdj⟩:=hd;rcases ok.behind i j r hi hj hdj hr with ho | ho
     .rw[t.at' r hr4096 j (hpre j hj ho) hdj,ti.at' r hr4096 j (List.mem_range.2 (ok.ordlt i j hi hj ho)) hdj]
     .have hlt:=ok.ordlt j i hj hi ho;rw[t.off r hr4096 λj' hj' hd'=>?_,ti.off r hr4096 λj' hj' hd'=>?_]
      .have hj2:=List.mem_range.1 hj'
       have:=ok.apart j j' r hj (by omega) hd' hdj
       omega
      .have:=ok.apart j j' r hj (han j' hj') hd' hdj
       subst this;exact hpost j hj' ho
    .rw[t.off r hr4096 λj hj hdj=>hd ⟨j,han j hj,hdj⟩,ti.off r hr4096 λj hj hdj=>hd ⟨j,by have:=List.mem_range.1 hj;omega,hdj⟩]
   have hrun:=q.run i (Nat.zero_le _) (by omega);rw[<- hsel] at hrun;have hA:∀x,Tch hs gs i x->h.get x=(hs i).get x:=by
    intro x hx;refine hh x i (by omega) λj hj hw=>?_;rcases jFg s q hi hj hx hw with e | e | e
    .subst e;exact⟨λh=>by omega,λh=>absurd h hia⟩
    .exact⟨λh=>by have:=ok.ordlt j i hj hi e;omega,λh=>absurd e (λe=>hpost j h e)⟩
    .exact⟨λ_=>hpre j hj e,λ_=>ok.ordlt i j hi hj e⟩
   obtain⟨h3,e3,a3⟩:=hloc i _ _ _ _ _ _ _ hrun (s.wf i (by omega)) (zL0 _) (h.win (hs i).next (hs (i+1)).next) (Tch hs gs i) rfl (zL0 _)
    (by have:=(s.wf (i+1) (by omega));have:=this.lim;have:=(s.wf (i+1) (by omega)).top;simp only[Q5.win_lim];omega)
    (λx hx=>.inl hx) (λx hx=>.inr (.inl hx)) (λx h1 h2=>.inr (.inr ⟨h1,h2⟩)) (λx hx=>hA x hx)
   show opS i (st.sel (slots i)) (λr h'=>∃v,r=.val v/\qHt slots dst opS (λi=>(hs i).next) n (hs 0).lim kS rest (st.put (dst i) v) h') (h.win (hs i).next (hs (i+1)).next);have hwf:(h.win (hs i).next (hs (i+1)).next).WF:=⟨(s.step i hi).next,by have:=(s.wf (i+1) (by omega));have:=this.lim;have:=(s.wf (i+1) (by omega)).top;simp only[Q5.win_lim];omega,
    λx h1 h2=>by
     simp only[Q5.win_next] at h1;simp only[Q5.win_lim] at h2;rw[Q5.win_get,hA x (.inr (.inr ⟨h1,h2⟩))];exact (s.wf i (by omega)).none x h1 (by have:=(s.wf (i+1) (by omega)).lim;have:=(s.step i hi).lim;omega)⟩
   refine hmono i _ _ _ ?_ _ (hsat i _ _ _ _ _ _ _ e3 hwf (zL0 _));rintro r h2 ⟨rfl,rfl⟩;refine⟨vs i,rfl,ih (a++[i]) _ _ (by rw[hal];simp) (t.put ok han hi hia) λx m hm hx=>?_⟩;by_cases hT:Tch hs gs i x
   .rw[a3.on x hT];have hcmp:∀j,j<n->Wr hs gs j x->j≠i->(j<m↔j<i):=by
     intro j hj hw hne;rw[hx j hj hw];rcases jFg s q hi hj hT hw with e | e | e
     .exact absurd e.symm hne
     .have hlt:=ok.ordlt j i hj hi e;refine⟨λhm=>?_,λh=>by omega⟩;rcases List.mem_append.1 hm with hm | hm
      .exact absurd e (λe=>hpost j hm e)
      .exact absurd (by simpa using hm) hne
     .exact⟨λ_=>ok.ordlt i j hi hj e,λ_=>zG0 _ (hpre j hj e)⟩
    have hii:Wr hs gs i x->i<m:=λhw=>(hx i hi hw).2 (by simp);rcases Nat.lt_or_ge m (i+1) with hlt | hge
    .refine s.sameR (i+1) m (by omega) (by omega) λj h1 h2 hw=>?_;by_cases hji:j=i
     .subst hji;have:=hii hw;omega
     .have:=(hcmp j (by omega) hw hji).2 (by omega);omega
    .refine (s.sameR m (i+1) hge hm λj h1 h2 hw=>?_).symm
     have:=(hcmp j (by omega) hw (by omega)).1 h2;omega
   .rw[a3.off x hT];refine hh x m hm λj hj hw=>?_;rw[hx j hj hw];refine⟨λhm=>?_,λh=>zG0 _ h⟩;rcases List.mem_append.1 hm with hm | hm
    .exact hm
    .have:j=i:=by simpa using hm
     subst this;exact absurd hw.tch hT
 exact main l [] (sts 0) (hs 0) rfl (TInv.init _) λx m hm hx=>(s.sameR m 0 (Nat.zero_le _) hm λj _ hj hw=>absurd ((hx j (by omega) hw).1 hj) zK0).symm
end
end Go.X
namespace Go.X
theorem run_satT:∀(m:FM) (b:Nat) (h:Q5) (g:Log) (outs:List (Res × Q5)) (g':Log) (p:qMl),m.run b h g=.ok outs g'->h.WF->b<=h.next->(∀o,o∈outs->p o.1 o.2)->m.satT p h:=by
 intro m
 induction m with
 | ret r0=>intro b h g outs g' p e w _ hp;cases e;exact hp (r0,h) (by simp)
 | fail=>intro b h g outs g' p e;cases e
 | get i k ih =>
  intro b h g outs g' p e w hb hp;rw[run_get] at e;by_cases hi:i<h.next
  case neg=>rw[if_neg hi] at e;cases e
  rw[if_pos hi] at e;cases ho:h.get i with
  | none=>rw[ho] at e;cases e
  | some o=>rw[ho] at e;exact⟨o,ho,ih o _ _ _ _ _ _ e w hb hp⟩
 | set i o m ih =>
  intro b h g outs g' p e w hb hp;rw[run_set] at e;by_cases hi:i<h.next
  case neg=>rw[if_neg hi] at e;cases e
  rw[if_pos hi] at e;exact⟨hi,ih _ _ _ _ _ _ e (w.put hi o) hb hp⟩
 | new o k ih =>
  intro b h g outs g' p e w hb hp;rw[qQu] at e;by_cases hi:h.next<h.lim
  case neg=>rw[if_neg hi] at e;cases e
  rw[if_pos hi] at e;exact⟨hi,ih _ _ _ _ _ _ _ e (w.newO hi o) (zM0 hb (Nat.le_succ _)) hp⟩
 | here k ih=>intro b h g outs g' p e w hb hp;exact ih _ _ _ _ _ _ _ e w hb hp
 | drop a x m ih =>
  intro b h g outs g' p e w hb hp;obtain⟨h0,h1,h2,h3,e2⟩:=qPt _ _ _ _ _ _ e;exact⟨h1,h2,h3,ih _ _ _ _ _ _ e2 (jDl w h1 h2 h3) (by simp only[Q5.win_next];omega) hp⟩
 | choose n k ih =>
  intro b h g outs g' p e w hb hp j hj;obtain⟨_,e⟩:=run_choose e;obtain⟨_,_,a3⟩:=qFx (b:=b) (λj g o g1 e=>(jS _ _ _ _ _ _ e w hb).log) e;obtain⟨g0,g1,o1,e2,hsub⟩:=a3 j hj;exact ih j _ _ _ _ _ _ e2 w hb λo ho=>hp o (hsub o ho)
 | any k ih=>intro b h g outs g' p e w hb hp;have e':Out.err 1020=.ok outs g':=e;cases e'
 | join m k ihm ihk =>
  intro b h g outs g' p e w hb hp;obtain⟨l,g1,g2,e1,ad,mr,mem,tr⟩:=jEl e;have fm:=jS _ _ _ _ _ _ e1 w (zL0 _);refine ihm _ _ _ _ _ _ e1 w (zL0 _) λo ho=>?_;have hd:=qU (lo:=h.next) (h:=h) (ws:=g1.wr) fm.outs o ho;have fo:=fm.outs o ho;have hx:∀x,x∈dedupe g1.wr h.next l->HF h.next h x.2 g1.wr:=λx hx=>fm.outs x (qT hx)
  have hstep:∀x,x∈dedupe g1.wr h.next l->∀g o g3,(k x.1).run b x.2 g=.ok o g3->Log.Adds b g g3:=λx hxm g o g3 e =>
   (jS _ _ _ _ _ _ e (hx x hxm).wf (zM0 hb (hx x hxm).next)).log
  obtain⟨g0,g3,o1,e3,hsub,_,_⟩:=(tr.each hstep).2 o hd;exact ihk o.1 _ _ _ _ _ _ e3 fo.wf (zM0 hb fo.next) λq hq=>hp q (hsub q hq)
 | loop n body st k ihb ihk =>
  intro b h g outs g' p e w hb hp;rw[qK6] at e;have hin:LoopIn (λs h' g=>(body s).run h.next h' g) h.next h:=⟨λst' h' g outs g' e w' hl=>jS _ _ _ _ _ _ e w' hl⟩
  obtain⟨accF,glF,c1,c2,c3,_,c5⟩:=qOp hin (zL0 _) (bodyS:=λs q g=>(body s).satT q g) (λst' h' g outs g' q e w' hl hq=>ihb st' _ _ _ _ _ q e w' hl hq)
   fin_st n _ _ _ e (λx hx=>by
    have:x=(.st .normal st,h):=by simpa using hx
    subst this;exact⟨HF.refl w _,rfl⟩) (λx hx=>absurd hx zK0)
  obtain⟨g2,eq,ad,mr,mem⟩:=Log.addRW b glF.rd glF.wr g;rw[eq] at c1;have tr:=jK c1;have hstep:∀x,x∈accF->∀g o g3,(stK x.1 λe s=>(k e s).run b x.2 g)=.ok o g3->FrO b x.2 g o g3:=λx hx g o g3 e=>by obtain⟨ex,s,_,e3⟩:=qFk e;exact jS _ _ _ _ _ _ e3 (c3 x hx).wf (zM0 hb (c3 x hx).next)
  have hL:=c5 (.st .normal st,h) st (by simp) rfl;refine qL8 (bodyS:=λs q g=>(body s).satT q g) (kS:=λe s h=>(Res.st e s,h)∈accF) (λs q q' hq g hg=>FM.satT_mono hq (body s) g hg) (λex s hh hm=>?_) n st h hL;obtain⟨g0,g3,o1,e3,hsub,_,_⟩:=(tr.each λx hx g o g3 e=>(hstep x hx g o g3 e).log).2 _ hm;have fo:=c3 _ hm;exact ihk ex s _ _ _ _ _ _ e3 fo.wf (zM0 hb fo.next) λq hq=>hp q (hsub q hq)
 | regn n ord slots dst op st k iho ihk =>
  intro b h g outs g' p e w hb hp;obtain⟨hok,st',h1,l,hrr,e2⟩:=qPs e;have hop:∀i vs h r h' g',one ((op i vs).run h.next h Log.nil)=.ok r h' g'->h.WF->Fr h.next h Log.nil h' g':=λi vs h r h' g' e w=>(jS _ _ _ _ _ _ (qY8 e) w (zL0 _)).fr1
  have tr:=qLh hrr;obtain⟨w1,n1,_⟩:=qPu hop tr w;have hk:=ihk st' _ _ _ _ _ _ e2 w1 (zM0 hb n1) hp;have hr:qOe n=List.range' 0 n:=List.range_eq_range';rw[hr] at tr;obtain⟨sts,hs,vs,gs,e1,e2,e3,e4,q,_⟩:=qYy n 0 tr;rw[Nat.zero_add] at e3 e4;subst e1;subst e2;subst e3;subst e4;have s:=qYr hop q w;refine⟨λi=>(hs i).next,rfl,λi hi=>(s.step i hi).next,?_,λl hl=>?_⟩
  .show (hs n).next<=(hs 0).lim
   have:=(s.wf n (zL0 _)).lim;have:=s.lim n (zL0 _);omega
  .refine jB4 (opR:=λi vs b h g=>one ((op i vs).run b h g)) (opS:=λi vs q g=>(op i vs).satT q g) (jGg hok) hop (λi vs=>(qYu (op i vs)).one) (λi vs b h g r h' g' e w hb=>?_) (λi vs p q hpq g=>FM.satT_mono hpq _ g) q w hk l hl;refine iho i vs _ _ _ _ _ _ (qY8 e) w hb λo ho=>?_
   have:o=(r,h'):=by simpa using ho
   subst this;exact⟨rfl,rfl⟩
end Go.X
namespace Go.X
def Q5.fn (h:Q5):Q0:=⟨h.get,h.next,h.lim,false⟩
structure Q5.Ok (h:Q5):Prop where
 room:h.next<=h.lim
 lim:h.lim<=top
theorem Q5.fn_put (h:Q5) {i:Nat} (hi:i<top) (o:Option Q4):(h.put i o).fn=h.fn.put i o :=
 Q0.ext (λj=>(Q5.get_put h hi j o).trans rfl) rfl rfl rfl
theorem Q5.fn_newO (h:Q5) (hi:h.next<top) (o:Q4):(Q5.mk (h.put h.next (some o)).t (h.next+1) h.lim).fn=h.fn.newO o :=
 Q0.ext (λj=>(Q5.newO_get h hi o j).trans rfl) rfl rfl rfl
theorem Q5.fn_win (h:Q5) (a b:Nat):(h.win a b).fn=h.fn.win a b:=rfl
theorem Q5.fn_drop (h:Q5) (a n:Nat) (hn:a+n<=top):(qH a n h).fn=qKi a n h.fn :=
 Q0.ext (λj=>(jG a n h hn j).trans rfl) (qXg a n h) (jAi a n h) rfl
theorem Q5.Ok.put {h:Q5} (w:h.Ok) (i:Nat) (o:Option Q4):(h.put i o).Ok:=⟨w.room,w.lim⟩
theorem pos_mono {pos:Nat->Nat} {n:Nat} (hm:∀i,i<n->pos i<=pos (i+1)):∀j i,i<=j->j<=n->pos i<=pos j:=by
 intro j
 induction j with
 | zero =>
  intro i hi _;have:i=0:=by omega
  subst this;exact zL0 _
 | succ j ih =>
  intro i hi hj;rcases Nat.lt_or_ge i (j+1) with hlt | hge
  .exact zM0 (ih i (by omega) (by omega)) (hm j (by omega))
  .have:i=j+1:=by omega
   subst this;exact zL0 _
theorem satT_sat:∀(m:FM) (p:qMl) (q:QF) (h:Q5),h.Ok->(∀r g,g.Ok->p r g->q r g.fn)->m.satT p h->m.sat q h.fn:=by
 intro m
 induction m with
 | ret r=>exact λp q h w hpq hs=>hpq _ _ w hs
 | fail w=>exact λp q h w hpq hs=>hs
 | get i k ih=>exact λp q h w hpq ⟨o,h1,h2⟩=>⟨o,h1,ih o p q h w hpq h2⟩
 | set i o m ih =>
  intro p q h w hpq ⟨h1,h2⟩;have hi:i<top:=zE0 h1 (zM0 w.room w.lim);refine⟨h1,?_⟩;rw[<- Q5.fn_put h hi];exact ih p q _ (w.put i _) hpq h2
 | new o k ih =>
  intro p q h w hpq ⟨h1,h2⟩;have hi:h.next<top:=zE0 h1 w.lim
  refine⟨.inr h1,?_⟩;rw[<- Q5.fn_newO h hi];exact ih _ p q _ ⟨h1,w.lim⟩ hpq h2
 | here k ih=>exact λp q h w hpq hs=>ih _ p q h w hpq hs
 | drop a x m ih =>
  intro p q h w hpq ⟨h1,h2,h3,h4⟩;refine⟨rfl,h1,h2,h3,?_⟩
  have:=ih p q ((qH a (h.next-a) h).win (a+x) h.lim) ⟨h3,w.lim⟩ hpq h4
  rw[Q5.fn_win,Q5.fn_drop _ _ _ (by have:=w.lim;omega)] at this;exact this
 | choose n k ih=>exact λp q h w hpq hs j hj=>ih j p q h w hpq (hs j hj)
 | any k ih=>exact λp q h w hpq hs j=>ih j p q h w hpq (hs j)
 | join m k ihm ihk=>exact λp q h w hpq hs=>ihm _ _ h w (λr g wg hg=>ihk r p q g wg hpq hg) hs
 | loop n body st k ihb ihk =>
  intro p q h w hpq hs;have key:∀n st (h:Q5),h.Ok->qGx (λs q g=>(body s).satT q g) (λe s g=>(k e s).satT p g) n st h->qW2 (λs q g=>(body s).sat q g) (λe s g=>(k e s).sat q g) n st h.fn:=by
   intro n
   induction n with
   | zero=>exact λ_ _ _ h=>h
   | succ n ih =>
    intro st h w hs;refine ihb st _ _ h w (λr g wg hg=>?_) hs;cases r with
    | st e s=>cases e <;> first | exact ih _ _ wg hg | exact ihk _ _ p q g wg hpq hg
    | _=>exact hg
  exact key n st h w hs
 | regn n ord slots dst op st k iho ihk =>
  intro p q h w hpq ⟨pos,h1,h2,h3,h4⟩;refine .inl ⟨rfl,pos,h1,h2,h3,λl hl=>?_⟩
  have key:∀(l:List Nat),(∀i,i∈l->i<n)->∀st (h0:Q5),qHt slots dst (λi vs q g=>(op i vs).satT q g) pos n h.lim (λs g=>(k s).satT p g) l st h0 ->
    qY0 slots dst (λi vs q g=>(op i vs).sat q g) pos n h.lim (λs g=>(k s).sat q g) l st h0.fn:=by
   intro l
   induction l with
   | nil=>exact λ_ st h0 hs=>ihk st p q (h0.win (pos n) h.lim) ⟨h3,w.lim⟩ hpq hs
   | cons i l ih =>intro hin st h0 hs;have hi:=hin i zB0;have hw:(h0.win (pos i) (pos (i+1))).Ok:=⟨h2 i hi,zM0 (pos_mono h2 n (i+1) (by omega) (zL0 _)) (zM0 h3 w.lim)⟩;exact iho i _ _ _ _ hw (λr g _ ⟨v,e,hg⟩=>⟨v,e,ih (λj hj=>hin j (zA0 _ hj)) _ _ hg⟩) hs
  exact key l (λi hi=>(hl.mem i).1 hi) st h (h4 l hl)
theorem jBy (m:FM) (b:Nat) (h:Q5) (g:Log) (outs:List (Res × Q5)) (g':Log) (p:QF) (e:m.run b h g=.ok outs g') (w:h.WF) (hb:b<=h.next) (hp:∀o,o∈outs->p o.1 o.2.fn):m.sat p h.fn :=
 satT_sat m (λr g=>p r g.fn) p h ⟨w.lim,w.top⟩ (λ_ _ _ h=>h) (run_satT m b h g outs g' _ e w hb hp)
end Go.X
