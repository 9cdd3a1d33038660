/-
  PROVED: entries and sorts as summaries, slices of bytes, rows, maps by strings, changes between lists that rise, as plain laws. Condition: each law's own.
-/
import Derived.Test.YtppjfhdhgofeiaaXg
import Derived.Sort.EncStr
import Derived.Sort.Grow
set_option linter.unusedVariables false
set_option linter.unusedSimpArgs false
namespace Go.X
open Go Go.RowKit
section
variable {P : Program} {W0 : World} {p : Post} {m : FM}
noncomputable def whenC (p : Prop) (a b : FM) : FM := @ite FM p (Classical.propDecidable p) a b
theorem whenC_pos {p : Prop} {a b : FM} (h : p) : whenC p a b = a := if_pos h
theorem whenC_neg {p : Prop} {a b : FM} (h : ¬p) : whenC p a b = b := if_neg h
end
section
variable {P : Program} {W : World} {G g : Nat} {cs : List AV}
end
end Go.X
namespace Go.X
open Go Go.RowKit Go.Sort Go.Proofs
def strs (l : List AV) : List (List Nat) := match l with | [] => [] | .str s :: r => s :: strs r | _ :: r => strs r
def u8s (s : List Nat) : List UInt8 := s.map UInt8.ofNat
def strSort (l : List (List Nat)) : List (List Nat) := ((l.map u8s).mergeSort fun x y => decide (x ≤ y)).map fun s => s.map UInt8.toNat
def SortOk (c : List AV) (o len : Nat) : Prop := (c.drop o).take len = (strs ((c.drop o).take len)).map AV.str ∧ (strs ((c.drop o).take len)).length = len ∧ len < 4611686018427387904 ∧ o + len ≤ c.length
noncomputable def sortX : List AV → KV → (Chain → FM) → FM := fun args k _ => match args with
  | [.slice i o len _ _] => .get i fun ob => match ob with
    | .cells c e g mk => whenC (SortOk c o len) (.set i (.cells (c.take o ++ ((strSort (strs ((c.drop o).take len))).map AV.str ++ c.drop (o + len))) e g mk) (k (.tuple []))) (.fail 230)
    | _ => .fail 231
  | [.nils] => k (.tuple [])
  | _ => .fail 232
def SortFact (P : Program) (f : FuncId) : Prop := (∀ (p : Option Addr) (cap : Nat) (w : World), Calls P f #[.slice p 0 cap] w fun e w' => e = .returned (.tuple #[]) ∧ w' = w) ∧ ∀ (blk off cap : Nat) (ss : List (List UInt8)) (w : World), Holds encStr w blk off ss.toArray → blk < w.heap.size → ss.length < 4611686018427387904 →
  Calls P f #[.slice (some ⟨blk, off, none⟩) ss.length cap] w fun e w' => e = .returned (.tuple #[]) ∧ ∃ n os, w' = grow (putRow encStr (Sort.ahead w n) blk off (ss.mergeSort fun x y => decide (x ≤ y)).toArray) os
theorem u8s_bs (b : ByteArray) : encStr (u8s (bs b)) = .string b := by
  obtain ⟨d⟩ := b
  simp [encStr, u8s, bs, Function.comp_def]
theorem putCells_toList {enc : List UInt8 → Value} {off : Nat} {d : Array (List UInt8)} {c : Array Value} (h : off + d.size ≤ c.size) : (putCells enc off d c).toList = c.toList.take off ++ (d.toList.map enc ++ c.toList.drop (off + d.size)) := by
  apply List.ext_getElem?
  intro k
  unfold putCells
  rw [Array.getElem?_toList, Array.getElem?_mapIdx]
  rcases Nat.lt_or_ge k off with h1 | h1
  · rw [List.getElem?_append_left (by simp; omega), List.getElem?_take_of_lt h1, Array.getElem?_toList]
    cases c[k]? with
    | none => rfl
    | some v => simp only [Option.map_some]; rw [if_neg (by omega)]
  · rw [List.getElem?_append_right (by simp; omega)]
    have e1 : (c.toList.take off).length = off := by simp; omega
    rw [e1]
    rcases Nat.lt_or_ge k (off + d.size) with h2 | h2
    · rw [List.getElem?_append_left (by simp; omega), List.getElem?_map, Array.getElem?_toList]
      have hk : k < c.size := by omega
      rw [Array.getElem?_eq_getElem hk, Array.getElem?_eq_getElem (show k - off < d.size by omega)]
      simp only [Option.map_some]
      rw [if_pos ⟨h1, h2⟩, getElem!_pos d (k - off) (by omega)]
    · rw [List.getElem?_append_right (by simp; omega), List.getElem?_drop]
      simp only [List.length_map, Array.length_toList]
      rw [show off + d.size + (k - off - d.size) = k by omega, Array.getElem?_toList]
      cases c[k]? with
      | none => rfl
      | some v => simp only [Option.map_some]; rw [if_neg (by omega)]
theorem VRs_strs {E : Env} : ∀ l : List (List UInt8), VRs E ((l.map fun s => s.map UInt8.toNat).map AV.str) (l.map encStr)
  | [] => .nil
  | s :: l => .cons _ _ _ _ (.str _ _ (by simp [bs])) (VRs_strs l)
theorem Stp.putO {E : Env} {h : Heap} (i : Nat) (o : Option AObj) : Stp E h E (h.put i o) := ⟨.refl _, fun _ _ h => .inl h, rfl, Nat.le_refl _⟩
theorem sort_sound {P : Program} {W0 : World} {f : FuncId} (hf : SortFact P f) : SumsSound P W0 (fun g => match Nat.beq g f with | true => some sortX | false => none) := by
  intro g s hg args k kp p E h w vs hb hs r hv
  cases hbq : Nat.beq g f with
  | false => simp only [hbq] at hg; cases hg
  | true =>
    simp only [hbq] at hg
    have := Nat.eq_of_beq_eq_true hbq
    subst this
    cases hg
    unfold sortX at hs
    split at hs
    · rename_i i o len cp ext
      obtain ⟨ob, hgi, hs⟩ := hs
      cases ob with
      | cells c e gr mk =>
        have hs : (whenC (SortOk c o len) (.set i (.cells (c.take o ++ ((strSort (strs ((c.drop o).take len))).map AV.str ++ c.drop (o + len))) e gr mk) (k (.tuple []))) (.fail 230)).sat p h := hs
        by_cases hc : SortOk c o len
        · rw [whenC_pos hc] at hs
          obtain ⟨hlt, hs⟩ := hs
          obtain ⟨hc1, hc2, hc3, hoc⟩ := hc
          generalize hss : strs ((c.drop o).take len) = ss at hc1 hc2 hs
          obtain ⟨v, rfl, hv1⟩ : ∃ v, vs = #[v] ∧ VR E (.slice i o len cp ext) v := by
            generalize hl : vs.toList = l at hv
            cases hv with
            | cons _ v _ m h1 t =>
              cases t
              exact ⟨v, by rw [← Array.toArray_toList (xs := vs), hl], h1⟩
          cases hv1 with
          | slice _ _ _ _ _ b x cc hE hx hcc =>
            obtain ⟨b', obj, hb', hw, hor⟩ := r.obj i _ hgi
            rw [hE] at hb'; cases hb'
            cases hor with
            | cells _ _ _ _ cs ty fr pre c1 rest hcs hpre hcc1 hrest hfr =>
              have hlen := hcc1.length
              have hsz : cs.size = pre.length + (c1.length + rest.length) := by
                rw [← Array.length_toList, hcs]; simp
              have hat : ∀ j, j < len → ∃ s ba, ss[j]? = some s ∧ cs[x + j]? = some (.string ba) ∧ bs ba = s := by
                intro j hj
                have e1 : ss[j]? = some (ss[j]'(by omega)) := List.getElem?_eq_getElem (by omega)
                have e2 : c[o + j]? = some (.str (ss[j]'(by omega))) := by
                  have : ((c.drop o).take len)[j]? = some (.str (ss[j]'(by omega))) := by rw [hc1, List.getElem?_map, e1]; rfl
                  rw [List.getElem?_take_of_lt hj, List.getElem?_drop] at this
                  exact this
                obtain ⟨y, hy, hyv⟩ := hcc1.get _ _ e2
                cases hyv with
                | str _ ba hbs =>
                  refine ⟨_, ba, e1, ?_, hbs⟩
                  rw [← Array.getElem?_toList, hcs, hx, ← hpre, List.getElem?_append_right (by omega), show pre.length + o + j - pre.length = o + j by omega, List.getElem?_append_left (by omega)]
                  exact hy
              have hH : Holds encStr w b x (ss.map u8s).toArray := by
                intro j hj
                simp only [List.size_toArray, List.length_map, hc2] at hj
                obtain ⟨s, ba, h1, h2, h3⟩ := hat j hj
                have hj2 : x + j < cs.size := (Array.getElem?_eq_some_iff.1 h2).1
                constructor
                · rw [cell_at hw, h2]
                  congr 1
                  rw [getElem!_pos _ j (by simp; omega)]
                  simp only [List.getElem_toArray, List.getElem_map]
                  have : ss[j]'(by omega) = s := (List.getElem?_eq_some_iff.1 h1).2
                  rw [this, ← h3, u8s_bs]
                · rw [frozen_at hw, Bool.and_eq_false_iff]
                  have := hfr.free (x + j) (.inr hj2)
                  by_cases h : fr.1 ≤ x + j
                  · exact .inr (by simp; omega)
                  · exact .inl (by simp; omega)
              have hbw : b < w.heap.size := r.bound i b hE
              have hcall := hf.2 b x cc (ss.map u8s) w hH hbw (by simp; omega)
              rw [List.length_map, hc2] at hcall
              refine hcall.mono fun en w' ⟨he, n, os, hw'⟩ => ?_
              subst he; subst hw'
              generalize hd : ((ss.map u8s).mergeSort fun x y => decide (x ≤ y)) = d at hs ⊢
              have hdl : d.length = len := by rw [← hd, List.length_mergeSort, List.length_map, hc2]
              have hst : strSort ss = d.map fun s => s.map UInt8.toNat := by unfold strSort; rw [hd]
              rw [hst] at hs
              have hpc := putCells_toList (enc := encStr) (off := x) (d := d.toArray) (c := cs) (by simp only [List.size_toArray, hdl]; omega)
              have hxt : cs.toList.take x = pre ++ c1.take o := by
                rw [hcs, hx, ← hpre, List.take_append, List.take_of_length_le (by omega), show pre.length + o - pre.length = o by omega, List.take_append_of_le_length (by omega)]
              have hxd : cs.toList.drop (x + len) = c1.drop (o + len) ++ rest := by
                rw [hcs, hx, ← hpre, List.drop_append, List.drop_of_length_le (by omega), show pre.length + o + len - pre.length = o + len by omega, List.nil_append, List.drop_append_of_le_length (by omega)]
              have r2 := r.set (a1 := .cells (c.take o ++ ((d.map fun s => s.map UInt8.toNat).map AV.str ++ c.drop (o + len))) e gr mk) (o1 := .cells (putCells encStr x d.toArray cs) ty fr) hgi hE (by rintro (h | ⟨c, h⟩) <;> cases h) (fun es v h => by cases h) (by
                refine .cells _ _ _ _ _ _ _ pre (c1.take o ++ (d.map encStr ++ c1.drop (o + len))) rest ?_ hpre ?_ hrest ?_
                · rw [hpc]
                  simp only [List.size_toArray, hdl, hxt, hxd, List.append_assoc]
                · exact (hcc1.take o).append ((VRs_strs d).append (hcc1.drop _))
                · have : (putCells encStr x d.toArray cs).size = cs.size := by simp [putCells]
                  rw [this]; exact hfr)
              have hheap : (putRow encStr (Sort.ahead w n) b x d.toArray).heap = (w.putObj b (.cells (putCells encStr x d.toArray cs) ty fr)).heap := by
                apply Array.ext_getElem?
                intro q
                by_cases e : q = b
                · subst e
                  rw [World.putObj_heap_same hbw]
                  show (w.heap.modify q (Go.Sort.onCells (putCells encStr x d.toArray)))[q]? = _
                  rw [Array.getElem?_modify, if_pos rfl, hw]; rfl
                · rw [World.putObj_heap_other e]
                  show (w.heap.modify b (Go.Sort.onCells (putCells encStr x d.toArray)))[q]? = _
                  rw [Array.getElem?_modify, if_neg (Ne.symm e)]
              have r3 : Rel P W0 E _ (putRow encStr (Sort.ahead w n) b x d.toArray) := r2.same hheap rfl rfl rfl
              have r4 := r3.garbage (w' := grow (putRow encStr (Sort.ahead w n) b x d.toArray) os) ⟨rfl, rfl, rfl, by simp [grow], fun q hq => by
                show (_ ++ os)[q]? = _
                rw [Array.getElem?_append_left hq]⟩
              exact ⟨E, _, _, Stp.putO i _, r4, .tuple _ _ .nil, hs⟩
        · rw [whenC_neg hc] at hs; exact False.elim hs
      | _ => exact False.elim hs
    · obtain ⟨v, rfl, hv1⟩ : ∃ v, vs = #[v] ∧ VR E .nils v := by
        generalize hl : vs.toList = l at hv
        cases hv with
        | cons _ v _ m h1 t =>
          cases t
          exact ⟨v, by rw [← Array.toArray_toList (xs := vs), hl], h1⟩
      cases hv1
      refine (hf.1 none 0 w).mono fun en w' ⟨he, hw'⟩ => ?_
      subst he; subst hw'
      exact ⟨E, h, _, Stp.refl _ _, r, .tuple _ _ .nil, hs⟩
    · exact False.elim hs
def sortZ : List ZV → ZK → Heap → Prop := fun args K h => match args with
  | [.sl s] => (s.nil = true ∧ s.ext = false ∧ K (.tup []) h) ∨ (s.nil = false ∧ ∃ c e g mk, h.get s.i = some (.cells c e g mk) ∧ s.i < h.next ∧ SortOk c s.o s.len ∧ K (.tup []) (h.put s.i (some (.cells (c.take s.o ++ ((strSort (strs ((c.drop s.o).take s.len))).map AV.str ++ c.drop (s.o + s.len))) e g mk))))
  | _ => False
theorem sort_fit (f : FuncId) : SumFit (fun g => match Nat.beq g f with | true => some sortZ | false => none) (fun g => match Nat.beq g f with | true => some sortX | false => none) := by
  constructor
  · intro g hg
    cases hb : Nat.beq g f with
    | true => simp only [hb] at hg; cases hg
    | false => rfl
  · intro g s hg
    cases hb : Nat.beq g f with
    | false => simp only [hb] at hg; cases hg
    | true =>
      simp only [hb] at hg
      cases hg
      refine ⟨sortX, rfl, ?_⟩
      intro args K h hi hs kp k p hp
      unfold sortZ at hs
      split at hs
      · rename_i s
        rcases hs with ⟨hn, he, hk⟩ | hs
        · have hav : avs [ZV.sl s] = [.nils] := by simp [SL.av, hn, he]
          rw [hav]
          have := hp _ _ hi hk
          show (k (.tuple [])).sat p h
          simpa using this
        obtain ⟨hn, c, e, g, mk, hgi, hlt, ok, hk⟩ := hs
        have hav : avs [ZV.sl s] = [.slice s.i s.o s.len s.cap s.ext] := by
          simp [SL.av, hn]
        rw [hav]
        refine ⟨_, hgi, ?_⟩
        show (whenC (SortOk c s.o s.len) _ _).sat p h
        rw [whenC_pos ok]
        refine ⟨hlt, ?_⟩
        have := hp _ _ (by exact hi) hk
        simpa using this
      · exact hs.elim
end Go.X
namespace Go.X
abbrev nowhere (_ : Nat) : Prop := False
theorem SL.n_nil {s : SL} (e : s.nil = true) : s.n = 0 := by unfold SL.n; rw [e]
theorem SL.n_of {s : SL} (e : s.nil = false) : s.n = s.len := by unfold SL.n; rw [e]
structure Seg (h : Heap) (s : SL) (sz : Nat) (cs : List AV) : Prop where
  len : cs.length = s.n * sz
  lt : s.nil = false → s.i < h.next
  src : s.nil = false → ∃ c, cellsAt h s.i = some c ∧ (c.drop s.o).take (s.len * sz) = cs ∧ s.len * sz ≤ (c.drop s.o).length
theorem Seg.fr {S : Nat → Prop} {h h' : Heap} {s : SL} {sz : Nat} {cs : List AV} (x : Seg h s sz cs) (f : Fram S h h') (hs : s.nil = false → ¬ S s.i) : Seg h' s sz cs :=
  ⟨x.len, fun e => Nat.lt_of_lt_of_le (x.lt e) f.next, fun e => by rw [cellsAt_eq (f.same _ (x.lt e) (hs e))]; exact x.src e⟩
theorem Seg.nil_cs {h : Heap} {s : SL} {sz : Nat} {cs : List AV} (x : Seg h s sz cs) (e : s.nil = true) : cs = [] :=
  List.eq_nil_of_length_eq_zero (by rw [x.len, SL.n_nil e, Nat.zero_mul])
theorem Seg.at' {h : Heap} {s : SL} {sz : Nat} {cs : List AV} (x : Seg h s sz cs) (e : s.nil = false) {q : Nat} {v : AV} (hq : cs[q]? = some v) : cellAt h s.i (s.o + q) = some v := by
  obtain ⟨c, hc, h1, h2⟩ := x.src e
  unfold cellAt; rw [hc]
  show c[s.o + q]? = _
  have hl : q < s.len * sz := by
    have := (List.getElem?_eq_some_iff.1 hq).1
    rw [x.len, SL.n_of e] at this; exact this
  rw [← h1, List.getElem?_take_of_lt hl, List.getElem?_drop] at hq
  exact hq
theorem Seg.zsrc {h : Heap} {s : SL} {sz : Nat} {cs : List AV} {K : List AV → Prop} (x : Seg h s sz cs) (k : K cs) : ZSrc h s sz K :=
  ⟨cs, fun e => x.nil_cs e, fun e => x.src e, k⟩
theorem Seg.nil (h : Heap) (sz : Nat) (ext : Bool) : Seg h ⟨true, 0, 0, 0, 0, ext⟩ sz [] := ⟨by simp [SL.n], fun e => (by cases e), fun e => (by cases e)⟩
theorem Seg.own {h : Heap} {i n cap : Nat} {ext : Bool} {cs more : List AV} {sz e : Nat} {g m : Bool} (hl : cs.length = n * sz) (hi : i < h.next) (hg : h.get i = some (.cells (cs ++ more) e g m)) : Seg h ⟨false, i, 0, n, cap, ext⟩ sz cs :=
  ⟨hl, fun _ => hi, fun _ => ⟨_, cellsAt_of hg, by rw [List.drop_zero]; show List.take (n * sz) _ = _; rw [← hl, List.take_left], by rw [List.drop_zero, List.length_append]; show n * sz ≤ _; omega⟩⟩
theorem Grown.seg {h0 h : Heap} {s : SL} {sz n : Nat} {cs : List AV} (g : Grown h0 h s sz n cs) : Seg h s sz cs := by
  obtain ⟨hl, g⟩ := g
  rcases g with ⟨rfl, rfl⟩ | ⟨h1, h2, h3, h4, h5, h6, h7, h8⟩
  · have : cs = [] := List.eq_nil_of_length_eq_zero (by rw [hl]; simp)
    subst this
    exact Seg.nil _ _ _
  · obtain ⟨nil, i, o, len, cap, ext⟩ := s
    simp only at h1 h2 h3 h4 h5 h6 h7 h8
    subst h1; subst h2; subst h3
    exact Seg.own (more := []) hl h7 (by rw [List.append_nil]; exact h8)
theorem Grown.n_eq {h0 h : Heap} {s : SL} {sz n : Nat} {cs : List AV} (g : Grown h0 h s sz n cs) : s.n = n := by
  rcases g.2 with ⟨rfl, rfl⟩ | ⟨h1, _, h3, _⟩
  · rfl
  · rw [SL.n_of h1]; exact h3
theorem Grown.fr {h0 h h' : Heap} {s : SL} {sz n : Nat} {cs : List AV} (g : Grown h0 h s sz n cs) {S : Nat → Prop} (f : Fram S h h') (hs : s.nil = false → ¬ S s.i) : Grown h0 h' s sz n cs := by
  refine ⟨g.1, g.2.imp id fun ⟨h1, h2, h3, h4, h5, h6, h7, h8⟩ => ⟨h1, h2, h3, h4, h5, h6, Nat.lt_of_lt_of_le h7 f.next, (f.same _ h7 (hs h1)).trans h8⟩⟩
structure Byts (h : Heap) (s : SL) (k : List Nat) : Prop where
  seg : Seg h s 1 (ofBytes k)
  byte : ∀ x, x ∈ k → x < 256
theorem ofBytes_length (l : List Nat) : (ofBytes l).length = l.length := by rw [ofBytes_eq, List.length_map]
theorem Byts.len {h : Heap} {s : SL} {k : List Nat} (x : Byts h s k) : s.n = k.length := by
  have := x.seg.len
  rw [ofBytes_length] at this; omega
theorem Byts.fr {h h' : Heap} {s : SL} {k : List Nat} {S : Nat → Prop} (x : Byts h s k) (f : Fram S h h') (hs : s.nil = false → ¬ S s.i) : Byts h' s k := ⟨x.seg.fr f hs, x.byte⟩
theorem Byts.zbytes {h : Heap} {s : SL} {k : List Nat} {K : List Nat → Prop} (x : Byts h s k) (hk : K k) : ZBytes h s K := by
  refine ⟨k, fun e => ?_, fun e => ?_, x.byte, hk⟩
  · have := x.seg.nil_cs e
    have h2 := ofBytes_length k
    rw [this] at h2
    exact List.eq_nil_of_length_eq_zero h2.symm
  · have := x.seg.src e
    rwa [Nat.mul_one] at this
theorem Byts.nil (h : Heap) (ext : Bool) : Byts h ⟨true, 0, 0, 0, 0, ext⟩ [] := ⟨Seg.nil h 1 ext, fun x hx => (by cases hx)⟩
theorem allPlain_bytes (l : List Nat) : allPlain (ofBytes l) = true := by
  rw [ofBytes_eq]
  induction l with
  | nil => rfl
  | cons x l ih => exact ih
theorem sl_plain (s : SL) : s.av.plainC = true := by
  unfold SL.av
  cases s.nil
  · rfl
  · cases s.ext <;> rfl
structure Rws {α : Type} (sz : Nat) (row : α → List AV) (Q : Heap → α → Prop) (h : Heap) (s : SL) (l : List α) : Prop where
  seg : Seg h s sz (l.flatMap row)
  rl : ∀ x, x ∈ l → (row x).length = sz
  ok : ∀ x, x ∈ l → Q h x
section
variable {α : Type} {sz : Nat} {row : α → List AV} {Q : Heap → α → Prop} {h h' : Heap} {s : SL} {l : List α}
theorem flat_length (hr : ∀ x, x ∈ l → (row x).length = sz) : (l.flatMap row).length = l.length * sz := by
  induction l with
  | nil => simp
  | cons x l ih => rw [List.flatMap_cons, List.length_append, hr x List.mem_cons_self, ih fun y hy => hr y (List.mem_cons_of_mem _ hy), List.length_cons, Nat.add_mul]; omega
theorem flat_at (hr : ∀ x, x ∈ l → (row x).length = sz) {j : Nat} {x : α} (hj : l[j]? = some x) {q : Nat} (hq : q < sz) : (l.flatMap row)[j * sz + q]? = (row x)[q]? := by
  induction l generalizing j with
  | nil => cases hj
  | cons y l ih =>
    have hy := hr y List.mem_cons_self
    rw [List.flatMap_cons]
    cases j with
    | zero =>
      cases hj
      rw [Nat.zero_mul, Nat.zero_add, List.getElem?_append_left (by omega)]
    | succ j =>
      rw [List.getElem?_append_right (by rw [hy, Nat.add_mul]; omega), hy, show (j + 1) * sz + q - sz = j * sz + q by rw [Nat.add_mul]; omega]
      exact ih (fun z hz => hr z (List.mem_cons_of_mem _ hz)) (by simpa using hj)
theorem Rws.len (hsz : 0 < sz) (x : Rws sz row Q h s l) : s.n = l.length := by
  have := x.seg.len
  rw [flat_length x.rl] at this
  exact (Nat.eq_of_mul_eq_mul_right hsz this).symm
theorem Rws.at' (x : Rws sz row Q h s l) (e : s.nil = false) {j : Nat} {y : α} (hj : l[j]? = some y) {q : Nat} (hq : q < sz) {v : AV} (hv : (row y)[q]? = some v) : cellAt h s.i (s.o + j * sz + q) = some v := by
  rw [Nat.add_assoc]
  exact x.seg.at' e (by rw [flat_at x.rl hj hq]; exact hv)
theorem Rws.nil_of (hsz : 0 < sz) (x : Rws sz row Q h s l) {j : Nat} (hj : j < l.length) : s.nil = false := by
  have := x.len hsz
  cases e : s.nil with
  | false => rfl
  | true => rw [SL.n_nil e] at this; omega
theorem Rws.len' (hsz : 0 < sz) (x : Rws sz row Q h s l) (e : s.nil = false) : s.len = l.length := by
  rw [← SL.n_of e]; exact x.len hsz
theorem Rws.fr {S : Nat → Prop} (x : Rws sz row Q h s l) (f : Fram S h h') (hs : s.nil = false → ¬ S s.i) (hq : ∀ y, y ∈ l → Q h y → Q h' y) : Rws sz row Q h' s l :=
  ⟨x.seg.fr f hs, x.rl, fun y hy => hq y hy (x.ok y hy)⟩
theorem Rws.nil (h : Heap) (ext : Bool) : Rws sz row Q h ⟨true, 0, 0, 0, 0, ext⟩ [] := ⟨Seg.nil _ _ _, fun _ hx => (by cases hx), fun _ hx => (by cases hx)⟩
theorem Grown.rws {h0 : Heap} {n : Nat} (g : Grown h0 h s sz n (l.flatMap row)) (rl : ∀ x, x ∈ l → (row x).length = sz) (ok : ∀ x, x ∈ l → Q h x) : Rws sz row Q h s l := ⟨g.seg, rl, ok⟩
end
structure Var (h : Heap) (i : Nat) (cs : List AV) : Prop where
  lt : i < h.next
  get : h.get i = some (.cells cs 0 false false)
section
variable {h : Heap} {i : Nat} {cs : List AV}
theorem Var.new (h : Heap) (cs : List AV) : Var (h.newO (.cells cs 0 false false)) h.next cs := ⟨Nat.lt_succ_self _, newO_get_self _ _⟩
theorem Var.fr {S : Nat → Prop} {h' : Heap} (x : Var h i cs) (f : Fram S h h') (hs : ¬ S i) : Var h' i cs := ⟨Nat.lt_of_lt_of_le x.lt f.next, (f.same _ x.lt hs).trans x.get⟩
theorem Var.cell (x : Var h i cs) (o : Nat) : cellAt h i o = cs[o]? := cellAt_of x.get
theorem Var.ldL (x : Var h i cs) {o : Nat} (s : SL) {K : SL → Prop} (e : cs[o]? = some s.av) (k : K s) : ZLdL h i o K := ⟨s, (x.cell o).trans e, k⟩
theorem Var.ldB (x : Var h i cs) {o : Nat} (b : Bool) {K : Bool → Prop} (e : cs[o]? = some (.bool b)) (k : K b) : ZLdB h i o K := ⟨b, (x.cell o).trans e, k⟩
theorem Var.ldP (x : Var h i cs) {o : Nat} (nil : Bool) (j p : Nat) {K : Bool → Nat → Nat → Prop} (e : cs[o]? = some (ZV.pv nil j p).av) (k : K nil j p) : ZLdP h i o K := ⟨nil, j, p, (x.cell o).trans e, k⟩
theorem Var.ldM (x : Var h i cs) {o : Nat} (nil : Bool) (j : Nat) {K : Bool → Nat → Prop} (e : cs[o]? = some (ZV.mp nil j).av) (k : K nil j) : ZLdM h i o K := ⟨nil, j, (x.cell o).trans e, k⟩
theorem Var.zput (x : Var h i cs) {o n : Nat} {A : Prop} (hn : o + n ≤ cs.length) (k : A) : ZPut h i o n A := ⟨⟨x.lt, cs, 0, false, false, x.get, hn⟩, k⟩
theorem Var.put (x : Var h i cs) (o : Nat) (vs : List AV) : Var (hput h i o vs) i (cs.take o ++ (vs ++ cs.drop (o + vs.length))) := by
  refine ⟨?_, hput_get x.get⟩
  unfold hput; rw [x.get]; exact x.lt
theorem Var.put_fr (x : Var h i cs) (o : Nat) (vs : List AV) : Fram (fun j => j = i) h (hput h i o vs) := Fram.hput h o vs fun _ => rfl
end
theorem Fram.back {S T : Nat → Prop} {h0 a b : Heap} (x : Fram T h0 a) (y : Fram S a b) (hs : ∀ i, i < h0.next → S i → T i) : Fram T h0 b :=
  ⟨Nat.le_trans x.next y.next, fun i hi ht => (y.same i (Nat.lt_of_lt_of_le hi x.next) fun h => ht (hs i hi h)).trans (x.same i hi ht)⟩
structure Own (h0 h : Heap) (s : SL) (k : List Nat) : Prop where
  byts : Byts h s k
  own : s.nil = false → h0.next ≤ s.i ∧ s.o = 0 ∧ ∃ e g, h.get s.i = some (.cells (ofBytes k) e g false)
theorem Own.fr {h0 h h' : Heap} {s : SL} {k : List Nat} {S : Nat → Prop} (x : Own h0 h s k) (f : Fram S h h') (hs : s.nil = false → ¬ S s.i) : Own h0 h' s k :=
  ⟨x.byts.fr f hs, fun e => by
    obtain ⟨h1, h2, a, b, h3⟩ := x.own e
    exact ⟨h1, h2, a, b, (f.same _ (x.byts.seg.lt e) (hs e)).trans h3⟩⟩
theorem Own.of {h0 h1 h : Heap} {s : SL} {k : List Nat} (x : Own h1 h s k) (hn : h0.next ≤ h1.next) : Own h0 h s k :=
  ⟨x.byts, fun e => by
    obtain ⟨h1, h2, h3⟩ := x.own e
    exact ⟨Nat.le_trans hn h1, h2, h3⟩⟩
theorem SL.isNil_nil {s : SL} (h : s.isNil = true) : s.nil = true := by
  unfold SL.isNil at h
  cases hn : s.nil with
  | true => rfl
  | false => rw [hn] at h; cases h
theorem app_new {P : Program} {h : Heap} {s : SL} {k : List Nat} {e : Nat} {Q : Heap → SL → Prop} (hb : Byts h s k) (hr : roomB P e k.length = true)
    (hk : ∀ h' s', Fram nowhere h h' → Own h h' s' k → Q h' s') :
    ZApp P (h.newO (.cells [] 1 false false)) ⟨false, h.next, 0, 0, 0, false⟩ e 1 s.n (ofBytes k) (Q (happ (h.newO (.cells [] 1 false false)) ⟨false, h.next, 0, 0, 0, false⟩ 1 s.n (ofBytes k)) (SL.app ⟨false, h.next, 0, 0, 0, false⟩ (h.newO (.cells [] 1 false false)).next s.n)) := by
  rw [hb.len]
  refine ⟨⟨fun _ => Nat.le_refl _, fun _ e => (by cases e), fun h1 _ h2 => ?_, fun _ _ => ?_, fun _ _ _ h => (by cases h), fun _ _ _ _ => ⟨[], cellsAt_of (newO_get_self _ _), by simp⟩⟩, allPlain_bytes k, ?_⟩
  · exact absurd h2 (by show ¬ 0 + k.length ≤ 0; omega)
  · show roomB P e (0 + k.length) = true
    rw [Nat.zero_add]; exact hr
  cases k with
  | nil =>
    refine hk _ _ (Fram.newO _ _ _) ⟨⟨Seg.own (cs := []) (more := []) (e := 1) (g := false) (m := false) (by rfl) (Nat.lt_succ_self _) (newO_get_self _ _), fun x hx => (by cases hx)⟩, fun _ => ⟨Nat.le_refl _, rfl, 1, false, newO_get_self _ _⟩⟩
  | cons x k =>
    have e1 : happ (h.newO (.cells [] 1 false false)) ⟨false, h.next, 0, 0, 0, false⟩ 1 (x :: k).length (ofBytes (x :: k)) = (h.newO (.cells [] 1 false false)).newO (.cells (ofBytes (x :: k)) 1 true false) := by
      unfold happ
      rw [show Nat.beq (x :: k).length 0 = false from rfl]
      simp only
      rw [show Nat.ble (0 + (x :: k).length) 0 = false by rw [Nat.zero_add]; rfl, newO_get_self]
      rfl
    have e2 : SL.app ⟨false, h.next, 0, 0, 0, false⟩ (h.newO (.cells [] 1 false false)).next (x :: k).length = ⟨false, h.next + 1, 0, (x :: k).length, (x :: k).length, true⟩ := by
      unfold SL.app
      rw [show Nat.beq (x :: k).length 0 = false from rfl]
      simp only
      rw [show Nat.ble (0 + (x :: k).length) 0 = false by rw [Nat.zero_add]; rfl, Nat.zero_add]
      rfl
    rw [e1, e2]
    refine hk _ _ ((Fram.newO _ _ _).trans (Fram.newO _ _ _)) ⟨⟨Seg.own (cs := ofBytes (x :: k)) (more := []) (e := 1) (g := true) (m := false) (by rw [ofBytes_length, Nat.mul_one]) (Nat.lt_succ_self _) (by rw [List.append_nil]; exact newO_get_self _ _), hb.byte⟩, fun _ => ⟨Nat.le_succ _, rfl, 1, true, newO_get_self _ _⟩⟩
end Go.X
namespace Go.X.Df
open Go.X
abbrev Ky := List Nat
structure En where
  k : Ky
  v : Ky
structure Ch where
  k : Ky
  had : Bool
  has : Bool
  old : Ky
  new : Ky
theorem lt_cons (x : Nat) (a : Ky) (y : Nat) (b : Ky) : bytesLt (x :: a) (y :: b) = cnd (ltb x y) true (cnd (Nat.beq x y) (bytesLt a b) false) := rfl
theorem lt_irr : ∀ a : Ky, bytesLt a a = false
  | [] => rfl
  | x :: a => by
    rw [lt_cons, ltb_false.2 (Nat.le_refl x), Nat.beq_refl]
    exact lt_irr a
theorem lt_spec {x : Nat} {a : Ky} {y : Nat} {b : Ky} : bytesLt (x :: a) (y :: b) = true ↔ x < y ∨ (x = y ∧ bytesLt a b = true) := by
  rw [lt_cons]
  cases h : ltb x y with
  | true => simp [ltb_iff.1 h]
  | false =>
    have := ltb_false.1 h
    rw [cnd_false]
    cases h2 : Nat.beq x y with
    | true =>
      have := Nat.eq_of_beq_eq_true h2
      subst this
      simp
    | false =>
      have hne : x ≠ y := fun e => by subst e; rw [Nat.beq_refl] at h2; cases h2
      rw [cnd_false]
      constructor
      · intro h; cases h
      · rintro (h | ⟨h, _⟩)
        · omega
        · exact absurd h hne
theorem lt_trans : ∀ {a b c : Ky}, bytesLt a b = true → bytesLt b c = true → bytesLt a c = true
  | [], [], _, h, _ => Bool.noConfusion (show false = true from h)
  | _ :: _, [], _, h, _ => Bool.noConfusion (show false = true from h)
  | [], _ :: _, [], _, h => Bool.noConfusion (show false = true from h)
  | [], _ :: _, _ :: _, _, _ => rfl
  | _ :: _, _ :: _, [], _, h => Bool.noConfusion (show false = true from h)
  | x :: a, y :: b, z :: c, h1, h2 => by
    rw [lt_spec] at h1 h2 ⊢
    rcases h1 with h1 | ⟨rfl, h1⟩
    · rcases h2 with h2 | ⟨rfl, _⟩
      · exact .inl (by omega)
      · exact .inl h1
    · rcases h2 with h2 | ⟨rfl, h2⟩
      · exact .inl h2
      · exact .inr ⟨rfl, lt_trans h1 h2⟩
theorem lt_tri : ∀ (a b : Ky), bytesLt a b = true ∨ a = b ∨ bytesLt b a = true
  | [], [] => .inr (.inl rfl)
  | [], _ :: _ => .inl rfl
  | _ :: _, [] => .inr (.inr rfl)
  | x :: a, y :: b => by
    rcases Nat.lt_trichotomy x y with h | h | h
    · exact .inl (lt_spec.2 (.inl h))
    · subst h
      rcases lt_tri a b with h | h | h
      · exact .inl (lt_spec.2 (.inr ⟨rfl, h⟩))
      · exact .inr (.inl (by rw [h]))
      · exact .inr (.inr (lt_spec.2 (.inr ⟨rfl, h⟩)))
    · exact .inr (.inr (lt_spec.2 (.inl h)))
theorem lt_asymm {a b : Ky} (h : bytesLt a b = true) : bytesLt b a = false := by
  cases h2 : bytesLt b a with
  | false => rfl
  | true => have := lt_trans h h2; rw [lt_irr] at this; cases this
theorem lt_ne {a b : Ky} (h : bytesLt a b = true) : a ≠ b := fun e => by subst e; rw [lt_irr] at h; cases h
def Rise {α : Type} (key : α → Ky) (l : List α) : Prop := l.Pairwise fun a b => bytesLt (key a) (key b) = true
section
variable {β : Type}
def look (l : List (Ky × β)) (k : Ky) : Option β := match l with | [] => none | e :: r => if e.1 = k then some e.2 else look r k
noncomputable def put (l : List (Ky × β)) (k : Ky) (v : β) : List (Ky × β) := match l with
  | [] => [(k, v)]
  | e :: r => if e.1 = k then (k, v) :: r else if bytesLt k e.1 then (k, v) :: e :: r else e :: put r k v
def del (l : List (Ky × β)) (k : Ky) : List (Ky × β) := match l with | [] => [] | e :: r => if e.1 = k then r else e :: del r k
end
noncomputable def step (m : List (Ky × Ky)) (c : Ch) : Option (List (Ky × Ky)) :=
  match look m c.k with
  | none => if c.had = true then none else some (if c.has = true then put m c.k c.new else m)
  | some v => if c.had = true ∧ v = c.old then some (if c.has = true then put m c.k c.new else del m c.k) else none
noncomputable def steps (m : List (Ky × Ky)) (l : List Ch) : Option (List (Ky × Ky)) := match l with
  | [] => some m
  | c :: r => (step m c).bind fun m' => steps m' r
def chD (x : Ky × Ky) : Ch := ⟨x.1, true, false, x.2, []⟩
def chI (y : Ky × Ky) : Ch := ⟨y.1, false, true, [], y.2⟩
def chR (x y : Ky × Ky) : Ch := ⟨x.1, true, true, x.2, y.2⟩
noncomputable def diff : List (Ky × Ky) → List (Ky × Ky) → List Ch
  | [], [] => []
  | x :: a, [] => chD x :: diff a []
  | [], y :: b => chI y :: diff [] b
  | x :: a, y :: b =>
    if bytesLt x.1 y.1 = true then chD x :: diff a (y :: b)
    else if x.1 = y.1 then (if x.2 = y.2 then diff a b else chR x y :: diff a b)
    else chI y :: diff (x :: a) b
termination_by a b => a.length + b.length
def back (c : Ch) : Ch := ⟨c.k, c.has, c.had, c.new, c.old⟩
abbrev Up (l : List (Ky × Ky)) : Prop := Rise Prod.fst l
theorem Up.tail {x : Ky × Ky} {l : List (Ky × Ky)} (h : Up (x :: l)) : Up l := (List.pairwise_cons.1 h).2
theorem diff_self : ∀ a : List (Ky × Ky), diff a a = []
  | [] => by unfold diff; rfl
  | x :: a => by
    unfold diff
    rw [if_neg (by rw [lt_irr]; simp), if_pos rfl, if_pos rfl]
    exact diff_self a
theorem back_diff : ∀ (a b : List (Ky × Ky)), (diff a b).map back = diff b a
  | [], [] => by unfold diff; rfl
  | x :: a, [] => by
    have := back_diff a []
    rw [diff, diff, List.map_cons, this]; rfl
  | [], y :: b => by
    have := back_diff [] b
    rw [diff, diff, List.map_cons, this]; rfl
  | x :: a, y :: b => by
    rw [diff, diff.eq_4 y b x a]
    rcases lt_tri x.1 y.1 with h | h | h
    · rw [if_pos h, if_neg (by rw [lt_asymm h]; simp), if_neg (lt_ne h).symm, List.map_cons, back_diff a (y :: b)]; rfl
    · have e1 : ¬ bytesLt x.1 y.1 = true := by rw [h, lt_irr]; simp
      have e2 : ¬ bytesLt y.1 x.1 = true := by rw [h, lt_irr]; simp
      rw [if_neg e1, if_neg e2, if_pos h, if_pos h.symm]
      by_cases e : x.2 = y.2
      · rw [if_pos e, if_pos e.symm]; exact back_diff a b
      · rw [if_neg e, if_neg (Ne.symm e), List.map_cons, back_diff a b]
        simp only [back, chR, h]
    · rw [if_neg (by rw [lt_asymm h]; simp), if_neg (lt_ne h).symm, if_pos h, List.map_cons, back_diff (x :: a) b]; rfl
termination_by a b => a.length + b.length
theorem look_mid {β : Type} {p r : List (Ky × β)} {k : Ky} (hp : ∀ e, e ∈ p → bytesLt e.1 k = true) : look (p ++ r) k = look r k := by
  induction p with
  | nil => rfl
  | cons e p ih =>
    show (if e.1 = k then some e.2 else look (p ++ r) k) = _
    rw [if_neg (lt_ne (hp e List.mem_cons_self)), ih fun x hx => hp x (List.mem_cons_of_mem _ hx)]
theorem look_above {β : Type} {r : List (Ky × β)} {k : Ky} (hr : ∀ e, e ∈ r → bytesLt k e.1 = true) : look r k = none := by
  induction r with
  | nil => rfl
  | cons e r ih =>
    show (if e.1 = k then some e.2 else look r k) = none
    rw [if_neg (lt_ne (hr e List.mem_cons_self)).symm, ih fun x hx => hr x (List.mem_cons_of_mem _ hx)]
theorem put_mid {β : Type} {p r : List (Ky × β)} {k : Ky} {v : β} (hp : ∀ e, e ∈ p → bytesLt e.1 k = true) : put (p ++ r) k v = p ++ put r k v := by
  induction p with
  | nil => rfl
  | cons e p ih =>
    have h := hp e List.mem_cons_self
    show (if e.1 = k then (k, v) :: (p ++ r) else if bytesLt k e.1 then (k, v) :: e :: (p ++ r) else e :: put (p ++ r) k v) = _
    rw [if_neg (lt_ne h), if_neg (by rw [lt_asymm h]; simp), ih fun x hx => hp x (List.mem_cons_of_mem _ hx)]; rfl
theorem put_above {β : Type} {r : List (Ky × β)} {k : Ky} {v : β} (hr : ∀ e, e ∈ r → bytesLt k e.1 = true) : put r k v = (k, v) :: r := by
  cases r with
  | nil => rfl
  | cons e r =>
    have h := hr e List.mem_cons_self
    show (if e.1 = k then (k, v) :: r else if bytesLt k e.1 then (k, v) :: e :: r else e :: put r k v) = _
    rw [if_neg (lt_ne h).symm, if_pos h]
theorem del_mid {β : Type} {p r : List (Ky × β)} {k : Ky} (hp : ∀ e, e ∈ p → bytesLt e.1 k = true) : del (p ++ r) k = p ++ del r k := by
  induction p with
  | nil => rfl
  | cons e p ih =>
    show (if e.1 = k then p ++ r else e :: del (p ++ r) k) = _
    rw [if_neg (lt_ne (hp e List.mem_cons_self)), ih fun x hx => hp x (List.mem_cons_of_mem _ hx)]; rfl
theorem Up.below {p r : List (Ky × Ky)} {x : Ky × Ky} (h : Up (p ++ x :: r)) : ∀ e, e ∈ p → bytesLt e.1 x.1 = true := fun e he =>
  (List.pairwise_append.1 h).2.2 e he x List.mem_cons_self
theorem Up.above {p r : List (Ky × Ky)} {x : Ky × Ky} (h : Up (p ++ x :: r)) : ∀ e, e ∈ r → bytesLt x.1 e.1 = true := fun e he =>
  (List.pairwise_cons.1 (List.pairwise_append.1 h).2.1).1 e he
theorem Up.drop1 {p r : List (Ky × Ky)} {x : Ky × Ky} (h : Up (p ++ x :: r)) : Up (p ++ r) := by
  obtain ⟨h1, h2, h3⟩ := List.pairwise_append.1 h
  exact List.pairwise_append.2 ⟨h1, (List.pairwise_cons.1 h2).2, fun a ha b hb => h3 a ha b (List.mem_cons_of_mem _ hb)⟩
theorem Up.shift {p r : List (Ky × Ky)} {x : Ky × Ky} (h : Up (p ++ x :: r)) : Up ((p ++ [x]) ++ r) := by simpa using h
theorem steps_diff : ∀ (a b p : List (Ky × Ky)), Up (p ++ a) → Up (p ++ b) → steps (p ++ a) (diff a b) = some (p ++ b)
  | [], [], p, _, _ => by unfold diff; rfl
  | x :: a, [], p, ha, hb => by
    rw [diff]
    have hl : look (p ++ x :: a) x.1 = some x.2 := by
      rw [look_mid ha.below]
      show (if x.1 = x.1 then some x.2 else _) = _
      rw [if_pos rfl]
    have hd : del (p ++ x :: a) x.1 = p ++ a := by
      rw [del_mid ha.below]
      show p ++ (if x.1 = x.1 then a else _) = _
      rw [if_pos rfl]
    have hs : step (p ++ x :: a) (chD x) = some (p ++ a) := by
      unfold step chD
      simp only [hl, hd, and_self, if_true, Bool.false_eq_true, if_false]
    show (step (p ++ x :: a) (chD x)).bind _ = _
    rw [hs, Option.bind_some]
    exact steps_diff a [] p ha.drop1 hb
  | [], y :: b, p, ha, hb => by
    rw [diff]
    have hl : look (p ++ []) y.1 = none := by rw [look_mid hb.below]; rfl
    have hp : put (p ++ []) y.1 y.2 = (p ++ [y]) ++ [] := by rw [put_mid hb.below]; simp [put]
    have hs : step (p ++ []) (chI y) = some ((p ++ [y]) ++ []) := by
      unfold step chI
      simp only [hl, hp, Bool.false_eq_true, if_false, if_true]
    show (step (p ++ []) (chI y)).bind _ = _
    rw [hs, Option.bind_some]
    have := steps_diff [] b (p ++ [y]) (by
      have := hb.shift
      rw [List.append_nil]
      exact (List.pairwise_append.1 this).1) hb.shift
    rw [this]; simp
  | x :: a, y :: b, p, ha, hb => by
    rw [diff]
    rcases lt_tri x.1 y.1 with h | h | h
    · rw [if_pos h]
      have hl : look (p ++ x :: a) x.1 = some x.2 := by
        rw [look_mid ha.below]
        show (if x.1 = x.1 then some x.2 else _) = _
        rw [if_pos rfl]
      have hd : del (p ++ x :: a) x.1 = p ++ a := by
        rw [del_mid ha.below]
        show p ++ (if x.1 = x.1 then a else _) = _
        rw [if_pos rfl]
      have hs : step (p ++ x :: a) (chD x) = some (p ++ a) := by
        unfold step chD
        simp only [hl, hd, and_self, if_true, Bool.false_eq_true, if_false]
      show (step (p ++ x :: a) (chD x)).bind _ = _
      rw [hs, Option.bind_some]
      exact steps_diff a (y :: b) p ha.drop1 hb
    · rw [if_neg (by rw [h, lt_irr]; simp), if_pos h]
      by_cases e : x.2 = y.2
      · rw [if_pos e]
        have exy : x = y := Prod.ext h e
        subst exy
        have := steps_diff a b (p ++ [x]) ha.shift hb.shift
        simpa using this
      · rw [if_neg e]
        have hl : look (p ++ x :: a) x.1 = some x.2 := by
          rw [look_mid ha.below]
          show (if x.1 = x.1 then some x.2 else _) = _
          rw [if_pos rfl]
        have hp : put (p ++ x :: a) x.1 y.2 = (p ++ [y]) ++ a := by
          rw [put_mid ha.below]
          show p ++ (if x.1 = x.1 then (x.1, y.2) :: a else _) = _
          rw [if_pos rfl, h]; simp
        have hs : step (p ++ x :: a) (chR x y) = some ((p ++ [y]) ++ a) := by
          unfold step chR
          simp only [hl, hp, and_self, if_true]
        show (step (p ++ x :: a) (chR x y)).bind _ = _
        rw [hs, Option.bind_some]
        have := steps_diff a b (p ++ [y]) (by
          obtain ⟨h1, h2, h3⟩ := List.pairwise_append.1 ha
          obtain ⟨h4, h5⟩ := List.pairwise_cons.1 h2
          have : Up (p ++ y :: a) := List.pairwise_append.2 ⟨h1, List.pairwise_cons.2 ⟨fun z hz => by rw [← h]; exact h4 z hz, h5⟩, fun u hu z hz => by
            rcases List.mem_cons.1 hz with e | e
            · subst e; rw [← h]; exact h3 u hu x List.mem_cons_self
            · exact h3 u hu z (List.mem_cons_of_mem _ e)⟩
          exact this.shift) hb.shift
        rw [this]; simp
    · rw [if_neg (by rw [lt_asymm h]; simp), if_neg (lt_ne h).symm]
      have hab : ∀ e, e ∈ x :: a → bytesLt y.1 e.1 = true := fun e he => by
        rcases List.mem_cons.1 he with e1 | e1
        · subst e1; exact h
        · exact lt_trans h (ha.above e e1)
      have hl : look (p ++ x :: a) y.1 = none := by rw [look_mid hb.below, look_above hab]
      have hp : put (p ++ x :: a) y.1 y.2 = (p ++ [y]) ++ x :: a := by rw [put_mid hb.below, put_above hab]; simp
      have hs : step (p ++ x :: a) (chI y) = some ((p ++ [y]) ++ x :: a) := by
        unfold step chI
        simp only [hl, hp, Bool.false_eq_true, if_false, if_true]
      show (step (p ++ x :: a) (chI y)).bind _ = _
      rw [hs, Option.bind_some]
      have := steps_diff (x :: a) b (p ++ [y]) (by
        obtain ⟨h1, h2, h3⟩ := List.pairwise_append.1 ha
        have : Up (p ++ y :: x :: a) := List.pairwise_append.2 ⟨h1, List.pairwise_cons.2 ⟨hab, h2⟩, fun u hu z hz => by
          rcases List.mem_cons.1 hz with e | e
          · subst e; exact hb.below u hu
          · exact h3 u hu z e⟩
        exact this.shift) hb.shift
      rw [this]; simp
termination_by a b => a.length + b.length
end Go.X.Df
namespace Go.X.Df
open Go.X
theorem toNat_ofNat_u8 {x : Nat} (h : x < 256) : (UInt8.ofNat x).toNat = x := by
  rw [UInt8.toNat_ofNat']; omega
theorem u8_back {s : List Nat} (h : ∀ x, x ∈ s → x < 256) : (u8s s).map UInt8.toNat = s := by
  induction s with
  | nil => rfl
  | cons x s ih =>
    show (UInt8.ofNat x).toNat :: (u8s s).map UInt8.toNat = _
    rw [toNat_ofNat_u8 (h x List.mem_cons_self), ih fun y hy => h y (List.mem_cons_of_mem _ hy)]
theorem u8s_lt : ∀ {a b : List Nat}, (∀ x, x ∈ a → x < 256) → (∀ x, x ∈ b → x < 256) → bytesLt a b = true → u8s a < u8s b
  | [], [], _, _, h => Bool.noConfusion (show false = true from h)
  | _ :: _, [], _, _, h => Bool.noConfusion (show false = true from h)
  | [], y :: b, _, _, _ => List.nil_lt_cons _ _
  | x :: a, y :: b, ha, hb, h => by
    rw [lt_spec] at h
    show (UInt8.ofNat x :: u8s a) < (UInt8.ofNat y :: u8s b)
    rw [List.cons_lt_cons_iff]
    have hx := ha x List.mem_cons_self
    have hy := hb y List.mem_cons_self
    rcases h with h | ⟨rfl, h⟩
    · refine .inl ?_
      rw [UInt8.lt_iff_toNat_lt, toNat_ofNat_u8 hx, toNat_ofNat_u8 hy]; exact h
    · exact .inr ⟨rfl, u8s_lt (fun z hz => ha z (List.mem_cons_of_mem _ hz)) (fun z hz => hb z (List.mem_cons_of_mem _ hz)) h⟩
theorem strSort_eq {l ks : List (List Nat)} (hp : l.Perm ks) (hr : ks.Pairwise fun a b => bytesLt a b = true) (hb : ∀ s, s ∈ ks → ∀ x, x ∈ s → x < 256) : strSort l = ks := by
  have e1 : (l.map u8s).mergeSort (fun x y => decide (x ≤ y)) = ks.map u8s := by
    refine List.Perm.eq_of_pairwise (le := fun x y : List UInt8 => x ≤ y) (fun a b _ _ h1 h2 => Std.le_antisymm h1 h2) ?_ ?_ ?_
    · have := List.pairwise_mergeSort (le := fun x y : List UInt8 => decide (x ≤ y)) (fun a b c h1 h2 => by
        simp only [decide_eq_true_eq] at h1 h2 ⊢; exact Std.le_trans h1 h2) (fun a b => by
        simp only [Bool.or_eq_true, decide_eq_true_eq]; exact Std.le_total) (l.map u8s)
      exact this.imp fun h => by simpa using h
    · rw [List.pairwise_map]
      refine hr.imp_of_mem fun {a b} ha hb' h => ?_
      exact Std.le_of_lt (u8s_lt (hb a ha) (hb b hb') h)
    · exact (List.mergeSort_perm _ _).trans (hp.map _)
  unfold strSort
  rw [e1, List.map_map]
  exact (List.map_congr_left (g := id) fun s hs => u8_back (hb s hs)).trans (List.map_id _)
theorem strs_map (l : List (List Nat)) : strs (l.map AV.str) = l := by
  induction l with
  | nil => rfl
  | cons x l ih => show x :: strs (l.map AV.str) = _; rw [ih]
theorem eqAV_str (a b : List Nat) : eqAV (.str a) (.str b) = decide (a = b) := by
  cases h : eqAV (.str a) (.str b) with
  | true =>
    have := eqAV_eq _ _ h
    cases this
    simp
  | false =>
    refine (decide_eq_false fun e => ?_).symm
    subst e
    have : eqNs a a = false := h
    have h2 : ∀ l : List Nat, eqNs l l = true := fun l => by
      induction l with
      | nil => rfl
      | cons x l ih =>
        show cnd (Nat.beq x x) (eqNs l l) false = true
        rw [Nat.beq_refl, ih]; rfl
    rw [h2] at this; cases this
theorem keyLt_str (a b : List Nat) : keyLt (.str a) (.str b) = bytesLt a b := rfl
section
variable {β : Type} (av : β → AV)
def mrows (m : List (Ky × β)) : List (AV × AV) := m.map fun e => (.str e.1, av e.2)
variable {av}
theorem mrows_fit (m : List (Ky × β)) (k : Ky) : keysFit (mrows av m) (.str k) = true := by
  induction m with
  | nil => rfl
  | cons e m ih => exact ih
theorem mlook_rows {m : List (Ky × β)} {k : Ky} : mlook (mrows av m) (.str k) = (look m k).map av := by
  induction m with
  | nil => rfl
  | cons e m ih =>
    show (match eqAV (.str k) (.str e.1) with | true => some (av e.2) | false => mlook (mrows av m) (.str k)) = (if e.1 = k then some e.2 else look m k).map av
    rw [eqAV_str]
    by_cases h : e.1 = k
    · rw [if_pos h, decide_eq_true h.symm]; rfl
    · rw [if_neg h, decide_eq_false (Ne.symm h)]; exact ih
theorem minsert_rows {k : Ky} {v : β} : ∀ {m : List (Ky × β)}, look m k = none → minsert (.str k) (av v) (mrows av m) = mrows av (put m k v)
  | [], _ => rfl
  | e :: m, h => by
    have h1 : (if e.1 = k then some e.2 else look m k) = none := h
    by_cases hk : e.1 = k
    · rw [if_pos hk] at h1; cases h1
    · rw [if_neg hk] at h1
      show (match keyLt (.str k) (.str e.1) with | true => (.str k, av v) :: (.str e.1, av e.2) :: mrows av m | false => (.str e.1, av e.2) :: minsert (.str k) (av v) (mrows av m)) = mrows av (if e.1 = k then (k, v) :: m else if bytesLt k e.1 then (k, v) :: e :: m else e :: put m k v)
      rw [if_neg hk, keyLt_str, minsert_rows h1]
      cases bytesLt k e.1 <;> rfl
theorem mreplace_rows {k : Ky} {v : β} : ∀ {m : List (Ky × β)}, Rise Prod.fst m → look m k ≠ none → mreplace (.str k) (av v) (mrows av m) = mrows av (put m k v)
  | [], _, h => absurd rfl h
  | e :: m, hr, h => by
    have h1 : (if e.1 = k then some e.2 else look m k) ≠ none := h
    show (match eqAV (.str k) (.str e.1) with | true => (.str k, av v) :: mrows av m | false => (.str e.1, av e.2) :: mreplace (.str k) (av v) (mrows av m)) = mrows av (if e.1 = k then (k, v) :: m else if bytesLt k e.1 then (k, v) :: e :: m else e :: put m k v)
    rw [eqAV_str]
    by_cases hk : e.1 = k
    · rw [if_pos hk, decide_eq_true hk.symm]; rfl
    · rw [if_neg hk] at h1
      rw [if_neg hk, decide_eq_false (Ne.symm hk)]
      obtain ⟨h2, h3⟩ := List.pairwise_cons.1 hr
      cases hlt : bytesLt k e.1 with
      | true =>
        refine absurd (look_above fun x hx => ?_) h1
        exact lt_trans hlt (h2 x hx)
      | false =>
        rw [mreplace_rows h3 h1]; rfl
theorem mset_rows {m : List (Ky × β)} {k : Ky} {v : β} (hr : Rise Prod.fst m) : mset (.str k) (av v) (mrows av m) = mrows av (put m k v) := by
  unfold mset
  rw [mlook_rows]
  cases h : look m k with
  | none => exact minsert_rows h
  | some w => exact mreplace_rows hr (by rw [h]; simp)
theorem mdelete_rows {k : Ky} : ∀ {m : List (Ky × β)}, mdelete (.str k) (mrows av m) = mrows av (del m k)
  | [] => rfl
  | e :: m => by
    show (match eqAV (.str k) (.str e.1) with | true => mrows av m | false => (.str e.1, av e.2) :: mdelete (.str k) (mrows av m)) = mrows av (if e.1 = k then m else e :: del m k)
    rw [eqAV_str]
    by_cases hk : e.1 = k
    · rw [if_pos hk, decide_eq_true hk.symm]
    · rw [if_neg hk, decide_eq_false (Ne.symm hk), mdelete_rows]; rfl
theorem put_mem {m : List (Ky × β)} {k : Ky} {v : β} {x : Ky × β} (h : x ∈ put m k v) : x = (k, v) ∨ x ∈ m := by
  induction m with
  | nil => exact .inl (List.mem_singleton.1 h)
  | cons e m ih =>
    have h : x ∈ (if e.1 = k then (k, v) :: m else if bytesLt k e.1 then (k, v) :: e :: m else e :: put m k v) := h
    split at h
    · rcases List.mem_cons.1 h with h | h
      · exact .inl h
      · exact .inr (List.mem_cons_of_mem _ h)
    · split at h
      · rcases List.mem_cons.1 h with h | h
        · exact .inl h
        · exact .inr h
      · rcases List.mem_cons.1 h with h | h
        · exact .inr (by rw [h]; exact List.mem_cons_self)
        · exact (ih h).imp id fun h => List.mem_cons_of_mem _ h
theorem del_sub (m : List (Ky × β)) (k : Ky) : (del m k).Sublist m := by
  induction m with
  | nil => exact .slnil
  | cons e m ih =>
    show (if e.1 = k then m else e :: del m k).Sublist (e :: m)
    split
    · exact .cons _ (List.Sublist.refl _)
    · exact .cons_cons _ ih
theorem put_rise {m : List (Ky × β)} {k : Ky} {v : β} (hr : Rise Prod.fst m) : Rise Prod.fst (put m k v) := by
  induction m with
  | nil => exact List.pairwise_singleton _ _
  | cons e m ih =>
    obtain ⟨h2, h3⟩ := List.pairwise_cons.1 hr
    show Rise Prod.fst (if e.1 = k then (k, v) :: m else if bytesLt k e.1 then (k, v) :: e :: m else e :: put m k v)
    split
    · rename_i hk
      exact List.pairwise_cons.2 ⟨fun x hx => by have := h2 x hx; rw [hk] at this; exact this, h3⟩
    · rename_i hk
      split
      · rename_i hlt
        refine List.pairwise_cons.2 ⟨fun x hx => ?_, hr⟩
        rcases List.mem_cons.1 hx with hx | hx
        · rw [hx]; exact hlt
        · exact lt_trans hlt (h2 x hx)
      · rename_i hlt
        refine List.pairwise_cons.2 ⟨fun x hx => ?_, ih h3⟩
        rcases put_mem hx with hx | hx
        · rw [hx]
          rcases lt_tri e.1 k with h | h | h
          · exact h
          · exact absurd h hk
          · rw [h] at hlt; exact absurd rfl hlt
        · exact h2 x hx
theorem del_rise {m : List (Ky × β)} {k : Ky} (hr : Rise Prod.fst m) : Rise Prod.fst (del m k) := hr.sublist (del_sub m k)
end
end Go.X.Df
namespace Go.X
open Go Go.RowKit Go.ChangeShapes Go.WideShapes
section
variable {H : Type} {enc : TypeId × Value → H} {P : Program} {W : World} {base : Nat} {sp : Nat → Bool} {held : Bool}
theorem trod_u8 {e : TypeId} (he : P.underlying e = some (.int .u8)) {u : Value} {fuel : Nat} {x : DataW H × List MemPlace} (h : DataW.trod enc P W 0 (fun _ => true) held fuel e [u] = some x) :
    ∃ n : Nat, u = .int .u8 (.ofNat n) ∧ n < 256 := by
  cases fuel with
  | zero => simp [DataW.trod] at h
  | succ m =>
    unfold DataW.trod at h
    rw [he] at h
    cases u <;> simp at h
    rename_i q n
    obtain ⟨⟨rfl, hw⟩, rfl⟩ := h
    obtain ⟨h1, h2⟩ := bounds_u8 hw
    obtain ⟨m, rfl⟩ := Int.eq_ofNat_of_zero_le h1
    exact ⟨m, rfl, by omega⟩
def valB : List Value → Nat
  | [.int _ n] => n.toNat
  | _ => 0
theorem abs_bytes {t e : TypeId} (ht : P.underlying t = some (.slice e)) (he : P.underlying e = some (.int .u8)) (hc : P.cellsOf e = 1) {v : Value} {fuel : Nat} {x : DataW H × List MemPlace}
    (h : DataW.trod enc P W 0 (fun _ => true) held fuel t [v] = some x) :
    ∃ (s : SL) (k : List Nat), absV W.heap.size v = s.av ∧ Byts (absH W) s k ∧ ((x.1 = .nil ∧ k = []) ∨ ∃ es r, x.1 = .slice es r ∧ es.length = k.length) := by
  obtain ⟨s, rows, m, hv, hn, hcell, hrow, hx⟩ := abs_rows ht hc (by decide) h
  have hone : ∀ r, r ∈ rows → ∃ n : Nat, r.1 = [.int .u8 (.ofNat n)] ∧ n < 256 := fun r hr => by
    obtain ⟨h1, p, h2⟩ := hrow r hr
    match hr1 : r.1, h1 with
    | [u], _ =>
      rw [hr1] at h2
      obtain ⟨n, rfl, h3⟩ := trod_u8 he h2
      exact ⟨n, rfl, h3⟩
  refine ⟨s, rows.map fun r => valB r.1, hv, ⟨⟨by rw [ofBytes_length, List.length_map, Nat.mul_one]; exact hn.symm, fun e => (hcell e).1, fun e => ?_⟩, ?_⟩, ?_⟩
  · obtain ⟨hlt, c, el, f, hb, hq⟩ := hcell e
    refine ⟨c.toList.map (absV W.heap.size), by unfold cellsAt; rw [absH_cells hb], ?_⟩
    have hlen : s.len = rows.length := by unfold SL.n at hn; rw [e] at hn; exact hn
    have := take_drop_of (c := c.toList.map (absV W.heap.size)) (l := ofBytes (rows.map fun r => valB r.1)) (o := s.o) fun j y hy => by
      rw [ofBytes_eq, List.getElem?_map, List.getElem?_map, Option.map_map] at hy
      obtain ⟨r, hr, rfl⟩ := Option.map_eq_some_iff.1 hy
      obtain ⟨u, hu, hcu⟩ := hq j r hr 0 (by decide)
      obtain ⟨n, h1, _⟩ := hone r (List.mem_of_getElem? hr)
      rw [h1] at hu
      cases hu
      rw [Nat.mul_one, Nat.add_zero] at hcu
      rw [List.getElem?_map, Array.getElem?_toList, hcu]
      show some (absV W.heap.size (.int .u8 (.ofNat n))) = some (AV.int .u8 (.ofNat (valB r.1)))
      rw [absV_int, h1]; rfl
    rw [ofBytes_length, List.length_map, ← hlen] at this
    rw [Nat.mul_one]
    exact this
  · intro n hn
    obtain ⟨r, hr, rfl⟩ := List.mem_map.1 hn
    obtain ⟨n, h1, h2⟩ := hone r hr
    rw [h1]; exact h2
  · rcases hx with ⟨h1, h2⟩ | ⟨sp, h1⟩
    · exact .inl ⟨h1, by rw [h2]; rfl⟩
    · exact .inr ⟨_, _, h1, by rw [List.length_map, List.length_map]⟩
end
end Go.X
namespace Go.X.Df
open Go.X
def Good (c : Ch) : Prop := (c.had = true ∨ c.has = true) ∧ (c.had = true → c.has = true → c.old ≠ c.new) ∧ (c.had = false → c.old = []) ∧ (c.has = false → c.new = [])
theorem diff_good : ∀ (a b : List (Ky × Ky)) (c : Ch), c ∈ diff a b → Good c
  | [], [], c, h => by rw [diff] at h; cases h
  | x :: a, [], c, h => by
    rw [diff] at h
    rcases List.mem_cons.1 h with h | h
    · subst h; exact ⟨.inl rfl, fun _ h => (by cases h), fun h => (by cases h), fun _ => rfl⟩
    · exact diff_good a [] c h
  | [], y :: b, c, h => by
    rw [diff] at h
    rcases List.mem_cons.1 h with h | h
    · subst h; exact ⟨.inr rfl, fun h => (by cases h), fun _ => rfl, fun h => (by cases h)⟩
    · exact diff_good [] b c h
  | x :: a, y :: b, c, h => by
    rw [diff] at h
    split at h
    · rcases List.mem_cons.1 h with h | h
      · subst h; exact ⟨.inl rfl, fun _ h => (by cases h), fun h => (by cases h), fun _ => rfl⟩
      · exact diff_good a (y :: b) c h
    · split at h
      · split at h
        · exact diff_good a b c h
        · rename_i hne
          rcases List.mem_cons.1 h with h | h
          · subst h; exact ⟨.inl rfl, fun _ _ => hne, fun h => (by cases h), fun h => (by cases h)⟩
          · exact diff_good a b c h
      · rcases List.mem_cons.1 h with h | h
        · subst h; exact ⟨.inr rfl, fun h => (by cases h), fun _ => rfl, fun h => (by cases h)⟩
        · exact diff_good (x :: a) b c h
termination_by a b => a.length + b.length
theorem diff_keys : ∀ (a b : List (Ky × Ky)) (c : Ch), c ∈ diff a b → (∃ x, x ∈ a ∧ c.k = x.1) ∨ (∃ y, y ∈ b ∧ c.k = y.1)
  | [], [], c, h => by rw [diff] at h; cases h
  | x :: a, [], c, h => by
    rw [diff] at h
    rcases List.mem_cons.1 h with h | h
    · subst h; exact .inl ⟨x, List.mem_cons_self, rfl⟩
    · rcases diff_keys a [] c h with ⟨z, hz, e⟩ | ⟨z, hz, e⟩
      · exact .inl ⟨z, List.mem_cons_of_mem _ hz, e⟩
      · exact .inr ⟨z, hz, e⟩
  | [], y :: b, c, h => by
    rw [diff] at h
    rcases List.mem_cons.1 h with h | h
    · subst h; exact .inr ⟨y, List.mem_cons_self, rfl⟩
    · rcases diff_keys [] b c h with ⟨z, hz, e⟩ | ⟨z, hz, e⟩
      · exact .inl ⟨z, hz, e⟩
      · exact .inr ⟨z, List.mem_cons_of_mem _ hz, e⟩
  | x :: a, y :: b, c, h => by
    have go : ∀ {a' b' : List (Ky × Ky)}, (∀ z, z ∈ a' → z ∈ x :: a) → (∀ z, z ∈ b' → z ∈ y :: b) → ((∃ x, x ∈ a' ∧ c.k = x.1) ∨ (∃ y, y ∈ b' ∧ c.k = y.1)) → (∃ z, z ∈ x :: a ∧ c.k = z.1) ∨ (∃ z, z ∈ y :: b ∧ c.k = z.1) := by
      rintro a' b' ha hb (⟨z, hz, e⟩ | ⟨z, hz, e⟩)
      · exact .inl ⟨z, ha z hz, e⟩
      · exact .inr ⟨z, hb z hz, e⟩
    rw [diff] at h
    split at h
    · rcases List.mem_cons.1 h with h | h
      · subst h; exact .inl ⟨x, List.mem_cons_self, rfl⟩
      · exact go (fun z hz => List.mem_cons_of_mem _ hz) (fun z hz => hz) (diff_keys a (y :: b) c h)
    · split at h
      · split at h
        · exact go (fun z hz => List.mem_cons_of_mem _ hz) (fun z hz => List.mem_cons_of_mem _ hz) (diff_keys a b c h)
        · rcases List.mem_cons.1 h with h | h
          · subst h; exact .inl ⟨x, List.mem_cons_self, rfl⟩
          · exact go (fun z hz => List.mem_cons_of_mem _ hz) (fun z hz => List.mem_cons_of_mem _ hz) (diff_keys a b c h)
      · rcases List.mem_cons.1 h with h | h
        · subst h; exact .inr ⟨y, List.mem_cons_self, rfl⟩
        · exact go (fun z hz => hz) (fun z hz => List.mem_cons_of_mem _ hz) (diff_keys (x :: a) b c h)
termination_by a b => a.length + b.length
theorem diff_above {a b : List (Ky × Ky)} {k : Ky} (ha : ∀ z, z ∈ a → bytesLt k z.1 = true) (hb : ∀ z, z ∈ b → bytesLt k z.1 = true) (c : Ch) (h : c ∈ diff a b) : bytesLt k c.k = true := by
  rcases diff_keys a b c h with ⟨z, hz, e⟩ | ⟨z, hz, e⟩
  · rw [e]; exact ha z hz
  · rw [e]; exact hb z hz
theorem diff_rise : ∀ (a b : List (Ky × Ky)), Up a → Up b → Rise Ch.k (diff a b)
  | [], [], _, _ => by rw [diff]; exact List.Pairwise.nil
  | x :: a, [], ha, hb => by
    rw [diff]
    exact List.pairwise_cons.2 ⟨fun c hc => diff_above (k := x.1) (List.pairwise_cons.1 ha).1 (fun z hz => by cases hz) c hc, diff_rise a [] ha.tail hb⟩
  | [], y :: b, ha, hb => by
    rw [diff]
    exact List.pairwise_cons.2 ⟨fun c hc => diff_above (k := y.1) (fun z hz => by cases hz) (List.pairwise_cons.1 hb).1 c hc, diff_rise [] b ha hb.tail⟩
  | x :: a, y :: b, ha, hb => by
    have ha1 := (List.pairwise_cons.1 ha).1
    have hb1 := (List.pairwise_cons.1 hb).1
    rw [diff]
    split
    · rename_i h
      exact List.pairwise_cons.2 ⟨fun c hc => diff_above (k := x.1) ha1 (fun z hz => by
        rcases List.mem_cons.1 hz with e | e
        · rw [e]; exact h
        · exact lt_trans h (hb1 z e)) c hc, diff_rise a (y :: b) ha.tail hb⟩
    · rename_i h
      split
      · rename_i e
        split
        · exact diff_rise a b ha.tail hb.tail
        · exact List.pairwise_cons.2 ⟨fun c hc => diff_above (k := x.1) ha1 (fun z hz => by rw [e]; exact hb1 z hz) c hc, diff_rise a b ha.tail hb.tail⟩
      · rename_i hne
        have h2 : bytesLt y.1 x.1 = true := by
          rcases lt_tri x.1 y.1 with h3 | h3 | h3
          · exact absurd h3 h
          · exact absurd h3 hne
          · exact h3
        exact List.pairwise_cons.2 ⟨fun c hc => diff_above (k := y.1) (fun z hz => by
          rcases List.mem_cons.1 hz with e | e
          · rw [e]; exact h2
          · exact lt_trans h2 (ha1 z e)) hb1 c hc, diff_rise (x :: a) b ha hb.tail⟩
termination_by a b => a.length + b.length
noncomputable def risenG (last : Option Ky) : List (Ky × Ky) → List (Ky × Ky)
  | [] => []
  | x :: l => match last with
    | none => x :: risenG (some x.1) l
    | some k => if bytesLt k x.1 = true then x :: risenG (some x.1) l else risenG (some k) l
theorem risenG_up : ∀ (l : List (Ky × Ky)) (k : Ky), (∀ z, z ∈ risenG (some k) l → bytesLt k z.1 = true) ∧ Up (risenG (some k) l)
  | [], k => ⟨fun z hz => (by cases hz), List.Pairwise.nil⟩
  | x :: l, k => by
    show (∀ z, z ∈ (if bytesLt k x.1 = true then x :: risenG (some x.1) l else risenG (some k) l) → _) ∧ Up (if bytesLt k x.1 = true then x :: risenG (some x.1) l else risenG (some k) l)
    split
    · rename_i h
      obtain ⟨h1, h2⟩ := risenG_up l x.1
      refine ⟨fun z hz => ?_, List.pairwise_cons.2 ⟨h1, h2⟩⟩
      rcases List.mem_cons.1 hz with e | e
      · rw [e]; exact h
      · exact lt_trans h (h1 z e)
    · exact risenG_up l k
theorem risen_up : ∀ (l : List (Ky × Ky)), Up (risenG none l)
  | [] => List.Pairwise.nil
  | x :: l => by
    obtain ⟨h1, h2⟩ := risenG_up l x.1
    exact List.pairwise_cons.2 ⟨h1, h2⟩
end Go.X.Df
