/- An abstract reading of memory, and the steps over it. -/
import Derived.Below
import Derived.Calls
import Derived.Orders
import Derived.Laws.AppendOwn
import Derived.Laws.MakeOwn
import Derived.Laws.OwnMore
import Derived.Laws.Tables
import Derived.Laws.Rows
import Derived.Deep.MidRow

/-
  An abstract reading of values and memory: lists for slices, own boxes for variables in memory, own buffers for slices that are still being built.
-/
namespace Go.Abs
set_option linter.unusedSimpArgs false
set_option linter.unusedVariables false
open Go.RowKit

/-- What one cell reads as. -/
inductive C where
  | a (x : Value)
  | i (k : IntKind) (n : Int)
  | b (x : Bool)
  | str (s : ByteArray)
  | nil
  | e0
  | ints (k : IntKind) (xs : List Int)
  | bools (xs : List Bool)
  | sl (z : Nat) (xs : List (List C))

def C.z : C → Nat
  | .sl z _ => z
  | _ => 1

/-- The rows of a slice: how many cells an element has, and the elements. -/
def C.rows : C → Option (Nat × List (List C))
  | .ints k xs => some (1, xs.map fun x => [.i k x])
  | .bools xs => some (1, xs.map fun x => [.b x])
  | .sl z xs => some (z, xs)
  | _ => none

def at2 (rs : List (List C)) (i j : Nat) : Option C := (rs[i]?).bind (·[j]?)

abbrev oneCell (v : Value) : Bool := v.oneCell'

inductive Rd (w : World) (S : Nat → Prop) : C → Value → Prop where
  | a (x : Value) (h : oneCell x = true) : Rd w S (.a x) x
  | i (k : IntKind) (n : Int) : Rd w S (.i k n) (.int k n)
  | b (x : Bool) : Rd w S (.b x) (.bool x)
  | str (s : ByteArray) : Rd w S (.str s) (.string s)
  | nil : Rd w S .nil (.slice none 0 0)
  | e0 (a : Addr) (cap : Nat) : Rd w S .e0 (.slice (some a) 0 cap)
  | emp (c : C) (z : Nat) (p : Option Addr) (cap : Nat) (h : c.rows = some (z, [])) (hp : p = none → cap = 0) : Rd w S c (.slice p 0 cap)
  | sl (c : C) (z : Nat) (rs : List (List C)) (b off cap : Nat) (us : Nat → Nat → Value) (h : c.rows = some (z, rs)) (hne : rs ≠ []) (hz : 0 < z)
      (hm : rs.length ≤ maxLen) (hcap : rs.length ≤ cap) (hr : ∀ r ∈ rs, r.length = z) (hS : S b)
      (hc : ∀ i j y, at2 rs i j = some y → w.cell? ⟨b, off + (i * z + j), none⟩ = some (us i j))
      (hd : ∀ i j y, at2 rs i j = some y → Rd w S y (us i j)) : Rd w S c (.slice (some ⟨b, off, none⟩) rs.length cap)

theorem block_lt {w : World} {a : Addr} {v : Value} (h : w.cell? a = some v) : a.block < w.heap.size := World.block_lt_of_cell? w a h

theorem at2_00 {rs : List (List C)} {z : Nat} (hne : rs ≠ []) (hz : 0 < z) (hr : ∀ r ∈ rs, r.length = z) : ∃ y, at2 rs 0 0 = some y := by
  cases rs with
  | nil => exact absurd rfl hne
  | cons r rs =>
    have := hr r (List.mem_cons_self ..)
    cases r with
    | nil => simp at this; omega
    | cons y r => exact ⟨y, rfl⟩

theorem at2_in {rs : List (List C)} {z i j : Nat} (hr : ∀ r ∈ rs, r.length = z) (hi : i < rs.length) (hj : j < z) : ∃ y, at2 rs i j = some y := by
  have h1 : rs[i]? = some rs[i] := List.getElem?_eq_getElem hi
  have h2 : rs[i].length = z := hr _ (List.getElem_mem hi)
  exact ⟨(rs[i])[j]'(by omega), by simp [at2, h1, List.getElem?_eq_getElem (show j < rs[i].length by omega)]⟩

theorem at2_lt {rs : List (List C)} {z i j : Nat} {y : C} (hr : ∀ r ∈ rs, r.length = z) (h : at2 rs i j = some y) : i < rs.length ∧ j < z := by
  unfold at2 at h
  cases hi : rs[i]? with
  | none => simp [hi] at h
  | some r =>
    simp [hi] at h
    have hm : r ∈ rs := List.mem_of_getElem? hi
    have hl := hr r hm
    have h1 := (List.getElem?_eq_some_iff.1 hi).1
    have h2 := (List.getElem?_eq_some_iff.1 h).1
    exact ⟨h1, by omega⟩

/-- The blocks that a reading may look at stay as they are. -/
def Stays (S S' : Nat → Prop) (w w' : World) : Prop := ∀ b, S b → b < w.heap.size → S' b ∧ w'.heap[b]? = w.heap[b]?

theorem Stays.cell {S S' : Nat → Prop} {w w' : World} (h : Stays S S' w w') {a : Addr} {v : Value} (hS : S a.block) (hc : w.cell? a = some v) : w'.cell? a = some v :=
  (World.cell?_of_block (h a.block hS (block_lt hc)).2).trans hc

theorem Rd.mono {w w' : World} {S S' : Nat → Prop} {c : C} {v : Value} (hst : Stays S S' w w') (h : Rd w S c v) : Rd w' S' c v := by
  induction h with
  | a x h => exact .a x h
  | i k n => exact .i k n
  | b x => exact .b x
  | str s => exact .str s
  | nil => exact .nil
  | e0 a cap => exact .e0 a cap
  | emp c z p cap h hp => exact .emp c z p cap h hp
  | sl c z rs b off cap us h hne hz hm hcap hr hS hc hd ih =>
    obtain ⟨y, hy⟩ := at2_00 hne hz hr
    have hb := block_lt (hc 0 0 y hy)
    exact .sl c z rs b off cap us h hne hz hm hcap hr (hst b hS hb).1 (fun i j y hy => hst.cell hS (hc i j y hy)) ih

theorem Rd.one {w : World} {S : Nat → Prop} {c : C} {v : Value} (h : Rd w S c v) : oneCell v = true := by
  cases h <;> first | rfl | assumption

/-- What a slot holds. -/
inductive AV where
  | c (x : C)
  | g (xs : List C)
  | t (vs : List (C ⊕ List C))
  | bx (id off : Nat)
  | own (id ver : Nat)
  | oel (id ver i off : Nat)
  | win (id ver lo len : Nat)
  | bw (k lo len : Nat)
  | bel (k i off : Nat)
  | el (xs : List C)
  | u

structure Buf where
  ver : Nat
  e : TypeId
  z : Nat
  con : C

/-- What was handed over to be written: a row of a slice. -/
structure Bor where
  e : TypeId
  con : C

/-- The abstract memory of a call: its own boxes, its own buffers, what was handed over to be written. -/
structure Hp where
  box : List (Nat × List AV)
  buf : List (Nat × Buf)
  bor : List (Nat × Bor)

def look {α : Type} : List (Nat × α) → Nat → Option α
  | [], _ => none
  | (i, x) :: l, j => if i == j then some x else look l j

theorem look_cons {α : Type} (i : Nat) (x : α) (l : List (Nat × α)) (j : Nat) : look ((i, x) :: l) j = if i == j then some x else look l j := rfl

/-- Where the boxes lie, and what the buffers' slices are. -/
structure Mp where
  bx : Nat → Option Nat
  bf : Nat → Option Value

/-- The frame of a call: its world at the start, what it may look at, what it may write besides new memory. -/
structure Fr where
  w0 : World
  S0 : Nat → Prop
  B0 : List Nat
  br : Nat → Option Value

def Own (m : Mp) (b : Nat) : Prop := (∃ i, m.bx i = some b) ∨ (∃ i v, m.bf i = some v ∧ v.ownBlock = some b)

/-- What views may look at. -/
def Fr.S (F : Fr) (m : Mp) (b : Nat) : Prop := (F.S0 b ∧ b < F.w0.heap.size ∧ b ∉ F.B0) ∨ (F.w0.heap.size ≤ b ∧ ¬ Own m b)

def RdL (w : World) (S : Nat → Prop) (xs : List C) (vs : List Value) : Prop :=
  vs.length = xs.length ∧ ∀ (j : Nat) y u, xs[j]? = some y → vs[j]? = some u → Rd w S y u

def RdS (w : World) (S : Nat → Prop) : C ⊕ List C → Value → Prop
  | .inl x, v => Rd w S x v
  | .inr xs, v => ∃ vs, v = .agg vs ∧ RdL w S xs vs.toList

def RepA (F : Fr) (H : Hp) (m : Mp) (w : World) : AV → Value → Prop
  | .c x, v => Rd w (F.S m) x v
  | .g xs, v => ∃ vs, v = .agg vs ∧ RdL w (F.S m) xs vs.toList
  | .t l, v => ∃ vs, v = .tuple vs ∧ vs.size = l.length ∧ ∀ (j : Nat) y u, l[j]? = some y → vs[j]? = some u → RdS w (F.S m) y u
  | .bx id off, v => ∃ b, m.bx id = some b ∧ v = .pointer (some ⟨b, off, none⟩)
  | .own id ver, v => oneCell v = true ∧ ∃ B, look H.buf id = some B ∧ ver ≤ B.ver ∧ (B.ver = ver → m.bf id = some v)
  | .oel id ver i off, v => ∃ B, look H.buf id = some B ∧ ver ≤ B.ver ∧ (B.ver = ver → ∃ g n cap, m.bf id = some (.slice (some ⟨g, 0, none⟩) n cap) ∧ i < n ∧ off < B.z ∧ v = .pointer (some ⟨g, i * B.z + off, none⟩))
  | .win id ver lo len, v => oneCell v = true ∧ ∃ B, look H.buf id = some B ∧ ver ≤ B.ver ∧ (B.ver = ver → ∃ p n cap, m.bf id = some (.slice p n cap) ∧ lo + len ≤ n ∧
      v = .slice (if cap = lo then p else p.map (·.add (lo * B.z))) len (cap - lo))
  | .bw k lo len, v => oneCell v = true ∧ ∃ B p n cap, look H.bor k = some B ∧ F.br k = some (.slice p n cap) ∧ lo + len ≤ n ∧
      v = .slice (if cap = lo then p else p.map (·.add (lo * B.con.z))) len (cap - lo)
  | .bel k i off, v => ∃ B g n cap, look H.bor k = some B ∧ F.br k = some (.slice (some ⟨g, 0, none⟩) n cap) ∧ i < n ∧ off < B.con.z ∧ v = .pointer (some ⟨g, i * B.con.z + off, none⟩)
  | .el xs, v => ∃ b off, v = .pointer (some ⟨b, off, none⟩) ∧ (xs ≠ [] → F.S m b) ∧ ∀ (j : Nat) y, xs[j]? = some y → ∃ u, w.cell? ⟨b, off + j, none⟩ = some u ∧ Rd w (F.S m) y u
  | .u, _ => True

/-- The buffer's row of cells reads as its content. -/
def RdRow (w : World) (S : Nat → Prop) (z : Nat) (rs : List (List C)) (xs : List Value) : Prop :=
  ∀ i j y, at2 rs i j = some y → ∃ u, xs[i * z + j]? = some u ∧ Rd w S y u

structure HRep (F : Fr) (H : Hp) (m : Mp) (w : World) : Prop where
  os : w.os = F.w0.os
  tape : w.tape = F.w0.tape
  output : w.output = F.w0.output
  size : F.w0.heap.size ≤ w.heap.size
  block : ∀ k, k < F.w0.heap.size → k ∉ F.B0 → w.heap[k]? = F.w0.heap[k]?
  fresh : ∀ b, Own m b → F.w0.heap.size ≤ b
  brB : ∀ k v b, F.br k = some v → v.ownBlock = some b → b ∈ F.B0 ∧ b < F.w0.heap.size
  bri : ∀ i j b u v, F.br i = some u → F.br j = some v → u.ownBlock = some b → v.ownBlock = some b → i = j
  ibb : ∀ i j b, m.bx i = some b → m.bx j = some b → i = j
  ibf : ∀ i j b v, m.bx i = some b → m.bf j = some v → v.ownBlock ≠ some b
  iff : ∀ i j b u v, m.bf i = some u → m.bf j = some v → u.ownBlock = some b → v.ownBlock = some b → i = j
  box : ∀ i b, m.bx i = some b → ∃ cs arr e, look H.box i = some cs ∧ w.heap[b]? = some (.cells arr e (0, 0)) ∧ arr.size = cs.length ∧
    ∀ (j : Nat) x u, cs[j]? = some x → arr[j]? = some u → oneCell u = true ∧ RepA F H m w x u
  buf : ∀ i v, m.bf i = some v → ∃ B rs xs, look H.buf i = some B ∧ B.con.rows = some (B.z, rs) ∧ 0 < B.z ∧ (∀ r ∈ rs, r.length = B.z) ∧ w.ownsRow 0 B.e B.z v rs.length xs ∧ RdRow w (F.S m) B.z rs xs
  bor : ∀ k v, F.br k = some v → ∃ B rs xs, look H.bor k = some B ∧ B.con.rows = some (B.con.z, rs) ∧ 0 < B.con.z ∧ (∀ r ∈ rs, r.length = B.con.z) ∧ w.ownsRow 0 B.e B.con.z v rs.length xs ∧ RdRow w (F.S m) B.con.z rs xs

end Go.Abs

/-
  What stays as it is behind a step; a step's meaning.
-/
namespace Go.Abs
set_option linter.unusedSimpArgs false
set_option linter.unusedVariables false
open Go.RowKit

structure Later (F : Fr) (H : Hp) (m : Mp) (w : World) (H' : Hp) (m' : Mp) (w' : World) : Prop where
  st : Stays (F.S m) (F.S m') w w'
  bx : ∀ i b, m.bx i = some b → m'.bx i = some b
  bf : ∀ id B, look H.buf id = some B → ∃ B', look H'.buf id = some B' ∧ B.ver ≤ B'.ver ∧ (B'.ver = B.ver → (∀ v, m.bf id = some v → m'.bf id = some v) ∧ B'.z = B.z)
  bo : ∀ k B, look H.bor k = some B → ∃ B', look H'.bor k = some B' ∧ B'.con.z = B.con.z

theorem RdL.mono {w w' : World} {S S' : Nat → Prop} {xs : List C} {vs : List Value} (hst : Stays S S' w w') (h : RdL w S xs vs) : RdL w' S' xs vs :=
  ⟨h.1, fun j y u hy hu => (h.2 j y u hy hu).mono hst⟩

theorem RdS.mono {w w' : World} {S S' : Nat → Prop} {x : C ⊕ List C} {v : Value} (hst : Stays S S' w w') (h : RdS w S x v) : RdS w' S' x v := by
  cases x with
  | inl x => exact Rd.mono hst h
  | inr xs => obtain ⟨vs, rfl, h⟩ := h; exact ⟨vs, rfl, h.mono hst⟩

theorem Later.rep {F : Fr} {H H' : Hp} {m m' : Mp} {w w' : World} (hl : Later F H m w H' m' w') {av : AV} {v : Value} (h : RepA F H m w av v) : RepA F H' m' w' av v := by
  cases av with
  | c x => exact Rd.mono hl.st h
  | g xs => obtain ⟨vs, rfl, h⟩ := h; exact ⟨vs, rfl, h.mono hl.st⟩
  | t l => obtain ⟨vs, rfl, hs, h⟩ := h; exact ⟨vs, rfl, hs, fun j y u hy hu => (h j y u hy hu).mono hl.st⟩
  | bx id off => obtain ⟨b, hb, rfl⟩ := h; exact ⟨b, hl.bx _ _ hb, rfl⟩
  | own id ver =>
    obtain ⟨h1, B, hB, hv, h⟩ := h
    obtain ⟨B', hB', hle, hk⟩ := hl.bf id B hB
    refine ⟨h1, B', hB', by omega, fun e => ?_⟩
    have e2 : B'.ver = B.ver := by omega
    exact (hk e2).1 v (h (by omega))
  | oel id ver i off =>
    obtain ⟨B, hB, hv, h⟩ := h
    obtain ⟨B', hB', hle, hk⟩ := hl.bf id B hB
    refine ⟨B', hB', by omega, fun e => ?_⟩
    have e2 : B'.ver = B.ver := by omega
    obtain ⟨g, n, cap, hg, hi, ho, rfl⟩ := h (by omega)
    refine ⟨g, n, cap, (hk e2).1 _ hg, hi, ?_, ?_⟩
    · rw [(hk e2).2]; exact ho
    · rw [(hk e2).2]
  | win id ver lo len =>
    obtain ⟨h1, B, hB, hv, h⟩ := h
    obtain ⟨B', hB', hle, hk⟩ := hl.bf id B hB
    refine ⟨h1, B', hB', by omega, fun e => ?_⟩
    have e2 : B'.ver = B.ver := by omega
    obtain ⟨p, n, cap, hm, hn, hh⟩ := h (by omega)
    refine ⟨p, n, cap, (hk e2).1 _ hm, hn, ?_⟩
    rw [(hk e2).2]; exact hh
  | bw k lo len =>
    obtain ⟨h1, B, p, n, cap, hB, hF, hn, hh⟩ := h
    obtain ⟨B', hB', hz⟩ := hl.bo k B hB
    exact ⟨h1, B', p, n, cap, hB', hF, hn, by rw [hz]; exact hh⟩
  | bel k i off =>
    obtain ⟨B, g, n, cap, hB, hF, hn, ho, hh⟩ := h
    obtain ⟨B', hB', hz⟩ := hl.bo k B hB
    exact ⟨B', g, n, cap, hB', hF, hn, by rw [hz]; exact ho, by rw [hz]; exact hh⟩
  | el xs =>
    obtain ⟨b, off, rfl, hS, h⟩ := h
    by_cases he : xs = []
    · subst he
      exact ⟨b, off, rfl, fun h => absurd rfl h, fun j y hy => by simp at hy⟩
    · have hS2 := hS he
      clear hS
      obtain ⟨y, ys, rfl⟩ := List.exists_cons_of_ne_nil he
      obtain ⟨u, hu, _⟩ := h 0 y rfl
      have hb := (hl.st b hS2 (block_lt hu)).1
      exact ⟨b, off, rfl, fun _ => hb, fun j y hy => let ⟨u, hu, hr⟩ := h j y hy; ⟨u, hl.st.cell (a := ⟨b, off + j, none⟩) hS2 hu, hr.mono hl.st⟩⟩
  | u => trivial


/-- The world grows: nothing that was there turns. -/
abbrev Ext (w w' : World) : Prop := Below w.heap.size w w'

theorem Ext.trans {a b c : World} (h : Ext a b) (k : Ext b c) : Ext a c := Below.trans h (k.mono h.size)

theorem HRep.ext_later {F : Fr} {H : Hp} {m : Mp} {w w' : World} (he : Ext w w') : Later F H m w H m w' where
  st b hS hb := ⟨hS, he.block b hb⟩
  bx i b h := h
  bf id B h := ⟨B, h, Nat.le_refl _, fun _ => ⟨fun _ h => h, rfl⟩⟩
  bo k B h := ⟨B, h, rfl⟩

theorem own_lt {F : Fr} {H : Hp} {m : Mp} {w : World} (h : HRep F H m w) {b : Nat} (ho : Own m b) : b < w.heap.size := by
  rcases ho with ⟨i, hi⟩ | ⟨i, v, hv, hb⟩
  · obtain ⟨cs, arr, e, _, hh, _⟩ := h.box i b hi
    exact (Array.getElem?_eq_some_iff.1 hh).1
  · obtain ⟨B, rs, xs, _, _, _, _, ho, _⟩ := h.buf i v hv
    exact (ho.lt b hb).2

theorem HRep.ext {F : Fr} {H : Hp} {m : Mp} {w w' : World} (h : HRep F H m w) (he : Ext w w') : HRep F H m w' where
  os := he.os.trans h.os
  tape := he.tape.trans h.tape
  output := he.output.trans h.output
  size := Nat.le_trans h.size he.size
  block k hk hb := (he.block k (Nat.lt_of_lt_of_le hk h.size)).trans (h.block k hk hb)
  fresh := h.fresh
  brB := h.brB
  bri := h.bri
  ibb := h.ibb
  ibf := h.ibf
  iff := h.iff
  box i b hb := by
    obtain ⟨cs, arr, e, h1, h2, h3, h4⟩ := h.box i b hb
    exact ⟨cs, arr, e, h1, (he.block b (Array.getElem?_eq_some_iff.1 h2).1).trans h2, h3, fun j x u hx hu => ⟨(h4 j x u hx hu).1, (HRep.ext_later he).rep (h4 j x u hx hu).2⟩⟩
  buf i v hv := by
    obtain ⟨B, rs, xs, h1, h2, h3, h4, h5, h6⟩ := h.buf i v hv
    refine ⟨B, rs, xs, h1, h2, h3, h4, h5.kept (row := none) ⟨he.os, he.tape, he.output, he.size, fun k hk _ => he.block k hk⟩ (by cases v.ownBlock <;> simp), ?_⟩
    intro i j y hy
    obtain ⟨u, hu, hr⟩ := h6 i j y hy
    exact ⟨u, hu, hr.mono (HRep.ext_later (H := H) he).st⟩
  bor k v hv := by
    obtain ⟨B, rs, xs, h1, h2, h3, h4, h5, h6⟩ := h.bor k v hv
    refine ⟨B, rs, xs, h1, h2, h3, h4, h5.kept (row := none) ⟨he.os, he.tape, he.output, he.size, fun k hk _ => he.block k hk⟩ (by cases v.ownBlock <;> simp), ?_⟩
    intro i j y hy
    obtain ⟨u, hu, hr⟩ := h6 i j y hy
    exact ⟨u, hu, hr.mono (HRep.ext_later (H := H) he).st⟩

/-- Another abstract memory that says the same of what lies. -/
theorem HRep.hp {F : Fr} {H H' : Hp} {m : Mp} {w : World} (h : HRep F H m w) (hb : ∀ i b, m.bx i = some b → look H'.box i = look H.box i)
    (hf : ∀ i B, look H.buf i = some B → look H'.buf i = some B) (hbo : H'.bor = H.bor) : HRep F H' m w ∧ Later F H m w H' m w := by
  have hl : Later F H m w H' m w := ⟨fun b hS _ => ⟨hS, rfl⟩, fun _ _ h => h, fun id B hB => ⟨B, hf id B hB, Nat.le_refl _, fun _ => ⟨fun _ h => h, rfl⟩⟩, fun k B hB => ⟨B, by rw [hbo]; exact hB, rfl⟩⟩
  refine ⟨⟨h.os, h.tape, h.output, h.size, h.block, h.fresh, h.brB, h.bri, h.ibb, h.ibf, h.iff, ?_, ?_, ?_⟩, hl⟩
  · intro i b hi
    obtain ⟨cs, arr, e, h1, h2, h3, h4⟩ := h.box i b hi
    exact ⟨cs, arr, e, (hb i b hi).trans h1, h2, h3, fun j x u hx hu => ⟨(h4 j x u hx hu).1, hl.rep (h4 j x u hx hu).2⟩⟩
  · intro i v hv
    obtain ⟨B, rs, xs, h1, h2⟩ := h.buf i v hv
    exact ⟨B, rs, xs, hf i B h1, h2⟩
  · intro k v hv
    obtain ⟨B, rs, xs, h1, h2⟩ := h.bor k v hv
    exact ⟨B, rs, xs, by rw [hbo]; exact h1, h2⟩

def Mp.addBx (m : Mp) (id b : Nat) : Mp := { m with bx := fun i => if i = id then some b else m.bx i }
def Mp.addBf (m : Mp) (id : Nat) (v : Option Value) : Mp := { m with bf := fun i => if i = id then v else m.bf i }

theorem alloc_ext (w : World) (o : Obj) : Ext w (w.alloc o) := (Below.refl _ _).alloc (Nat.le_refl _) o

/-- A new box: the abstract memory tells already what it will hold. -/
theorem HRep.newBox {F : Fr} {H : Hp} {m : Mp} {w : World} (h : HRep F H m w) (id : Nat) (hid : m.bx id = none) (arr : Array Value) (e : TypeId) (cs : List AV) (hl : look H.box id = some cs)
    (hs : arr.size = cs.length) (hr : ∀ (j : Nat) x u, cs[j]? = some x → arr[j]? = some u → oneCell u = true ∧ RepA F H m w x u) :
    HRep F H (m.addBx id w.heap.size) (w.alloc (.cells arr e)) ∧ Later F H m w H (m.addBx id w.heap.size) (w.alloc (.cells arr e)) := by
  have hlt : ∀ b, Own m b → b < w.heap.size := fun b ho => own_lt h ho
  have hown : ∀ b, Own (m.addBx id w.heap.size) b → Own m b ∨ b = w.heap.size := by
    rintro b (⟨i, hi⟩ | ⟨i, v, hv, hb⟩)
    · simp only [Mp.addBx] at hi
      split at hi
      · simp at hi; exact .inr hi.symm
      · exact .inl (.inl ⟨i, hi⟩)
    · exact .inl (.inr ⟨i, v, hv, hb⟩)
  have hlat : Later F H m w H (m.addBx id w.heap.size) (w.alloc (.cells arr e)) := by
    refine ⟨fun b hS hb => ⟨?_, Below.heap_alloc w _ b hb⟩, ?_, fun id B h => ⟨B, h, Nat.le_refl _, fun _ => ⟨fun _ h => h, rfl⟩⟩, fun k B h => ⟨B, h, rfl⟩⟩
    · rcases hS with hS | ⟨h1, h2⟩
      · exact .inl hS
      · refine .inr ⟨h1, fun ho => ?_⟩
        rcases hown b ho with ho | rfl
        · exact h2 ho
        · omega
    · intro i b hi
      simp only [Mp.addBx]
      split
      · subst i; rw [hid] at hi; cases hi
      · exact hi
  have hext := h.ext (alloc_ext w (.cells arr e))
  refine ⟨?_, hlat⟩
  refine ⟨hext.os, hext.tape, hext.output, hext.size, hext.block, ?_, h.brB, h.bri, ?_, ?_, ?_, ?_, ?_, ?_⟩
  · intro b ho
    rcases hown b ho with ho | rfl
    · exact h.fresh b ho
    · exact h.size
  · intro i j b hi hj
    simp only [Mp.addBx] at hi hj
    split at hi <;> split at hj
    · omega
    · simp at hi; subst hi; have := hlt _ (.inl ⟨j, hj⟩); omega
    · simp at hj; subst hj; have := hlt _ (.inl ⟨i, hi⟩); omega
    · exact h.ibb i j b hi hj
  · intro i j b v hi hj hv
    simp only [Mp.addBx] at hi
    split at hi
    · simp at hi; subst hi; have := hlt _ (.inr ⟨j, v, hj, hv⟩); omega
    · exact h.ibf i j b v hi hj hv
  · exact h.iff
  · intro i b hi
    simp only [Mp.addBx] at hi
    split at hi
    · subst i; simp at hi; subst hi
      exact ⟨cs, arr, e, hl, heap_alloc_new w _, hs, fun j x u hx hu => ⟨(hr j x u hx hu).1, hlat.rep (hr j x u hx hu).2⟩⟩
    · obtain ⟨cs', arr', e', h1, h2, h3, h4⟩ := h.box i b hi
      exact ⟨cs', arr', e', h1, (Below.heap_alloc w _ b (Array.getElem?_eq_some_iff.1 h2).1).trans h2, h3, fun j x u hx hu => ⟨(h4 j x u hx hu).1, hlat.rep (h4 j x u hx hu).2⟩⟩
  · intro i v hv
    obtain ⟨B, rs, xs, h1, h2, h3, h4, h5, h6⟩ := h.buf i v hv
    exact ⟨B, rs, xs, h1, h2, h3, h4, h5.alloc _, fun i j y hy => let ⟨u, hu, hr⟩ := h6 i j y hy; ⟨u, hu, hr.mono hlat.st⟩⟩
  · intro k v hv
    obtain ⟨B, rs, xs, h1, h2, h3, h4, h5, h6⟩ := h.bor k v hv
    exact ⟨B, rs, xs, h1, h2, h3, h4, h5.alloc _, fun i j y hy => let ⟨u, hu, hr⟩ := h6 i j y hy; ⟨u, hu, hr.mono hlat.st⟩⟩

theorem own_not_S {F : Fr} {H : Hp} {m : Mp} {w : World} (h : HRep F H m w) {b : Nat} (ho : Own m b) : ¬ F.S m b := by
  rintro (⟨_, h1, h2⟩ | ⟨_, h2⟩)
  · have h3 := h.fresh b ho
    omega
  · exact h2 ho

/-- what was handed over is neither looked at nor own -/
theorem br_not_S {F : Fr} {H : Hp} {m : Mp} {w : World} (h : HRep F H m w) {k b : Nat} {v : Value} (hk : F.br k = some v) (hb : v.ownBlock = some b) : ¬ F.S m b ∧ ¬ Own m b := by
  obtain ⟨h1, h2⟩ := h.brB k v b hk hb
  refine ⟨?_, fun ho => by have := h.fresh b ho; omega⟩
  rintro (⟨_, _, h3⟩ | ⟨h3, _⟩)
  · exact h3 h1
  · omega

theorem heap_setCell_same (w : World) (b off : Nat) (v : Value) (arr : Array Value) (e : TypeId) (fz : Nat × Nat) (h : w.heap[b]? = some (.cells arr e fz)) :
    (w.setCell ⟨b, off, none⟩ v).heap[b]? = some (.cells (arr.setIfInBounds off v) e fz) := by
  simp [World.setCell, Array.getElem?_modify, h]

/-- A store into a box, of one cell or of many. -/
theorem HRep.setBox {F : Fr} {H H' : Hp} {m : Mp} {w : World} (h : HRep F H m w) {id b : Nat} {cs cs' : List AV} {arr arr' : Array Value} {e : TypeId} (hb : m.bx id = some b) (hcs : look H.box id = some cs)
    (harr : w.heap[b]? = some (.cells arr e (0, 0))) (hlen : arr'.size = cs'.length) (hx : ∀ (j : Nat) x u, cs'[j]? = some x → arr'[j]? = some u → oneCell u = true ∧ RepA F H m w x u)
    (hid : look H'.box id = some cs') (hne : ∀ i, i ≠ id → look H'.box i = look H.box i) (hbuf : H'.buf = H.buf) (hbo : H'.bor = H.bor) :
    HRep F H' m (w.setRow b arr') ∧ Later F H m w H' m (w.setRow b arr') := by
  have hother : ∀ k, k ≠ b → (w.setRow b arr').heap[k]? = w.heap[k]? := fun k hk => setRow_other w b k arr' hk
  have hsz : (w.setRow b arr').heap.size = w.heap.size := setRow_size w b arr'
  have hlat : Later F H m w H' m (w.setRow b arr') := by
    refine ⟨fun k hS _ => ⟨hS, hother k (fun e => ?_)⟩, fun _ _ h => h, fun id B hB => ⟨B, by rw [hbuf]; exact hB, Nat.le_refl _, fun _ => ⟨fun _ h => h, rfl⟩⟩, fun k B hB => ⟨B, by rw [hbo]; exact hB, rfl⟩⟩
    subst e
    exact own_not_S h (.inl ⟨id, hb⟩) hS
  refine ⟨⟨h.os, h.tape, h.output, by rw [hsz]; exact h.size, ?_, h.fresh, h.brB, h.bri, h.ibb, h.ibf, h.iff, ?_, ?_, ?_⟩, hlat⟩
  · intro k hk hkB
    rw [hother k (fun e => ?_)]
    · exact h.block k hk hkB
    · subst e
      have h3 := h.fresh k (.inl ⟨id, hb⟩)
      omega
  · intro i b' hi
    by_cases hii : i = id
    · subst hii
      rw [hb] at hi; cases hi
      exact ⟨cs', arr', e, hid, setRow_heap w b arr arr' e (0, 0) harr, hlen, fun j y u hy hu => ⟨(hx j y u hy hu).1, hlat.rep (hx j y u hy hu).2⟩⟩
    · obtain ⟨cs2, arr2, e2, h2, h3, h4, h5⟩ := h.box i b' hi
      refine ⟨cs2, arr2, e2, by rw [hne i hii]; exact h2, ?_, h4, fun j y u hy hu => ⟨(h5 j y u hy hu).1, hlat.rep (h5 j y u hy hu).2⟩⟩
      rw [hother b' (fun e => hii (by subst e; exact h.ibb i id _ hi hb))]
      exact h3
  · intro i v' hv
    obtain ⟨B, rs, xs, h2, h3, h4, h5, h6, h7⟩ := h.buf i v' hv
    refine ⟨B, rs, xs, by rw [hbuf]; exact h2, h3, h4, h5, ?_, fun i j y hy => let ⟨u, hu, hr⟩ := h7 i j y hy; ⟨u, hu, hr.mono hlat.st⟩⟩
    refine h6.kept (row := some b) ⟨rfl, rfl, rfl, by rw [hsz]; exact Nat.le_refl _, fun k _ hk => hother k (fun e => hk (by rw [e]))⟩ ?_
    cases hob : v'.ownBlock with
    | none => exact .inl rfl
    | some g => exact .inr (fun e => by cases e; exact h.ibf id i b v' hb hv hob)
  · intro i v' hv
    obtain ⟨B, rs, xs, h2, h3, h4, h5, h6, h7⟩ := h.bor i v' hv
    refine ⟨B, rs, xs, by rw [hbo]; exact h2, h3, h4, h5, ?_, fun i j y hy => let ⟨u, hu, hr⟩ := h7 i j y hy; ⟨u, hu, hr.mono hlat.st⟩⟩
    refine h6.kept (row := some b) ⟨rfl, rfl, rfl, by rw [hsz]; exact Nat.le_refl _, fun k _ hk => hother k (fun e => hk (by rw [e]))⟩ ?_
    cases hob : v'.ownBlock with
    | none => exact .inl rfl
    | some g => exact .inr (fun e => by cases e; exact (br_not_S h hv hob).2 (.inl ⟨id, hb⟩))

/-- A step of a buffer: made, grown, written or cut. -/
theorem HRep.bufStep {F : Fr} {H H' : Hp} {m : Mp} {w w' : World} (h : HRep F H m w) {id : Nat} {row : Option Nat} {B' : Buf} {v' : Value} {rs : List (List C)} {xs : List Value}
    (hg : w.grownBy w' row) (hrow : ∀ g, row = some g → ∃ v, m.bf id = some v ∧ v.ownBlock = some g) 
    (hnew : ∀ g, v'.ownBlock = some g → row = some g ∨ w.heap.size ≤ g)
    (hB : ∀ B, look H.buf id = some B → B.ver < B'.ver ∨ (B'.ver = B.ver ∧ m.bf id = some v' ∧ B'.z = B.z))
    (hid : look H'.buf id = some B') (hne : ∀ i, i ≠ id → look H'.buf i = look H.buf i) (hbox : H'.box = H.box) (hbo : H'.bor = H.bor)
    (hc : B'.con.rows = some (B'.z, rs)) (hz : 0 < B'.z) (hr : ∀ r ∈ rs, r.length = B'.z) (ho : w'.ownsRow 0 B'.e B'.z v' rs.length xs) (hx : RdRow w (F.S m) B'.z rs xs) :
    HRep F H' (m.addBf id (some v')) w' ∧ Later F H m w H' (m.addBf id (some v')) w' := by
  have hrowOwn : ∀ g, row = some g → Own m g := fun g hgr => let ⟨v, hv, hb⟩ := hrow g hgr; .inr ⟨id, v, hv, hb⟩
  have hown : ∀ b, Own (m.addBf id (some v')) b → Own m b ∨ w.heap.size ≤ b := by
    rintro b (⟨i, hi⟩ | ⟨i, v, hv, hb⟩)
    · exact .inl (.inl ⟨i, hi⟩)
    · simp only [Mp.addBf] at hv
      split at hv
      · cases hv
        rcases hnew b hb with h1 | h1
        · exact .inl (hrowOwn b h1)
        · exact .inr h1
      · exact .inl (.inr ⟨i, v, hv, hb⟩)
  have hlat : Later F H m w H' (m.addBf id (some v')) w' := by
    refine ⟨fun k hS hk => ⟨?_, hg.block k hk (fun e => own_not_S h (hrowOwn k e.symm) hS)⟩, fun _ _ h => h, fun i B hiB => ?_, fun k B hB => ⟨B, by rw [hbo]; exact hB, rfl⟩⟩
    · rcases hS with hS | ⟨h1, h2⟩
      · exact .inl hS
      · exact .inr ⟨h1, fun hoo => by rcases hown k hoo with h3 | h3 <;> first | exact h2 h3 | omega⟩
    · by_cases hi : i = id
      · subst hi
        refine ⟨B', hid, by rcases hB B hiB with h1 | h1 <;> omega, fun e => ?_⟩
        rcases hB B hiB with h1 | ⟨_, h2, h3⟩
        · omega
        · exact ⟨fun v hv => by simp [Mp.addBf]; rw [h2] at hv; exact Option.some.inj hv, h3⟩
      · exact ⟨B, by rw [hne i hi]; exact hiB, Nat.le_refl _, fun _ => ⟨fun v hv => by simp [Mp.addBf, hi]; exact hv, rfl⟩⟩
  have hblk : ∀ k, k < w.heap.size → row ≠ some k → w'.heap[k]? = w.heap[k]? := fun k hk hn => hg.block k hk (fun e => hn e.symm)
  refine ⟨⟨hg.os.trans h.os, hg.tape.trans h.tape, hg.output.trans h.output, Nat.le_trans h.size hg.size, ?_, ?_, h.brB, h.bri, h.ibb, ?_, ?_, ?_, ?_, ?_⟩, hlat⟩
  · intro k hk hkB
    rw [hblk k (Nat.lt_of_lt_of_le hk h.size) (fun e => ?_)]
    · exact h.block k hk hkB
    · have h3 := h.fresh k (hrowOwn k e)
      omega
  · intro b hob
    rcases hown b hob with h1 | h1
    · exact h.fresh b h1
    · exact Nat.le_trans h.size h1
  · intro i j b v hi hj hv
    simp only [Mp.addBf] at hi hj
    split at hj
    · cases hj
      rcases hnew b hv with h1 | h1
      · obtain ⟨v0, hv0, hb0⟩ := hrow b h1
        exact h.ibf i id b v0 hi hv0 hb0
      · have := own_lt h (.inl ⟨i, hi⟩ : Own m b); omega
    · exact h.ibf i j b v hi hj hv
  · intro i j b u v hi hj hu hv
    simp only [Mp.addBf] at hi hj
    split at hi <;> split at hj
    · omega
    · cases hi
      rcases hnew b hu with h1 | h1
      · obtain ⟨v0, hv0, hb0⟩ := hrow b h1
        have := h.iff j id b v v0 hj hv0 hv hb0; omega
      · have := own_lt h (.inr ⟨j, v, hj, hv⟩ : Own m b); omega
    · cases hj
      rcases hnew b hv with h1 | h1
      · obtain ⟨v0, hv0, hb0⟩ := hrow b h1
        have := h.iff i id b u v0 hi hv0 hu hb0; omega
      · have := own_lt h (.inr ⟨i, u, hi, hu⟩ : Own m b); omega
    · exact h.iff i j b u v hi hj hu hv
  · intro i b hi
    obtain ⟨cs, arr, e, h2, h3, h4, h5⟩ := h.box i b hi
    refine ⟨cs, arr, e, by rw [hbox]; exact h2, ?_, h4, fun j y u hy hu => ⟨(h5 j y u hy hu).1, hlat.rep (h5 j y u hy hu).2⟩⟩
    rw [hblk b (Array.getElem?_eq_some_iff.1 h3).1 (fun e => ?_)]
    · exact h3
    · obtain ⟨v0, hv0, hb0⟩ := hrow b e
      exact h.ibf i id b v0 hi hv0 hb0
  · intro i v hv
    simp only [Mp.addBf] at hv
    split at hv
    · subst i
      cases hv
      exact ⟨B', rs, xs, hid, hc, hz, hr, ho, fun i j y hy => let ⟨u, hu, hrd⟩ := hx i j y hy; ⟨u, hu, hrd.mono hlat.st⟩⟩
    · rename_i hi
      obtain ⟨B, rs2, xs2, h2, h3, h4, h5, h6, h7⟩ := h.buf i v hv
      refine ⟨B, rs2, xs2, by rw [hne i hi]; exact h2, h3, h4, h5, ?_, fun i j y hy => let ⟨u, hu, hrd⟩ := h7 i j y hy; ⟨u, hu, hrd.mono hlat.st⟩⟩
      refine h6.kept (row := row) hg ?_
      cases hob : v.ownBlock with
      | none => exact .inl rfl
      | some g =>
        refine .inr (fun e => ?_)
        obtain ⟨v0, hv0, hb0⟩ := hrow g e.symm
        exact hi (h.iff i id g v v0 hv hv0 hob hb0)
  · intro i v hv
    obtain ⟨B, rs2, xs2, h2, h3, h4, h5, h6, h7⟩ := h.bor i v hv
    refine ⟨B, rs2, xs2, by rw [hbo]; exact h2, h3, h4, h5, ?_, fun i j y hy => let ⟨u, hu, hrd⟩ := h7 i j y hy; ⟨u, hu, hrd.mono hlat.st⟩⟩
    refine h6.kept (row := row) hg ?_
    cases hob : v.ownBlock with
    | none => exact .inl rfl
    | some g => exact .inr (fun e => (br_not_S h hv hob).2 (hrowOwn g e.symm))

/-- a step of a row that was handed over -/
theorem HRep.borStep {F : Fr} {H H' : Hp} {m : Mp} {w w' : World} (h : HRep F H m w) {k : Nat} {B B' : Bor} {v : Value} {rs : List (List C)} {xs : List Value}
    (hk : F.br k = some v) (hg : w.grownBy w' v.ownBlock) (hB : look H.bor k = some B) (hz' : B'.con.z = B.con.z)
    (hid : look H'.bor k = some B') (hne : ∀ i, i ≠ k → look H'.bor i = look H.bor i) (hbox : H'.box = H.box) (hbuf : H'.buf = H.buf)
    (hc : B'.con.rows = some (B'.con.z, rs)) (hz : 0 < B'.con.z) (hr : ∀ r ∈ rs, r.length = B'.con.z) (ho : w'.ownsRow 0 B'.e B'.con.z v rs.length xs) (hx : RdRow w (F.S m) B'.con.z rs xs) :
    HRep F H' m w' ∧ Later F H m w H' m w' := by
  have hblk : ∀ j, j < w.heap.size → v.ownBlock ≠ some j → w'.heap[j]? = w.heap[j]? := fun j hj hn => hg.block j hj (fun e => hn e.symm)
  have hlat : Later F H m w H' m w' := by
    refine ⟨fun j hS hj => ⟨hS, hblk j hj (fun e => (br_not_S h hk e).1 hS)⟩, fun _ _ h => h, fun i B hiB => ⟨B, by rw [hbuf]; exact hiB, Nat.le_refl _, fun _ => ⟨fun _ h => h, rfl⟩⟩, fun i B2 hiB => ?_⟩
    by_cases hi : i = k
    · subst hi
      rw [hB] at hiB; cases hiB
      exact ⟨B', hid, hz'⟩
    · exact ⟨B2, by rw [hne i hi]; exact hiB, rfl⟩
  refine ⟨⟨hg.os.trans h.os, hg.tape.trans h.tape, hg.output.trans h.output, Nat.le_trans h.size hg.size, ?_, h.fresh, h.brB, h.bri, h.ibb, h.ibf, h.iff, ?_, ?_, ?_⟩, hlat⟩
  · intro j hj hjB
    rw [hblk j (Nat.lt_of_lt_of_le hj h.size) (fun e => hjB (h.brB k v j hk e).1)]
    exact h.block j hj hjB
  · intro i b hi
    obtain ⟨cs, arr, e, h2, h3, h4, h5⟩ := h.box i b hi
    refine ⟨cs, arr, e, by rw [hbox]; exact h2, ?_, h4, fun j y u hy hu => ⟨(h5 j y u hy hu).1, hlat.rep (h5 j y u hy hu).2⟩⟩
    rw [hblk b (Array.getElem?_eq_some_iff.1 h3).1 (fun e => (br_not_S h hk e).2 (.inl ⟨i, hi⟩))]
    exact h3
  · intro i v2 hv2
    obtain ⟨B2, rs2, xs2, h2, h3, h4, h5, h6, h7⟩ := h.buf i v2 hv2
    refine ⟨B2, rs2, xs2, by rw [hbuf]; exact h2, h3, h4, h5, ?_, fun i j y hy => let ⟨u, hu, hrd⟩ := h7 i j y hy; ⟨u, hu, hrd.mono hlat.st⟩⟩
    refine h6.kept hg ?_
    cases hob : v2.ownBlock with
    | none => exact .inl rfl
    | some g => exact .inr (fun e => (br_not_S h hk e.symm).2 (.inr ⟨i, v2, hv2, hob⟩))
  · intro i v2 hv2
    by_cases hi : i = k
    · subst hi
      rw [hk] at hv2; cases hv2
      exact ⟨B', rs, xs, hid, hc, hz, hr, ho, fun i j y hy => let ⟨u, hu, hrd⟩ := hx i j y hy; ⟨u, hu, hrd.mono hlat.st⟩⟩
    · obtain ⟨B2, rs2, xs2, h2, h3, h4, h5, h6, h7⟩ := h.bor i v2 hv2
      refine ⟨B2, rs2, xs2, by rw [hne i hi]; exact h2, h3, h4, h5, ?_, fun i j y hy => let ⟨u, hu, hrd⟩ := h7 i j y hy; ⟨u, hu, hrd.mono hlat.st⟩⟩
      refine h6.kept hg ?_
      cases hob : v2.ownBlock with
      | none => exact .inl rfl
      | some g => exact .inr (fun e => hi (h.bri i k g v2 v hv2 hk hob e.symm))

/-- A buffer is given up: from now on its slice is a view. -/
theorem HRep.dropBuf {F : Fr} {H H' : Hp} {m : Mp} {w : World} (h : HRep F H m w) {id : Nat} {B B' : Buf} {v : Value} (hv : m.bf id = some v) (hB : look H.buf id = some B) (hver : B.ver < B'.ver)
    (hid : look H'.buf id = some B') (hne : ∀ i, i ≠ id → look H'.buf i = look H.buf i) (hbox : H'.box = H.box) (hbo : H'.bor = H.bor) :
    HRep F H' (m.addBf id none) w ∧ Later F H m w H' (m.addBf id none) w ∧ Rd w (F.S (m.addBf id none)) B.con v := by
  have hown : ∀ b, Own (m.addBf id none) b → Own m b := by
    rintro b (⟨i, hi⟩ | ⟨i, v, hv, hb⟩)
    · exact .inl ⟨i, hi⟩
    · simp only [Mp.addBf] at hv
      split at hv
      · cases hv
      · exact .inr ⟨i, v, hv, hb⟩
  have hlat : Later F H m w H' (m.addBf id none) w := by
    refine ⟨fun k hS hk => ⟨?_, rfl⟩, fun _ _ h => h, fun i B2 hiB => ?_, fun k B hB => ⟨B, by rw [hbo]; exact hB, rfl⟩⟩
    · rcases hS with hS | ⟨h1, h2⟩
      · exact .inl hS
      · exact .inr ⟨h1, fun hoo => h2 (hown k hoo)⟩
    · by_cases hi : i = id
      · subst hi
        rw [hB] at hiB; cases hiB
        exact ⟨B', hid, by omega, fun e => by omega⟩
      · exact ⟨B2, by rw [hne i hi]; exact hiB, Nat.le_refl _, fun _ => ⟨fun v hv => by simp [Mp.addBf, hi]; exact hv, rfl⟩⟩
  refine ⟨⟨h.os, h.tape, h.output, h.size, h.block, fun b ho => h.fresh b (hown b ho), h.brB, h.bri, h.ibb, ?_, ?_, ?_, ?_, ?_⟩, hlat, ?_⟩
  · intro i j b v2 hi hj
    simp only [Mp.addBf] at hj
    split at hj
    · cases hj
    · exact h.ibf i j b v2 hi hj
  · intro i j b u v2 hi hj
    simp only [Mp.addBf] at hi hj
    split at hi
    · cases hi
    · split at hj
      · cases hj
      · exact h.iff i j b u v2 hi hj
  · intro i b hi
    obtain ⟨cs, arr, e, h2, h3, h4, h5⟩ := h.box i b hi
    exact ⟨cs, arr, e, by rw [hbox]; exact h2, h3, h4, fun j y u hy hu => ⟨(h5 j y u hy hu).1, hlat.rep (h5 j y u hy hu).2⟩⟩
  · intro i v2 hv2
    simp only [Mp.addBf] at hv2
    split at hv2
    · cases hv2
    · rename_i hi
      obtain ⟨B2, rs2, xs2, h2, h3, h4, h5, h6, h7⟩ := h.buf i v2 hv2
      exact ⟨B2, rs2, xs2, by rw [hne i hi]; exact h2, h3, h4, h5, h6, fun i j y hy => let ⟨u, hu, hrd⟩ := h7 i j y hy; ⟨u, hu, hrd.mono hlat.st⟩⟩
  · intro i v2 hv2
    obtain ⟨B2, rs2, xs2, h2, h3, h4, h5, h6, h7⟩ := h.bor i v2 hv2
    exact ⟨B2, rs2, xs2, by rw [hbo]; exact h2, h3, h4, h5, h6, fun i j y hy => let ⟨u, hu, hrd⟩ := h7 i j y hy; ⟨u, hu, hrd.mono hlat.st⟩⟩
  · obtain ⟨B2, rs, xs, h2, h3, h4, h5, h6, h7⟩ := h.buf id v hv
    rw [hB] at h2; cases h2
    rcases h6.2 with ⟨rfl, h0⟩ | ⟨g, cap, cur, rfl, hbg, hgg, hnc, hcm, hcs, htake⟩
    · have : rs = [] := List.eq_nil_of_length_eq_zero h0
      subst this
      exact .emp _ _ none 0 h3 (fun _ => rfl)
    · by_cases he : rs = []
      · subst he
        exact .emp _ _ _ cap h3 (fun h => by cases h)
      · have hcell : ∀ i j y, at2 rs i j = some y → ∃ u, w.cell? ⟨g, 0 + (i * B.z + j), none⟩ = some u ∧ Rd w (F.S m) y u := by
          intro i j y hy
          obtain ⟨u, hu, hrd⟩ := h7 i j y hy
          have := h6.cells (g := g) rfl (i * B.z + j) u hu
          refine ⟨u, ?_, hrd⟩
          rw [← this]
          unfold Addr.add
          split
          · rename_i hz0; simp [hz0]
          · rfl
        refine .sl B.con B.z rs g 0 cap (fun i j => (xs[i * B.z + j]?).getD undef) h3 he h4 (Nat.le_trans hnc hcm) hnc h5 ?_ ?_ ?_
        · refine .inr ⟨h.fresh g (.inr ⟨id, _, hv, rfl⟩), fun hoo => ?_⟩
          rcases hoo with ⟨i, hi⟩ | ⟨i, v2, hv2, hb2⟩
          · exact h.ibf i id g _ hi hv rfl
          · simp only [Mp.addBf] at hv2
            split at hv2
            · cases hv2
            · rename_i hi
              exact hi (h.iff i id g v2 _ hv2 hv hb2 rfl)
        · intro i j y hy
          obtain ⟨u, hu, hrd⟩ := hcell i j y hy
          obtain ⟨u2, hu2, _⟩ := h7 i j y hy
          have := h6.cells (g := g) rfl (i * B.z + j) u2 hu2
          simp only [hu2, Option.getD_some]
          rw [← this]
          unfold Addr.add
          split
          · rename_i hz0; simp [hz0]
          · simp
        · intro i j y hy
          obtain ⟨u2, hu2, hrd⟩ := h7 i j y hy
          simp only [hu2, Option.getD_some]
          exact hrd.mono hlat.st

end Go.Abs

/-
  The evaluation of single operations over the abstract memory: a predicate, in the style of a continuation.
-/
namespace Go.Abs
set_option linter.unusedSimpArgs false
set_option linter.unusedVariables false
open Go.RowKit

def szO (P : Program) (t : TypeId) : Option Nat := (P.info? t).map (·.size)
def byO (P : Program) (t : TypeId) : Option Nat := (P.info? t).map (·.bytes)
def zeroO (P : Program) (t : TypeId) : Option (List Value) := (P.info? t).bind fun i => i.zero.map fun z => z.cells.toList
def aggO (P : Program) (t : TypeId) : Option Bool := (P.underlying t).map fun d => match d with | .struct _ | .array _ _ => true | _ => false
def elO (P : Program) (t : TypeId) : Option TypeId := match P.underlying t with | some (.slice e) => some e | _ => none
def fldO (P : Program) (t : TypeId) (f : Nat) : Option (Nat × TypeId) := match P.underlying t with | some (.struct fs) => (fs[f]?).map fun x => (x.offset, x.type) | _ => none
def intO (P : Program) (t : TypeId) : Option IntKind := match P.underlying t with | some (.int k) => some k | _ => none
/-- an empty content of an element's type -/
def emptyO (P : Program) (e : TypeId) : Option C := match P.underlying e with | some (.int k) => some (.ints k []) | some .bool => some (.bools []) | some _ => (szO P e).map fun z => .sl z [] | none => none

def ofC : Value → C
  | .int k n => .i k n
  | .bool b => .b b
  | .string s => .str s
  | .slice none 0 0 => .nil
  | v => .a v

def ofV : Value → AV
  | .agg cs => if cs.toList.all oneCell then .g (cs.toList.map ofC) else .u
  | .tuple _ => .u
  | v => .c (ofC v)

structure St where
  n : Nat
  sl : List (Nat × AV)
  H : Hp
  nx : Nat

def St.get (st : St) (t : Nat) : AV := match look st.sl t with | some x => x | none => .u
def St.put (st : St) (d : Nat) (r : AV) : St := if d < st.n then { st with sl := (d, r) :: st.sl } else st
def St.ev (st : St) : Operand → AV
  | .tmp t => st.get t
  | .const v => ofV v
  | .global _ => .u
  | .func f => .c (.a (.func (.func f) #[] #[]))

def C.len : C → Option Nat
  | .nil => some 0
  | .e0 => some 0
  | .ints _ xs => some xs.length
  | .bools xs => some xs.length
  | .sl _ xs => some xs.length
  | _ => none
/-- the cells of an element -/
def C.row : C → Nat → List C
  | .ints k xs, q => [.i k (xs.getD q 0)]
  | .bools xs, q => [.b (xs.getD q false)]
  | .sl _ xs, q => xs.getD q []
  | _, _ => []
def C.sub : C → Nat → Nat → C
  | .ints k xs, l, h => .ints k ((xs.take h).drop l)
  | .bools xs, l, h => .bools ((xs.take h).drop l)
  | .sl z xs, l, h => .sl z ((xs.take h).drop l)
  | c, _, _ => c
def C.app : C → C → Option C
  | .ints k xs, .ints k' ys => if k = k' then some (.ints k (xs ++ ys)) else none
  | .bools xs, .bools ys => some (.bools (xs ++ ys))
  | .sl z xs, .sl z' ys => if z = z' then some (.sl z (xs ++ ys)) else none
  | .ints k xs, .nil => some (.ints k xs)
  | .bools xs, .nil => some (.bools xs)
  | .sl z xs, .nil => some (.sl z xs)
  | .ints k xs, .e0 => some (.ints k xs)
  | .bools xs, .e0 => some (.bools xs)
  | .sl z xs, .e0 => some (.sl z xs)
  | .ints .u8 xs, .str s => some (.ints .u8 (xs ++ s.data.toList.map fun b => (b.toNat : Int)))
  | _, _ => none
/-- an element's cell written -/
def C.put : C → Nat → Nat → C → Option C
  | .ints k xs, q, 0, .i k' n => if k = k' then some (.ints k (xs.set q n)) else none
  | .bools xs, q, 0, .b x => some (.bools (xs.set q x))
  | .sl z xs, q, j, x => some (.sl z (xs.set q ((xs.getD q []).set j x)))
  | _, _, _, _ => none

def cellsOf : AV → Option (List C)
  | .c x => some [x]
  | .g xs => some xs
  | _ => none
def allC : List AV → Option (List C)
  | [] => some []
  | .c x :: l => (allC l).map (x :: ·)
  | _ :: _ => none

def InK (k : IntKind) (n : Int) : Prop := k.min ≤ n ∧ n ≤ k.max
def modK : IntKind → Int
  | .u8 => 256 | .u16 => 65536 | .u32 => 4294967296 | .u64 => 18446744073709551616
  | .i8 => 256 | .i16 => 65536 | .i32 => 4294967296 | .i64 => 18446744073709551616
/-- the result of arithmetic: signed kinds must fit, the others wrap -/
def arT (k : IntKind) (n : Int) (K : AV → Prop) : Prop := match k.signed with
  | true => InK k n ∧ K (.c (.i k n))
  | false => K (.c (.i k (n % modK k)))

def curB (H : Hp) (id ver : Nat) : Option Buf := match look H.buf id with | some B => if B.ver == ver then some B else none | none => none

def bitI (op : BinOp) (k : IntKind) (x y : Int) : Int := match op with
  | .and => k.wrap (BitVec.ofInt k.bits x &&& BitVec.ofInt k.bits y).toNat
  | .or => k.wrap (BitVec.ofInt k.bits x ||| BitVec.ofInt k.bits y).toNat
  | .xor => k.wrap (BitVec.ofInt k.bits x ^^^ BitVec.ofInt k.bits y).toNat
  | _ => k.wrap (BitVec.ofInt k.bits x &&& ~~~ BitVec.ofInt k.bits y).toNat
def shlI (k : IntKind) (x y : Int) : Int := k.wrap (x * 2 ^ (Nat.min y.toNat k.bits))
def shrI (k : IntKind) (x y : Int) : Int := x.fdiv (2 ^ (Nat.min y.toNat k.bits))

def intT (op : BinOp) (k : IntKind) (a b : Int) (K : AV → Prop) : Prop := match op with
  | .add => arT k (a + b) K
  | .sub => arT k (a - b) K
  | .mul => arT k (a * b) K
  | .quo => match k.signed with
    | true => b ≠ 0 ∧ InK k (a.tdiv b) ∧ K (.c (.i k (a.tdiv b)))
    | false => (0 ≤ a ∧ a < modK k ∧ 0 < b) ∧ K (.c (.i k (a / b)))
  | .rem => match k.signed with
    | true => b ≠ 0 ∧ K (.c (.i k (a.tmod b)))
    | false => (0 ≤ a ∧ 0 < b) ∧ K (.c (.i k (a % b)))
  | .eql => K (.c (.b (decide (a = b))))
  | .neq => K (.c (.b (decide (a ≠ b))))
  | .lss => K (.c (.b (decide (a < b))))
  | .leq => K (.c (.b (decide (a ≤ b))))
  | .gtr => K (.c (.b (decide (b < a))))
  | .geq => K (.c (.b (decide (b ≤ a))))
  | .and => K (.c (.i k (bitI .and k a b)))
  | .or => K (.c (.i k (bitI .or k a b)))
  | .xor => K (.c (.i k (bitI .xor k a b)))
  | .andNot => K (.c (.i k (bitI .andNot k a b)))
  | _ => False

/-- what is known of a callee: whether its results lie in new memory alone; what it hands back -/
structure CT where
  fresh : Bool
  own : Option (TypeId × Nat) := none
  win : Option TypeId := none
  cut : Option TypeId := none
  tr : List (C ⊕ List C) → (AV → Prop) → Prop
  ctr : C → (C → Prop) → Prop := fun _ _ => False
/-- what is known of the program: its callees, its types of two ints that are compared -/
structure Cfg where
  tbl : FuncId → Option CT
  flt : List TypeId

/-- surely no nil slice -/
def nonNil (c : C) : Prop := match c with
  | .e0 => True
  | .ints _ xs => xs ≠ []
  | .bools xs => xs ≠ []
  | .sl _ xs => xs ≠ []
  | _ => False

def binT (P : Program) (cf : Cfg) (op : BinOp) (t : TypeId) (x y : AV) (K : AV → Prop) : Prop := match op, x, y with
  | .shl, .c (.i k a), .c (.i _ b) => 0 ≤ b ∧ K (.c (.i k (shlI k a b)))
  | .shr, .c (.i k a), .c (.i _ b) => 0 ≤ b ∧ K (.c (.i k (shrI k a b)))
  | op, .c (.i k a), .c (.i k' b) => k = k' ∧ intT op k a b K
  | .eql, .c (.b a), .c (.b b) => P.underlying t = some .bool ∧ K (.c (.b (a == b)))
  | .neq, .c (.b a), .c (.b b) => P.underlying t = some .bool ∧ K (.c (.b (a != b)))
  | .eql, .c (.str a), .c (.str b) => K (.c (.b (a.toList == b.toList)))
  | .neq, .c (.str a), .c (.str b) => K (.c (.b (!(a.toList == b.toList))))
  | .eql, .c .nil, .c .nil => (elO P t).isSome = true ∧ K (.c (.b true))
  | .neq, .c .nil, .c .nil => (elO P t).isSome = true ∧ K (.c (.b false))
  | .eql, .c c, .c .nil => (elO P t).isSome = true ∧ nonNil c ∧ K (.c (.b false))
  | .neq, .c c, .c .nil => (elO P t).isSome = true ∧ nonNil c ∧ K (.c (.b true))
  | .add, .c (.str a), .c (.str b) => a.size + b.size ≤ 9223372036854775807 ∧ K (.c (.str (a ++ b)))
  | .eql, .g [.i .i64 a, .i .i64 b], .g [.i .i64 c, .i .i64 d] => t ∈ cf.flt ∧ K (.c (.b (decide (a = c ∧ b = d))))
  | .neq, .g [.i .i64 a, .i .i64 b], .g [.i .i64 c, .i .i64 d] => t ∈ cf.flt ∧ K (.c (.b (!decide (a = c ∧ b = d))))
  | _, _, _ => False

def unT (op : UnOp) (x : AV) (K : AV → Prop) : Prop := match op, x with
  | .not, .c (.b a) => K (.c (.b (!a)))
  | .neg, .c (.i k a) => arT k (0 - a) K
  | .xor, .c (.i k a) => K (.c (.i k (bitI .xor k (if k.signed then -1 else k.max) a)))
  | _, _ => False

def convT (P : Program) (d : TypeId) (x : AV) (K : AV → Prop) : Prop := match intO P d, x with
  | some k, .c (.i _ n) => arT k n K
  | _, _ => False

def pickT (c : AV) (Ka Kb : Prop) : Prop := match c with
  | .c (.b true) => Ka
  | .c (.b false) => Kb
  | _ => False

def loadT (P : Program) (H : Hp) (t : TypeId) (x : AV) (K : AV → Prop) : Prop := match aggO P t, szO P t, x with
  | some false, _, .bx id off => match look H.box id with
    | some cs => match cs[off]? with | some y => K y | none => False
    | none => False
  | some false, _, .el xs => match xs with | y :: _ => K (.c y) | [] => False
  | some false, _, .oel id ver i off => match curB H id ver with
    | some B => match (B.con.row i)[off]? with | some y => K (.c y) | none => False
    | none => False
  | some false, _, .bel k i off => match look H.bor k with
    | some B => match (B.con.row i)[off]? with | some y => K (.c y) | none => False
    | none => False
  | some true, some z, .bx id off => match look H.box id with
    | some cs => match allC ((cs.drop off).take z) with | some l => l.length = z ∧ K (.g l) | none => False
    | none => False
  | some true, some z, .el xs => (xs.take z).length = z ∧ K (.g (xs.take z))
  | some true, some z, .oel id ver i off => match curB H id ver with
    | some B => (((B.con.row i).drop off).take z).length = z ∧ K (.g (((B.con.row i).drop off).take z))
    | none => False
  | _, _, _ => False

def indexAddrT (P : Program) (H : Hp) (t : TypeId) (x i : AV) (K : AV → Prop) : Prop := match elO P t, x, i with
  | some e, .c c, .c (.i _ n) => match c.len with
    | some l => szO P e = some c.z ∧ (0 ≤ n ∧ n < (l : Int)) ∧ K (.el (c.row n.toNat))
    | none => False
  | some e, .own id ver, .c (.i _ n) => match curB H id ver with
    | some B => match B.con.len with
      | some l => szO P e = some B.z ∧ (0 ≤ n ∧ n < (l : Int)) ∧ K (.oel id ver n.toNat 0)
      | none => False
    | none => False
  | some e, .bw k lo len, .c (.i _ n) => match look H.bor k with
    | some B => szO P e = some B.con.z ∧ (0 ≤ n ∧ n < (len : Int)) ∧ K (.bel k (lo + n.toNat) 0)
    | none => False
  | some e, .win id ver lo len, .c (.i _ n) => match curB H id ver with
    | some B => szO P e = some B.z ∧ (0 ≤ n ∧ n < (len : Int)) ∧ K (.oel id ver (lo + n.toNat) 0)
    | none => False
  | _, _, _ => False

def fieldAddrT (P : Program) (s : TypeId) (x : AV) (f : Nat) (K : AV → Prop) : Prop := match fldO P s f with
  | some (o, ft) => match szO P ft with
    | some (_ + 1) => match x with
      | .bx id off => K (.bx id (off + o))
      | .el xs => K (.el (xs.drop o))
      | _ => False
    | _ => False
  | none => False

def fieldT (P : Program) (s : TypeId) (x : AV) (f : Nat) (K : AV → Prop) : Prop := match fldO P s f, x with
  | some (o, ft), .g xs => match aggO P ft, szO P ft with
    | some false, _ => match xs[o]? with | some y => K (.c y) | none => False
    | some true, some z => K (.g ((xs.drop o).take z))
    | _, _ => False
  | _, _ => False

def ofSum : C ⊕ List C → AV
  | .inl x => .c x
  | .inr xs => .g xs
def extractT (x : AV) (i : Nat) (K : AV → Prop) : Prop := match x with
  | .t vs => match vs[i]? with | some y => K (ofSum y) | none => False
  | _ => False

def lenT (H : Hp) (x : AV) (K : AV → Prop) : Prop := match x with
  | .c (.str s) => K (.c (.i .i64 s.size))
  | .c c => match c.len with | some l => K (.c (.i .i64 l)) | none => False
  | .own id ver => match curB H id ver with
    | some B => match B.con.len with | some l => K (.c (.i .i64 l)) | none => False
    | none => False
  | .win id ver _ len => match curB H id ver with
    | some _ => K (.c (.i .i64 len))
    | none => False
  | .bw _ _ len => K (.c (.i .i64 len))
  | _ => False

/-- a slice expression over a view -/
def sliceT (P : Program) (t : TypeId) (x : AV) (lo hi : Option AV) (K : AV → Prop) : Prop := match elO P t, x with
  | some e, .c c => match c.len with
    | some l => match lo, hi with
      | none, none => szO P e = some c.z ∧ K (.c (c.sub 0 l))
      | some (.c (.i _ a)), none => szO P e = some c.z ∧ (0 ≤ a ∧ a ≤ (l : Int)) ∧ K (.c (c.sub a.toNat l))
      | none, some (.c (.i _ b)) => szO P e = some c.z ∧ (0 ≤ b ∧ b ≤ (l : Int)) ∧ K (.c (c.sub 0 b.toNat))
      | some (.c (.i _ a)), some (.c (.i _ b)) => szO P e = some c.z ∧ (0 ≤ a ∧ a ≤ b ∧ b ≤ (l : Int)) ∧ K (.c (c.sub a.toNat b.toNat))
      | _, _ => False
    | none => False
  | _, _ => False

/-- the places of a struct's fields, of an array's elements -/
def plO (P : Program) (t : TypeId) : Option (List (Nat × Nat)) := match P.underlying t with
  | some (.struct fs) => fs.toList.mapM fun f => (P.info? f.type).map fun i => (f.offset, i.size)
  | some (.array n e) => (szO P e).map fun z => (List.range n).map fun i => (i * z, z)
  | _ => none
/-- what is put into the places of a struct -/
def fillC (pl : List (Nat × Nat)) : List (Nat × AV) → List C → Option (List C)
  | [], cs => some cs
  | (f, x) :: ps, cs => match pl[f]?, cellsOf x with
    | some (o, z), some ys => if ys.length = z ∧ o + z ≤ cs.length then fillC pl ps (cs.take o ++ ys ++ cs.drop (o + z)) else none
    | _, _ => none
def buildT (P : Program) (t : TypeId) (ps : List (Nat × AV)) (K : AV → Prop) : Prop := match zeroO P t, plO P t with
  | some zs, some pl => match fillC pl ps (zs.map ofC) with | some cs => zs.all oneCell = true ∧ K (.g cs) | none => False
  | _, _ => False

def intsOf (k : IntKind) : List AV → Option (List Int)
  | [] => some []
  | .c (.i k' n) :: l => if k = k' then (intsOf k l).map (n :: ·) else none
  | _ :: _ => none
def boolsOf : List AV → Option (List Bool)
  | [] => some []
  | .c (.b n) :: l => (boolsOf l).map (n :: ·)
  | _ :: _ => none
def rowsOf (z : Nat) : List AV → Option (List (List C))
  | [] => some []
  | x :: l => match cellsOf x with
    | some r => if r.length = z then (rowsOf z l).map (r :: ·) else none
    | none => none
def litO (P : Program) (e : TypeId) (xs : List AV) : Option C := match P.underlying e with
  | some (.int k) => (intsOf k xs).map (.ints k)
  | some .bool => (boolsOf xs).map .bools
  | _ => match szO P e with | some z => (rowsOf z xs).map (.sl z) | none => none

end Go.Abs

/-
  The evaluation of single operations is sound: those that leave the world alone.
-/
namespace Go.Abs
set_option linter.unusedSimpArgs false
set_option linter.unusedVariables false
open Go.RowKit

section rd
variable {w : World} {S : Nat → Prop} {v : Value}
theorem rd_i {k : IntKind} {n : Int} (h : Rd w S (.i k n) v) : v = .int k n := by cases h <;> first | rfl | (rename_i h; simp [C.rows] at h)
theorem rd_b {x : Bool} (h : Rd w S (.b x) v) : v = .bool x := by cases h <;> first | rfl | (rename_i h; simp [C.rows] at h)
theorem rd_str {x : ByteArray} (h : Rd w S (.str x) v) : v = .string x := by cases h <;> first | rfl | (rename_i h; simp [C.rows] at h)
theorem rd_nil (h : Rd w S .nil v) : v = .slice none 0 0 := by cases h <;> first | rfl | (rename_i h; simp [C.rows] at h)
theorem rd_a {x : Value} (h : Rd w S (.a x) v) : v = x := by cases h <;> first | rfl | (rename_i h; simp [C.rows] at h)
theorem rd_e0 (h : Rd w S .e0 v) : ∃ a cap, v = .slice (some a) 0 cap := by cases h <;> first | exact ⟨_, _, rfl⟩ | (rename_i h; simp [C.rows] at h)
end rd

theorem rd_ofC (w : World) (S : Nat → Prop) (v : Value) (h : oneCell v = true) : Rd w S (ofC v) v := by
  unfold ofC
  split
  · exact .i _ _
  · exact .b _
  · exact .str _
  · exact .nil
  · exact .a _ h

/-- yields, and leaves the world alone -/
def Yl (P : Program) (F : Fr) (H : Hp) (m : Mp) (w : World) (s : Sem Value) (r : AV) : Prop := ∃ v, s.run P w = .ok v w ∧ RepA F H m w r v

theorem wrap_signed {k : IntKind} {n : Int} (hs : k.signed = true) (h : InK k n) : k.wrap n = n := by
  cases k <;> simp [IntKind.signed] at hs <;> simp [InK, IntKind.min, IntKind.max, IntKind.signed, IntKind.bits] at h <;> simp [IntKind.wrap, IntKind.signed, IntKind.bits] <;> omega

theorem wrap_unsigned {k : IntKind} {n : Int} (hs : k.signed = false) : k.wrap n = n % modK k := by
  cases k <;> simp [IntKind.signed] at hs <;> simp [IntKind.wrap, IntKind.signed, IntKind.bits, modK]

variable {P : Program}

theorem arT_sound {k : IntKind} {n : Int} {K : AV → Prop} (h : arT k n K) : ∃ r, K r ∧ r = .c (.i k (k.wrap n)) := by
  unfold arT at h
  split at h
  · rename_i hs; exact ⟨_, h.2, by rw [wrap_signed hs h.1]⟩
  · rename_i hs; exact ⟨_, h, by rw [wrap_unsigned hs]⟩

theorem rep_int (F : Fr) (H : Hp) (m : Mp) (w : World) (k : IntKind) (n : Int) : RepA F H m w (.c (.i k n)) (.int k n) := Rd.i k n
theorem rep_bool (F : Fr) (H : Hp) (m : Mp) (w : World) (x : Bool) : RepA F H m w (.c (.b x)) (.bool x) := Rd.b x

theorem intT_sound {op : BinOp} {k : IntKind} {a b : Int} {K : AV → Prop} (h : intT op k a b K) :
    ∃ r, K r ∧ ∀ (F : Fr) (H : Hp) (m : Mp) (w : World) (t : TypeId), Yl P F H m w (binOp op t (.int k a) (.int k b)) r := by
  cases op <;> simp only [intT] at h
  case add => obtain ⟨r, hK, rfl⟩ := arT_sound h; exact ⟨_, hK, fun F H m w t => ⟨_, by simp [binOp, Op.intArith], rep_int ..⟩⟩
  case sub => obtain ⟨r, hK, rfl⟩ := arT_sound h; exact ⟨_, hK, fun F H m w t => ⟨_, by simp [binOp, Op.intArith], rep_int ..⟩⟩
  case mul => obtain ⟨r, hK, rfl⟩ := arT_sound h; exact ⟨_, hK, fun F H m w t => ⟨_, by simp [binOp, Op.intArith], rep_int ..⟩⟩
  case quo =>
    split at h
    · rename_i hs; obtain ⟨hb, hi, hK⟩ := h; exact ⟨_, hK, fun F H m w t => ⟨_, by simp [binOp, Op.intDiv, hb, wrap_signed hs hi], rep_int ..⟩⟩
    · rename_i hs; obtain ⟨⟨ha, ha2, hb⟩, hK⟩ := h
      refine ⟨_, hK, fun F H m w t => ⟨_, ?_, rep_int ..⟩⟩
      have e1 : a.tdiv b = a / b := Int.tdiv_eq_ediv_of_nonneg ha
      have h0 : 0 ≤ a / b := Int.ediv_nonneg ha (by omega)
      have h1 : a / b ≤ a := Int.ediv_le_self b ha
      have e2 : a / b % modK k = a / b := Int.emod_eq_of_lt h0 (by omega)
      have hb0 : b ≠ 0 := by omega
      simp [binOp, Op.intDiv, hb0, e1, wrap_unsigned hs, e2]
  case rem =>
    split at h
    · obtain ⟨hb, hK⟩ := h; exact ⟨_, hK, fun F H m w t => ⟨_, by simp [binOp, Op.intDiv, hb], rep_int ..⟩⟩
    · obtain ⟨⟨ha, hb⟩, hK⟩ := h
      refine ⟨_, hK, fun F H m w t => ⟨_, ?_, rep_int ..⟩⟩
      have e1 : a.tmod b = a % b := Int.tmod_eq_emod_of_nonneg ha
      have hb0 : b ≠ 0 := by omega
      simp [binOp, Op.intDiv, hb0, e1]
  case eql => exact ⟨_, h, fun F H m w t => ⟨.bool (a == b), by simp [binOp, Op.intCmp], by have : (a == b) = decide (a = b) := rfl; rw [this]; exact rep_bool ..⟩⟩
  case neq =>
    have e : (a != b) = decide (a ≠ b) := by rw [Bool.eq_iff_iff]; simp
    exact ⟨_, h, fun F H m w t => ⟨.bool (a != b), by simp [binOp, Op.intCmp], by rw [e]; exact rep_bool ..⟩⟩
  case lss => exact ⟨_, h, fun F H m w t => ⟨_, by simp [binOp, Op.intCmp], rep_bool ..⟩⟩
  case leq => exact ⟨_, h, fun F H m w t => ⟨_, by simp [binOp, Op.intCmp], rep_bool ..⟩⟩
  case gtr => exact ⟨_, h, fun F H m w t => ⟨_, by simp [binOp, Op.intCmp], rep_bool ..⟩⟩
  case geq => exact ⟨_, h, fun F H m w t => ⟨_, by simp [binOp, Op.intCmp], rep_bool ..⟩⟩
  case and => exact ⟨_, h, fun F H m w t => ⟨_, by simp [binOp, Op.intBits]; rfl, rep_int ..⟩⟩
  case or => exact ⟨_, h, fun F H m w t => ⟨_, by simp [binOp, Op.intBits]; rfl, rep_int ..⟩⟩
  case xor => exact ⟨_, h, fun F H m w t => ⟨_, by simp [binOp, Op.intBits]; rfl, rep_int ..⟩⟩
  case andNot => exact ⟨_, h, fun F H m w t => ⟨_, by simp only [binOp, Op.intBits, ne_eq, not_true_eq_false, if_false]; rfl, rep_int ..⟩⟩


theorem rep_i {F : Fr} {H : Hp} {m : Mp} {w : World} {k : IntKind} {n : Int} {v : Value} (h : RepA F H m w (.c (.i k n)) v) : v = .int k n := rd_i h
theorem rep_b {F : Fr} {H : Hp} {m : Mp} {w : World} {x : Bool} {v : Value} (h : RepA F H m w (.c (.b x)) v) : v = .bool x := rd_b h

theorem eqGuard_int (op : BinOp) (t : TypeId) (x y : Operand) (k k' : IntKind) (a b : Int) (w : World) : (eqGuard op t x y (.int k a) (.int k' b)).run P w = .ok () w := by
  cases op <;> simp [eqGuard]
theorem eqGuard_bool (op : BinOp) (t : TypeId) (x y : Operand) (a b : Bool) (w : World) : (eqGuard op t x y (.bool a) (.bool b)).run P w = .ok () w := by
  cases op <;> simp [eqGuard]

theorem eqGuard_str (op : BinOp) (t : TypeId) (x y : Operand) (a b : ByteArray) (w : World) : (eqGuard op t x y (.string a) (.string b)).run P w = .ok () w := by
  cases op <;> simp [eqGuard]

/-- the compared types are as the table says -/
def FltOk (P : Program) (t : TypeId) : Prop := ∀ (op : BinOp) (a b c d : Int) (x y : Operand) (w : World), op = .eql ∨ op = .neq →
  (do eqGuard op t x y (.agg #[.int .i64 a, .int .i64 b]) (.agg #[.int .i64 c, .int .i64 d]); binOp op t (.agg #[.int .i64 a, .int .i64 b]) (.agg #[.int .i64 c, .int .i64 d])).run P w =
    .ok (.bool (if op = .eql then decide (a = c ∧ b = d) else !decide (a = c ∧ b = d))) w

theorem rep_two {F : Fr} {H : Hp} {m : Mp} {w : World} {a b : Int} {v : Value} (h : RepA F H m w (.g [.i .i64 a, .i .i64 b]) v) : v = .agg #[.int .i64 a, .int .i64 b] := by
  obtain ⟨vs, rfl, hl, h⟩ := h
  obtain ⟨l⟩ := vs
  match l, hl with
  | [x, y], _ =>
    have h0 := rd_i (h 0 _ x rfl rfl)
    have h1 := rd_i (h 1 _ y rfl rfl)
    subst h0; subst h1; rfl

theorem equal_bool {t : TypeId} (ht : P.underlying t = some .bool) (a b : Bool) (w : World) : (Op.equal t (.bool a) (.bool b)).run P w = .ok (a == b) w := by
  obtain ⟨d, hd⟩ : ∃ d, Op.maxDepth = d + 1 := ⟨9999, rfl⟩
  rw [Op.equal, hd]
  simp [Op.equalIn, run_underlying ht]

theorem eqGuard_sl (op : BinOp) (t : TypeId) (x y : Operand) (a b : Option Addr) (l l' c c' : Nat) (w : World) : (eqGuard op t x y (.slice a l c) (.slice b l' c')).run P w = .ok () w := by
  cases op <;> simp [eqGuard]
theorem equal_sl_nil {t : TypeId} (ht : (elO P t).isSome = true) (a : Option Addr) (l c : Nat) (w : World) : (Op.equal t (.slice a l c) (.slice none 0 0)).run P w = .ok a.isNone w := by
  obtain ⟨e, he⟩ := Option.isSome_iff_exists.1 ht
  have hu : P.underlying t = some (.slice e) := by
    unfold elO at he
    split at he
    · rename_i e' he'; cases he; exact he'
    · cases he
  obtain ⟨d, hd⟩ : ∃ d, Op.maxDepth = d + 1 := ⟨9999, rfl⟩
  rw [Op.equal, hd]
  cases a <;> simp [Op.equalIn, run_underlying hu]
theorem rd_nonNil {w : World} {S : Nat → Prop} {c : C} {v : Value} (hn : nonNil c) (h : Rd w S c v) : ∃ a l cap, v = .slice (some a) l cap := by
  cases h with
  | e0 a cap => exact ⟨a, 0, cap, rfl⟩
  | emp c z p cap h hp => cases c <;> simp_all [nonNil, C.rows]
  | sl c z rs b off cap us h => exact ⟨_, _, _, rfl⟩
  | a => exact hn.elim
  | i => exact hn.elim
  | b => exact hn.elim
  | str => exact hn.elim
  | nil => exact hn.elim

theorem binT_sound {cf : Cfg} (hcf : ∀ t ∈ cf.flt, FltOk P t) {op : BinOp} {t : TypeId} {x y : AV} {K : AV → Prop} (h : binT P cf op t x y K) :
    ∃ r, K r ∧ ∀ (F : Fr) (H : Hp) (m : Mp) (w : World) (u v : Value) (ox oy : Operand), RepA F H m w x u → RepA F H m w y v → Yl P F H m w (do eqGuard op t ox oy u v; binOp op t u v) r := by
  unfold binT at h
  split at h
  · obtain ⟨hb, hK⟩ := h
    refine ⟨_, hK, fun F H m w u v ox oy hu hv => ⟨_, ?_, rep_int ..⟩⟩
    rename_i k a k' b
    obtain rfl := rep_i hu
    obtain rfl := rep_i hv
    have : ¬ b < 0 := by omega
    simp [eqGuard_int, binOp, Op.shift, this]
    rfl
  · obtain ⟨hb, hK⟩ := h
    refine ⟨_, hK, fun F H m w u v ox oy hu hv => ⟨_, ?_, rep_int ..⟩⟩
    rename_i k a k' b
    obtain rfl := rep_i hu
    obtain rfl := rep_i hv
    have : ¬ b < 0 := by omega
    simp [eqGuard_int, binOp, Op.shift, this]
    rfl
  · obtain ⟨rfl, h⟩ := h
    obtain ⟨r, hK, hr⟩ := intT_sound (P := P) h
    refine ⟨r, hK, fun F H m w u v ox oy hu hv => ?_⟩
    obtain rfl := rep_i hu
    obtain rfl := rep_i hv
    obtain ⟨v, hv, hrep⟩ := hr F H m w t
    exact ⟨v, by simp [eqGuard_int, hv], hrep⟩
  · refine ⟨_, h.2, fun F H m w u v ox oy hu hv => ⟨_, ?_, rep_bool ..⟩⟩
    obtain rfl := rep_b hu
    obtain rfl := rep_b hv
    simp [eqGuard_bool, binOp, equal_bool h.1]
  · refine ⟨_, h.2, fun F H m w u v ox oy hu hv => ⟨_, ?_, rep_bool ..⟩⟩
    obtain rfl := rep_b hu
    obtain rfl := rep_b hv
    simp only [Sem.run_bind, eqGuard_bool, Result.andThen_ok, binOp, equal_bool h.1]
    rfl
  · refine ⟨_, h, fun F H m w u v ox oy hu hv => ⟨_, ?_, rep_bool ..⟩⟩
    obtain rfl := rd_str hu
    obtain rfl := rd_str hv
    simp [eqGuard_str, binOp, Op.stringOp]
  · refine ⟨_, h, fun F H m w u v ox oy hu hv => ⟨_, ?_, rep_bool ..⟩⟩
    obtain rfl := rd_str hu
    obtain rfl := rd_str hv
    simp [eqGuard_str, binOp, Op.stringOp]
  · refine ⟨_, h.2, fun F H m w u v ox oy hu hv => ⟨_, ?_, rep_bool ..⟩⟩
    obtain rfl := rd_nil hu
    obtain rfl := rd_nil hv
    simp [eqGuard_sl, binOp, equal_sl_nil h.1]
  · refine ⟨_, h.2, fun F H m w u v ox oy hu hv => ⟨_, ?_, rep_bool ..⟩⟩
    obtain rfl := rd_nil hu
    obtain rfl := rd_nil hv
    simp [eqGuard_sl, binOp, equal_sl_nil h.1]
  · refine ⟨_, h.2.2, fun F H m w u v ox oy hu hv => ⟨_, ?_, rep_bool ..⟩⟩
    obtain ⟨a, l, cap, rfl⟩ := rd_nonNil h.2.1 hu
    obtain rfl := rd_nil hv
    simp [eqGuard_sl, binOp, equal_sl_nil h.1]
  · refine ⟨_, h.2.2, fun F H m w u v ox oy hu hv => ⟨_, ?_, rep_bool ..⟩⟩
    obtain ⟨a, l, cap, rfl⟩ := rd_nonNil h.2.1 hu
    obtain rfl := rd_nil hv
    simp [eqGuard_sl, binOp, equal_sl_nil h.1]
  · obtain ⟨hle, h⟩ := h
    refine ⟨_, h, fun F H m w u v ox oy hu hv => ⟨_, ?_, Rd.str _⟩⟩
    obtain rfl := rd_str hu
    obtain rfl := rd_str hv
    rename_i a b
    have : ¬ (((a.size + b.size : Nat) : Int) > IntKind.i64.max) := by simp [IntKind.max, IntKind.signed, IntKind.bits]; omega
    simp only [Sem.run_bind, eqGuard_str, Result.andThen_ok, binOp, Op.stringOp, this, if_false]
    rfl
  · refine ⟨_, h.2, fun F H m w u v ox oy hu hv => ⟨_, ?_, rep_bool ..⟩⟩
    obtain rfl := rep_two hu
    obtain rfl := rep_two hv
    rename_i a b c d
    have := hcf t h.1 .eql a b c d ox oy w (.inl rfl)
    simpa using this
  · refine ⟨_, h.2, fun F H m w u v ox oy hu hv => ⟨_, ?_, rep_bool ..⟩⟩
    obtain rfl := rep_two hu
    obtain rfl := rep_two hv
    rename_i a b c d
    have := hcf t h.1 .neq a b c d ox oy w (.inr rfl)
    simpa using this
  · exact h.elim

theorem unT_sound {op : UnOp} {x : AV} {K : AV → Prop} (h : unT op x K) :
    ∃ r, K r ∧ ∀ (F : Fr) (H : Hp) (m : Mp) (w : World) (u : Value), RepA F H m w x u → Yl P F H m w (Op.unary op u) r := by
  unfold unT at h
  split at h
  · exact ⟨_, h, fun F H m w u hu => by obtain rfl := rep_b hu; exact ⟨_, by simp [Op.unary], rep_bool ..⟩⟩
  · obtain ⟨r, hK, rfl⟩ := arT_sound h
    exact ⟨_, hK, fun F H m w u hu => by obtain rfl := rep_i hu; exact ⟨_, by simp only [Op.unary, Op.intArith]; rfl, rep_int ..⟩⟩
  · exact ⟨_, h, fun F H m w u hu => by obtain rfl := rep_i hu; exact ⟨_, by simp only [Op.unary, Op.intBits]; rfl, rep_int ..⟩⟩
  · exact h.elim

theorem intO_some {t : TypeId} {k : IntKind} (h : intO P t = some k) : P.underlying t = some (.int k) := by
  unfold intO at h
  split at h
  · rename_i e; cases h; exact e
  · cases h

theorem convT_sound {s d : TypeId} (hs : (P.underlying s).isSome = true) {x : AV} {K : AV → Prop} (h : convT P d x K) :
    ∃ r, K r ∧ ∀ (F : Fr) (H : Hp) (m : Mp) (w : World) (u : Value), RepA F H m w x u → Yl P F H m w (convert s d u) r := by
  unfold convT at h
  split at h
  · rename_i k k' n hk
    obtain ⟨r, hK, rfl⟩ := arT_sound h
    refine ⟨_, hK, fun F H m w u hu => ?_⟩
    obtain rfl := rep_i hu
    obtain ⟨ds, hds⟩ := Option.isSome_iff_exists.1 hs
    refine ⟨_, ?_, rep_int ..⟩
    simp only [convert, Sem.run_bind, run_underlying hds, run_underlying (intO_some hk), Result.andThen_ok]
    rfl
  · exact h.elim

end Go.Abs

/-
  The evaluation of single operations is sound: reading memory.
-/
namespace Go.Abs
set_option linter.unusedSimpArgs false
set_option linter.unusedVariables false
open Go.RowKit

/-- an abstract memory that tells at least as much -/
def Sup (H' H : Hp) : Prop := ((∀ i cs, look H.box i = some cs → look H'.box i = some cs) ∧ H'.bor = H.bor) ∧ H'.buf = H.buf

variable {P : Program}

theorem aggO_run {t : TypeId} {b : Bool} (h : aggO P t = some b) (w : World) : (isAgg t).run P w = .ok b w := by
  unfold aggO at h
  obtain ⟨d, hd, rfl⟩ := Option.map_eq_some_iff.1 h
  simp only [isAgg, Sem.run_bind, run_underlying hd, Result.andThen_ok]
  cases d <;> rfl

theorem aggO_row {t : TypeId} (h : aggO P t = some true) : ∃ d, P.underlying t = some d ∧ d.isRow = true := by
  unfold aggO at h
  obtain ⟨d, hd, hb⟩ := Option.map_eq_some_iff.1 h
  refine ⟨d, hd, ?_⟩
  cases d <;> simp_all [TypeDesc.isRow]

theorem allC_spec : ∀ {l : List AV} {cs : List C}, allC l = some cs → l = cs.map AV.c
  | [], cs, h => by simp [allC] at h; subst h; rfl
  | .c x :: l, cs, h => by
    simp only [allC, Option.map_eq_some_iff] at h
    obtain ⟨cs', h1, rfl⟩ := h
    rw [allC_spec h1]; rfl
  | .g _ :: l, cs, h => by simp [allC] at h
  | .t _ :: l, cs, h => by simp [allC] at h
  | .bx _ _ :: l, cs, h => by simp [allC] at h
  | .own _ _ :: l, cs, h => by simp [allC] at h
  | .oel _ _ _ _ :: l, cs, h => by simp [allC] at h
  | .el _ :: l, cs, h => by simp [allC] at h
  | .u :: l, cs, h => by simp [allC] at h

theorem loadAt_one {t : TypeId} (h : aggO P t = some false) {w : World} {b off : Nat} {v : Value} (hc : w.cell? ⟨b, off, none⟩ = some v) :
    (Instr.loadAt t (.pointer (some ⟨b, off, none⟩))).run P w = .ok v w := by
  simp [Instr.loadAt, Instr.sureAddr, loadVar, aggO_run h, hc]

theorem curB_spec {H : Hp} {id ver : Nat} {B : Buf} (h : curB H id ver = some B) : look H.buf id = some B ∧ B.ver = ver := by
  unfold curB at h
  split at h
  · split at h
    · rename_i B' hb hv; cases h; exact ⟨hb, by simpa using hv⟩
    · cases h
  · cases h

theorem row_at2 {c : C} {z : Nat} {rs : List (List C)} (h : c.rows = some (z, rs)) {i : Nat} (hi : i < rs.length) : rs[i]? = some (c.row i) := by
  cases c <;> simp [C.rows] at h
  · obtain ⟨rfl, rfl⟩ := h; simp at hi; simp [C.row, List.getElem?_eq_getElem hi]
  · obtain ⟨rfl, rfl⟩ := h; simp at hi; simp [C.row, List.getElem?_eq_getElem hi]
  · obtain ⟨rfl, rfl⟩ := h; simp [C.row, List.getElem?_eq_getElem hi]

theorem rows_z {c : C} {z : Nat} {rs : List (List C)} (h : c.rows = some (z, rs)) : c.z = z ∧ c.len = some rs.length := by
  cases c <;> simp [C.rows] at h
  · obtain ⟨rfl, rfl⟩ := h; simp [C.z, C.len]
  · obtain ⟨rfl, rfl⟩ := h; simp [C.z, C.len]
  · obtain ⟨rfl, rfl⟩ := h; simp [C.z, C.len]

/-- a current element of a buffer -/
theorem oel_cell {F : Fr} {H : Hp} {m : Mp} {w : World} (h : HRep F H m w) {id ver i off : Nat} {B : Buf} {u : Value} (hB : look H.buf id = some B) (hv : B.ver = ver) (hu : RepA F H m w (.oel id ver i off) u) :
    ∃ g n cap rs xs, m.bf id = some (.slice (some ⟨g, 0, none⟩) n cap) ∧ u = .pointer (some ⟨g, i * B.z + off, none⟩) ∧ B.con.rows = some (B.z, rs) ∧ (∀ r ∈ rs, r.length = B.z) ∧ n = rs.length ∧ i < rs.length ∧ off < B.z ∧ 0 < B.z ∧
      w.ownsRow 0 B.e B.z (.slice (some ⟨g, 0, none⟩) n cap) rs.length xs ∧ RdRow w (F.S m) B.z rs xs ∧
      ∀ j y, (B.con.row i)[j]? = some y → ∃ q, w.cell? ⟨g, i * B.z + j, none⟩ = some q ∧ Rd w (F.S m) y q := by
  obtain ⟨B', hB', hle, hk⟩ := hu
  rw [hB] at hB'; cases hB'
  obtain ⟨g, n, cap, hg, hi, ho, rfl⟩ := hk hv
  obtain ⟨B2, rs, xs, h1, h2, h3, h4, h5, h6⟩ := h.buf id _ hg
  rw [hB] at h1; cases h1
  have hn : n = rs.length := by
    rcases h5.2 with ⟨h7, _⟩ | ⟨g', cap', cur, h7, _⟩
    · cases h7
    · cases h7; rfl
  subst hn
  refine ⟨g, _, cap, rs, xs, hg, rfl, h2, h4, rfl, hi, ho, h3, h5, h6, fun j y hy => ?_⟩
  have hrow := row_at2 h2 hi
  have hat : at2 rs i j = some y := by simp [at2, hrow, hy]
  obtain ⟨q, hq, hr⟩ := h6 i j y hat
  have hc := h5.cells (g := g) rfl (i * B.z + j) q hq
  refine ⟨q, ?_, hr⟩
  rw [← hc]
  unfold Addr.add
  split
  · rename_i hz0; simp [hz0]
  · simp

theorem bel_cell {F : Fr} {H : Hp} {m : Mp} {w : World} (h : HRep F H m w) {k i off : Nat} {B : Bor} {u : Value} (hB : look H.bor k = some B) (hu : RepA F H m w (.bel k i off) u) :
    ∃ g n cap rs xs, F.br k = some (.slice (some ⟨g, 0, none⟩) n cap) ∧ u = .pointer (some ⟨g, i * B.con.z + off, none⟩) ∧ B.con.rows = some (B.con.z, rs) ∧ (∀ r ∈ rs, r.length = B.con.z) ∧ n = rs.length ∧ i < rs.length ∧ off < B.con.z ∧ 0 < B.con.z ∧
      w.ownsRow 0 B.e B.con.z (.slice (some ⟨g, 0, none⟩) n cap) rs.length xs ∧ RdRow w (F.S m) B.con.z rs xs ∧
      ∀ j y, (B.con.row i)[j]? = some y → ∃ q, w.cell? ⟨g, i * B.con.z + j, none⟩ = some q ∧ Rd w (F.S m) y q := by
  obtain ⟨B', g, n, cap, hB', hg, hi, ho, rfl⟩ := hu
  rw [hB] at hB'; cases hB'
  obtain ⟨B2, rs, xs, h1, h2, h3, h4, h5, h6⟩ := h.bor k _ hg
  rw [hB] at h1; cases h1
  have hn : n = rs.length := by
    rcases h5.2 with ⟨h7, _⟩ | ⟨g', cap', cur, h7, _⟩
    · cases h7
    · cases h7; rfl
  subst hn
  refine ⟨g, _, cap, rs, xs, hg, rfl, h2, h4, rfl, hi, ho, h3, h5, h6, fun j y hy => ?_⟩
  have hrow := row_at2 h2 hi
  have hat : at2 rs i j = some y := by simp [at2, hrow, hy]
  obtain ⟨q, hq, hr⟩ := h6 i j y hat
  have hc := h5.cells (g := g) rfl (i * B.con.z + j) q hq
  refine ⟨q, ?_, hr⟩
  rw [← hc]
  unfold Addr.add
  split
  · rename_i hz0; simp [hz0]
  · simp

theorem loadT_sound {H : Hp} {t : TypeId} {x : AV} {K : AV → Prop} (h : loadT P H t x K) :
    ∃ r, K r ∧ ∀ (F : Fr) (H' : Hp) (m : Mp) (w : World) (u : Value), Sup H' H → HRep F H' m w → RepA F H' m w x u → Yl P F H' m w (Instr.loadAt t u) r := by
  unfold loadT at h
  split at h
  · rename_i z id off hag
    split at h
    · rename_i cs hcs
      split at h
      · rename_i y hy
        refine ⟨y, h, fun F H' m w u hsup hrep hu => ?_⟩
        obtain ⟨b, hb, rfl⟩ := hu
        obtain ⟨cs', arr, e, h1, h2, h3, h4⟩ := hrep.box id b hb
        rw [hsup.1.1 id cs hcs] at h1; cases h1
        have hlt := (List.getElem?_eq_some_iff.1 hy).1
        have harr : arr[off]? = some arr[off] := Array.getElem?_eq_getElem (by omega)
        exact ⟨arr[off], loadAt_one hag (by simp [World.cell?, h2, harr]), (h4 off y _ hy harr).2⟩
      · exact h.elim
    · exact h.elim
  · rename_i z xs hag
    split at h
    · rename_i y ys
      refine ⟨_, h, fun F H' m w u hsup hrep hu => ?_⟩
      obtain ⟨b, off, rfl, hS, hc⟩ := hu
      obtain ⟨q, hq, hr⟩ := hc 0 y rfl
      exact ⟨q, loadAt_one hag hq, hr⟩
    · exact h.elim
  · rename_i z id ver i off hag
    split at h
    · rename_i B hB
      split at h
      · rename_i y hy
        refine ⟨_, h, fun F H' m w u hsup hrep hu => ?_⟩
        obtain ⟨hB1, hB2⟩ := curB_spec hB
        rw [← hsup.2] at hB1
        obtain ⟨g, n, cap, rs, xs, _, rfl, _, _, _, _, _, _, _, _, hcell⟩ := oel_cell hrep hB1 hB2 hu
        obtain ⟨q, hq, hr⟩ := hcell off y hy
        exact ⟨q, loadAt_one hag hq, hr⟩
      · exact h.elim
    · exact h.elim
  · rename_i z k i off hag
    split at h
    · rename_i B hB
      split at h
      · rename_i y hy
        refine ⟨_, h, fun F H' m w u hsup hrep hu => ?_⟩
        rw [← hsup.1.2] at hB
        obtain ⟨g, n, cap, rs, xs, _, rfl, _, _, _, _, _, _, _, _, hcell⟩ := bel_cell hrep hB hu
        obtain ⟨q, hq, hr⟩ := hcell off y hy
        exact ⟨q, loadAt_one hag hq, hr⟩
      · exact h.elim
    · exact h.elim
  · rename_i z id off hag hsz
    split at h
    · rename_i cs hcs
      split at h
      · rename_i l hl
        obtain ⟨hlen, hK⟩ := h
        refine ⟨_, hK, fun F H' m w u hsup hrep hu => ?_⟩
        obtain ⟨b, hb, rfl⟩ := hu
        obtain ⟨cs', arr, e, h1, h2, h3, h4⟩ := hrep.box id b hb
        rw [hsup.1.1 id cs hcs] at h1; cases h1
        obtain ⟨d, hd, hrow⟩ := aggO_row hag
        have hal := allC_spec hl
        have hlen2 : ((cs.drop off).take z).length = z := by rw [hal]; simp [hlen]
        have hvl : ((arr.toList.drop off).take z).length = z := by
          simp only [List.length_take, List.length_drop, Array.length_toList] at hlen2 ⊢
          omega
        have hget : ∀ (j : Nat) v, ((arr.toList.drop off).take z)[j]? = some v → j < z ∧ arr[off + j]? = some v := by
          intro j v hj
          have hjz := (List.getElem?_eq_some_iff.1 hj).1
          rw [hvl] at hjz
          rw [List.getElem?_take, if_pos hjz, List.getElem?_drop] at hj
          exact ⟨hjz, by simpa using hj⟩
        refine ⟨.agg ((arr.toList.drop off).take z).toArray, run_loadAt_mid w b off t _ d ?_ hd hrow ?_, _, rfl, by simp only; rw [hvl, hlen], ?_⟩
        · intro j v hj
          obtain ⟨_, hj⟩ := hget j v hj
          simp [World.cell?, h2, hj]
        · rw [hvl]; exact hsz
        · intro j y q hy hq
          obtain ⟨hjz, hq⟩ := hget j q hq
          have : ((cs.drop off).take z)[j]? = some (.c y) := by rw [hal]; simp [hy]
          rw [List.getElem?_take, if_pos hjz, List.getElem?_drop] at this
          exact (h4 (off + j) _ q this hq).2
      · exact h.elim
    · exact h.elim
  · rename_i z xs hag hsz
    obtain ⟨hlen, hK⟩ := h
    refine ⟨_, hK, fun F H' m w u hsup hrep hu => ?_⟩
    obtain ⟨b, off, rfl, hS, hc⟩ := hu
    obtain ⟨d, hd, hrow⟩ := aggO_row hag
    have hzx : z ≤ xs.length := by simp at hlen; omega
    have hex : ∀ j, ∃ q, j < z → ∃ y, xs[j]? = some y ∧ w.cell? ⟨b, off + j, none⟩ = some q ∧ Rd w (F.S m) y q := by
      intro j
      by_cases hj : j < z
      · obtain ⟨q, hq, hr⟩ := hc j xs[j] (List.getElem?_eq_getElem (by omega))
        exact ⟨q, fun _ => ⟨_, List.getElem?_eq_getElem (by omega), hq, hr⟩⟩
      · exact ⟨undef, fun h => absurd h hj⟩
    let f : Nat → Value := fun j => (hex j).choose
    have hf : ∀ j, j < z → ∃ y, xs[j]? = some y ∧ w.cell? ⟨b, off + j, none⟩ = some (f j) ∧ Rd w (F.S m) y (f j) := fun j hj => (hex j).choose_spec hj
    refine ⟨.agg ((List.range z).map f).toArray, run_loadAt_mid w b off t _ d ?_ hd hrow (by simp only [List.length_map, List.length_range]; exact hsz), _, rfl, by simp; omega, ?_⟩
    · intro j v hj
      have hjz := (List.getElem?_eq_some_iff.1 hj).1
      simp at hjz
      simp [List.getElem?_map, List.getElem?_range hjz] at hj
      subst hj
      obtain ⟨y, _, hq, _⟩ := hf j hjz
      exact hq
    · intro j y q hy hq
      have hjz := (List.getElem?_eq_some_iff.1 hq).1
      simp at hjz
      simp [List.getElem?_map, List.getElem?_range hjz] at hq
      subst hq
      rw [List.getElem?_take, if_pos hjz] at hy
      obtain ⟨y', hy', _, hr⟩ := hf j hjz
      rw [hy] at hy'; cases hy'
      exact hr
  · rename_i z id ver i off hag hsz
    split at h
    · rename_i B hB
      obtain ⟨hlen, hK⟩ := h
      refine ⟨_, hK, fun F H' m w u hsup hrep hu => ?_⟩
      obtain ⟨hB1, hB2⟩ := curB_spec hB
      rw [← hsup.2] at hB1
      obtain ⟨g, n, cap, rs, xs, _, rfl, hrows, hrl, _, hirs, hoff, _, _, _, hcell⟩ := oel_cell hrep hB1 hB2 hu
      obtain ⟨d, hd, hrow⟩ := aggO_row hag
      have hex : ∀ j, ∃ q, j < z → ∃ y, (B.con.row i)[off + j]? = some y ∧ w.cell? ⟨g, i * B.z + off + j, none⟩ = some q ∧ Rd w (F.S m) y q := by
        intro j
        by_cases hj : j < z
        · have hl : off + j < (B.con.row i).length := by simp at hlen; omega
          obtain ⟨q, hq, hr⟩ := hcell (off + j) (B.con.row i)[off + j] (List.getElem?_eq_getElem hl)
          exact ⟨q, fun _ => ⟨_, List.getElem?_eq_getElem hl, by rw [Nat.add_assoc]; exact hq, hr⟩⟩
        · exact ⟨undef, fun h => absurd h hj⟩
      let f : Nat → Value := fun j => (hex j).choose
      have hf : ∀ j, j < z → ∃ y, (B.con.row i)[off + j]? = some y ∧ w.cell? ⟨g, i * B.z + off + j, none⟩ = some (f j) ∧ Rd w (F.S m) y (f j) := fun j hj => (hex j).choose_spec hj
      refine ⟨.agg ((List.range z).map f).toArray, run_loadAt_mid w g (i * B.z + off) t _ d ?_ hd hrow (by simp only [List.length_map, List.length_range]; exact hsz), _, rfl, by rw [hlen]; simp, ?_⟩
      · intro j v hj
        have hjz := (List.getElem?_eq_some_iff.1 hj).1
        simp at hjz
        simp [List.getElem?_map, List.getElem?_range hjz] at hj
        subst hj
        obtain ⟨y, _, hq, _⟩ := hf j hjz
        exact hq
      · intro j y q hy hq
        have hjz := (List.getElem?_eq_some_iff.1 hq).1
        simp at hjz
        simp [List.getElem?_map, List.getElem?_range hjz] at hq
        subst hq
        rw [List.getElem?_take, if_pos hjz, List.getElem?_drop] at hy
        obtain ⟨y', hy', _, hr⟩ := hf j hjz
        rw [hy] at hy'; cases hy'
        exact hr
    · exact h.elim
  · exact h.elim


theorem szO_run {t : TypeId} {z : Nat} (h : szO P t = some z) (w : World) : (sizeOf t).run P w = .ok z w := by
  unfold szO at h
  obtain ⟨i, hi, rfl⟩ := Option.map_eq_some_iff.1 h
  simp [sizeOf, typeInfo, hi]

theorem elO_some {t e : TypeId} (h : elO P t = some e) : P.underlying t = some (.slice e) := by
  unfold elO at h
  split at h
  · rename_i e' he; cases h; exact he
  · cases h

theorem addr_add (b off n : Nat) : (⟨b, off, none⟩ : Addr).add n = ⟨b, off + n, none⟩ := by
  unfold Addr.add
  split
  · rename_i h; simp [h]
  · rfl

/-- a view's slice value and its cells -/
theorem rd_slice {w : World} {S : Nat → Prop} {c : C} {v : Value} {l : Nat} (h : Rd w S c v) (hl : c.len = some l) :
    ∃ p cap, v = .slice p l cap ∧ l ≤ cap ∧ l ≤ maxLen ∧ (p = none → cap = 0) ∧ (l = 0 ∨ ∃ z rs b off, c.rows = some (z, rs) ∧ 0 < z ∧ rs.length = l ∧ p = some ⟨b, off, none⟩ ∧ S b ∧ (∀ r ∈ rs, r.length = z) ∧
      ∀ i j y, at2 rs i j = some y → ∃ q, w.cell? ⟨b, off + (i * z + j), none⟩ = some q ∧ Rd w S y q) := by
  cases h with
  | a x h => simp [C.len] at hl
  | i k n => simp [C.len] at hl
  | b x => simp [C.len] at hl
  | str s => simp [C.len] at hl
  | e0 a cap => simp [C.len] at hl; subst hl; exact ⟨some a, cap, rfl, Nat.zero_le _, Nat.zero_le _, fun h => (by cases h), .inl rfl⟩
  | nil => simp [C.len] at hl; subst hl; exact ⟨none, 0, rfl, Nat.le_refl _, Nat.zero_le _, fun _ => rfl, .inl rfl⟩
  | emp c z p cap h hp =>
    have := (rows_z h).2
    rw [hl] at this; simp at this; subst this
    exact ⟨p, cap, rfl, Nat.zero_le _, Nat.zero_le _, hp, .inl rfl⟩
  | sl c z rs b off cap us h hne hz hm hcap hr hS hc hd =>
    have := (rows_z h).2
    rw [hl] at this; simp at this; subst this
    exact ⟨_, cap, rfl, hcap, hm, fun h => (by cases h), .inr ⟨z, rs, b, off, h, hz, rfl, rfl, hS, hr, fun i j y hy => ⟨us i j, hc i j y hy, hd i j y hy⟩⟩⟩

theorem own_slice {F : Fr} {H : Hp} {m : Mp} {w : World} (h : HRep F H m w) {id ver : Nat} {B : Buf} {u : Value} (hB : look H.buf id = some B) (hv : B.ver = ver) (hu : RepA F H m w (.own id ver) u) :
    ∃ rs xs, m.bf id = some u ∧ B.con.rows = some (B.z, rs) ∧ 0 < B.z ∧ (∀ r ∈ rs, r.length = B.z) ∧ w.ownsRow 0 B.e B.z u rs.length xs ∧ RdRow w (F.S m) B.z rs xs := by
  obtain ⟨_, B', hB', hle, hk⟩ := hu
  rw [hB] at hB'; cases hB'
  have hu := hk hv
  obtain ⟨B2, rs, xs, h1, h2, h3, h4, h5, h6⟩ := h.buf id _ hu
  rw [hB] at h1; cases h1
  exact ⟨rs, xs, hu, h2, h3, h4, h5, h6⟩

theorem ownsRow_val {w : World} {base : Nat} {e : TypeId} {z n : Nat} {u : Value} {xs : List Value} (h : w.ownsRow base e z u n xs) : ∃ p cap, u = .slice p n cap ∧ n ≤ cap ∧ n ≤ maxLen ∧ (n ≠ 0 → ∃ g, p = some ⟨g, 0, none⟩ ∧ u.ownBlock = some g) := by
  rcases h.2 with ⟨rfl, rfl⟩ | ⟨g, cap, cur, rfl, _, _, h1, h2, _⟩
  · exact ⟨none, 0, rfl, Nat.le_refl _, Nat.zero_le _, fun h => absurd rfl h⟩
  · exact ⟨_, cap, rfl, h1, Nat.le_trans h1 h2, fun _ => ⟨g, rfl, rfl⟩⟩

theorem indexAt_run {t e : TypeId} {z : Nat} (he : elO P t = some e) (hz : szO P e = some z) (k : IntKind) (n : Int) (b off l cap : Nat) (h0 : 0 ≤ n) (hn : n < (l : Int)) (w : World) :
    (Instr.indexAt t (.slice (some ⟨b, off, none⟩) l cap) (.int k n)).run P w = .ok (.pointer (some ⟨b, off + n.toNat * z, none⟩)) w := by
  simp [Instr.indexAt, asIntOf, run_underlying (elO_some he), h0, hn, szO_run hz, addr_add]

theorem indexAddrT_sound {H : Hp} {t : TypeId} {x i : AV} {K : AV → Prop} (h : indexAddrT P H t x i K) :
    ∃ r, K r ∧ ∀ (F : Fr) (H' : Hp) (m : Mp) (w : World) (u v : Value), Sup H' H → HRep F H' m w → RepA F H' m w x u → RepA F H' m w i v → Yl P F H' m w (Instr.indexAt t u v) r := by
  unfold indexAddrT at h
  split at h
  · rename_i e c k n he
    split at h
    · rename_i l hl
      obtain ⟨hz, ⟨h0, hn⟩, hK⟩ := h
      refine ⟨_, hK, fun F H' m w u v hsup hrep hu hv => ?_⟩
      obtain rfl := rep_i hv
      obtain ⟨p, cap, rfl, _, _, _, hor⟩ := rd_slice hu hl
      rcases hor with rfl | ⟨z, rs, b, off, hrows, hz0, hlen, rfl, hS, hr, hc⟩
      · omega
      · have hzz := (rows_z hrows).1
        rw [hzz] at hz
        refine ⟨_, indexAt_run he hz k n b off l cap h0 hn w, b, off + n.toNat * z, rfl, fun _ => hS, fun j y hy => ?_⟩
        have hi : n.toNat < rs.length := by omega
        have hat : at2 rs n.toNat j = some y := by simp [at2, row_at2 hrows hi, hy]
        obtain ⟨q, hq, hr⟩ := hc _ _ _ hat
        exact ⟨q, by rw [Nat.add_assoc]; exact hq, hr⟩
    · exact h.elim
  · rename_i e id ver k n he
    split at h
    · rename_i B hB
      split at h
      · rename_i l hl
        obtain ⟨hz, ⟨h0, hn⟩, hK⟩ := h
        refine ⟨_, hK, fun F H' m w u v hsup hrep hu hv => ?_⟩
        obtain rfl := rep_i hv
        obtain ⟨hB1, hB2⟩ := curB_spec hB
        rw [← hsup.2] at hB1
        obtain ⟨rs, xs, hm, hrows, hz0, hr, hown, hrd⟩ := own_slice hrep hB1 hB2 hu
        have hl2 := (rows_z hrows).2
        rw [hl] at hl2; simp at hl2; subst hl2
        obtain ⟨p, cap, rfl, _, _, hp⟩ := ownsRow_val hown
        obtain ⟨g, rfl, _⟩ := hp (by omega)
        refine ⟨_, indexAt_run he hz k n g 0 _ cap h0 hn w, B, hB1, by omega, fun _ => ⟨g, _, cap, hm, by omega, hz0, by simp⟩⟩
      · exact h.elim
    · exact h.elim
  · rename_i e kk lo len k n he
    split at h
    · rename_i B hB
      obtain ⟨hz, ⟨h0, hn⟩, hK⟩ := h
      refine ⟨_, hK, fun F H' m w u v hsup hrep hu hv => ?_⟩
      obtain rfl := rep_i hv
      rw [← hsup.1.2] at hB
      obtain ⟨_, B2, p, l, cap, hB3, hF, hll, hor⟩ := hu
      rw [hB] at hB3; cases hB3
      obtain ⟨B3, rs, xs, hB4, hrows, hz0, hr, hown, hrd⟩ := hrep.bor kk _ hF
      rw [hB] at hB4; cases hB4
      obtain ⟨p2, cap2, hsv, hcap, _, hp⟩ := ownsRow_val hown
      cases hsv
      obtain ⟨g, rfl, _⟩ := hp (by omega)
      rw [if_neg (by omega)] at hor
      simp only [Option.map_some, addr_add, Nat.zero_add] at hor
      subst hor
      exact ⟨_, indexAt_run he hz k n g (lo * B.con.z) _ _ h0 hn w, B, g, _, cap, hB, hF, by omega, hz0, by simp [Nat.add_mul]⟩
    · exact h.elim
  · rename_i e id ver lo len k n he
    split at h
    · rename_i B hB
      obtain ⟨hz, ⟨h0, hn⟩, hK⟩ := h
      refine ⟨_, hK, fun F H' m w u v hsup hrep hu hv => ?_⟩
      obtain rfl := rep_i hv
      obtain ⟨hB1, hB2⟩ := curB_spec hB
      rw [← hsup.2] at hB1
      obtain ⟨_, B2, hB3, hv2, hcur⟩ := hu
      rw [hB1] at hB3; cases hB3
      obtain ⟨p, l, cap, hm, hll, hor⟩ := hcur hB2
      obtain ⟨B3, rs, xs, hB4, hrows, hz0, hr, hown, hrd⟩ := hrep.buf id _ hm
      rw [hB1] at hB4; cases hB4
      obtain ⟨p2, cap2, hsv, hcap, _, hp⟩ := ownsRow_val hown
      cases hsv
      obtain ⟨g, rfl, _⟩ := hp (by omega)
      rw [if_neg (by omega)] at hor
      simp only [Option.map_some, addr_add, Nat.zero_add] at hor
      subst hor
      exact ⟨_, indexAt_run he hz k n g (lo * B.z) _ _ h0 hn w, B, hB1, by omega, fun _ => ⟨g, _, cap, hm, by omega, hz0, by simp [Nat.add_mul]⟩⟩
    · exact h.elim
  · exact h.elim

theorem fldO_some {t : TypeId} {f o : Nat} {ft : TypeId} (h : fldO P t f = some (o, ft)) : ∃ fs x, P.underlying t = some (.struct fs) ∧ fs[f]? = some x ∧ x.offset = o ∧ x.type = ft := by
  unfold fldO at h
  split at h
  · rename_i fs hu
    obtain ⟨x, hx, he⟩ := Option.map_eq_some_iff.1 h
    cases he
    exact ⟨fs, x, hu, hx, rfl, rfl⟩
  · cases h

theorem fieldAddrT_sound {s : TypeId} {x : AV} {f : Nat} {K : AV → Prop} (h : fieldAddrT P s x f K) :
    ∃ r, K r ∧ ∀ (F : Fr) (H : Hp) (m : Mp) (w : World) (u : Value), RepA F H m w x u → Yl P F H m w (Instr.fieldAt s u f) r := by
  unfold fieldAddrT at h
  split at h
  · rename_i o ft hf
    obtain ⟨fs, x', hu, hx', rfl, rfl⟩ := fldO_some hf
    split at h
    · rename_i z hz
      have hrun : ∀ (w : World) (b off : Nat), (Instr.fieldAt s (.pointer (some ⟨b, off, none⟩)) f).run P w = .ok (.pointer (some ⟨b, off + x'.offset, none⟩)) w := fun w b off => by
        simp [Instr.fieldAt, run_underlying hu, hx', Instr.sureAddr, fieldPlace, szO_run hz, addr_add]
      split at h
      · refine ⟨_, h, fun F H m w u hu => ?_⟩
        obtain ⟨b, hb, rfl⟩ := hu
        exact ⟨_, hrun w b _, b, hb, rfl⟩
      · refine ⟨_, h, fun F H m w u hu => ?_⟩
        obtain ⟨b, off, rfl, hS, hc⟩ := hu
        refine ⟨_, hrun w b off, b, _, rfl, fun hne => hS (fun e => hne (by subst e; simp)), fun j y hy => ?_⟩
        rw [List.getElem?_drop] at hy
        obtain ⟨q, hq, hr⟩ := hc _ y hy
        exact ⟨q, by rw [Nat.add_assoc]; exact hq, hr⟩
      · exact h.elim
    · exact h.elim
  · exact h.elim

theorem fieldT_sound {s : TypeId} {x : AV} {f : Nat} {K : AV → Prop} (h : fieldT P s x f K) :
    ∃ r, K r ∧ ∀ (F : Fr) (H : Hp) (m : Mp) (w : World) (u : Value), RepA F H m w x u → Yl P F H m w (Instr.field s u f) r := by
  unfold fieldT at h
  split at h
  · rename_i o ft xs hf
    obtain ⟨fs, x', hu, hx', rfl, rfl⟩ := fldO_some hf
    split at h
    · rename_i hag
      split at h
      · rename_i y hy
        refine ⟨_, h, fun F H m w u hrep => ?_⟩
        obtain ⟨vs, rfl, hl, hc⟩ := hrep
        have hlt := (List.getElem?_eq_some_iff.1 hy).1
        obtain ⟨q, hv⟩ : ∃ q, vs[x'.offset]? = some q := ⟨_, Array.getElem?_eq_getElem (by simp at hl; omega)⟩
        refine ⟨q, ?_, hc x'.offset y q hy (by simpa using hv)⟩
        simp [Instr.field, run_underlying hu, hx', asAgg, part, aggO_run hag, hv]
      · exact h.elim
    · rename_i z hag hsz
      refine ⟨_, h, fun F H m w u hrep => ?_⟩
      obtain ⟨vs, rfl, hl, hc⟩ := hrep
      refine ⟨.agg (vs.extract x'.offset (x'.offset + z)), ?_, _, rfl, ?_, fun j y q hy hq => ?_⟩
      · simp [Instr.field, run_underlying hu, hx', asAgg, part, aggO_run hag, szO_run hsz]
      · simp at hl ⊢
        omega
      · simp only [Array.toList_extract, List.extract] at hq
        have e1 : x'.offset + z - x'.offset = z := by omega
        rw [e1] at hq
        have hjz : j < z := by have := (List.getElem?_eq_some_iff.1 hy).1; simp at this; omega
        rw [List.getElem?_take, if_pos hjz, List.getElem?_drop] at hy hq
        exact hc _ y q hy hq
    · exact h.elim
  · exact h.elim

theorem extractT_sound {x : AV} {i : Nat} {K : AV → Prop} (h : extractT x i K) :
    ∃ r, K r ∧ ∀ (F : Fr) (H : Hp) (m : Mp) (w : World) (u : Value), RepA F H m w x u → Yl P F H m w (Instr.extract u i) r := by
  unfold extractT at h
  split at h
  · rename_i vs
    split at h
    · rename_i y hy
      refine ⟨_, h, fun F H m w u hrep => ?_⟩
      obtain ⟨us, rfl, hl, hc⟩ := hrep
      have hlt := (List.getElem?_eq_some_iff.1 hy).1
      obtain ⟨q, hv⟩ : ∃ q, us[i]? = some q := ⟨_, Array.getElem?_eq_getElem (by omega)⟩
      have hr := hc i y q hy hv
      refine ⟨q, by simp [Instr.extract, hv], ?_⟩
      cases y with
      | inl y => exact hr
      | inr ys => exact hr
    · exact h.elim
  · exact h.elim

/-- a byte of a text -/
def indexT (P : Program) (t : TypeId) (x i : AV) (K : AV → Prop) : Prop := match x, i with
  | .c (.str s), .c (.i _ n) => P.underlying t = some .string ∧ (0 ≤ n ∧ n < (s.size : Int)) ∧ K (.c (.i .u8 (s.data.toList.getD n.toNat 0).toNat))
  | _, _ => False

theorem indexT_sound {t : TypeId} {x i : AV} {K : AV → Prop} (h : indexT P t x i K) :
    ∃ r, K r ∧ ∀ (F : Fr) (H : Hp) (m : Mp) (w : World) (u v : Value), RepA F H m w x u → RepA F H m w i v → Yl P F H m w (Instr.index t u v) r := by
  unfold indexT at h
  split at h
  · rename_i s k n
    obtain ⟨hu, ⟨h0, h1⟩, hK⟩ := h
    refine ⟨_, hK, fun F H m w u v hx hi => ?_⟩
    have hi := rep_i hi
    have hx := rd_str hx
    subst hi; subst hx
    have hlt : n.toNat < s.size := by omega
    refine ⟨_, ?_, rep_int ..⟩
    have hg : s[n.toNat]? = some s[n.toNat] := getElem?_pos s n.toNat hlt
    have hd : s.data.toList.getD n.toNat 0 = s[n.toNat] := by
      have hlt2 : n.toNat < s.data.toList.length := by simpa using hlt
      rw [List.getD_eq_getElem?_getD, List.getElem?_eq_getElem hlt2]
      rfl
    rw [hd]
    simp [Instr.index, asIntOf, run_underlying hu, h0, hg]
  · exact h.elim

theorem lenT_sound {H : Hp} {t : TypeId} (ht : (elO P t).isSome = true ∨ P.underlying t = some .string) {x : AV} {K : AV → Prop} (h : lenT H x K) :
    ∃ r, K r ∧ ∀ (F : Fr) (H' : Hp) (m : Mp) (w : World) (u : Value) (ty : TypeId), Sup H' H → HRep F H' m w → RepA F H' m w x u →
      (P.underlying t = some .string → ∃ s, x = .c (.str s)) → ((elO P t).isSome = true → ∀ s, x ≠ .c (.str s)) → Yl P F H' m w (Builtin.len_ #[t] ty #[u]) r := by
  unfold lenT at h
  split at h
  · rename_i s
    refine ⟨_, h, fun F H' m w u ty hsup hrep hu h1 h2 => ?_⟩
    obtain rfl := rd_str hu
    have ht : P.underlying t = some .string := by
      rcases ht with ht | ht
      · exact absurd rfl (h2 ht s)
      · exact ht
    exact ⟨_, by simp [Builtin.len_, run_underlying ht, goInt], rep_int ..⟩
  · rename_i c hns
    split at h
    · rename_i l hl
      refine ⟨_, h, fun F H' m w u ty hsup hrep hu h1 h2 => ?_⟩
      obtain ⟨p, cap, rfl, _⟩ := rd_slice hu hl
      rcases ht with ht | ht
      · obtain ⟨e, he⟩ := Option.isSome_iff_exists.1 ht
        exact ⟨_, by simp [Builtin.len_, run_underlying (elO_some he), goInt], rep_int ..⟩
      · obtain ⟨s, hs⟩ := h1 ht
        cases hs
        exact absurd rfl (hns s)
    · exact h.elim
  · rename_i id ver
    split at h
    · rename_i B hB
      split at h
      · rename_i l hl
        refine ⟨_, h, fun F H' m w u ty hsup hrep hu h1 h2 => ?_⟩
        obtain ⟨hB1, hB2⟩ := curB_spec hB
        rw [← hsup.2] at hB1
        obtain ⟨rs, xs, hm, hrows, hz0, hr, hown, hrd⟩ := own_slice hrep hB1 hB2 hu
        have hl2 := (rows_z hrows).2
        rw [hl] at hl2; simp at hl2; subst hl2
        obtain ⟨p, cap, rfl, _⟩ := ownsRow_val hown
        rcases ht with ht | ht
        · obtain ⟨e, he⟩ := Option.isSome_iff_exists.1 ht
          exact ⟨_, by simp [Builtin.len_, run_underlying (elO_some he), goInt], rep_int ..⟩
        · obtain ⟨s, hs⟩ := h1 ht
          cases hs
      · exact h.elim
    · exact h.elim
  · rename_i id ver lo len
    split at h
    · rename_i B hB
      refine ⟨_, h, fun F H' m w u ty hsup hrep hu h1 h2 => ?_⟩
      obtain ⟨hB1, hB2⟩ := curB_spec hB
      rw [← hsup.2] at hB1
      obtain ⟨_, B2, hB3, hv2, hcur⟩ := hu
      rw [hB1] at hB3; cases hB3
      obtain ⟨p, l, cap, hm, hll, hor⟩ := hcur hB2
      subst hor
      rcases ht with ht | ht
      · obtain ⟨e, he⟩ := Option.isSome_iff_exists.1 ht
        exact ⟨_, by simp [Builtin.len_, run_underlying (elO_some he), goInt], rep_int ..⟩
      · obtain ⟨s, hs⟩ := h1 ht
        cases hs
    · exact h.elim
  · rename_i k lo len
    refine ⟨_, h, fun F H' m w u ty hsup hrep hu h1 h2 => ?_⟩
    obtain ⟨_, B2, p, l, cap, hB3, hF, hll, hor⟩ := hu
    subst hor
    rcases ht with ht | ht
    · obtain ⟨e, he⟩ := Option.isSome_iff_exists.1 ht
      exact ⟨_, by simp [Builtin.len_, run_underlying (elO_some he), goInt], rep_int ..⟩
    · obtain ⟨s, hs⟩ := h1 ht
      cases hs
  · exact h.elim

end Go.Abs

/-
  The evaluation of single operations is sound: slices of views, literals, structs, new boxes.
-/
namespace Go.Abs
set_option linter.unusedSimpArgs false
set_option linter.unusedVariables false
open Go.RowKit

variable {P : Program}

theorem rows_sub {c : C} {z : Nat} {rs : List (List C)} (h : c.rows = some (z, rs)) (a b : Nat) : (c.sub a b).rows = some (z, (rs.take b).drop a) := by
  cases c <;> simp [C.rows] at h
  · obtain ⟨rfl, rfl⟩ := h; simp [C.rows, C.sub, List.map_drop, List.map_take]
  · obtain ⟨rfl, rfl⟩ := h; simp [C.rows, C.sub, List.map_drop, List.map_take]
  · obtain ⟨rfl, rfl⟩ := h; simp [C.rows, C.sub]

theorem at2_sub {rs : List (List C)} {a b i j : Nat} {y : C} (h : at2 ((rs.take b).drop a) i j = some y) : at2 rs (a + i) j = some y := by
  unfold at2 at *
  rw [List.getElem?_drop] at h
  cases hx : (rs.take b)[a + i]? with
  | none => simp [hx] at h
  | some r =>
    rw [hx] at h
    have hlt := (List.getElem?_eq_some_iff.1 hx).1
    simp at hlt
    rw [List.getElem?_take, if_pos (by omega)] at hx
    rw [hx]; exact h

theorem rd_sub {w : World} {S : Nat → Prop} {c : C} {p : Option Addr} {l cap z a b : Nat} (h : Rd w S c (.slice p l cap)) (hl : c.len = some l) (hz : c.z = z) (hab : a ≤ b) (hbl : b ≤ l) (hcap : l ≤ cap) :
    Rd w S (c.sub a b) (.slice (if cap = a then p else p.map (·.add (a * z))) (b - a) (cap - a)) := by
  obtain ⟨p', cap', he, _, hmax, hpn, hor⟩ := rd_slice h hl
  cases he
  by_cases hn : c = .nil
  · subst hn
    have := rd_nil h
    cases this
    have h1 : a = 0 := by omega
    have h2 : b = 0 := by omega
    subst h1; subst h2
    exact .nil
  by_cases hn0 : c = .e0
  · subst hn0
    simp [C.len] at hl
    subst hl
    have h1 : a = 0 := by omega
    have h2 : b = 0 := by omega
    subst h1; subst h2
    obtain ⟨a', cap', he⟩ := rd_e0 h
    cases he
    simp only [Nat.zero_mul, Nat.sub_zero]
    split <;> exact .e0 _ _
  · have hrows : ∃ z' rs, c.rows = some (z', rs) := by
      cases c <;> simp_all [C.len, C.rows]
    obtain ⟨z', rs, hrows⟩ := hrows
    obtain ⟨hz', hlen⟩ := rows_z hrows
    rw [hz] at hz'; subst hz'
    rw [hl] at hlen; simp at hlen; subst hlen
    have hsub := rows_sub hrows a b
    have hslen : ((rs.take b).drop a).length = b - a := by simp; omega
    by_cases hba : b - a = 0
    · have : (rs.take b).drop a = [] := List.eq_nil_of_length_eq_zero (by omega)
      rw [this] at hsub
      rw [hba]
      exact .emp _ _ _ _ hsub (fun hp => by split at hp <;> simp_all)
    · rcases hor with h0 | ⟨z', rs', b', off, hrows', hz0, hlen', rfl, hS, hr, hc⟩
      · omega
      · rw [hrows] at hrows'; cases hrows'
        rw [if_neg (by omega)]
        simp only [Option.map_some, addr_add]
        rw [← hslen]
        have hex : ∀ i j, ∃ q, ∀ y, at2 ((rs.take b).drop a) i j = some y → w.cell? ⟨b', off + a * z + (i * z + j), none⟩ = some q ∧ Rd w S y q := by
          intro i j
          cases hat : at2 ((rs.take b).drop a) i j with
          | none => exact ⟨undef, fun y hy => by cases hy⟩
          | some y =>
            obtain ⟨q, hq, hrd⟩ := hc _ _ _ (at2_sub hat)
            refine ⟨q, fun y' hy' => ?_⟩
            cases hy'
            refine ⟨?_, hrd⟩
            rw [← hq]
            congr 2
            rw [Nat.add_mul]; omega
        refine .sl _ z _ b' (off + a * z) _ (fun i j => (hex i j).choose) hsub (fun e => by rw [e] at hslen; simp at hslen; omega) hz0 (by omega) (by omega) ?_ hS (fun i j y hy => ((hex i j).choose_spec y hy).1) (fun i j y hy => ((hex i j).choose_spec y hy).2)
        intro r hrm
        exact hr r (List.mem_of_mem_take (List.mem_of_mem_drop hrm))

theorem sliceBound_run (k : IntKind) (a y : Nat) (code : BoundsCode) (h : a ≤ y) (w : World) : (Instr.sliceBound (.int k (a : Int)) y code).run P w = .ok a w := by
  have : (0 : Int) ≤ (a : Int) ∧ (a : Int) ≤ (y : Int) := by omega
  simp only [Instr.sliceBound, asIntOf, Sem.run_bind, Sem.run_pure, Result.andThen_ok, this, and_self, if_true]
  simp

theorem slice_run {t e : TypeId} {z : Nat} (he : elO P t = some e) (hz : szO P e = some z) (p : Option Addr) (l cap a b : Nat) (hab : a ≤ b) (hbl : b ≤ l) (hcap : l ≤ cap) (w : World)
    (lo hi : Option Value) (hlo : lo = none ∧ a = 0 ∨ ∃ k, lo = some (.int k (a : Int))) (hhi : hi = none ∧ b = l ∨ ∃ k, hi = some (.int k (b : Int))) :
    (Instr.sliceAt t (.slice p l cap) lo hi none).run P w = .ok (.slice (if cap = a then p else p.map (·.add (a * z))) (b - a) (cap - a)) w := by
  have h1 : (Instr.sliceBounds true l cap lo hi none).run P w = .ok (a, b, cap) w := by
    have hb := fun (k : IntKind) (code : BoundsCode) => sliceBound_run (P := P) k b cap code (Nat.le_trans hbl hcap) w
    have ha := fun (k : IntKind) (code : BoundsCode) => sliceBound_run (P := P) k a b code hab w
    rcases hlo with ⟨rfl, rfl⟩ | ⟨k, rfl⟩ <;> rcases hhi with ⟨rfl, rfl⟩ | ⟨k', rfl⟩ <;> simp [Instr.sliceBounds, ha, hb]
  simp [Instr.sliceAt, Instr.slice, run_underlying (elO_some he), h1, szO_run hz]

theorem sliceT_sound {t : TypeId} {x : AV} {lo hi : Option AV} {K : AV → Prop} (h : sliceT P t x lo hi K) :
    ∃ r, K r ∧ ∀ (F : Fr) (H : Hp) (m : Mp) (w : World) (u : Value) (ul uh : Option Value), RepA F H m w x u →
      (∀ y, lo = some y → ∃ v, ul = some v ∧ RepA F H m w y v) → (lo = none → ul = none) → (∀ y, hi = some y → ∃ v, uh = some v ∧ RepA F H m w y v) → (hi = none → uh = none) →
      Yl P F H m w (Instr.sliceAt t u ul uh none) r := by
  unfold sliceT at h
  split at h
  · rename_i e c he
    split at h
    · rename_i l hl
      have key : ∀ a b : Nat, a ≤ b → b ≤ l → szO P e = some c.z → ∀ (F : Fr) (H : Hp) (m : Mp) (w : World) (u : Value) (ul uh : Option Value), RepA F H m w (.c c) u →
          (ul = none ∧ a = 0 ∨ ∃ k, ul = some (.int k (a : Int))) → (uh = none ∧ b = l ∨ ∃ k, uh = some (.int k (b : Int))) → Yl P F H m w (Instr.sliceAt t u ul uh none) (.c (c.sub a b)) := by
        intro a b hab hbl hz F H m w u ul uh hu h1 h2
        obtain ⟨p, cap, rfl, hcap, _, _, _⟩ := rd_slice hu hl
        exact ⟨_, slice_run he hz p l cap a b hab hbl hcap w ul uh h1 h2, rd_sub hu hl rfl hab hbl hcap⟩
      split at h
      · obtain ⟨hz, hK⟩ := h
        refine ⟨_, hK, fun F H m w u ul uh hu h2 h3 h4 h5 => ?_⟩
        exact key 0 l (by omega) (Nat.le_refl _) hz F H m w u _ _ hu (.inl ⟨h3 rfl, rfl⟩) (.inl ⟨h5 rfl, rfl⟩)
      · rename_i k a
        obtain ⟨hz, ⟨h0, h1⟩, hK⟩ := h
        refine ⟨_, hK, fun F H m w u ul uh hu h2 h3 h4 h5 => ?_⟩
        obtain ⟨v, rfl, hv⟩ := h2 _ rfl
        obtain rfl := rep_i hv
        exact key a.toNat l (by omega) (Nat.le_refl _) hz F H m w u _ _ hu (.inr ⟨k, by congr 2; omega⟩) (.inl ⟨h5 rfl, rfl⟩)
      · rename_i k b
        obtain ⟨hz, ⟨h0, h1⟩, hK⟩ := h
        refine ⟨_, hK, fun F H m w u ul uh hu h2 h3 h4 h5 => ?_⟩
        obtain ⟨v, rfl, hv⟩ := h4 _ rfl
        obtain rfl := rep_i hv
        exact key 0 b.toNat (by omega) (by omega) hz F H m w u _ _ hu (.inl ⟨h3 rfl, rfl⟩) (.inr ⟨k, by congr 2; omega⟩)
      · rename_i k a k' b
        obtain ⟨hz, ⟨h0, h1, h2'⟩, hK⟩ := h
        refine ⟨_, hK, fun F H m w u ul uh hu h2 h3 h4 h5 => ?_⟩
        obtain ⟨v, rfl, hv⟩ := h2 _ rfl
        obtain rfl := rep_i hv
        obtain ⟨v, rfl, hv⟩ := h4 _ rfl
        obtain rfl := rep_i hv
        exact key a.toNat b.toNat (by omega) (by omega) hz F H m w u _ _ hu (.inr ⟨k, by congr 2; omega⟩) (.inr ⟨k', by congr 2; omega⟩)
      · exact h.elim
    · exact h.elim
  · exact h.elim


theorem splice_foldl (off : Nat) : ∀ (l : List Value) (n : Nat) (cells : Array Value), off + n + l.length ≤ cells.size →
    (l.zipIdx n).foldl (fun cs p => cs.setIfInBounds (off + p.2) p.1) cells = (cells.toList.take (off + n) ++ l ++ cells.toList.drop (off + n + l.length)).toArray
  | [], n, cells, h => by simp
  | c :: l, n, cells, h => by
    simp only [List.zipIdx_cons, List.foldl_cons]
    have hl : off + (n + 1) + l.length ≤ (cells.setIfInBounds (off + n) c).size := by simp at h ⊢; omega
    rw [splice_foldl off l (n + 1) _ hl]
    congr 1
    simp only [Array.toList_setIfInBounds, List.length_cons]
    simp only [List.length_cons] at h
    apply List.ext_getElem?
    intro j
    simp only [List.append_assoc, List.getElem?_append, List.length_take, List.length_set, Array.length_toList, List.getElem?_take, List.getElem?_drop, List.getElem?_set, List.length_cons, List.getElem?_cons]
    repeat' split
    all_goals first | omega | rfl | (congr 1; omega)


theorem RdL.get {w : World} {S : Nat → Prop} {xs : List C} {vs : List Value} (h : RdL w S xs vs) {j : Nat} {y : C} (hy : xs[j]? = some y) : ∃ u, vs[j]? = some u ∧ Rd w S y u := by
  have hlt := (List.getElem?_eq_some_iff.1 hy).1
  have hv : vs[j]? = some (vs[j]'(by rw [h.1]; exact hlt)) := List.getElem?_eq_getElem _
  exact ⟨_, hv, h.2 j y _ hy hv⟩

theorem RdL.append {w : World} {S : Nat → Prop} {xs ys : List C} {us vs : List Value} (h : RdL w S xs us) (k : RdL w S ys vs) : RdL w S (xs ++ ys) (us ++ vs) := by
  refine ⟨by simp [h.1, k.1], fun j y u hy hu => ?_⟩
  by_cases hj : j < xs.length
  · rw [List.getElem?_append_left hj] at hy
    rw [List.getElem?_append_left (by rw [h.1]; exact hj)] at hu
    exact h.2 j y u hy hu
  · rw [List.getElem?_append_right (by omega)] at hy
    rw [List.getElem?_append_right (by rw [h.1]; omega), h.1] at hu
    exact k.2 _ y u hy hu

theorem RdL.take {w : World} {S : Nat → Prop} {xs : List C} {us : List Value} (h : RdL w S xs us) (n : Nat) : RdL w S (xs.take n) (us.take n) := by
  refine ⟨by simp [h.1], fun j y u hy hu => ?_⟩
  have hj : j < n := by have := (List.getElem?_eq_some_iff.1 hy).1; simp at this; omega
  rw [List.getElem?_take, if_pos hj] at hy hu
  exact h.2 j y u hy hu

theorem RdL.drop {w : World} {S : Nat → Prop} {xs : List C} {us : List Value} (h : RdL w S xs us) (n : Nat) : RdL w S (xs.drop n) (us.drop n) := by
  refine ⟨by simp [h.1], fun j y u hy hu => ?_⟩
  rw [List.getElem?_drop] at hy hu
  exact h.2 _ y u hy hu

theorem RdL.ofC {w : World} {S : Nat → Prop} {us : List Value} (h : us.all oneCell = true) : RdL w S (us.map ofC) us := by
  refine ⟨by simp, fun j y u hy hu => ?_⟩
  simp [hu] at hy
  subst hy
  exact rd_ofC w S u (by have := List.all_eq_true.1 h u (List.mem_of_getElem? hu); exact this)

theorem cellsOf_rep {F : Fr} {H : Hp} {m : Mp} {w : World} {x : AV} {ys : List C} {v : Value} (h : cellsOf x = some ys) (hr : RepA F H m w x v) : RdL w (F.S m) ys v.cells.toList := by
  cases x <;> simp [cellsOf] at h
  · subst h
    have h1 : v.cells = #[v] := by
      have := Rd.one hr
      cases v <;> simp_all [Value.cells, Value.oneCell']
    rw [h1]
    refine ⟨rfl, fun j y u hy hu => ?_⟩
    match j with
    | 0 => simp at hy hu; subst hy; subst hu; exact hr
    | j + 1 => simp at hy
  · subst h
    obtain ⟨vs, rfl, hl⟩ := hr
    exact hl

theorem fill_sound {F : Fr} {H : Hp} {m : Mp} {w : World} {pl : List (Nat × Nat)} {place : Nat → Option (Nat × Nat)} (hpl : ∀ (f : Nat) p, pl[f]? = some p → place f = some p) :
    ∀ (ps : List (Nat × AV)) (vs : List (Nat × Value)) (cs cs' : List C) (cells : Array Value), vs.map (·.1) = ps.map (·.1) → (∀ (j : Nat) x v, ps[j]? = some x → vs[j]? = some v → RepA F H m w x.2 v.2) →
      RdL w (F.S m) cs cells.toList → fillC pl ps cs = some cs' → ∃ cells', Instr.fill place cells vs = some cells' ∧ RdL w (F.S m) cs' cells'.toList
  | [], vs, cs, cs', cells, hi, hr, hl, h => by
    simp [fillC] at h; subst h
    cases vs with
    | nil => exact ⟨cells, rfl, hl⟩
    | cons v vs => simp at hi
  | (f, x) :: ps, [], cs, cs', cells, hi, hr, hl, h => by simp at hi
  | (f, x) :: ps, (f', v) :: vs, cs, cs', cells, hi, hr, hl, h => by
    simp only [List.map_cons, List.cons.injEq] at hi
    obtain ⟨rfl, hi⟩ := hi
    simp only [fillC] at h
    split at h
    · rename_i o z ys hp hys
      split at h
      · rename_i hc
        have hcells := cellsOf_rep hys (hr 0 _ _ rfl rfl)
        simp only at hcells
        have hsz : v.cells.size = z := by have := hcells.1; simp at this; omega
        have hle : o + v.cells.size ≤ cells.size := by have := hl.1; simp at this; omega
        have hstep : v.cells.zipIdx.foldl (fun cs (c, j) => cs.setIfInBounds (o + j) c) cells = (cells.toList.take o ++ v.cells.toList ++ cells.toList.drop (o + z)).toArray := by
          have := splice_foldl o v.cells.toList 0 cells (by simp; omega)
          simp only [Nat.add_zero, Array.length_toList, hsz] at this
          rw [← this, ← Array.foldl_toList, Array.toList_zipIdx]
        have hnext : RdL w (F.S m) (cs.take o ++ ys ++ cs.drop (o + z)) (cells.toList.take o ++ v.cells.toList ++ cells.toList.drop (o + z)) := ((hl.take o).append hcells).append (hl.drop (o + z))
        obtain ⟨cells', h1, h2⟩ := fill_sound hpl ps vs _ cs' (cells.toList.take o ++ v.cells.toList ++ cells.toList.drop (o + z)).toArray hi (fun j x v hx hv => hr (j + 1) x v (by simpa using hx) (by simpa using hv)) (by simpa using hnext) h
        refine ⟨cells', ?_, h2⟩
        have hne : (v.cells.size ≠ z || decide (o + v.cells.size > cells.size)) = false := by simp [hsz]; omega
        simp only [Instr.fill, hpl f' _ hp, hne, hstep]
        simpa using h1
      · cases h
    · cases h

theorem zeroO_some {t : TypeId} {zs : List Value} (h : zeroO P t = some zs) : ∃ i z, P.info? t = some i ∧ i.zero = some z ∧ z.cells.toList = zs := by
  unfold zeroO at h
  cases hi : P.info? t with
  | none => simp [hi] at h
  | some i =>
    simp only [hi, Option.bind_some, Option.map_eq_some_iff] at h
    obtain ⟨z, hz, rfl⟩ := h
    exact ⟨i, z, rfl, hz, rfl⟩

theorem buildT_sound {t : TypeId} {ps : List (Nat × AV)} {K : AV → Prop} (h : buildT P t ps K) :
    ∃ r, K r ∧ ∀ (F : Fr) (H : Hp) (m : Mp) (w : World) (vs : Array (Nat × Value)), vs.toList.map (·.1) = ps.map (·.1) → (∀ (j : Nat) x v, ps[j]? = some x → vs[j]? = some v → RepA F H m w x.2 v.2) →
      Yl P F H m w (Instr.build t vs) r := by
  unfold buildT at h
  split at h
  · rename_i zs pl hz hpl
    split at h
    · rename_i cs hcs
      obtain ⟨h1, hK⟩ := h
      refine ⟨_, hK, fun F H m w vs hi hr => ?_⟩
      obtain ⟨it, z, hit, hzz, rfl⟩ := zeroO_some hz
      unfold plO at hpl
      split at hpl
      · rename_i fs hu
        obtain ⟨cells', h2, h3⟩ := fill_sound (place := (pl.toArray[·]?)) (fun f p hp => by simpa using hp) ps vs.toList _ cs z.cells hi (fun j x v hx hv => hr j x v hx (by simpa using hv)) (RdL.ofC h1) hcs
        exact ⟨_, run_build w t vs cells' (by simp only [Program.built, hit, hu, hzz, hpl]; exact h2), _, rfl, h3⟩
      · rename_i n e hu
        obtain ⟨ze, hze, rfl⟩ := Option.map_eq_some_iff.1 hpl
        unfold szO at hze
        obtain ⟨ie, hie, rfl⟩ := Option.map_eq_some_iff.1 hze
        obtain ⟨cells', h2, h3⟩ := fill_sound (place := fun i => some (i * ie.size, ie.size)) (fun f p hp => by
          have hlt := (List.getElem?_eq_some_iff.1 hp).1
          simp at hlt
          simp [List.getElem?_map, List.getElem?_range hlt] at hp
          rw [hp]) ps vs.toList _ cs z.cells hi (fun j x v hx hv => hr j x v hx (by simpa using hv)) (RdL.ofC h1) hcs
        exact ⟨_, run_build w t vs cells' (by simp only [Program.built, hit, hu, hzz, hie]; exact h2), _, rfl, h3⟩
      · cases hpl
    · exact h.elim
  · exact h.elim


/-- a literal of a slice: all its elements, one after another -/
theorem lit_fill (z : Nat) : ∀ (vs : List Value) (n : Nat) (cells : Array Value), (∀ v ∈ vs, v.cells.size = z) → (n + vs.length) * z ≤ cells.size →
    Instr.fill (fun i => some (i * z, z)) cells (vs.zipIdx n |>.map fun p => (p.2, p.1)) = some (cells.toList.take (n * z) ++ vs.flatMap (fun v => v.cells.toList) ++ cells.toList.drop ((n + vs.length) * z)).toArray
  | [], n, cells, h1, h2 => by simp [Instr.fill]
  | v :: vs, n, cells, h1, h2 => by
    have hv := h1 v (List.mem_cons_self ..)
    simp only [List.length_cons] at h2
    have e1 : (n + (vs.length + 1)) * z = (n + 1 + vs.length) * z := by congr 1; omega
    have e2 : (n + 1 + vs.length) * z = n * z + z + vs.length * z := by rw [Nat.add_mul, Nat.add_mul]; omega
    have hle : n * z + v.cells.size ≤ cells.size := by omega
    have hstep : v.cells.zipIdx.foldl (fun cs (c, j) => cs.setIfInBounds (n * z + j) c) cells = (cells.toList.take (n * z) ++ v.cells.toList ++ cells.toList.drop (n * z + z)).toArray := by
      have := splice_foldl (n * z) v.cells.toList 0 cells (by simp; omega)
      simp only [Nat.add_zero, Array.length_toList, hv] at this
      rw [← this, ← Array.foldl_toList, Array.toList_zipIdx]
    have hne : (v.cells.size ≠ z || decide (n * z + v.cells.size > cells.size)) = false := by simp [hv]; omega
    simp only [List.zipIdx_cons, List.map_cons, Instr.fill, hne, hstep]
    have hsz : (cells.toList.take (n * z) ++ v.cells.toList ++ cells.toList.drop (n * z + z)).toArray.size = cells.size := by
      simp only [List.size_toArray, List.length_append, List.length_take, List.length_drop, Array.length_toList, hv]; omega
    have ih := lit_fill z vs (n + 1) (cells.toList.take (n * z) ++ v.cells.toList ++ cells.toList.drop (n * z + z)).toArray (fun u hu => h1 u (List.mem_cons_of_mem _ hu)) (by rw [hsz]; omega)
    rw [if_neg (by simp), ih]
    congr 2
    simp only [List.toList_toArray, List.flatMap_cons]
    have e3 : (n + 1) * z = n * z + z := by rw [Nat.add_mul]; omega
    have e4 : (cells.toList.take (n * z) ++ v.cells.toList).length = n * z + z := by simp only [List.length_append, List.length_take, Array.length_toList, hv]; omega
    rw [e3, List.take_left' e4, List.length_cons, e1, e2]
    rw [List.drop_append, e4, List.drop_drop]
    have e5 : (cells.toList.take (n * z) ++ v.cells.toList).drop (n * z + z + vs.length * z) = [] := List.drop_eq_nil_of_le (by rw [e4]; omega)
    rw [e5, List.nil_append]
    have e6 : n * z + z + (n * z + z + vs.length * z - (n * z + z)) = n * z + z + vs.length * z := by omega
    rw [e6]
    simp only [List.append_assoc]

theorem intsOf_spec {k : IntKind} : ∀ {xs : List AV} {ns : List Int}, intsOf k xs = some ns → xs = ns.map fun n => .c (.i k n)
  | [], ns, h => by simp [intsOf] at h; subst h; rfl
  | .c x :: l, ns, h => by
    cases x <;> simp [intsOf] at h
    obtain ⟨rfl, ns', h1, rfl⟩ := h
    simp [intsOf_spec h1]
  | .g _ :: _, _, h | .t _ :: _, _, h | .bx _ _ :: _, _, h | .own _ _ :: _, _, h | .oel _ _ _ _ :: _, _, h | .el _ :: _, _, h | .u :: _, _, h => by simp [intsOf] at h
theorem boolsOf_spec : ∀ {xs : List AV} {ns : List Bool}, boolsOf xs = some ns → xs = ns.map fun n => .c (.b n)
  | [], ns, h => by simp [boolsOf] at h; subst h; rfl
  | .c x :: l, ns, h => by
    cases x <;> simp [boolsOf] at h
    obtain ⟨ns', h1, rfl⟩ := h
    simp [boolsOf_spec h1]
  | .g _ :: _, _, h | .t _ :: _, _, h | .bx _ _ :: _, _, h | .own _ _ :: _, _, h | .oel _ _ _ _ :: _, _, h | .el _ :: _, _, h | .u :: _, _, h => by simp [boolsOf] at h
theorem rowsOf_spec {z : Nat} : ∀ {xs : List AV} {rs : List (List C)}, rowsOf z xs = some rs → rs.length = xs.length ∧ ∀ (i : Nat) x, xs[i]? = some x → ∃ r, cellsOf x = some r ∧ rs[i]? = some r ∧ r.length = z
  | [], rs, h => by simp [rowsOf] at h; subst h; simp
  | x :: l, rs, h => by
    simp only [rowsOf] at h
    split at h
    · rename_i r hr
      split at h
      · rename_i hz
        obtain ⟨rs', h1, rfl⟩ := Option.map_eq_some_iff.1 h
        obtain ⟨hl, hi⟩ := rowsOf_spec h1
        refine ⟨by simp [hl], fun i y hy => ?_⟩
        match i with
        | 0 => simp at hy; subst hy; exact ⟨r, hr, rfl, hz⟩
        | i + 1 => exact hi i y (by simpa using hy)
      · cases h
    · cases h

theorem litO_rows {e : TypeId} {xs : List AV} {c : C} {z : Nat} (h : litO P e xs = some c) (hz : szO P e = some z) (hcz : c.z = z) :
    ∃ rs, c.rows = some (z, rs) ∧ rs.length = xs.length ∧ ∀ (i : Nat) x, xs[i]? = some x → ∃ r, cellsOf x = some r ∧ rs[i]? = some r ∧ r.length = z := by
  unfold litO at h
  split at h
  · obtain ⟨ns, hn, rfl⟩ := Option.map_eq_some_iff.1 h
    obtain rfl := intsOf_spec hn
    simp [C.z] at hcz; subst hcz
    refine ⟨_, rfl, by simp, fun i x hx => ?_⟩
    simp only [List.getElem?_map, Option.map_eq_some_iff] at hx
    obtain ⟨n, hn, rfl⟩ := hx
    exact ⟨_, rfl, by simp [hn], rfl⟩
  · obtain ⟨ns, hn, rfl⟩ := Option.map_eq_some_iff.1 h
    obtain rfl := boolsOf_spec hn
    simp [C.z] at hcz; subst hcz
    refine ⟨_, rfl, by simp, fun i x hx => ?_⟩
    simp only [List.getElem?_map, Option.map_eq_some_iff] at hx
    obtain ⟨n, hn, rfl⟩ := hx
    exact ⟨_, rfl, by simp [hn], rfl⟩
  · rw [hz] at h
    simp only at h
    obtain ⟨rs, hn, rfl⟩ := Option.map_eq_some_iff.1 h
    obtain ⟨h1, h2⟩ := rowsOf_spec hn
    exact ⟨rs, rfl, h1, h2⟩

end Go.Abs

/-
  The evaluation of single operations is sound: literals of slices; a step's meaning; writing.
-/
namespace Go.Abs
set_option linter.unusedSimpArgs false
set_option linter.unusedVariables false
open Go.RowKit

variable {P : Program}

theorem alloc_later {F : Fr} {H : Hp} {m : Mp} (w : World) (o : Obj) : Later F H m w H m (w.alloc o) := HRep.ext_later (alloc_ext w o)

theorem newRow_run (e : TypeId) (cells : Array Value) (w : World) : (newRow e cells).run P w = .ok ⟨w.heap.size, 0, none⟩ (w.alloc (.cells cells e)) := rfl

theorem new_rd {F : Fr} {H : Hp} {m : Mp} {w : World} (h : HRep F H m w) {c : C} {z : Nat} {rs : List (List C)} (hrows : c.rows = some (z, rs)) (hz : 0 < z) (hr : ∀ r ∈ rs, r.length = z) (hm : rs.length ≤ maxLen)
    (arr : Array Value) (e : TypeId) (cap : Nat) (hcap : rs.length ≤ cap) (hx : RdRow w (F.S m) z rs arr.toList) : Rd (w.alloc (.cells arr e)) (F.S m) c (.slice (some ⟨w.heap.size, 0, none⟩) rs.length cap) := by
  by_cases he : rs = []
  · subst he; exact .emp _ _ _ _ hrows (fun h => by cases h)
  · refine .sl c z rs w.heap.size 0 cap (fun i j => (arr[i * z + j]?).getD undef) hrows he hz hm hcap hr (.inr ⟨h.size, fun ho => by have := own_lt h ho; omega⟩) ?_ ?_
    · intro i j y hy
      obtain ⟨u, hu, _⟩ := hx i j y hy
      have hu' : arr[i * z + j]? = some u := by simpa using hu
      simp only [World.cell?, heap_alloc_new, Nat.zero_add, hu', Option.getD_some]
      rfl
    · intro i j y hy
      obtain ⟨u, hu, hrd⟩ := hx i j y hy
      have hu' : arr[i * z + j]? = some u := by simpa using hu
      simp only [hu', Option.getD_some]
      exact hrd.mono (alloc_later (F := F) (H := H) (m := m) w _).st

theorem flatMap_get {z : Nat} : ∀ (vs : List Value) (i j : Nat) (v : Value), (∀ v ∈ vs, v.cells.size = z) → vs[i]? = some v → j < z → (vs.flatMap fun v => v.cells.toList)[i * z + j]? = v.cells.toList[j]?
  | [], i, j, v, h, hv, hj => by simp at hv
  | x :: vs, 0, j, v, h, hv, hj => by
    simp at hv; subst hv
    have := h x (List.mem_cons_self ..)
    simp only [List.flatMap_cons, Nat.zero_mul, Nat.zero_add]
    rw [List.getElem?_append_left (by simp; omega)]
  | x :: vs, i + 1, j, v, h, hv, hj => by
    have hx := h x (List.mem_cons_self ..)
    simp only [List.flatMap_cons]
    rw [List.getElem?_append_right (by simp [hx, Nat.add_mul]; omega)]
    have e : (i + 1) * z + j - x.cells.toList.length = i * z + j := by simp [hx, Nat.add_mul]; omega
    rw [e]
    exact flatMap_get vs i j v (fun u hu => h u (List.mem_cons_of_mem _ hu)) (by simpa using hv) hj

/-- a literal of a slice -/
def litT (P : Program) (t : TypeId) (len : Nat) (ps : List (Nat × AV)) (K : AV → Prop) : Prop := match elO P t with
  | some e => match litO P e (ps.map (·.2)) with
    | some c => ps.map (·.1) = List.range len ∧ szO P e = some c.z ∧ (zeroO P e).isSome = true ∧ len * c.z ≤ 16777216 ∧ 0 < c.z ∧ K (.c c)
    | none => False
  | none => False

theorem litT_sound {t : TypeId} {len : Nat} {ps : List (Nat × AV)} {K : AV → Prop} (h : litT P t len ps K) :
    ∃ r, K r ∧ ∀ (F : Fr) (H : Hp) (m : Mp) (w : World) (vs : Array (Nat × Value)), HRep F H m w → vs.toList.map (·.1) = ps.map (·.1) → (∀ (j : Nat) x v, ps[j]? = some x → vs[j]? = some v → RepA F H m w x.2 v.2) →
      ∃ v w', (Instr.buildSlice t len vs).run P w = .ok v w' ∧ Ext w w' ∧ RepA F H m w' r v := by
  unfold litT at h
  split at h
  · rename_i e he
    split at h
    · rename_i c hc
      obtain ⟨hidx, hsz, hzero, hle, hz0, hK⟩ := h
      refine ⟨_, hK, fun F H m w vs hrep hi hr => ?_⟩
      obtain ⟨rs, hrows, hlen, hrs⟩ := litO_rows hc hsz rfl
      obtain ⟨zs, hzs⟩ := Option.isSome_iff_exists.1 hzero
      obtain ⟨it, z, hit, hzz, rfl⟩ := zeroO_some hzs
      have hpl : ps.length = len := by have := congrArg List.length hidx; simpa using this
      have hvl : vs.size = len := by have := congrArg List.length hi; simp at this; omega
      have hvals : ∀ (j : Nat) v, vs[j]? = some v → RdL w (F.S m) ((rs[j]?).getD []) v.2.cells.toList ∧ v.2.cells.size = c.z := by
        intro j v hv
        have hlt := (Array.getElem?_eq_some_iff.1 hv).1
        have hx : ps[j]? = some (ps[j]'(by omega)) := List.getElem?_eq_getElem _
        obtain ⟨r, h1, h2, h3⟩ := hrs j (ps[j]'(by omega)).2 (by simp [hx])
        have h4 := cellsOf_rep h1 (hr j _ v hx hv)
        simp only [h2, Option.getD_some]
        exact ⟨h4, by have := h4.1; simp at this; omega⟩
      have henum : vs.toList = ((vs.toList.map (·.2)).zipIdx 0).map fun p => (p.2, p.1) := by
        apply List.ext_getElem?
        intro j
        simp only [List.getElem?_map, List.getElem?_zipIdx, Nat.zero_add]
        cases hj : vs.toList[j]? with
        | none => simp
        | some v =>
          have h1 : (vs.toList.map (·.1))[j]? = some v.1 := by simp [hj]
          rw [hi, hidx] at h1
          have h2 := (List.getElem?_eq_some_iff.1 h1).1
          simp at h2
          simp [List.getElem?_range h2] at h1
          simp [h1]
      have hall : ∀ v ∈ vs.toList.map (·.2), v.cells.size = c.z := by
        intro v hv
        obtain ⟨p, hp, rfl⟩ := List.mem_map.1 hv
        obtain ⟨j, hj⟩ := List.getElem?_of_mem hp
        exact (hvals j p (by simpa using hj)).2
      have hfill := lit_fill c.z (vs.toList.map (·.2)) 0 ((Array.range (len * c.z)).map (z.cells[· % z.cells.size]!)) hall (by simp [hvl])
      rw [← henum] at hfill
      have e1 : (0 + (vs.toList.map (·.2)).length) * c.z = len * c.z := by simp [hvl]
      rw [e1] at hfill
      have e2 : ((Array.range (len * c.z)).map (z.cells[· % z.cells.size]!)).toList.drop (len * c.z) = [] := List.drop_eq_nil_of_le (by simp)
      rw [e2] at hfill
      simp only [Nat.zero_mul, List.take_zero, List.nil_append, List.append_nil] at hfill
      have hnot : ¬ len * c.z > 2 ^ 24 := by omega
      have hne : ¬ len * c.z = 0 ∨ len * c.z = 0 := by omega
      have hrun : (Instr.buildSlice t len vs).run P w = .ok (.slice (some ⟨w.heap.size, 0, none⟩) len len) (w.alloc (.cells ((vs.toList.map (·.2)).flatMap fun v => v.cells.toList).toArray e)) := by
        rcases hne with hne | hne
        · simp only [Instr.buildSlice, Sem.run_bind, run_underlying (elO_some he), Result.andThen_ok, szO_run hsz, hnot, if_false, hne]
          simp [zeroValue, typeInfo, hit, hzz, hfill, newRow_run]
        · have hl0 : len = 0 := by
            rcases Nat.mul_eq_zero.1 hne with h | h
            · exact h
            · omega
          subst hl0
          have hv0 : vs = #[] := by apply Array.eq_empty_of_size_eq_zero; exact hvl
          subst hv0
          simp only [Instr.buildSlice, Sem.run_bind, run_underlying (elO_some he), Result.andThen_ok, szO_run hsz, Nat.zero_mul]
          simp [Instr.fill, newRow_run]
          congr 2
          apply Array.eq_empty_of_size_eq_zero
          simp
      refine ⟨_, _, hrun, alloc_ext w _, ?_⟩
      have hrl : ∀ r ∈ rs, r.length = c.z := by
        intro r hrm
        obtain ⟨j, hj⟩ := List.getElem?_of_mem hrm
        have hlt := (List.getElem?_eq_some_iff.1 hj).1
        have hx : ps[j]? = some (ps[j]'(by simp at hlen; omega)) := List.getElem?_eq_getElem _
        obtain ⟨r', h1, h2, h3⟩ := hrs j (ps[j]'(by simp at hlen; omega)).2 (by simp [hx])
        rw [hj] at h2; cases h2; exact h3
      have hrslen : rs.length = len := by simp at hlen; omega
      have hmax : rs.length ≤ maxLen := by
        have : len ≤ len * c.z := Nat.le_mul_of_pos_right _ hz0
        unfold maxLen; omega
      rw [← hrslen]
      refine new_rd hrep hrows hz0 hrl hmax _ e rs.length (Nat.le_refl _) ?_
      intro i j y hy
      obtain ⟨h1, h2⟩ := at2_lt hrl hy
      have hv : vs[i]? = some (vs[i]'(by omega)) := Array.getElem?_eq_getElem _
      obtain ⟨h3, h4⟩ := hvals i _ hv
      have hrow : ∃ r, rs[i]? = some r ∧ r[j]? = some y := by
        unfold at2 at hy
        cases hr' : rs[i]? with
        | none => simp [hr'] at hy
        | some r => exact ⟨r, rfl, by simpa [hr'] using hy⟩
      obtain ⟨r, hr1, hr2⟩ := hrow
      rw [hr1, Option.getD_some] at h3
      obtain ⟨u, hu, hrd⟩ := h3.get hr2
      refine ⟨u, ?_, hrd⟩
      simp only [List.toList_toArray]
      rw [flatMap_get _ i j (vs[i]'(by omega)).2 hall (by simp [hv]) h2]
      exact hu
    · exact h.elim
  · exact h.elim


/-- an operation runs to a value, itself or by a call -/
def Exec (P : Program) (o : Oper) (ρ : Operand → Value) (w : World) (R : Value → World → Prop) : Prop :=
  match (execOp ρ o).run P w with
  | .ok (.value v) w' => R v w'
  | .ok .skip w' => R undef w'
  | .ok (.enter f args) w' => Calls P f args w' fun e w'' => ∃ v, e = .returned v ∧ R v w''
  | _ => False

theorem Exec.mono {o : Oper} {ρ : Operand → Value} {w : World} {R R' : Value → World → Prop} (h : Exec P o ρ w R) (hr : ∀ v w', R v w' → R' v w') : Exec P o ρ w R' := by
  unfold Exec at *
  split at h
  · exact hr _ _ h
  · exact hr _ _ h
  · exact Calls.mono h fun e w' ⟨v, he, h⟩ => ⟨v, he, hr _ _ h⟩
  · exact h.elim

theorem Exec.wp {o : Oper} {a : Act} {w : World} {R : Value → World → Prop} {K : Act → World → Prop} {Q : Exit → Act → World → Prop} (h : Exec P o a.eval w R) (hk : ∀ v w', R v w' → K (a.put o.dst v) w') : o.wp P a w K Q := by
  unfold Exec at h
  unfold Oper.wp
  generalize (execOp a.eval o).run P w = r at h
  cases r with
  | ok n w' =>
    cases n <;> simp only [Oper.upon] at h ⊢ <;> first | exact h.elim | exact hk _ _ h | skip
    exact Calls.mono h fun e w'' ⟨v, he, hr⟩ => by subst he; exact hk _ _ hr
  | halt x w' => exact h.elim

theorem Exec.congr {o : Oper} {ρ ρ' : Operand → Value} (hs : ∀ cs b, o.op ≠ .select cs b) (h : ∀ x ∈ o.op.operands, ρ x = ρ' x) {w : World} {R : Value → World → Prop} (he : Exec P o ρ w R) : Exec P o ρ' w R := by
  unfold Exec at *
  rw [← execOp_congr o hs h]
  exact he

/-- a quiet operation: it turns nothing that lies; what it makes is told already by the abstract memory -/
def OpQ (P : Program) (F : Fr) (H : Hp) (nx nx' : Nat) (o : Oper) (ev : Operand → AV) (r : AV) : Prop :=
  ∀ (H' : Hp) (m : Mp) (w : World) (ρ : Operand → Value), Sup H' H → HRep F H' m w → (∀ i, nx ≤ i → i < nx' → m.bx i = none) → (∀ x ∈ o.op.operands, RepA F H' m w (ev x) (ρ x)) →
    Exec P o ρ w fun v w' => ∃ m', HRep F H' m' w' ∧ Later F H' m w H' m' w' ∧ m'.bf = m.bf ∧ (∀ i, ¬ (nx ≤ i ∧ i < nx') → m.bx i = none → m'.bx i = none) ∧ RepA F H' m' w' r v

/-- an operation that yields, and leaves the world alone -/
theorem OpQ.of_yl {F : Fr} {H : Hp} {nx : Nat} {o : Oper} {ev : Operand → AV} {r : AV}
    (h : ∀ (H' : Hp) (m : Mp) (w : World) (ρ : Operand → Value), Sup H' H → HRep F H' m w → (∀ x ∈ o.op.operands, RepA F H' m w (ev x) (ρ x)) → ∃ s, execOp ρ o = (do pure (Next.value (← s))) ∧ Yl P F H' m w s r) : OpQ P F H nx nx o ev r := by
  intro H' m w ρ hsup hrep _ hops
  obtain ⟨s, hs, v, hrun, hr⟩ := h H' m w ρ hsup hrep hops
  unfold Exec
  rw [hs]
  simp only [Sem.run_bind, hrun, Result.andThen_ok, Sem.run_pure]
  exact ⟨m, hrep, ⟨fun b h _ => ⟨h, rfl⟩, fun _ _ h => h, fun id B h => ⟨B, h, Nat.le_refl _, fun _ => ⟨fun _ h => h, rfl⟩⟩, fun _ B h => ⟨B, h, rfl⟩⟩, rfl, fun _ _ h => h, hr⟩

/-- an operation that yields, and makes new memory that no box holds -/
theorem OpQ.of_ext {F : Fr} {H : Hp} {nx : Nat} {o : Oper} {ev : Operand → AV} {r : AV}
    (h : ∀ (H' : Hp) (m : Mp) (w : World) (ρ : Operand → Value), Sup H' H → HRep F H' m w → (∀ x ∈ o.op.operands, RepA F H' m w (ev x) (ρ x)) → Exec P o ρ w fun v w' => Ext w w' ∧ RepA F H' m w' r v) : OpQ P F H nx nx o ev r := by
  intro H' m w ρ hsup hrep _ hops
  exact (h H' m w ρ hsup hrep hops).mono fun v w' ⟨he, hr⟩ => ⟨m, hrep.ext he, HRep.ext_later he, rfl, fun _ _ h => h, hr⟩

def Hp.addBox (H : Hp) (id : Nat) (cs : List AV) : Hp := { H with box := (id, cs) :: H.box }
def Hp.addBor (H : Hp) (id : Nat) (B : Bor) : Hp := { H with bor := (id, B) :: H.bor }
def Hp.addBuf (H : Hp) (id : Nat) (B : Buf) : Hp := { H with buf := (id, B) :: H.buf }

theorem newVar_run (e : TypeId) (v : Value) (w : World) : (newVar e v).run P w = .ok ⟨w.heap.size, 0, none⟩ (w.alloc (.cells v.cells e)) := rfl

/-- a new variable -/
theorem OpQ.alloc {F : Fr} {H : Hp} {nx : Nat} {o : Oper} {ev : Operand → AV} {e : TypeId} {zs : List Value} (ho : o.op = .alloc e) (hz : zeroO P e = some zs) (h1 : zs.all oneCell = true) :
    OpQ P F (H.addBox nx (zs.map fun v => .c (ofC v))) nx (nx + 1) o ev (.bx nx 0) := by
  intro H' m w ρ hsup hrep hfree _
  obtain ⟨it, z, hit, hzz, rfl⟩ := zeroO_some hz
  have hl := hsup.1.1 nx (z.cells.toList.map fun v => .c (ofC v)) (by simp [Hp.addBox, look])
  have hnb := hrep.newBox nx (hfree nx (Nat.le_refl _) (by omega)) z.cells e _ hl (by simp) (fun j x u hx hu => by
    simp only [List.getElem?_map, Option.map_eq_some_iff] at hx
    obtain ⟨v, hv, rfl⟩ := hx
    have : v = u := by simp at hv; rw [hu] at hv; exact (Option.some.inj hv).symm
    subst this
    have hone : oneCell v = true := List.all_eq_true.1 h1 v (List.mem_of_getElem? hv)
    exact ⟨hone, rd_ofC w _ v hone⟩)
  unfold Exec
  have hrun : (execOp ρ o).run P w = .ok (.value (.pointer (some ⟨w.heap.size, 0, none⟩))) (w.alloc (.cells z.cells e)) := by
    simp [execOp, ho, Instr.alloc, zeroValue, typeInfo, hit, hzz, newVar_run]
  rw [hrun]
  refine ⟨_, hnb.1, hnb.2, rfl, fun i hi h => ?_, w.heap.size, by simp [Mp.addBx], rfl⟩
  simp only [Mp.addBx]
  split
  · omega
  · exact h

/-- a new variable with a value -/
theorem OpQ.box {F : Fr} {H : Hp} {nx : Nat} {o : Oper} {ev : Operand → AV} {e : TypeId} {x : Operand} {cs : List C} (ho : o.op = .box e x) (hc : cellsOf (ev x) = some cs) :
    OpQ P F (H.addBox nx (cs.map .c)) nx (nx + 1) o ev (.bx nx 0) := by
  intro H' m w ρ hsup hrep hfree hops
  have hx := hops x (by simp [ho, Op.operands])
  have hcr := cellsOf_rep hc hx
  have hl := hsup.1.1 nx (cs.map .c) (by simp [Hp.addBox, look])
  have hnb := hrep.newBox nx (hfree nx (Nat.le_refl _) (by omega)) (ρ x).cells e _ hl (by have := hcr.1; simpa using this) (fun j y u hy hu => by
    simp only [List.getElem?_map, Option.map_eq_some_iff] at hy
    obtain ⟨c, hcj, rfl⟩ := hy
    have := hcr.2 j c u hcj (by simpa using hu)
    exact ⟨this.one, this⟩)
  unfold Exec
  have hrun : (execOp ρ o).run P w = .ok (.value (.pointer (some ⟨w.heap.size, 0, none⟩))) (w.alloc (.cells (ρ x).cells e)) := by
    simp [execOp, ho, Instr.box, newVar_run]
  rw [hrun]
  refine ⟨_, hnb.1, hnb.2, rfl, fun i hi h => ?_, w.heap.size, by simp [Mp.addBx], rfl⟩
  simp only [Mp.addBx]
  split
  · omega
  · exact h

end Go.Abs

/-
  The evaluation of single operations is sound: stores, append, make, cutting a buffer.
-/
namespace Go.Abs
set_option linter.unusedSimpArgs false
set_option linter.unusedVariables false
open Go.RowKit

variable {P : Program}

/-- an operation that writes -/
def OpW (P : Program) (F : Fr) (H H' : Hp) (nx nx' : Nat) (o : Oper) (ev : Operand → AV) (r : AV) : Prop :=
  ∀ (m : Mp) (w : World) (ρ : Operand → Value), HRep F H m w → (∀ i, nx ≤ i → m.bx i = none ∧ m.bf i = none) → (∀ x ∈ o.op.operands, RepA F H m w (ev x) (ρ x)) →
    Exec P o ρ w fun v w' => ∃ m', HRep F H' m' w' ∧ Later F H m w H' m' w' ∧ (∀ i, nx' ≤ i → m'.bx i = none ∧ m'.bf i = none) ∧ RepA F H' m' w' r v

/-- the cells of what is stored into a box -/
def cellsAV : AV → Option (List AV)
  | .c x => some [.c x]
  | .g xs => some (xs.map .c)
  | .own id ver => some [.own id ver]
  | .bx id off => some [.bx id off]
  | _ => none

theorem cellsAV_rep {F : Fr} {H : Hp} {m : Mp} {w : World} {x : AV} {ys : List AV} {v : Value} (h : cellsAV x = some ys) (hr : RepA F H m w x v) :
    v.cells.size = ys.length ∧ ∀ (j : Nat) y u, ys[j]? = some y → v.cells[j]? = some u → oneCell u = true ∧ RepA F H m w y u := by
  have hone : oneCell v = true → v.cells = #[v] := fun h => by cases v <;> simp_all [Value.cells, Value.oneCell']
  have key : ∀ y, ys = [y] → oneCell v = true → RepA F H m w y v → v.cells.size = ys.length ∧ ∀ (j : Nat) y u, ys[j]? = some y → v.cells[j]? = some u → oneCell u = true ∧ RepA F H m w y u := by
    rintro y rfl h1 h2
    rw [hone h1]
    refine ⟨rfl, fun j y' u hy hu => ?_⟩
    match j with
    | 0 => simp at hy hu; subst hy; subst hu; exact ⟨h1, h2⟩
    | j + 1 => simp at hy
  cases x <;> simp [cellsAV] at h
  · exact key _ h.symm (Rd.one hr) hr
  · subst h
    obtain ⟨vs, rfl, hl⟩ := hr
    refine ⟨by have := hl.1; simpa [Value.cells] using this, fun j y u hy hu => ?_⟩
    simp only [List.getElem?_map, Option.map_eq_some_iff] at hy
    obtain ⟨c, hc, rfl⟩ := hy
    have := hl.2 j c u hc (by simpa [Value.cells] using hu)
    exact ⟨this.one, this⟩
  · have h1 : oneCell v = true := by obtain ⟨b, _, rfl⟩ := hr; rfl
    exact key _ h.symm h1 hr
  · exact key _ h.symm hr.1 hr

def storeT (P : Program) (H : Hp) (t : TypeId) (a x : AV) (K : Hp → Prop) : Prop := match a with
  | .bx id off => match look H.box id, cellsAV x with
    | some cs, some ys => szO P t = some ys.length ∧ off + ys.length ≤ cs.length ∧ K (H.addBox id (cs.take off ++ ys ++ cs.drop (off + ys.length)))
    | _, _ => False
  | .oel id ver i off => match curB H id ver, x with
    | some B, .c y => match B.con.put i off y with
      | some c => szO P t = some 1 ∧ K (H.addBuf id { B with con := c })
      | none => False
    | _, _ => False
  | .bel k i off => match look H.bor k, x with
    | some B, .c y => match B.con.put i off y with
      | some c => szO P t = some 1 ∧ K (H.addBor k { B with con := c })
      | none => False
    | _, _ => False
  | _ => False

theorem look_add {α : Type} (l : List (Nat × α)) (id : Nat) (x : α) : look ((id, x) :: l) id = some x := by simp [look]
theorem look_add_ne {α : Type} (l : List (Nat × α)) (id : Nat) (x : α) (i : Nat) (h : i ≠ id) : look ((id, x) :: l) i = look l i := by
  have : (id == i) = false := by simp; omega
  simp [look, this]

theorem getElem?_splice {α : Type} (l m : List α) (o : Nat) (h : o + m.length ≤ l.length) (j : Nat) :
    (l.take o ++ m ++ l.drop (o + m.length))[j]? = if o ≤ j ∧ j < o + m.length then m[j - o]? else l[j]? := by
  simp only [List.append_assoc, List.getElem?_append, List.length_take, List.getElem?_take, List.getElem?_drop]
  repeat' split
  all_goals first | omega | rfl | (congr 1; omega)

theorem put_rows {c c' : C} {z i off : Nat} {y : C} {rs : List (List C)} (h : c.rows = some (z, rs)) (hp : c.put i off y = some c') (hi : i < rs.length) (hr : ∀ r ∈ rs, r.length = z) (hoff : off < z) :
    ∃ rs', c'.rows = some (z, rs') ∧ rs'.length = rs.length ∧ (∀ r ∈ rs', r.length = z) ∧ ∀ a b q, at2 rs' a b = some q → (a = i ∧ b = off ∧ q = y) ∨ (¬ (a = i ∧ b = off) ∧ at2 rs a b = some q) := by
  have gen : ∀ r', r'.length = z → (∀ b q, r'[b]? = some q → (b = off ∧ q = y) ∨ (b ≠ off ∧ at2 rs i b = some q)) → (∀ r ∈ rs.set i r', r.length = z) ∧ (rs.set i r').length = rs.length ∧
      ∀ a b q, at2 (rs.set i r') a b = some q → (a = i ∧ b = off ∧ q = y) ∨ (¬ (a = i ∧ b = off) ∧ at2 rs a b = some q) := by
    intro r' hl hq
    refine ⟨fun r hm => ?_, by simp, fun a b q hat => ?_⟩
    · rcases List.mem_or_eq_of_mem_set hm with h1 | h1
      · exact hr r h1
      · subst h1; exact hl
    · unfold at2 at hat
      by_cases ha : i = a
      · subst ha
        rw [List.getElem?_set_self hi] at hat
        simp only [Option.bind_some] at hat
        rcases hq b q hat with ⟨h1, h2⟩ | ⟨h1, h2⟩
        · exact .inl ⟨rfl, h1, h2⟩
        · exact .inr ⟨fun h => h1 h.2, h2⟩
      · rw [List.getElem?_set_ne ha] at hat
        exact .inr ⟨fun h => ha h.1.symm, hat⟩
  cases c <;> simp [C.rows] at h
  · rename_i k xs
    obtain ⟨rfl, rfl⟩ := h
    obtain rfl : off = 0 := by omega
    cases y <;> simp [C.put] at hp
    rename_i k' n
    obtain ⟨rfl, rfl⟩ := hp
    obtain ⟨g1, g2, g3⟩ := gen [.i k n] rfl (fun b q hb => by
      match b with
      | 0 => simp at hb; exact .inl ⟨rfl, hb.symm⟩
      | b + 1 => simp at hb)
    refine ⟨_, rfl, ?_, ?_, ?_⟩ <;> rw [List.map_set]
    · exact g2
    · exact g1
    · exact g3
  · rename_i xs
    obtain ⟨rfl, rfl⟩ := h
    obtain rfl : off = 0 := by omega
    cases y <;> simp [C.put] at hp
    rename_i n
    subst hp
    obtain ⟨g1, g2, g3⟩ := gen [.b n] rfl (fun b q hb => by
      match b with
      | 0 => simp at hb; exact .inl ⟨rfl, hb.symm⟩
      | b + 1 => simp at hb)
    refine ⟨_, rfl, ?_, ?_, ?_⟩ <;> rw [List.map_set]
    · exact g2
    · exact g1
    · exact g3
  · rename_i z' xs
    obtain ⟨rfl, rfl⟩ := h
    have hp' : c' = .sl z' (xs.set i ((xs.getD i []).set off y)) := by cases off <;> simp [C.put] at hp <;> rw [← hp] <;> simp
    subst hp'
    have hxi : xs[i]? = some xs[i] := List.getElem?_eq_getElem hi
    have hgd : xs.getD i [] = xs[i] := by simp [hxi]
    rw [hgd]
    have hlx : xs[i].length = z' := hr _ (List.getElem_mem hi)
    obtain ⟨g1, g2, g3⟩ := gen (xs[i].set off y) (by simp [hlx]) (fun b q hb => by
      by_cases hbo : off = b
      · subst hbo
        rw [List.getElem?_set_self (by omega)] at hb
        exact .inl ⟨rfl, (Option.some.inj hb).symm⟩
      · rw [List.getElem?_set_ne hbo] at hb
        exact .inr ⟨fun h => hbo h.symm, by simp [at2, hxi, hb]⟩)
    exact ⟨_, rfl, g2, g1, g3⟩

theorem storeT_sound {H : Hp} {nx : Nat} {o : Oper} {ev : Operand → AV} {t : TypeId} {a x : Operand} (ho : o.op = .store t a x) {K : Hp → Prop} (h : storeT P H t (ev a) (ev x) K) :
    ∃ H', K H' ∧ ∀ F : Fr, OpW P F H H' nx nx o ev .u := by
  unfold storeT at h
  split at h
  · rename_i id off heva
    split at h
    · rename_i cs ys hcs hys
      obtain ⟨hsz, hle, hK⟩ := h
      refine ⟨_, hK, fun F m w ρ hrep hfree hops => ?_⟩
      have ha := hops a (by simp [ho, Op.operands])
      have hx := hops x (by simp [ho, Op.operands])
      rw [heva] at ha
      obtain ⟨b, hb, hρ⟩ := ha
      obtain ⟨cs', arr, e, h1, h2, h3, h4⟩ := hrep.box id b hb
      rw [hcs] at h1; cases h1
      obtain ⟨hvl, hv⟩ := cellsAV_rep hys hx
      have hone : ∀ u ∈ (ρ x).cells.toList, u.oneCell' = true := by
        intro u hu
        obtain ⟨j, hj⟩ := List.getElem?_of_mem hu
        have hjl := (List.getElem?_eq_some_iff.1 hj).1
        have hy : ys[j]? = some (ys[j]'(by simp at hjl; omega)) := List.getElem?_eq_getElem _
        exact (hv j _ u hy (by simpa using hj)).1
      have hst := run_storeCells_at P b off e (ρ x).cells.toList 0 arr w h2 (by simp; omega) hone
      simp only [Nat.add_zero, Array.length_toList, hvl] at hst
      have hrun : (execOp ρ o).run P w = .ok .skip (w.setRow b (arr.toList.take off ++ (ρ x).cells.toList ++ arr.toList.drop (off + ys.length)).toArray) := by
        simp [execOp, ho, Instr.storeAt, hρ, Instr.sureAddr, storeVar, szO_run hsz, hvl, hst]
      unfold Exec
      rw [hrun]
      obtain ⟨g1, g2⟩ := hrep.setBox (H' := H.addBox id (cs.take off ++ ys ++ cs.drop (off + ys.length))) (arr' := (arr.toList.take off ++ (ρ x).cells.toList ++ arr.toList.drop (off + ys.length)).toArray) hb hcs h2 (by simp; omega) (fun j y u hy hu => by
        rw [getElem?_splice cs ys off hle] at hy
        have hu' : (arr.toList.take off ++ (ρ x).cells.toList ++ arr.toList.drop (off + (ρ x).cells.toList.length))[j]? = some u := by simpa [hvl] using hu
        rw [getElem?_splice _ _ off (by simp; omega)] at hu'
        simp only [Array.length_toList, hvl] at hu'
        split at hy
        · rename_i hj; rw [if_pos hj] at hu'; exact hv _ y u hy (by simpa using hu')
        · rename_i hj; rw [if_neg hj] at hu'; exact h4 j y u hy (by simpa using hu')) (look_add ..) (fun i hi => look_add_ne _ _ _ _ hi) rfl rfl
      exact ⟨m, g1, g2, hfree, trivial⟩
    · exact h.elim
  · rename_i id ver i off heva
    split at h
    · rename_i B y hB hevx
      split at h
      · rename_i c hc
        obtain ⟨hsz, hK⟩ := h
        refine ⟨_, hK, fun F m w ρ hrep hfree hops => ?_⟩
        have ha := hops a (by simp [ho, Op.operands])
        have hx := hops x (by simp [ho, Op.operands])
        rw [heva] at ha
        rw [hevx] at hx
        obtain ⟨hB1, hB2⟩ := curB_spec hB
        obtain ⟨g, n, cap, rs, xs, hm, hρ, hrows, hrl, rfl, hi, hoff, hz0, hown, hrd, _⟩ := oel_cell hrep hB1 hB2 ha
        obtain ⟨rs', hrows', hlen', hrl', hat'⟩ := put_rows hrows hc hi hrl hoff
        have hone : oneCell (ρ x) = true := Rd.one hx
        have hvc : (ρ x).cells = #[ρ x] := by cases hq : ρ x <;> simp_all [Value.cells, Value.oneCell']
        have hjlt : i * B.z + off < rs.length * B.z := by
          have : (i + 1) * B.z ≤ rs.length * B.z := Nat.mul_le_mul_right _ hi
          rw [Nat.add_mul] at this; omega
        have hcell := hown.cellAt (i * B.z + off) hjlt
        have hxl : xs.length = rs.length * B.z := hown.1
        have hcs : w.cell? ⟨g, i * B.z + off, none⟩ = some (xs[i * B.z + off]'(by omega)) := by rw [hcell]; exact List.getElem?_eq_getElem _
        have hfz := hown.frozenAt (i * B.z + off)
        obtain ⟨hst1, hst2⟩ := hown.stored (i * B.z + off) (ρ x)
        have hrun : (execOp ρ o).run P w = .ok .skip (w.setCell ⟨g, i * B.z + off, none⟩ (ρ x)) := by
          simp [execOp, ho, Instr.storeAt, hρ, Instr.sureAddr, storeVar, szO_run hsz, hvc, storeCells, addr_add, run_store P w _ _ _ hone, hcs, hfz]
        unfold Exec
        rw [hrun]
        obtain ⟨g1, g2⟩ := hrep.bufStep (id := id) (row := some g) (B' := { B with con := c }) (v' := .slice (some ⟨g, 0, none⟩) rs.length cap) (rs := rs') (xs := xs.set (i * B.z + off) (ρ x)) (H' := H.addBuf id { B with con := c })
          hst2 (fun g' hg' => by cases hg'; exact ⟨_, hm, rfl⟩) (fun g' hg' => by simp [Value.ownBlock] at hg'; subst hg'; exact .inl rfl)
          (fun B2 hB2' => by rw [hB1] at hB2'; cases hB2'; exact .inr ⟨rfl, hm, rfl⟩) (look_add ..) (fun j hj => look_add_ne _ _ _ _ hj) rfl rfl hrows' hz0 hrl' (by rw [hlen']; exact hst1)
          (fun a b q hat => by
            have hab : a < rs.length ∧ b < B.z := by have := at2_lt hrl' hat; omega
            rcases hat' a b q hat with ⟨rfl, rfl, rfl⟩ | ⟨hne, hq⟩
            · exact ⟨ρ x, by rw [List.getElem?_set_self (by omega)], hx⟩
            · obtain ⟨u, hu, hr⟩ := hrd a b q hq
              refine ⟨u, ?_, hr⟩
              rw [List.getElem?_set_ne]
              · exact hu
              · intro e
                dsimp only at e
                apply hne
                have e1 : i = a := by
                  have h1 : (i * B.z + off) / B.z = i := by rw [Nat.mul_comm, Nat.mul_add_div hz0, Nat.div_eq_of_lt hoff]; simp
                  have h2 : (a * B.z + b) / B.z = a := by rw [Nat.mul_comm, Nat.mul_add_div hz0, Nat.div_eq_of_lt hab.2]; simp
                  rw [e] at h1; omega
                subst e1
                exact ⟨rfl, by omega⟩)
        refine ⟨_, g1, g2, fun j hj => ?_, trivial⟩
        obtain ⟨hf1, hf2⟩ := hfree j hj
        refine ⟨hf1, ?_⟩
        simp only [Mp.addBf]
        split
        · subst j; rw [hm] at hf2; cases hf2
        · exact hf2
      · exact h.elim
    · exact h.elim
  · rename_i k i off heva
    split at h
    · rename_i B y hB hevx
      split at h
      · rename_i c hc
        obtain ⟨hsz, hK⟩ := h
        refine ⟨_, hK, fun F m w ρ hrep hfree hops => ?_⟩
        have ha := hops a (by simp [ho, Op.operands])
        have hx := hops x (by simp [ho, Op.operands])
        rw [heva] at ha
        rw [hevx] at hx
        obtain ⟨g, n, cap, rs, xs, hm, hρ, hrows, hrl, rfl, hi, hoff, hz0, hown, hrd, _⟩ := bel_cell hrep hB ha
        obtain ⟨rs', hrows', hlen', hrl', hat'⟩ := put_rows hrows hc hi hrl hoff
        have hcz : c.z = B.con.z := (rows_z hrows').1
        have hone : oneCell (ρ x) = true := Rd.one hx
        have hvc : (ρ x).cells = #[ρ x] := by cases hq : ρ x <;> simp_all [Value.cells, Value.oneCell']
        generalize hz : B.con.z = z at *
        have hjlt : i * z + off < rs.length * z := by
          have : (i + 1) * z ≤ rs.length * z := Nat.mul_le_mul_right _ hi
          rw [Nat.add_mul] at this; omega
        have hcell := hown.cellAt (i * z + off) hjlt
        have hxl : xs.length = rs.length * z := hown.1
        have hcs : w.cell? ⟨g, i * z + off, none⟩ = some (xs[i * z + off]'(by omega)) := by rw [hcell]; exact List.getElem?_eq_getElem _
        have hfz := hown.frozenAt (i * z + off)
        obtain ⟨hst1, hst2⟩ := hown.stored (i * z + off) (ρ x)
        have hrun : (execOp ρ o).run P w = .ok .skip (w.setCell ⟨g, i * z + off, none⟩ (ρ x)) := by
          simp [execOp, ho, Instr.storeAt, hρ, Instr.sureAddr, storeVar, szO_run hsz, hvc, storeCells, addr_add, run_store P w _ _ _ hone, hcs, hfz]
        unfold Exec
        rw [hrun]
        obtain ⟨g1, g2⟩ := hrep.borStep (k := k) (B := B) (B' := { B with con := c }) (v := .slice (some ⟨g, 0, none⟩) rs.length cap) (rs := rs') (xs := xs.set (i * z + off) (ρ x)) (H' := H.addBor k { B with con := c })
          hm hst2 hB (by show c.z = B.con.z; rw [hcz, hz]) (look_add ..) (fun j hj => look_add_ne _ _ _ _ hj) rfl rfl (by show c.rows = some (c.z, rs'); rw [hcz]; exact hrows') (by show 0 < c.z; rw [hcz]; exact hz0) (by show ∀ r ∈ rs', r.length = c.z; rw [hcz]; exact hrl')
          (by show (w.setCell ⟨g, i * z + off, none⟩ (ρ x)).ownsRow 0 B.e c.z _ rs'.length _; rw [hlen', hcz]; exact hst1)
          (by
            show RdRow w (F.S m) c.z rs' _
            rw [hcz]
            intro a b q hat
            have hab : a < rs.length ∧ b < z := by have := at2_lt hrl' hat; omega
            rcases hat' a b q hat with ⟨rfl, rfl, rfl⟩ | ⟨hne, hq⟩
            · exact ⟨ρ x, by rw [List.getElem?_set_self (by omega)], hx⟩
            · obtain ⟨u, hu, hr⟩ := hrd a b q hq
              refine ⟨u, ?_, hr⟩
              rw [List.getElem?_set_ne]
              · exact hu
              · intro e
                apply hne
                have e1 : i = a := by
                  have h1 : (i * z + off) / z = i := by rw [Nat.mul_comm, Nat.mul_add_div hz0, Nat.div_eq_of_lt hoff]; simp
                  have h2 : (a * z + b) / z = a := by rw [Nat.mul_comm, Nat.mul_add_div hz0, Nat.div_eq_of_lt hab.2]; simp
                  rw [e] at h1; omega
                subst e1
                exact ⟨rfl, by omega⟩)
        exact ⟨m, g1, g2, hfree, trivial⟩
      · exact h.elim
    · exact h.elim
  · exact h.elim


/-- the content of a source: a view's, or a buffer's -/
def srcC (H : Hp) : AV → Option C
  | .c c => match c.len with | some _ => some c | none => none
  | .own id ver => match curB H id ver with | some B => some B.con | none => none
  | _ => none

/-- the source's cells, one after another -/
theorem src_cells {F : Fr} {H : Hp} {m : Mp} {w : World} (hrep : HRep F H m w) {y : AV} {c : C} {v : Value} (hs : srcC H y = some c) (hy : RepA F H m w y v) :
    (c = .nil ∧ v = .slice none 0 0) ∨ (c = .e0 ∧ ∃ a cap, v = .slice (some a) 0 cap) ∨ ∃ z rs, c.rows = some (z, rs) ∧ ((rs = [] ∧ ∃ p cap, v = .slice p 0 cap ∧ (p = none → cap = 0)) ∨
      ∃ b off cap news, 0 < z ∧ (∀ r ∈ rs, r.length = z) ∧ v = .slice (some ⟨b, off, none⟩) rs.length cap ∧ news.length = rs.length * z ∧ (∀ (j : Nat) u, news[j]? = some u → w.cell? ⟨b, off + j, none⟩ = some u ∧ oneCell u = true) ∧ RdRow w (F.S m) z rs news) := by
  cases y <;> simp only [srcC] at hs <;> try cases hs
  · rename_i c'
    split at hs
    · rename_i l hl
      cases hs
      by_cases hn : c = .nil
      · subst hn; exact .inl ⟨rfl, rd_nil hy⟩
      by_cases hn0 : c = .e0
      · subst hn0
        refine .inr (.inl ⟨rfl, ?_⟩)
        exact rd_e0 hy
      · right; right
        have hrows : ∃ z' rs, c.rows = some (z', rs) := by cases c <;> simp_all [C.len, C.rows]
        obtain ⟨z, rs, hrows⟩ := hrows
        have hlen := (rows_z hrows).2
        rw [hl] at hlen; simp at hlen
        refine ⟨z, rs, hrows, ?_⟩
        obtain ⟨p, cap, rfl, hcap, hmax, hpn, hor⟩ := rd_slice hy hl
        rcases hor with h0 | ⟨z', rs', b, off, hrows', hz0, hlen', rfl, hS, hr, hc⟩
        · left
          subst h0
          exact ⟨List.eq_nil_of_length_eq_zero hlen.symm, p, cap, rfl, hpn⟩
        · rw [hrows] at hrows'; cases hrows'
          right
          have hex : ∀ k, ∃ q, k < rs.length * z → ∃ y, at2 rs (k / z) (k % z) = some y ∧ w.cell? ⟨b, off + k, none⟩ = some q ∧ Rd w (F.S m) y q := by
            intro k
            by_cases hk : k < rs.length * z
            · have h1 : k / z < rs.length := Nat.div_lt_of_lt_mul (by rw [Nat.mul_comm]; exact hk)
              have h2 : k % z < z := Nat.mod_lt _ hz0
              obtain ⟨y, hy⟩ := at2_in hr h1 h2
              obtain ⟨q, hq, hrd⟩ := hc _ _ _ hy
              have e : k / z * z + k % z = k := by rw [Nat.mul_comm]; exact Nat.div_add_mod k z
              rw [e] at hq
              exact ⟨q, fun _ => ⟨y, hy, hq, hrd⟩⟩
            · exact ⟨undef, fun h => absurd h hk⟩
          let f : Nat → Value := fun k => (hex k).choose
          have hf : ∀ k, k < rs.length * z → ∃ y, at2 rs (k / z) (k % z) = some y ∧ w.cell? ⟨b, off + k, none⟩ = some (f k) ∧ Rd w (F.S m) y (f k) := fun k hk => (hex k).choose_spec hk
          refine ⟨b, off, cap, (List.range (rs.length * z)).map f, hz0, hr, by rw [← hlen'], by simp, fun j u hu => ?_, fun i j y hy => ?_⟩
          · have hj := (List.getElem?_eq_some_iff.1 hu).1
            simp only [List.length_map, List.length_range] at hj
            simp [List.getElem?_map, List.getElem?_range hj] at hu
            subst hu
            obtain ⟨y, _, h2, h3⟩ := hf j hj
            exact ⟨h2, h3.one⟩
          · obtain ⟨h1, h2⟩ := at2_lt hr hy
            have hk : i * z + j < rs.length * z := by
              have : (i + 1) * z ≤ rs.length * z := Nat.mul_le_mul_right _ h1
              rw [Nat.add_mul] at this; omega
            obtain ⟨y', h3, h4, h5⟩ := hf _ hk
            have e1 : (i * z + j) / z = i := by rw [Nat.mul_comm, Nat.mul_add_div hz0, Nat.div_eq_of_lt h2]; simp
            have e2 : (i * z + j) % z = j := by rw [Nat.mul_comm, Nat.mul_add_mod, Nat.mod_eq_of_lt h2]
            rw [e1, e2, hy] at h3
            cases h3
            exact ⟨f (i * z + j), by simp [List.getElem?_map, List.getElem?_range hk], h5⟩
    · cases hs
  · rename_i id ver
    split at hs
    · rename_i B hB
      cases hs
      obtain ⟨hB1, hB2⟩ := curB_spec hB
      obtain ⟨rs, xs, hm, hrows, hz0, hr, hown, hrd⟩ := own_slice hrep hB1 hB2 hy
      right; right
      refine ⟨B.z, rs, hrows, ?_⟩
      rcases hown.2 with ⟨rfl, h0⟩ | ⟨g, cap, cur, rfl, hbg, hgg, hnc, hcm, hcs, htake⟩
      · left; exact ⟨List.eq_nil_of_length_eq_zero h0, none, 0, rfl, fun _ => rfl⟩
      · right
        refine ⟨g, 0, cap, xs, hz0, hr, rfl, hown.1, fun j u hu => ?_, hrd⟩
        have hc := hown.cells (g := g) rfl j u hu
        rw [addr_add] at hc
        refine ⟨hc, ?_⟩
        have hj := (List.getElem?_eq_some_iff.1 hu).1
        rw [hown.1] at hj
        have h1 : j / B.z < rs.length := Nat.div_lt_of_lt_mul (by rw [Nat.mul_comm]; exact hj)
        have h2 : j % B.z < B.z := Nat.mod_lt _ hz0
        obtain ⟨y, hyy⟩ := at2_in hr h1 h2
        obtain ⟨q, hq, hrq⟩ := hrd _ _ _ hyy
        have e : j / B.z * B.z + j % B.z = j := by rw [Nat.mul_comm]; exact Nat.div_add_mod j B.z
        rw [e, hu] at hq
        cases hq
        exact hrq.one
    · cases hs

theorem app_rows {c c2 c3 : C} {z : Nat} {rs : List (List C)} (h : c.rows = some (z, rs)) (ha : c.app c2 = some c3) (hns : ∀ s, c2 ≠ .str s) :
    ((c2 = .nil ∨ c2 = .e0) ∧ c3 = c) ∨ ∃ rs2, c2.rows = some (z, rs2) ∧ c3.rows = some (z, rs ++ rs2) := by
  cases c <;> simp [C.rows] at h
  · obtain ⟨rfl, rfl⟩ := h
    cases c2 <;> simp [C.app] at ha
    · rename_i k xs s; exact absurd rfl (hns s)
    · exact .inl ⟨.inl rfl, ha.symm⟩
    · exact .inl ⟨.inr rfl, ha.symm⟩
    · obtain ⟨rfl, rfl⟩ := ha
      exact .inr ⟨_, rfl, by simp [C.rows]⟩
  · obtain ⟨rfl, rfl⟩ := h
    cases c2 <;> simp [C.app] at ha
    · exact .inl ⟨.inl rfl, ha.symm⟩
    · exact .inl ⟨.inr rfl, ha.symm⟩
    · subst ha
      exact .inr ⟨_, rfl, by simp [C.rows]⟩
  · obtain ⟨rfl, rfl⟩ := h
    cases c2 <;> simp [C.app] at ha
    · exact .inl ⟨.inl rfl, ha.symm⟩
    · exact .inl ⟨.inr rfl, ha.symm⟩
    · obtain ⟨rfl, rfl⟩ := ha
      exact .inr ⟨_, rfl, by simp [C.rows]⟩

theorem RdRow.append {w : World} {S : Nat → Prop} {z : Nat} {rs rs2 : List (List C)} {xs ys : List Value} (h : RdRow w S z rs xs) (k : RdRow w S z rs2 ys) (hx : xs.length = rs.length * z) (hr : ∀ r ∈ rs, r.length = z) : RdRow w S z (rs ++ rs2) (xs ++ ys) := by
  intro i j y hy
  unfold at2 at hy
  by_cases hi : i < rs.length
  · rw [List.getElem?_append_left hi] at hy
    obtain ⟨h1, h2⟩ := at2_lt hr (show at2 rs i j = some y from hy)
    obtain ⟨u, hu, hrd⟩ := h i j y hy
    refine ⟨u, ?_, hrd⟩
    rw [List.getElem?_append_left]
    · exact hu
    · have : (i + 1) * z ≤ rs.length * z := Nat.mul_le_mul_right _ h1
      rw [Nat.add_mul] at this; omega
  · rw [List.getElem?_append_right (by omega)] at hy
    obtain ⟨u, hu, hrd⟩ := k (i - rs.length) j y hy
    refine ⟨u, ?_, hrd⟩
    have e : i * z = rs.length * z + (i - rs.length) * z := by rw [← Nat.add_mul]; congr 1; omega
    rw [List.getElem?_append_right (by omega)]
    rw [← hu]
    congr 1
    omega

end Go.Abs

/-
  append, make, cutting a buffer.
-/
namespace Go.Abs
set_option linter.unusedSimpArgs false
set_option linter.unusedVariables false
open Go.RowKit

variable {P : Program}

/-- the version that a buffer of this number gets -/
def verN (H : Hp) (id : Nat) : Nat := match look H.buf id with | some B => B.ver + 1 | none => 0

def notStr : C → Bool
  | .str _ => false
  | _ => true

def appT (P : Program) (H : Hp) (nx : Nat) (t : TypeId) (x y : AV) (K : AV → Hp → Nat → Prop) : Prop :=
  match elO P t, srcC H y with
  | some e, some c2 => match szO P e, byO P e, zeroO P e with
    | some z, some by_, some zs => match x with
      | .c .nil => match emptyO P e with
        | some c0 => match c0.app c2 with
          | some c => match c.len with
            | some n => (zs.length = z ∧ 0 < z ∧ 0 < by_ ∧ c0.z = z ∧ notStr c2 = true) ∧ n * by_ ≤ 140737488355328 ∧ K (.own nx (verN H nx)) (H.addBuf nx ⟨verN H nx, e, z, c⟩) (nx + 1)
            | none => False
          | none => False
        | none => False
      | .own id ver => match curB H id ver with
        | some B => match B.con.app c2 with
          | some c => match c.len with
            | some n => (zs.length = z ∧ 0 < z ∧ 0 < by_ ∧ B.z = z ∧ B.e = e ∧ notStr c2 = true) ∧ n * by_ ≤ 140737488355328 ∧ K (.own id (ver + 1)) (H.addBuf id ⟨ver + 1, e, z, c⟩) nx
            | none => False
          | none => False
        | none => False
      | _ => False
    | _, _, _ => False
  | _, _ => False

theorem emptyO_rows {e : TypeId} {c0 : C} (h : emptyO P e = some c0) : c0.rows = some (c0.z, []) := by
  unfold emptyO at h
  split at h
  · cases h; rfl
  · cases h; rfl
  · obtain ⟨z, hz, rfl⟩ := Option.map_eq_some_iff.1 h; rfl
  · cases h

theorem byO_some {e : TypeId} {b z : Nat} {zs : List Value} (h : byO P e = some b) (h2 : szO P e = some z) (h3 : zeroO P e = some zs) : ∃ i v, P.info? e = some i ∧ i.bytes = b ∧ i.size = z ∧ i.zero = some v ∧ v.cells.toList = zs := by
  obtain ⟨i, v, hi, hv, rfl⟩ := zeroO_some h3
  simp [byO, hi] at h
  simp [szO, hi] at h2
  exact ⟨i, v, hi, h, h2, hv, rfl⟩

/-- append onto a buffer of the call's own, or onto nothing -/
theorem append_core {F : Fr} {H : Hp} {m : Mp} {w : World} (hrep : HRep F H m w) {t ty e : TypeId} {z by_ : Nat} {zs : List Value} (he : elO P t = some e) (hsz : szO P e = some z) (hby : byO P e = some by_) (hze : zeroO P e = some zs) (hzl : zs.length = z) (hz0 : 0 < z) (hb0 : 0 < by_)
    {c c2 c3 : C} {rs : List (List C)} {xs : List Value} {u v2 : Value} {y : AV} (hrows : c.rows = some (z, rs)) (hrl : ∀ r ∈ rs, r.length = z) (hown : w.ownsRow 0 e z u rs.length xs) (hrd : RdRow w (F.S m) z rs xs)
    (hs : srcC H y = some c2) (hy : RepA F H m w y v2) (ha : c.app c2 = some c3) (hns : notStr c2 = true) {n : Nat} (hn : c3.len = some n) (hroom : n * by_ ≤ 140737488355328) :
    ∃ v' w' rs' xs', (Builtin.append_ #[t, t] ty #[u, v2]).run P w = .ok v' w' ∧ c3.rows = some (z, rs') ∧ (∀ r ∈ rs', r.length = z) ∧ w'.ownsRow 0 e z v' rs'.length xs' ∧ w.grownBy w' u.ownBlock ∧ (∀ g, v'.ownBlock = some g → u.ownBlock = some g ∨ w.heap.size ≤ g) ∧ RdRow w (F.S m) z rs' xs' := by
  obtain ⟨i, z0, hi, hib, his, hiz, hzs⟩ := byO_some hby hsz hze
  have hzc : z0.cells.size = z := by rw [← hzl, ← hzs]; simp
  have same : ∀ v', (Builtin.append_ #[t, t] ty #[u, v2]).run P w = .ok v' w → v' = u → c3.rows = some (z, rs) → ∃ v' w' rs' xs', (Builtin.append_ #[t, t] ty #[u, v2]).run P w = .ok v' w' ∧ c3.rows = some (z, rs') ∧ (∀ r ∈ rs', r.length = z) ∧ w'.ownsRow 0 e z v' rs'.length xs' ∧ w.grownBy w' u.ownBlock ∧ (∀ g, v'.ownBlock = some g → u.ownBlock = some g ∨ w.heap.size ≤ g) ∧ RdRow w (F.S m) z rs' xs' := by
    rintro v' hrun rfl h3
    exact ⟨v', w, rs, xs, hrun, h3, hrl, hown, ⟨rfl, rfl, rfl, Nat.le_refl _, fun _ _ _ => rfl⟩, fun g hg => .inl hg, hrd⟩
  have happ := app_rows hrows ha (fun s e => by subst e; simp [notStr] at hns)
  have grow : ∀ (a : Addr) (k cap : Nat) (news : List Value) (rs2 : List (List C)), c3.rows = some (z, rs ++ rs2) → (∀ r ∈ rs2, r.length = z) → k = rs2.length → v2 = .slice (some a) k cap → news.length = k * z → (∀ (j : Nat) u, news[j]? = some u → w.cell? (a.add j) = some u ∧ oneCell u = true) → RdRow w (F.S m) z rs2 news →
      ∃ v' w' rs' xs', (Builtin.append_ #[t, t] ty #[u, v2]).run P w = .ok v' w' ∧ c3.rows = some (z, rs') ∧ (∀ r ∈ rs', r.length = z) ∧ w'.ownsRow 0 e z v' rs'.length xs' ∧ w.grownBy w' u.ownBlock ∧ (∀ g, v'.ownBlock = some g → u.ownBlock = some g ∨ w.heap.size ≤ g) ∧ RdRow w (F.S m) z rs' xs' := by
    rintro a k cap news rs2 h3 hr2 rfl rfl hnl hcells hrd2
    have hlen := (rows_z h3).2
    rw [hn] at hlen
    simp at hlen
    have h63 : rs.length + rs2.length ≤ maxLen := by
      have : n ≤ n * by_ := Nat.le_mul_of_pos_right _ hb0
      unfold maxLen; omega
    obtain ⟨v', w', hrun, ho', hg', hnil⟩ := run_append_own (P := P) w 0 t ty e i z0 z by_ (elO_some he) hi hiz his hib hzc hz0 u rs.length xs hown a rs2.length cap news hnl (fun j u hu => (hcells j u hu).1) (fun u hu => by
      obtain ⟨j, hj⟩ := List.getElem?_of_mem hu
      exact (hcells j u hj).2) h63 (by rw [← hlen]; exact hroom) (Nat.zero_le _)
    have hroomN : (rs.length + rs2.length) * i.bytes ≤ 140737488355328 := by rw [hib, ← hlen]; exact hroom
    have hsmall : rs.length + rs2.length ≤ 9223372036854775807 := by simp only [maxLen] at h63; omega
    have hplace : ∀ g, v'.ownBlock = some g → u.ownBlock = some g ∨ w.heap.size ≤ g := by
      intro g hg
      rcases hown.2 with ⟨rfl, h0⟩ | ⟨g0, cap0, cur, rfl, hbg, hgg, hnc, hcm, hcs, htake⟩
      · by_cases hk : rs2.length = 0
        · have := hnil.2 ⟨rfl, hk⟩
          subst this
          simp [Value.ownBlock] at hg
        · have hr := run_append_nil (P := P) w t ty e i z0 (elO_some he) hi hiz a rs2.length cap news (by rw [his]; exact hnl) (fun j u hu => (hcells j u hu).1) (by omega) (by omega) (by rw [h0, Nat.zero_add] at hroomN; omega)
          rw [hr] at hrun
          cases hrun
          simp [Value.ownBlock] at hg
          omega
      · by_cases hro : rs.length + rs2.length ≤ cap0
        · have hr := run_append_room (P := P) w t ty e i (elO_some he) hi g0 rs.length cap0 cur hgg a rs2.length cap news (by rw [his]; exact hnl) (fun j u hu => (hcells j u hu).1) (fun u hu => by
            obtain ⟨j, hj⟩ := List.getElem?_of_mem hu
            exact (hcells j u hj).2) hro (by rw [his, hnl, hcs, ← Nat.add_mul]; exact Nat.mul_le_mul_right _ hro)
          rw [hr] at hrun
          cases hrun
          exact .inl hg
        · have hr := run_append_grow (P := P) w t ty e i z0 (elO_some he) hi hiz ⟨g0, 0, none⟩ rs.length cap0 xs (by rw [his]; exact hown.1) (hown.cells (g := g0) rfl) a rs2.length cap news (by rw [his]; exact hnl) (fun j u hu => (hcells j u hu).1) (by omega) (by omega) (growslice_fits (by omega) hroomN)
          rw [hr] at hrun
          cases hrun
          simp [Value.ownBlock] at hg
          omega
    refine ⟨v', w', rs ++ rs2, xs ++ news, hrun, h3, fun r hr => ?_, by simpa using ho', hg', hplace, hrd.append hrd2 hown.1 hrl⟩
    rcases List.mem_append.1 hr with h | h
    · exact hrl r h
    · exact hr2 r h
  rcases src_cells hrep hs hy with ⟨rfl, rfl⟩ | ⟨rfl, a, cap, rfl⟩ | ⟨z', rs2, hrows2, hor⟩
  · rcases happ with ⟨_, rfl⟩ | ⟨rs2, h2, _⟩
    · exact same u (run_append_owned_none w 0 t ty e i z (elO_some he) hi u rs.length xs hown) rfl hrows
    · simp [C.rows] at h2
  · rcases happ with ⟨_, rfl⟩ | ⟨rs2, h2, _⟩
    · exact grow a 0 cap [] [] (by simpa using hrows) (by simp) rfl rfl (by simp) (by simp) (fun i j y hy => by simp [at2] at hy)
    · simp [C.rows] at h2
  · rcases happ with ⟨h0 | h0, _⟩ | ⟨rs2', h2, h3⟩
    · subst h0; simp [C.rows] at hrows2
    · subst h0; simp [C.rows] at hrows2
    · rw [hrows2] at h2; cases h2
      rcases hor with ⟨rfl, p, cap, rfl, hp⟩ | ⟨b, off, cap, news, hz', hr2, rfl, hnl, hcells, hrd2⟩
      · cases p with
        | none =>
          obtain rfl := hp rfl
          exact same u (run_append_owned_none w 0 t ty e i z (elO_some he) hi u rs.length xs hown) rfl (by simpa using h3)
        | some a => exact grow a 0 cap [] [] h3 (by simp) rfl rfl (by simp) (by simp) (fun i j y hy => by simp [at2] at hy)
      · exact grow ⟨b, off, none⟩ _ cap news rs2 h3 hr2 rfl rfl hnl (fun j u hu => by rw [addr_add]; exact hcells j u hu) hrd2

theorem ownsRow_block {w : World} {base : Nat} {e : TypeId} {z n : Nat} {u : Value} {xs : List Value} (h : w.ownsRow base e z u n xs) {g : Nat} (hg : u.ownBlock = some g) : base ≤ g ∧ g < w.heap.size := h.lt g hg


theorem verN_lt {H : Hp} {id : Nat} : ∀ B, look H.buf id = some B → B.ver < verN H id := by
  intro B hB
  simp [verN, hB]

theorem appT_sound {H : Hp} {nx : Nat} {o : Oper} {ev : Operand → AV} {t : TypeId} {x y : Operand} (ho : o.op = .call { callee := .builtin .append, args := #[x, y], argTypes := #[t, t] }) {K : AV → Hp → Nat → Prop} (h : appT P H nx t (ev x) (ev y) K) :
    ∃ r H' nx', K r H' nx' ∧ ∀ F : Fr, OpW P F H H' nx nx' o ev r := by
  unfold appT at h
  split at h
  · rename_i e c2 he hs
    split at h
    · rename_i z by_ zs hsz hby hze
      split at h
      · rename_i hevx
        split at h
        · rename_i c0 hc0
          split at h
          · rename_i c hc
            split at h
            · rename_i n hn
              obtain ⟨⟨hzl, hz0, hb0, hcz, hns⟩, hroom, hK⟩ := h
              refine ⟨_, _, _, hK, fun F m w ρ hrep hfree hops => ?_⟩
              have hx := hops x (by simp [ho, Op.operands, Call.operands])
              have hy := hops y (by simp [ho, Op.operands, Call.operands])
              rw [hevx] at hx
              have hρx : ρ x = .slice none 0 0 := rd_nil hx
              have hr0 := emptyO_rows hc0
              rw [hcz] at hr0
              obtain ⟨v', w', rs', xs', hrun, hrows', hrl', hown', hg', hpl, hrd'⟩ := append_core hrep (ty := o.type) he hsz hby hze hzl hz0 hb0 hr0 (by simp) (World.ownsRow_nil w 0 e z) (fun i j y hy => by simp [at2] at hy) hs hy hc hns hn hroom
              unfold Exec
              have hex : (execOp ρ o).run P w = .ok (.value v') w' := by
                simp only [execOp, ho, resolve, invoke, builtin, Sem.run_bind, Sem.run_pure, Result.andThen_ok, List.map_toArray, List.map_cons, List.map_nil, hρx, hrun]
              rw [hex]
              have hm0 := (hfree nx (Nat.le_refl _)).2
              obtain ⟨g1, g2⟩ := hrep.bufStep (id := nx) (row := none) (B' := ⟨verN H nx, e, z, c⟩) (v' := v') (rs := rs') (xs := xs') (H' := H.addBuf nx ⟨verN H nx, e, z, c⟩) hg' (fun g hg => by cases hg)
                (fun g hg => by rcases hpl g hg with h | h; · simp [Value.ownBlock] at h
                                · exact .inr h) (fun B hB => .inl (verN_lt B hB)) (look_add ..) (fun i hi => look_add_ne _ _ _ _ hi) rfl rfl hrows' hz0 hrl' hown' hrd'
              obtain ⟨p, cap, hv', _⟩ := ownsRow_val hown'
              refine ⟨_, g1, g2, fun i hi => ?_, by rw [hv']; rfl, _, look_add .., Nat.le_refl _, fun _ => by simp [Mp.addBf]⟩
              obtain ⟨h1, h2⟩ := hfree i (by omega)
              refine ⟨h1, ?_⟩
              simp only [Mp.addBf]
              split
              · omega
              · exact h2
            · exact h.elim
          · exact h.elim
        · exact h.elim
      · rename_i id ver hevx
        split at h
        · rename_i B hB
          split at h
          · rename_i c hc
            split at h
            · rename_i n hn
              obtain ⟨⟨hzl, hz0, hb0, hBz, hBe, hns⟩, hroom, hK⟩ := h
              refine ⟨_, _, _, hK, fun F m w ρ hrep hfree hops => ?_⟩
              have hx := hops x (by simp [ho, Op.operands, Call.operands])
              have hy := hops y (by simp [ho, Op.operands, Call.operands])
              rw [hevx] at hx
              obtain ⟨hB1, hB2⟩ := curB_spec hB
              obtain ⟨rs, xs, hm, hrows, _, hr, hown, hrd⟩ := own_slice hrep hB1 hB2 hx
              subst hBz; subst hBe
              obtain ⟨v', w', rs', xs', hrun, hrows', hrl', hown', hg', hpl, hrd'⟩ := append_core hrep (ty := o.type) he hsz hby hze hzl hz0 hb0 hrows hr hown hrd hs hy hc hns hn hroom
              unfold Exec
              have hex : (execOp ρ o).run P w = .ok (.value v') w' := by
                simp only [execOp, ho, resolve, invoke, builtin, Sem.run_bind, Sem.run_pure, Result.andThen_ok, List.map_toArray, List.map_cons, List.map_nil, hrun]
              rw [hex]
              obtain ⟨g1, g2⟩ := hrep.bufStep (id := id) (row := (ρ x).ownBlock) (B' := ⟨ver + 1, B.e, B.z, c⟩) (v' := v') (rs := rs') (xs := xs') (H' := H.addBuf id ⟨ver + 1, B.e, B.z, c⟩) hg' (fun g hg => ⟨_, hm, hg⟩)
                hpl (fun B2 hB2' => by rw [hB1] at hB2'; cases hB2'; left; show B.ver < ver + 1; omega) (look_add ..) (fun i hi => look_add_ne _ _ _ _ hi) rfl rfl hrows' hz0 hrl' hown' hrd'
              obtain ⟨p, cap, hv', _⟩ := ownsRow_val hown'
              refine ⟨_, g1, g2, fun i hi => ?_, by rw [hv']; rfl, _, look_add .., Nat.le_refl _, fun _ => by simp [Mp.addBf]⟩
              obtain ⟨h1, h2⟩ := hfree i hi
              refine ⟨h1, ?_⟩
              simp only [Mp.addBf]
              split
              · subst i; rw [hm] at h2; cases h2
              · exact h2
            · exact h.elim
          · exact h.elim
        · exact h.elim
      · exact h.elim
    · exact h.elim
  · exact h.elim


/-- n zeros -/
def zeroC (P : Program) (e : TypeId) (zs : List Value) (n : Nat) : Option C := match P.underlying e, zs with
  | some (.int k), [.int k' 0] => if k = k' then some (.ints k (List.replicate n 0)) else none
  | some .bool, [.bool false] => some (.bools (List.replicate n false))
  | some (.int _), _ => none
  | some .bool, _ => none
  | some _, zs => if zs.all oneCell then some (.sl zs.length (List.replicate n (zs.map ofC))) else none
  | none, _ => none

theorem zeroC_rows {e : TypeId} {zs : List Value} {n : Nat} {c : C} (h : zeroC P e zs n = some c) : zs.all oneCell = true ∧ c.rows = some (zs.length, List.replicate n (zs.map ofC)) := by
  unfold zeroC at h
  split at h
  · split at h
    · rename_i he; subst he; cases h; exact ⟨rfl, by simp [C.rows, ofC]⟩
    · cases h
  · cases h; exact ⟨rfl, by simp [C.rows, ofC]⟩
  · cases h
  · cases h
  · split at h
    · rename_i hall; cases h; exact ⟨hall, rfl⟩
    · cases h
  · cases h

def makeT (P : Program) (H : Hp) (nx : Nat) (t : TypeId) (l c : AV) (K : AV → Hp → Nat → Prop) : Prop :=
  match elO P t, l, c with
  | some e, .c (.i _ a), .c (.i _ b) => match szO P e, byO P e, zeroO P e with
    | some z, some by_, some zs => match zeroC P e zs a.toNat with
      | some con => (zs.length = z ∧ 0 < z ∧ 0 < by_) ∧ (0 ≤ a ∧ a ≤ b ∧ b * by_ ≤ 140737488355328) ∧ K (.own nx (verN H nx)) (H.addBuf nx ⟨verN H nx, e, z, con⟩) (nx + 1)
      | none => False
    | _, _, _ => False
  | _, _, _ => False

theorem madeCells_get (z : Array Value) (n i j : Nat) (hz : 0 < z.size) (hj : j < z.size) (h : i * z.size + j < n) : (madeCells z n)[i * z.size + j]? = z[j]? := by
  have e : (i * z.size + j) % z.size = j := by rw [Nat.mul_comm, Nat.mul_add_mod, Nat.mod_eq_of_lt hj]
  simp only [madeCells, Array.getElem?_map]
  rw [Array.getElem?_eq_getElem (by simp; exact h)]
  simp only [Array.getElem_range, Option.map_some, e]
  rw [Array.getElem?_eq_getElem hj]
  simp [getElem!_pos, hj]

theorem makeT_sound {H : Hp} {nx : Nat} {o : Oper} {ev : Operand → AV} {t : TypeId} {l c : Operand} (ho : o.op = .makeSlice t l c) {K : AV → Hp → Nat → Prop} (h : makeT P H nx t (ev l) (ev c) K) :
    ∃ r H' nx', K r H' nx' ∧ ∀ F : Fr, OpW P F H H' nx nx' o ev r := by
  unfold makeT at h
  split at h
  · rename_i e kl a kc b he hl hc
    split at h
    · rename_i z by_ zs hsz hby hze
      split at h
      · rename_i con hcon
        obtain ⟨⟨hzl, hz0, hb0⟩, ⟨ha0, hab, hroom⟩, hK⟩ := h
        refine ⟨_, _, _, hK, fun F m w ρ hrep hfree hops => ?_⟩
        have hx := hops l (by simp [ho, Op.operands])
        have hy := hops c (by simp [ho, Op.operands])
        rw [hl] at hx
        rw [hc] at hy
        have hρl := rep_i hx
        have hρc := rep_i hy
        obtain ⟨i, z0, hi, hib, his, hiz, rfl⟩ := byO_some hby hsz hze
        have hzc : z0.cells.size = z := by rw [← hzl]; simp
        have hbb : b ≤ b * by_ := by
          have h1 : b * 1 ≤ b * by_ := Int.mul_le_mul_of_nonneg_left (by omega) (by omega)
          omega
        have hrun := run_make (P := P) w t e i z0 (elO_some he) hi hiz kl kc a b ha0 hab (by rw [hib, Int.mul_comm]; omega) (by omega)
        unfold Exec
        have hex : (execOp ρ o).run P w = .ok (.value (.slice (some ⟨w.heap.size, 0, none⟩) a.toNat b.toNat)) (w.alloc (.cells (madeCells z0.cells (b.toNat * i.size)) e)) := by
          simp only [execOp, ho, hρl, hρc, Sem.run_bind, hrun, Result.andThen_ok, Sem.run_pure]
        rw [hex]
        obtain ⟨hall, hrows⟩ := zeroC_rows hcon
        have hzll : z0.cells.toList.length = z := hzl
        rw [hzll] at hrows
        have hrl : ∀ r ∈ List.replicate a.toNat (z0.cells.toList.map ofC), r.length = z := fun r hr => by
          have := List.eq_of_mem_replicate hr; subst this; simp [hzc]
        have hmul : a.toNat * z ≤ b.toNat * z := Nat.mul_le_mul_right _ (by omega)
        have hown : (w.alloc (.cells (madeCells z0.cells (b.toNat * i.size)) e)).ownsRow 0 e z (.slice (some ⟨w.heap.size, 0, none⟩) a.toNat b.toNat) (List.replicate a.toNat (z0.cells.toList.map ofC)).length ((madeCells z0.cells (b.toNat * i.size)).toList.take (a.toNat * z)) := by
          have hsm : (madeCells z0.cells (b.toNat * i.size)).size = b.toNat * z := by rw [size_madeCells, his]
          refine ⟨by rw [List.length_take, Array.length_toList, hsm, List.length_replicate]; omega, .inr ⟨w.heap.size, b.toNat, _, by simp, Nat.zero_le _, heap_alloc_new w _, by simp; omega, ?_, hsm, by simp⟩⟩
          unfold maxLen; omega
        have hrd : RdRow w (F.S m) z (List.replicate a.toNat (z0.cells.toList.map ofC)) ((madeCells z0.cells (b.toNat * i.size)).toList.take (a.toNat * z)) := by
          intro p q y hy
          obtain ⟨h1, h2⟩ := at2_lt hrl hy
          rw [List.length_replicate] at h1
          have hk : p * z + q < a.toNat * z := by
            have : (p + 1) * z ≤ a.toNat * z := Nat.mul_le_mul_right _ h1
            rw [Nat.add_mul] at this; omega
          have hy2 : y = ofC (z0.cells[q]'(by omega)) := by
            unfold at2 at hy
            rw [List.getElem?_replicate, if_pos h1] at hy
            simp [Array.getElem?_eq_getElem (show q < z0.cells.size by omega)] at hy
            exact hy.symm
          refine ⟨z0.cells[q]'(by omega), ?_, ?_⟩
          · rw [List.getElem?_take, if_pos hk]
            have := madeCells_get z0.cells (b.toNat * i.size) p q (by omega) (by omega) (by rw [hzc, his]; omega)
            rw [hzc] at this
            rw [Array.getElem?_toList, this]
            exact Array.getElem?_eq_getElem _
          · subst hy2
            exact rd_ofC w _ _ (List.all_eq_true.1 hall _ (by simp))
        have hm0 := (hfree nx (Nat.le_refl _)).2
        obtain ⟨g1, g2⟩ := hrep.bufStep (id := nx) (row := none) (B' := ⟨verN H nx, e, z, con⟩) (H' := H.addBuf nx ⟨verN H nx, e, z, con⟩) (World.grownBy_alloc w _ none) (fun g hg => by cases hg)
          (fun g hg => by simp [Value.ownBlock] at hg; right; omega) (fun B hB => .inl (verN_lt B hB)) (look_add ..) (fun i hi => look_add_ne _ _ _ _ hi) rfl rfl hrows hz0 hrl hown hrd
        refine ⟨_, g1, g2, fun j hj => ?_, rfl, _, look_add .., Nat.le_refl _, fun _ => by simp [Mp.addBf]⟩
        obtain ⟨h1, h2⟩ := hfree j (by omega)
        refine ⟨h1, ?_⟩
        simp only [Mp.addBf]
        split
        · omega
        · exact h2
      · exact h.elim
    · exact h.elim
  · exact h.elim

/-- an empty literal of a slice: a new row of its own -/
def lit0T (P : Program) (H : Hp) (nx : Nat) (t : TypeId) (K : AV → Hp → Nat → Prop) : Prop := match elO P t with
  | some e => match emptyO P e with
    | some c => szO P e = some c.z ∧ c.rows = some (c.z, []) ∧ 0 < c.z ∧ K (.own nx (verN H nx)) (H.addBuf nx ⟨verN H nx, e, c.z, c⟩) (nx + 1)
    | none => False
  | none => False

theorem lit0T_sound {H : Hp} {nx : Nat} {o : Oper} {ev : Operand → AV} {t : TypeId} {ps : Array (Nat × Operand)} (ho : o.op = .buildSlice t 0 ps) (hps : ps.size = 0) {K : AV → Hp → Nat → Prop} (h : lit0T P H nx t K) :
    ∃ r H' nx', K r H' nx' ∧ ∀ F : Fr, OpW P F H H' nx nx' o ev r := by
  unfold lit0T at h
  split at h
  · rename_i e he
    split at h
    · rename_i c hc
      obtain ⟨hsz, hrows, hz0, hK⟩ := h
      refine ⟨_, _, _, hK, fun F m w ρ hrep hfree hops => ?_⟩
      have hp0 : ps = #[] := Array.eq_empty_of_size_eq_zero hps
      subst hp0
      unfold Exec
      have hex : (execOp ρ o).run P w = .ok (.value (.slice (some ⟨w.heap.size, 0, none⟩) 0 0)) (w.alloc (.cells #[] e)) := by
        simp only [execOp, ho]
        simp only [Instr.buildSlice, Sem.run_bind, run_underlying (elO_some he), Result.andThen_ok, szO_run hsz, Nat.zero_mul]
        simp [Instr.fill, newRow_run]
        congr 2
        apply Array.eq_empty_of_size_eq_zero
        simp
      rw [hex]
      have hown : (w.alloc (.cells #[] e)).ownsRow 0 e c.z (.slice (some ⟨w.heap.size, 0, none⟩) 0 0) ([] : List (List C)).length [] :=
        ⟨by simp, .inr ⟨w.heap.size, 0, _, by simp, Nat.zero_le _, heap_alloc_new w _, by simp, by simp, by simp, by simp⟩⟩
      have hrd : RdRow w (F.S m) c.z [] [] := by
        intro p q y hy
        simp [at2] at hy
      have hm0 := (hfree nx (Nat.le_refl _)).2
      obtain ⟨g1, g2⟩ := hrep.bufStep (id := nx) (row := none) (B' := ⟨verN H nx, e, c.z, c⟩) (H' := H.addBuf nx ⟨verN H nx, e, c.z, c⟩) (World.grownBy_alloc w _ none) (fun g hg => by cases hg)
        (fun g hg => by simp [Value.ownBlock] at hg; right; omega) (fun B hB => .inl (verN_lt B hB)) (look_add ..) (fun i hi => look_add_ne _ _ _ _ hi) rfl rfl hrows hz0 (by simp) hown hrd
      refine ⟨_, g1, g2, fun j hj => ?_, rfl, _, look_add .., Nat.le_refl _, fun _ => by simp [Mp.addBf]⟩
      obtain ⟨h1, h2⟩ := hfree j (by omega)
      refine ⟨h1, ?_⟩
      simp only [Mp.addBf]
      split
      · omega
      · exact h2
    · exact h.elim
  · exact h.elim

/-- a buffer cut at its end -/
def cutT (P : Program) (H : Hp) (nx : Nat) (t : TypeId) (x : AV) (lo hi : Option AV) (K : AV → Hp → Nat → Prop) : Prop :=
  match elO P t, x, lo, hi with
  | some e, .own id ver, none, some (.c (.i _ b)) => match curB H id ver with
    | some B => match B.con.len with
      | some l => szO P e = some B.z ∧ (0 ≤ b ∧ b ≤ (l : Int)) ∧ K (.own id (ver + 1)) (H.addBuf id ⟨ver + 1, B.e, B.z, B.con.sub 0 b.toNat⟩) nx
      | none => False
    | none => False
  | some e, .own id ver, some (.c (.i _ a)), some (.c (.i _ b)) => match curB H id ver with
    | some B => match B.con.len with
      | some l => szO P e = some B.z ∧ (0 ≤ a ∧ a ≤ b ∧ b ≤ (l : Int)) ∧ K (.win id ver a.toNat (b.toNat - a.toNat)) H nx
      | none => False
    | none => False
  | _, _, _, _ => False

theorem cutT_sound {H : Hp} {nx : Nat} {o : Oper} {ev : Operand → AV} {t : TypeId} {x : Operand} {lo hi : Option Operand} (ho : o.op = .slice t x lo hi none) {K : AV → Hp → Nat → Prop} (h : cutT P H nx t (ev x) (lo.map ev) (hi.map ev) K) :
    ∃ r H' nx', K r H' nx' ∧ ∀ F : Fr, OpW P F H H' nx nx' o ev r := by
  unfold cutT at h
  split at h
  · rename_i e id ver k b he hevx hlo hhi
    split at h
    · rename_i B hB
      split at h
      · rename_i l hl
        obtain ⟨hsz, ⟨h0, h1⟩, hK⟩ := h
        refine ⟨_, _, _, hK, fun F m w ρ hrep hfree hops => ?_⟩
        cases lo with
        | some lo => simp at hlo
        | none =>
          cases hi with
          | none => simp at hhi
          | some hi =>
            simp only [Option.map_some, Option.some.injEq] at hhi
            have hx := hops x (by simp [ho, Op.operands])
            have hy := hops hi (by simp [ho, Op.operands])
            rw [hevx] at hx
            rw [hhi] at hy
            have hρ := rep_i hy
            obtain ⟨hB1, hB2⟩ := curB_spec hB
            obtain ⟨rs, xs, hm, hrows, hz0, hr, hown, hrd⟩ := own_slice hrep hB1 hB2 hx
            have hl2 := (rows_z hrows).2
            rw [hl] at hl2; simp at hl2; subst hl2
            obtain ⟨p, cap, hu, hcap, hmax, hp⟩ := ownsRow_val hown
            have hrun := slice_run (P := P) he hsz p rs.length cap 0 b.toNat (Nat.zero_le _) (by omega) hcap w none (some (.int k b)) (.inl ⟨rfl, rfl⟩) (.inr ⟨k, by congr 2; omega⟩)
            have hval : (Value.slice (if cap = 0 then p else p.map (·.add (0 * B.z))) (b.toNat - 0) (cap - 0)) = .slice p b.toNat cap := by
              have : p.map (·.add (0 * B.z)) = p := by cases p <;> simp [Addr.add]
              rw [this]; simp
            rw [hval] at hrun
            unfold Exec
            have hex : (execOp ρ o).run P w = .ok (.value (.slice p b.toNat cap)) w := by
              simp only [execOp, ho, hu, hρ, Option.map_none, Option.map_some, Sem.run_bind, hrun, Result.andThen_ok, Sem.run_pure]
            rw [hex]
            have hsub := rows_sub hrows 0 b.toNat
            rw [List.drop_zero] at hsub
            have hrl : ∀ r ∈ rs.take b.toNat, r.length = B.z := fun r hrm => hr r (List.mem_of_mem_take hrm)
            have htl : (rs.take b.toNat).length = b.toNat := by simp; omega
            have hmul : b.toNat * B.z ≤ rs.length * B.z := Nat.mul_le_mul_right _ (by omega)
            have hown' : w.ownsRow 0 B.e B.z (.slice p b.toNat cap) (rs.take b.toNat).length (xs.take (b.toNat * B.z)) := by
              rw [htl]
              refine ⟨by rw [List.length_take, hown.1]; omega, ?_⟩
              rcases hown.2 with ⟨h2, h3⟩ | ⟨g, cap', cur, h2, hbg, hgg, hnc, hcm, hcs, htake⟩
              · rw [hu] at h2
                simp only [Value.slice.injEq] at h2
                obtain ⟨h4, _, h5⟩ := h2
                subst h4; subst h5
                have hb0 : b.toNat = 0 := by omega
                exact .inl ⟨by rw [hb0], hb0⟩
              · rw [hu] at h2; cases h2
                refine .inr ⟨g, cap, cur, rfl, hbg, hgg, by omega, hcm, hcs, ?_⟩
                rw [← htake, List.take_take]
                congr 1; omega
            have hrd' : RdRow w (F.S m) B.z (rs.take b.toNat) (xs.take (b.toNat * B.z)) := by
              intro i j y hy
              obtain ⟨h2, h3⟩ := at2_lt hrl hy
              have hat : at2 rs i j = some y := by
                unfold at2 at hy ⊢
                rw [List.getElem?_take, if_pos (by omega)] at hy
                exact hy
              obtain ⟨u, hu', hrr⟩ := hrd i j y hat
              refine ⟨u, ?_, hrr⟩
              rw [List.getElem?_take, if_pos]
              · exact hu'
              · have : (i + 1) * B.z ≤ b.toNat * B.z := Nat.mul_le_mul_right _ (by omega)
                rw [Nat.add_mul] at this; omega
            obtain ⟨g1, g2⟩ := hrep.bufStep (id := id) (row := (ρ x).ownBlock) (B' := ⟨ver + 1, B.e, B.z, B.con.sub 0 b.toNat⟩) (v' := .slice p b.toNat cap) (H' := H.addBuf id ⟨ver + 1, B.e, B.z, B.con.sub 0 b.toNat⟩)
              ⟨rfl, rfl, rfl, Nat.le_refl _, fun _ _ _ => rfl⟩ (fun g hg => ⟨_, hm, hg⟩) (fun g hg => .inl (by rw [hu]; cases p <;> exact hg))
              (fun B2 hB2' => by rw [hB1] at hB2'; cases hB2'; left; show B.ver < ver + 1; omega) (look_add ..) (fun i hi => look_add_ne _ _ _ _ hi) rfl rfl hsub hz0 hrl hown' hrd'
            refine ⟨_, g1, g2, fun i hi => ?_, rfl, _, look_add .., Nat.le_refl _, fun _ => by simp [Mp.addBf]⟩
            obtain ⟨h2, h3⟩ := hfree i hi
            refine ⟨h2, ?_⟩
            simp only [Mp.addBf]
            split
            · subst i; rw [hm] at h3; cases h3
            · exact h3
      · exact h.elim
    · exact h.elim
  · rename_i e id ver ka a k b he hevx hlo hhi
    split at h
    · rename_i B hB
      split at h
      · rename_i l hl
        obtain ⟨hsz, ⟨h0, h1, h2⟩, hK⟩ := h
        refine ⟨_, _, _, hK, fun F m w ρ hrep hfree hops => ?_⟩
        cases lo with
        | none => simp at hlo
        | some lo =>
          cases hi with
          | none => simp at hhi
          | some hi =>
            simp only [Option.map_some, Option.some.injEq] at hhi hlo
            have hx := hops x (by simp [ho, Op.operands])
            have hy := hops hi (by simp [ho, Op.operands])
            have hz := hops lo (by simp [ho, Op.operands])
            rw [hevx] at hx
            rw [hhi] at hy
            rw [hlo] at hz
            have hρ := rep_i hy
            have hρ2 := rep_i hz
            obtain ⟨hB1, hB2⟩ := curB_spec hB
            obtain ⟨rs, xs, hm, hrows, hz0, hr, hown, hrd⟩ := own_slice hrep hB1 hB2 hx
            have hl2 := (rows_z hrows).2
            rw [hl] at hl2; simp at hl2; subst hl2
            obtain ⟨p, cap, hu, hcap, hmax, hp⟩ := ownsRow_val hown
            have hrun := slice_run (P := P) he hsz p rs.length cap a.toNat b.toNat (by omega) (by omega) hcap w (some (.int ka a)) (some (.int k b)) (.inr ⟨ka, by congr 2; omega⟩) (.inr ⟨k, by congr 2; omega⟩)
            have hlat : Later F H m w H m w := (hrep.hp (H' := H) (fun _ _ _ => rfl) (fun _ _ h => h) rfl).2
            unfold Exec
            rw [show (execOp ρ o).run P w = .ok (.value (.slice (if cap = a.toNat then p else p.map (·.add (a.toNat * B.z))) (b.toNat - a.toNat) (cap - a.toNat))) w by
              simp only [execOp, ho, hu, hρ, hρ2, Option.map_none, Option.map_some, Sem.run_bind, hrun, Result.andThen_ok, Sem.run_pure]]
            refine ⟨m, hrep, hlat, hfree, rfl, B, hB1, by omega, fun _ => ⟨p, rs.length, cap, by rw [hm, hu], by omega, rfl⟩⟩
      · exact h.elim
    · exact h.elim
  · exact h.elim

/-- a window that was handed over, cut at its end -/
def bcutT (P : Program) (H : Hp) (t : TypeId) (k lo len : Nat) (a b : Option AV) (K : AV → Prop) : Prop := match elO P t, look H.bor k, a, b with
  | some e, some B, none, some (.c (.i _ y)) => szO P e = some B.con.z ∧ (0 ≤ y ∧ y ≤ (len : Int)) ∧ K (.bw k lo y.toNat)
  | _, _, _, _ => False

theorem bcutT_sound {H : Hp} {t : TypeId} {k lo len : Nat} {a b : Option AV} {K : AV → Prop} (h : bcutT P H t k lo len a b K) :
    ∃ r, K r ∧ ∀ (F : Fr) (H' : Hp) (m : Mp) (w : World) (u : Value) (va vb : Option Value), Sup H' H → HRep F H' m w → RepA F H' m w (.bw k lo len) u → (a = none → va = none) → (∀ y, b = some y → ∃ v, vb = some v ∧ RepA F H' m w y v) →
      Yl P F H' m w (Instr.sliceAt t u va vb none) r := by
  unfold bcutT at h
  split at h
  · rename_i e B kk y he hB
    obtain ⟨hz, ⟨h0, h1⟩, hK⟩ := h
    refine ⟨_, hK, fun F H' m w u va vb hsup hrep hu hva hvb => ?_⟩
    rw [← hsup.1.2] at hB
    obtain ⟨h2, B2, p, n, cap, hB2, hF, hle, rfl⟩ := hu
    rw [hB] at hB2; cases hB2
    obtain ⟨B3, rs, xs, hB4, hrows, hz0, hr, hown, hrd⟩ := hrep.bor k _ hF
    rw [hB] at hB4; cases hB4
    obtain ⟨p2, cap2, hsv, hcap, _, hp⟩ := ownsRow_val hown
    cases hsv
    have hva := hva rfl
    obtain ⟨v, rfl, hv⟩ := hvb _ rfl
    obtain rfl := rep_i hv
    subst hva
    have hrun := slice_run (P := P) he hz (if cap = lo then p else p.map (·.add (lo * B.con.z))) len (cap - lo) 0 y.toNat (Nat.zero_le _) (by omega) (by omega) w none (some (.int kk y)) (.inl ⟨rfl, rfl⟩) (.inr ⟨kk, by congr 2; omega⟩)
    refine ⟨_, hrun, rfl, B, p, _, cap, hB, hF, by omega, ?_⟩
    generalize (if cap = lo then p else p.map (·.add (lo * B.con.z))) = q
    have : q.map (·.add (0 * B.con.z)) = q := by cases q <;> simp [Addr.add]
    rw [this]; simp
  · exact h.elim

end Go.Abs

/-
  Calls; all operations; states.
-/
namespace Go.Abs
set_option linter.unusedSimpArgs false
set_option linter.unusedVariables false
open Go.RowKit

variable {P : Program}

/-- a result reads as told -/
def RdR (w : World) (S : Nat → Prop) : AV → Value → Prop
  | .c x, v => Rd w S x v
  | .g xs, v => ∃ vs, v = .agg vs ∧ RdL w S xs vs.toList
  | .t l, v => ∃ vs, v = .tuple vs ∧ vs.size = l.length ∧ ∀ (j : Nat) y u, l[j]? = some y → vs[j]? = some u → RdS w S y u
  | _, _ => False

def Enters (P : Program) (f : FuncId) : Prop := ∃ fn, P.funcs[f]? = some fn ∧ (fn.name == "runtime.NumGoroutine") = false ∧ fn.body.isNone = false

/-- f, called with arguments that read so, returns what reads so, and writes new memory alone -/
def Ret (P : Program) (f : FuncId) (fresh : Bool) (as : List (C ⊕ List C)) (r : AV) : Prop :=
  ∀ (w : World) (S : Nat → Prop) (vs : Array Value), vs.size = as.length → (∀ (j : Nat) y u, as[j]? = some y → vs[j]? = some u → RdS w S y u) →
    Calls P f vs w fun e w' => ∃ v, e = .returned v ∧ Ext w w' ∧ RdR w' (fun b => (fresh = false ∧ S b ∧ b < w.heap.size) ∨ w.heap.size ≤ b) r v

/-- f, called with arguments that read so, returns a slice of a new row of its own -/
def RetO (P : Program) (f : FuncId) (as : List (C ⊕ List C)) (e : TypeId) (z : Nat) (con : C) : Prop :=
  ∀ (w : World) (S : Nat → Prop) (vs : Array Value), vs.size = as.length → (∀ (j : Nat) y u, as[j]? = some y → vs[j]? = some u → RdS w S y u) →
    Calls P f vs w fun ed w' => ∃ v, ed = .returned v ∧ Ext w w' ∧ ∃ rs xs, con.rows = some (z, rs) ∧ 0 < z ∧ (∀ r ∈ rs, r.length = z) ∧ w'.ownsRow w.heap.size e z v rs.length xs ∧ RdRow w' (fun _ => False) z rs xs

/-- results that hold no memory -/
def plainC : C → Bool
  | .a _ | .i _ _ | .b _ | .str _ | .nil | .e0 => true
  | _ => false
def plainS : C ⊕ List C → Bool
  | .inl x => plainC x
  | .inr xs => xs.all plainC
def plainAV : AV → Bool
  | .c x => plainC x
  | .g xs => xs.all plainC
  | .t l => l.all plainS
  | _ => false

theorem Rd.plain {w : World} {S S' : Nat → Prop} {c : C} {v : Value} (hp : plainC c = true) (h : Rd w S c v) : Rd w S' c v := by
  cases h with
  | a _ h => exact .a _ h
  | i _ _ => exact .i _ _
  | b _ => exact .b _
  | str _ => exact .str _
  | nil => exact .nil
  | e0 _ _ => exact .e0 _ _
  | emp c z p cap h => cases c <;> simp_all [plainC, C.rows]
  | sl c z rs b off cap us h => cases c <;> simp_all [plainC, C.rows]

theorem RdL.plain {w : World} {S S' : Nat → Prop} {xs : List C} {vs : List Value} (hp : xs.all plainC = true) (h : RdL w S xs vs) : RdL w S' xs vs :=
  ⟨h.1, fun j y u hy hu => (h.2 j y u hy hu).plain (List.all_eq_true.1 hp y (List.mem_of_getElem? hy))⟩

theorem RdR.plain {w : World} {S S' : Nat → Prop} {r : AV} {v : Value} (hp : plainAV r = true) (h : RdR w S r v) : RdR w S' r v := by
  cases r <;> simp only [plainAV] at hp <;> try cases hp
  · exact Rd.plain hp h
  · obtain ⟨vs, rfl, hl⟩ := h; exact ⟨vs, rfl, hl.plain hp⟩
  · obtain ⟨vs, rfl, hs, hl⟩ := h
    refine ⟨vs, rfl, hs, fun j y u hy hu => ?_⟩
    have h1 := hl j y u hy hu
    have h2 := List.all_eq_true.1 hp y (List.mem_of_getElem? hy)
    cases y with
    | inl y => exact Rd.plain h2 h1
    | inr ys => obtain ⟨vs, rfl, hl⟩ := h1; exact ⟨vs, rfl, hl.plain h2⟩

/-- contents that hold no memory -/
def flatC : C → Bool
  | .ints _ _ | .bools _ => true
  | _ => false

theorem flat_plain {con : C} {z : Nat} {rs : List (List C)} (hf : flatC con = true) (hr : con.rows = some (z, rs)) {i j : Nat} {y : C} (hy : at2 rs i j = some y) : plainC y = true := by
  cases con <;> simp [flatC] at hf
  · simp [C.rows] at hr
    obtain ⟨_, rfl⟩ := hr
    simp only [at2, List.getElem?_map] at hy
    obtain ⟨r, hr, hy⟩ := Option.bind_eq_some_iff.1 hy
    obtain ⟨n, hn, rfl⟩ := Option.map_eq_some_iff.1 hr
    match j with
    | 0 => simp at hy; subst hy; rfl
    | j + 1 => simp at hy
  · simp [C.rows] at hr
    obtain ⟨_, rfl⟩ := hr
    simp only [at2, List.getElem?_map] at hy
    obtain ⟨r, hr, hy⟩ := Option.bind_eq_some_iff.1 hy
    obtain ⟨n, hn, rfl⟩ := Option.map_eq_some_iff.1 hr
    match j with
    | 0 => simp at hy; subst hy; rfl
    | j + 1 => simp at hy

def resAV : List (C ⊕ List C) → AV
  | [x] => ofSum x
  | l => .t l

/-- a window of a row -/
def WinOf (sv : Value) (z lo len : Nat) (v : Value) : Prop := oneCell v = true ∧ ∃ p n cap, sv = .slice p n cap ∧ lo + len ≤ n ∧
  v = .slice (if cap = lo then p else p.map (·.add (lo * z))) len (cap - lo)

/-- f, handed a window of a row besides arguments that read so, turns the row's content, writes new memory besides, and returns what reads so -/
def RetW (P : Program) (f : FuncId) (e : TypeId) (con : C) (lo len : Nat) (as : List (C ⊕ List C)) (con' : C) (l : List (C ⊕ List C)) : Prop :=
  ∀ (w : World) (S : Nat → Prop) (sv v0 : Value) (vs : Array Value) (rs : List (List C)) (xs : List Value), vs.size = as.length + 1 → vs[0]? = some v0 → (∀ (j : Nat) y u, as[j]? = some y → vs[j + 1]? = some u → RdS w S y u) →
    con.rows = some (con.z, rs) → 0 < con.z → (∀ r ∈ rs, r.length = con.z) → w.ownsRow 0 e con.z sv rs.length xs → RdRow w (fun _ => False) con.z rs xs → (∀ b, sv.ownBlock = some b → ¬ S b) → WinOf sv con.z lo len v0 →
    Calls P f vs w fun ed w' => ∃ v, ed = .returned v ∧ w.grownBy w' sv.ownBlock ∧ RdR w' (fun _ => False) (resAV l) v ∧ ∃ rs' xs', con'.z = con.z ∧ con'.rows = some (con.z, rs') ∧ (∀ r ∈ rs', r.length = con.z) ∧
      w'.ownsRow 0 e con.z sv rs'.length xs' ∧ RdRow w' (fun _ => False) con.z rs' xs'

/-- f, handed a whole row, returns it cut at its end -/
def RetC (P : Program) (f : FuncId) (e : TypeId) (con con' : C) : Prop :=
  ∀ (w : World) (sv : Value) (rs : List (List C)) (xs : List Value), con.rows = some (con.z, rs) → 0 < con.z → (∀ r ∈ rs, r.length = con.z) → w.ownsRow 0 e con.z sv rs.length xs → RdRow w (fun _ => False) con.z rs xs →
    Calls P f #[sv] w fun ed w' => ∃ p n cap k, sv = .slice p n cap ∧ k ≤ rs.length ∧ con'.rows = some (con.z, rs.take k) ∧ ed = .returned (.slice p k cap) ∧ w.grownBy w' sv.ownBlock ∧
      ∃ xs', w'.ownsRow 0 e con.z sv rs.length xs' ∧ RdRow w' (fun _ => False) con.z rs xs'

def TblOk (P : Program) (cf : Cfg) : Prop := (∀ t ∈ cf.flt, FltOk P t) ∧ ∀ f ct, cf.tbl f = some ct → Enters P f ∧
  (ct.own = none → ct.win = none → ∀ as K, ct.tr as K → ∃ r, Ret P f ct.fresh as r ∧ K r) ∧ (∀ e z, ct.own = some (e, z) → ct.win = none → ∀ as K, ct.tr as K → ∃ con, RetO P f as e z con ∧ K (.c con)) ∧
  (∀ e, ct.win = some e → ∀ as K, ct.tr as K → ∃ con lo len as' con' l, as = .inl con :: .inl (.i .i64 (lo : Nat)) :: .inl (.i .i64 (len : Nat)) :: as' ∧ RetW P f e con lo len as' con' l ∧ K (.t (.inl con' :: l))) ∧
  (∀ e, ct.cut = some e → ∀ con K, ct.ctr con K → ∃ con', RetC P f e con con' ∧ K con')

def argO (H : Hp) : AV → Option (C ⊕ List C)
  | .c x => some (.inl x)
  | .g xs => some (.inr xs)
  | .own id ver => match curB H id ver with | some B => some (.inl B.con) | none => none
  | _ => none
def argsO (H : Hp) : List AV → Option (List (C ⊕ List C))
  | [] => some []
  | x :: l => match argO H x, argsO H l with | some y, some ys => some (y :: ys) | _, _ => none
def isOwn : AV → Bool
  | .own _ _ => true
  | _ => false

def callT (cf : Cfg) (H : Hp) (f : FuncId) (args : List AV) (K : AV → Prop) : Prop := match cf.tbl f, argsO H args with
  | some ct, some as => (ct.fresh || !args.any isOwn) = true ∧ ct.own = none ∧ ct.win = none ∧ ct.tr as K
  | _, _ => False

def winA (H : Hp) : AV → Option (Nat × Nat × Nat × Nat)
  | .win id ver lo len => some (id, ver, lo, len)
  | .own id ver => match curB H id ver with
    | some B => match B.con.len with | some l => some (id, ver, 0, l) | none => none
    | none => none
  | _ => none

/-- a call that turns a window of a buffer -/
def callWT (ct : CT) (e : TypeId) (H : Hp) (nx : Nat) (args : List AV) (K : AV → Hp → Nat → Prop) : Prop := match args with
  | x :: rest => match winA H x with
    | some (id, ver, lo, len) => match curB H id ver, argsO H rest with
      | some B, some as => B.e = e ∧ B.con.z = B.z ∧ rest.any isOwn = false ∧ flatC B.con = true ∧
        ct.tr (.inl B.con :: .inl (.i .i64 (lo : Nat)) :: .inl (.i .i64 (len : Nat)) :: as) (fun r => match r with | .t (.inl con' :: l) => K (resAV l) (H.addBuf id ⟨B.ver, B.e, B.z, con'⟩) nx | _ => False)
      | _, _ => False
    | none => False
  | [] => False

def isOne : List AV → Bool
  | [.own _ _] => true
  | _ => false
/-- a call that cuts a buffer -/
def callCT (cf : Cfg) (H : Hp) (nx : Nat) (f : FuncId) (args : List AV) (K : AV → Hp → Nat → Prop) : Prop := match cf.tbl f, args with
  | some ct, [.own id ver] => match ct.cut, curB H id ver with
    | some e, some B => B.e = e ∧ B.con.z = B.z ∧ flatC B.con = true ∧ ct.ctr B.con (fun con' => K (.own id (ver + 1)) (H.addBuf id ⟨ver + 1, B.e, B.z, con'⟩) nx)
    | _, _ => False
  | _, _ => False

/-- a call whose result is a buffer, or that turns a buffer -/
def callOT (cf : Cfg) (H : Hp) (nx : Nat) (f : FuncId) (args : List AV) (K : AV → Hp → Nat → Prop) : Prop := match cf.tbl f with
  | some ct => match ct.win with
    | some e => callWT ct e H nx args K
    | none => match argsO H args with
      | some as => match ct.own with
        | some (e, z) => ct.tr as (fun r => match r with | .c con => K (.own nx (verN H nx)) (H.addBuf nx ⟨verN H nx, e, z, con⟩) (nx + 1) | _ => False)
        | none => False
      | none => False
  | none => False

/-- what a callee may look at -/
def callS (F : Fr) (m : Mp) (own : Bool) (b : Nat) : Prop := F.S m b ∨ (own = true ∧ ∃ i v, m.bf i = some v ∧ v.ownBlock = some b)

theorem own_rd {F : Fr} {H : Hp} {m : Mp} {w : World} (hrep : HRep F H m w) {id ver : Nat} {B : Buf} {u : Value} (hB : look H.buf id = some B) (hv : B.ver = ver) (hu : RepA F H m w (.own id ver) u) : Rd w (callS F m true) B.con u := by
  obtain ⟨rs, xs, hm, hrows, hz0, hr, hown, hrd⟩ := own_slice hrep hB hv hu
  have hst : Stays (F.S m) (callS F m true) w w := fun b h _ => ⟨.inl h, rfl⟩
  rcases hown.2 with ⟨rfl, h0⟩ | ⟨g, cap, cur, rfl, hbg, hgg, hnc, hcm, hcs, htake⟩
  · have : rs = [] := List.eq_nil_of_length_eq_zero h0
    subst this
    exact .emp _ _ none 0 hrows (fun _ => rfl)
  · by_cases he : rs = []
    · subst he; exact .emp _ _ _ cap hrows (fun h => by cases h)
    · refine .sl B.con B.z rs g 0 cap (fun i j => (xs[i * B.z + j]?).getD undef) hrows he hz0 (Nat.le_trans hnc hcm) hnc hr (.inr ⟨rfl, id, _, hm, rfl⟩) ?_ ?_
      · intro i j y hy
        obtain ⟨u2, hu2, _⟩ := hrd i j y hy
        have := hown.cells (g := g) rfl (i * B.z + j) u2 hu2
        rw [addr_add] at this
        simp only [hu2, Option.getD_some]
        exact this
      · intro i j y hy
        obtain ⟨u2, hu2, hr2⟩ := hrd i j y hy
        simp only [hu2, Option.getD_some]
        exact hr2.mono hst

theorem argsO_spec {H : Hp} : ∀ {l : List AV} {as : List (C ⊕ List C)}, argsO H l = some as → as.length = l.length ∧ ∀ (j : Nat) x y, l[j]? = some x → as[j]? = some y → argO H x = some y
  | [], as, h => by simp [argsO] at h; subst h; simp
  | x :: l, as, h => by
    simp only [argsO] at h
    split at h
    · rename_i y ys hy hys
      cases h
      obtain ⟨h1, h2⟩ := argsO_spec hys
      refine ⟨by simp [h1], fun j a b ha hb => ?_⟩
      match j with
      | 0 => simp at ha hb; subst ha; subst hb; exact hy
      | j + 1 => exact h2 j a b (by simpa using ha) (by simpa using hb)
    · cases h

theorem argO_rep {F : Fr} {H H' : Hp} {m : Mp} {w : World} (hbuf : H'.buf = H.buf) (hrep : HRep F H' m w) {x : AV} {y : C ⊕ List C} {u : Value} {own : Bool} (h : argO H x = some y) (hown : isOwn x = true → own = true) (hu : RepA F H' m w x u) : RdS w (callS F m own) y u := by
  have hst : Stays (F.S m) (callS F m own) w w := fun b h _ => ⟨.inl h, rfl⟩
  cases x <;> simp only [argO] at h <;> try cases h
  · exact Rd.mono hst hu
  · obtain ⟨vs, rfl, hl⟩ := hu; exact ⟨vs, rfl, hl.mono hst⟩
  · rename_i id ver
    split at h
    · rename_i B hB
      cases h
      obtain ⟨h1, h2⟩ := curB_spec hB
      rw [← hbuf] at h1
      obtain rfl := hown rfl
      exact own_rd hrep h1 h2 hu
    · cases h

theorem RdR.rep {F : Fr} {H : Hp} {m : Mp} {w' : World} {S : Nat → Prop} {r : AV} {v : Value} (hst : Stays S (F.S m) w' w') (h : RdR w' S r v) : RepA F H m w' r v := by
  cases r <;> simp only [RdR] at h
  · exact Rd.mono hst h
  · obtain ⟨vs, rfl, hl⟩ := h; exact ⟨vs, rfl, hl.mono hst⟩
  · obtain ⟨vs, rfl, hs, hl⟩ := h; exact ⟨vs, rfl, hs, fun j y u hy hu => (hl j y u hy hu).mono hst⟩

theorem callT_sound {cf : Cfg} (hcf : TblOk P cf) {H : Hp} {nx : Nat} {o : Oper} {ev : Operand → AV} {f : FuncId} {args : Array Operand} {ts : Array TypeId} (hf : ev (.func f) = .c (.a (.func (.func f) #[] #[])))
    (ho : o.op = .call { callee := .value (.func f), args, argTypes := ts }) {K : AV → Prop} (h : callT cf H f (args.toList.map ev) K) : ∃ r, K r ∧ ∀ F : Fr, OpQ P F H nx nx o ev r := by
  unfold callT at h
  split at h
  · rename_i ct as hct has
    obtain ⟨hfo, hno, hnw, htr⟩ := h
    obtain ⟨⟨fn, hfn, hname, hbody⟩, hret, _⟩ := hcf.2 f ct hct
    obtain ⟨r, hr, hK⟩ := hret hno hnw as K htr
    refine ⟨r, hK, fun F => OpQ.of_ext fun H' m w ρ hsup hrep hops => ?_⟩
    have hρf : ρ (.func f) = .func (.func f) #[] #[] := rd_a (by have := hops (.func f) (by simp [ho, Op.operands, Call.operands]); rw [hf] at this; exact this)
    obtain ⟨hal, hai⟩ := argsO_spec has
    have hn : ¬ fn.name = "runtime.NumGoroutine" := by simpa using hname
    have hb : ¬ fn.body = none := by intro h; rw [h] at hbody; simp at hbody
    have hex : (execOp ρ o).run P w = .ok (.enter f (args.map ρ)) w := by
      simp [execOp, ho, resolve, Deferred.ofValue, hρf, invoke, callFunc, program, Sem.run, hfn, hn, hb]
    unfold Exec
    rw [hex]
    have hownS : ∀ x ∈ args.toList.map ev, isOwn x = true → ct.fresh = true := by
      intro x hx ho'
      cases hfr : ct.fresh with
      | true => rfl
      | false =>
        simp only [hfr, Bool.false_or, Bool.not_eq_true', List.any_eq_false] at hfo
        exact absurd ho' (hfo x hx)
    refine (hr w (callS F m ct.fresh) (args.map ρ) (by simp [hal]) (fun j y u hy hu => ?_)).mono fun e w' ⟨v, he, hext, hrd⟩ => ⟨v, he, hext, ?_⟩
    · have hj := (List.getElem?_eq_some_iff.1 hy).1
      rw [hal] at hj
      simp at hj
      have hx : (args.toList.map ev)[j]? = some (ev args[j]) := by simp [Array.getElem?_eq_getElem hj]
      have hu2 : u = ρ args[j] := by simp [Array.getElem?_eq_getElem hj] at hu; exact hu.symm
      subst hu2
      exact argO_rep hsup.2 hrep (hai j _ y hx hy) (fun ho' => hownS _ (List.mem_of_getElem? hx) ho') (hops _ (by simp [ho, Op.operands, Call.operands]))
    · refine RdR.rep (S := _) ?_ hrd
      intro b hb hlt
      refine ⟨?_, rfl⟩
      rcases hb with ⟨h1, h2 | ⟨h3, _⟩, _⟩ | hb
      · exact h2
      · rw [h1] at h3; cases h3
      · exact .inr ⟨Nat.le_trans hrep.size hb, fun ho' => by have := own_lt hrep ho'; omega⟩
  · exact h.elim

theorem Rd.none {w w' : World} {S : Nat → Prop} {c : C} {v : Value} (h : Rd w' (fun _ => False) c v) : Rd w S c v := by
  cases h with
  | a _ h => exact .a _ h
  | i _ _ => exact .i _ _
  | b _ => exact .b _
  | str _ => exact .str _
  | nil => exact .nil
  | e0 _ _ => exact .e0 _ _
  | emp c z p cap h hp => exact .emp c z p cap h hp
  | sl c z rs b off cap us h hne hz hm hcap hr hS => exact hS.elim

theorem winA_rep {F : Fr} {H : Hp} {m : Mp} {w : World} (hrep : HRep F H m w) {x : AV} {u : Value} {id ver lo len : Nat} (h : winA H x = some (id, ver, lo, len)) (hu : RepA F H m w x u) {B : Buf} (hB : curB H id ver = some B) :
    ∃ sv, m.bf id = some sv ∧ WinOf sv B.z lo len u := by
  obtain ⟨hB1, hB2⟩ := curB_spec hB
  unfold winA at h
  split at h
  · rename_i id' ver' lo' len'
    cases h
    obtain ⟨h1, B2, hB3, hv2, hcur⟩ := hu
    rw [hB1] at hB3; cases hB3
    obtain ⟨p, n, cap, hm, hn, hor⟩ := hcur hB2
    exact ⟨_, hm, h1, p, n, cap, rfl, hn, hor⟩
  · rename_i id' ver'
    split at h
    · rename_i B' hB'
      split at h
      · rename_i l hl
        cases h
        rw [hB] at hB'; cases hB'
        obtain ⟨rs, xs, hm, hrows, hz0, hr, hown, hrd⟩ := own_slice hrep hB1 hB2 hu
        have hl2 := (rows_z hrows).2
        rw [hl] at hl2; simp at hl2; subst hl2
        obtain ⟨p, cap, rfl, hcap, hmax, hp⟩ := ownsRow_val hown
        refine ⟨_, hm, rfl, p, _, cap, rfl, by omega, ?_⟩
        have : p.map (·.add (0 * B.z)) = p := by cases p <;> simp [Addr.add]
        rw [this]; simp
      · cases h
    · cases h
  · cases h

theorem callOT_sound {cf : Cfg} (hcf : TblOk P cf) {H : Hp} {nx : Nat} {o : Oper} {ev : Operand → AV} {f : FuncId} {args : Array Operand} {ts : Array TypeId} (hf : ev (.func f) = .c (.a (.func (.func f) #[] #[])))
    (ho : o.op = .call { callee := .value (.func f), args, argTypes := ts }) {K : AV → Hp → Nat → Prop} (h : callOT cf H nx f (args.toList.map ev) K) : ∃ r H' nx', K r H' nx' ∧ nx ≤ nx' ∧ ∀ F : Fr, OpW P F H H' nx nx' o ev r := by
  unfold callOT at h
  split at h
  · rename_i ct hct
    split at h
    · rename_i e hwin
      unfold callWT at h
      split at h
      · rename_i x rest hargs
        split at h
        · rename_i id ver lo len hwa
          split at h
          · rename_i B as hB has
            obtain ⟨hBe, hBz, hnown, hflat, htr⟩ := h
            obtain ⟨⟨fn, hfn, hname, hbody⟩, _, _, hret, _⟩ := hcf.2 f ct hct
            obtain ⟨con, lo', len', as', con', l, hase, hr, hK⟩ := hret e hwin _ _ htr
            simp only [List.cons.injEq, Sum.inl.injEq, C.i.injEq, true_and] at hase
            obtain ⟨rfl, hlo, hlen, rfl⟩ := hase
            have hlo2 : lo' = lo := by omega
            have hlen2 : len' = len := by omega
            subst hlo2; subst hlen2
            refine ⟨_, _, _, hK, Nat.le_refl _, fun F m w ρ hrep hfree hops => ?_⟩
            have hρf : ρ (.func f) = .func (.func f) #[] #[] := rd_a (by have := hops (.func f) (by simp [ho, Op.operands, Call.operands]); rw [hf] at this; exact this)
            obtain ⟨hal, hai⟩ := argsO_spec has
            have hn : ¬ fn.name = "runtime.NumGoroutine" := by simpa using hname
            have hb : ¬ fn.body = none := by intro h; rw [h] at hbody; simp at hbody
            have hex : (execOp ρ o).run P w = .ok (.enter f (args.map ρ)) w := by
              simp [execOp, ho, resolve, Deferred.ofValue, hρf, invoke, callFunc, program, Sem.run, hfn, hn, hb]
            have hlen3 : args.size = rest.length + 1 := by have := congrArg List.length hargs; simpa using this
            have h0 : (args.toList.map ev)[0]? = some x := by rw [hargs]; rfl
            have hx0 : ev args[0] = x := by simpa [Array.getElem?_eq_getElem (show 0 < args.size by omega)] using h0
            have hxr := hops args[0] (by simp [ho, Op.operands, Call.operands])
            rw [hx0] at hxr
            obtain ⟨sv, hsv, hwo⟩ := winA_rep hrep hwa hxr hB
            obtain ⟨hB1, hB2⟩ := curB_spec hB
            obtain ⟨B2, rs, xs, hB3, hrows, hz0, hrl, hown, hrd⟩ := hrep.buf id sv hsv
            rw [hB1] at hB3; cases hB3
            unfold Exec
            rw [hex]
            refine (hr w (callS F m false) sv (ρ args[0]) (args.map ρ) rs xs (by simp [hal, hlen3]) (by simp [Array.getElem?_eq_getElem (show 0 < args.size by omega)]) (fun j y u hy hu => ?_) (by rw [hBz]; exact hrows) (by rw [hBz]; exact hz0) (by rw [hBz]; exact hrl)
              (by rw [hBz, ← hBe]; exact hown) (fun i j y hy => let ⟨u, hu, hrr⟩ := hrd i j y hy; ⟨u, by rw [hBz]; exact hu, hrr.plain (flat_plain hflat hrows hy)⟩) (fun b hb' hS => ?_) (by rw [hBz]; exact hwo)).mono fun ed w' ⟨v, he, hg, hres, rs', xs', hz', hrows', hrl', hown', hrd'⟩ => ⟨v, he, ?_⟩
            · have hj := (List.getElem?_eq_some_iff.1 hy).1
              rw [hal] at hj
              have hj2 : j + 1 < args.size := by omega
              have hxx : (args.toList.map ev)[j + 1]? = some (ev args[j + 1]) := by simp [Array.getElem?_eq_getElem hj2]
              have hxr2 : rest[j]? = some (ev args[j + 1]) := by rw [hargs] at hxx; simpa using hxx
              have hu2 : u = ρ args[j + 1] := by simp [Array.getElem?_eq_getElem hj2] at hu; exact hu.symm
              subst hu2
              exact argO_rep rfl hrep (hai j _ y hxr2 hy) (fun ho' => by
                have := List.any_eq_false.1 hnown _ (List.mem_of_getElem? hxr2)
                exact absurd ho' this) (hops _ (by simp [ho, Op.operands, Call.operands]))
            · rcases hS with hS | ⟨hS, _⟩
              · exact own_not_S hrep (.inr ⟨id, sv, hsv, hb'⟩) hS
              · cases hS
            · obtain ⟨g1, g2⟩ := hrep.bufStep (id := id) (row := sv.ownBlock) (B' := ⟨B.ver, B.e, B.z, con'⟩) (v' := sv) (rs := rs') (xs := xs') (H' := H.addBuf id ⟨B.ver, B.e, B.z, con'⟩) hg (fun g hg => ⟨sv, hsv, hg⟩)
                (fun g hg => .inl hg) (fun B2 hB2' => by rw [hB1] at hB2'; cases hB2'; exact .inr ⟨rfl, hsv, rfl⟩) (look_add ..) (fun i hi => look_add_ne _ _ _ _ hi) rfl rfl (by show con'.rows = some (B.z, rs'); rw [hrows', hBz]) hz0 (by rw [hBz] at hrl'; exact hrl')
                (by rw [hBz, ← hBe] at hown'; exact hown') (by rw [hBz] at hrd'; exact fun i j y hy => let ⟨u, hu, hr⟩ := hrd' i j y hy; ⟨u, hu, hr.none⟩)
              refine ⟨_, g1, g2, fun i hi => ?_, RdR.rep (fun b hb _ => hb.elim) hres⟩
              obtain ⟨h1, h2⟩ := hfree i hi
              refine ⟨h1, ?_⟩
              simp only [Mp.addBf]
              split
              · subst i; rw [hsv] at h2; cases h2
              · exact h2
          · exact h.elim
        · exact h.elim
      · exact h.elim
    · rename_i hwin
      split at h
      · rename_i as has
        split at h
        · rename_i e z hown
          obtain ⟨⟨fn, hfn, hname, hbody⟩, _, hret, _⟩ := hcf.2 f ct hct
          obtain ⟨con, hr, hK⟩ := hret e z hown hwin as _ h
          refine ⟨_, _, _, hK, Nat.le_succ _, fun F m w ρ hrep hfree hops => ?_⟩
          have hρf : ρ (.func f) = .func (.func f) #[] #[] := rd_a (by have := hops (.func f) (by simp [ho, Op.operands, Call.operands]); rw [hf] at this; exact this)
          obtain ⟨hal, hai⟩ := argsO_spec has
          have hn : ¬ fn.name = "runtime.NumGoroutine" := by simpa using hname
          have hb : ¬ fn.body = none := by intro h; rw [h] at hbody; simp at hbody
          have hex : (execOp ρ o).run P w = .ok (.enter f (args.map ρ)) w := by
            simp [execOp, ho, resolve, Deferred.ofValue, hρf, invoke, callFunc, program, Sem.run, hfn, hn, hb]
          unfold Exec
          rw [hex]
          refine (hr w (callS F m true) (args.map ρ) (by simp [hal]) (fun j y u hy hu => ?_)).mono fun ed w' ⟨v, he, hext, rs, xs, hrows, hz, hrl, howns, hrd⟩ => ⟨v, he, ?_⟩
          · have hj := (List.getElem?_eq_some_iff.1 hy).1
            rw [hal] at hj
            simp at hj
            have hx : (args.toList.map ev)[j]? = some (ev args[j]) := by simp [Array.getElem?_eq_getElem hj]
            have hu2 : u = ρ args[j] := by simp [Array.getElem?_eq_getElem hj] at hu; exact hu.symm
            subst hu2
            exact argO_rep rfl hrep (hai j _ y hx hy) (fun _ => rfl) (hops _ (by simp [ho, Op.operands, Call.operands]))
          · have howns2 : w'.ownsRow 0 e z v rs.length xs := by
              refine ⟨howns.1, ?_⟩
              rcases howns.2 with h | ⟨g, cap, cur, h1, h2, h3⟩
              · exact .inl h
              · exact .inr ⟨g, cap, cur, h1, Nat.le_trans (Nat.zero_le _) h2, h3⟩
            obtain ⟨g1, g2⟩ := hrep.bufStep (id := nx) (row := none) (B' := ⟨verN H nx, e, z, con⟩) (v' := v) (rs := rs) (xs := xs) (H' := H.addBuf nx ⟨verN H nx, e, z, con⟩) ⟨hext.os, hext.tape, hext.output, hext.size, fun k hk _ => hext.block k hk⟩ (fun g hg => by cases hg)
              (fun g hg => .inr (howns.lt g hg).1) (fun B hB => .inl (verN_lt B hB)) (look_add ..) (fun i hi => look_add_ne _ _ _ _ hi) rfl rfl hrows hz hrl howns2 (fun i j y hy => let ⟨u, hu, hr⟩ := hrd i j y hy; ⟨u, hu, hr.none⟩)
            obtain ⟨p, cap, hv', _⟩ := ownsRow_val howns
            refine ⟨_, g1, g2, fun i hi => ?_, by rw [hv']; rfl, _, look_add .., Nat.le_refl _, fun _ => by simp [Mp.addBf]⟩
            obtain ⟨h1, h2⟩ := hfree i (by omega)
            refine ⟨h1, ?_⟩
            simp only [Mp.addBf]
            split
            · omega
            · exact h2
        · exact h.elim
      · exact h.elim
  · exact h.elim

/-- a row cut at its end -/
theorem ownsRow_cut {w : World} {e : TypeId} {z n k cap : Nat} {p : Option Addr} {xs : List Value} (h : w.ownsRow 0 e z (.slice p n cap) n xs) (hk : k ≤ n) : w.ownsRow 0 e z (.slice p k cap) k (xs.take (k * z)) := by
  have hmul : k * z ≤ n * z := Nat.mul_le_mul_right _ hk
  refine ⟨by rw [List.length_take, h.1]; omega, ?_⟩
  rcases h.2 with ⟨h2, h3⟩ | ⟨g, cap', cur, h2, hbg, hgg, hnc, hcm, hcs, htake⟩
  · simp only [Value.slice.injEq] at h2
    obtain ⟨h4, _, h5⟩ := h2
    subst h4; subst h5
    have hb0 : k = 0 := by omega
    exact .inl ⟨by rw [hb0], hb0⟩
  · cases h2
    refine .inr ⟨g, cap, cur, rfl, hbg, hgg, by omega, hcm, hcs, ?_⟩
    rw [← htake, List.take_take]
    congr 1; omega

theorem RdRow.cut {w : World} {S : Nat → Prop} {z k : Nat} {rs : List (List C)} {xs : List Value} (hr : ∀ r ∈ rs, r.length = z) (h : RdRow w S z rs xs) : RdRow w S z (rs.take k) (xs.take (k * z)) := by
  intro i j y hy
  have hrl : ∀ r ∈ rs.take k, r.length = z := fun r hrm => hr r (List.mem_of_mem_take hrm)
  obtain ⟨h2, h3⟩ := at2_lt hrl hy
  rw [List.length_take] at h2
  have hat : at2 rs i j = some y := by
    unfold at2 at hy ⊢
    rw [List.getElem?_take, if_pos (by omega)] at hy
    exact hy
  obtain ⟨u, hu', hrr⟩ := h i j y hat
  refine ⟨u, ?_, hrr⟩
  rw [List.getElem?_take, if_pos]
  · exact hu'
  · have : (i + 1) * z ≤ k * z := Nat.mul_le_mul_right _ (by omega)
    rw [Nat.add_mul] at this; omega

theorem callCT_sound {cf : Cfg} (hcf : TblOk P cf) {H : Hp} {nx : Nat} {o : Oper} {ev : Operand → AV} {f : FuncId} {args : Array Operand} {ts : Array TypeId} (hf : ev (.func f) = .c (.a (.func (.func f) #[] #[])))
    (ho : o.op = .call { callee := .value (.func f), args, argTypes := ts }) {K : AV → Hp → Nat → Prop} (h : callCT cf H nx f (args.toList.map ev) K) : ∃ r H', K r H' nx ∧ ∀ F : Fr, OpW P F H H' nx nx o ev r := by
  unfold callCT at h
  split at h
  · rename_i ct id ver hct hargs
    split at h
    · rename_i e B hcut hB
      obtain ⟨hBe, hBz, hflat, htr⟩ := h
      obtain ⟨⟨fn, hfn, hname, hbody⟩, _, _, _, hret⟩ := hcf.2 f ct hct
      obtain ⟨con', hr, hK⟩ := hret e hcut _ _ htr
      refine ⟨_, _, hK, fun F m w ρ hrep hfree hops => ?_⟩
      have hρf : ρ (.func f) = .func (.func f) #[] #[] := rd_a (by have := hops (.func f) (by simp [ho, Op.operands, Call.operands]); rw [hf] at this; exact this)
      have hn : ¬ fn.name = "runtime.NumGoroutine" := by simpa using hname
      have hb : ¬ fn.body = none := by intro h; rw [h] at hbody; simp at hbody
      have hlen3 : args.size = 1 := by have := congrArg List.length hargs; simpa using this
      have hone : ∃ x, args = #[x] := by
        obtain ⟨l⟩ := args
        match l, hlen3 with
        | [x], _ => exact ⟨x, rfl⟩
      obtain ⟨x, rfl⟩ := hone
      have hex : (execOp ρ o).run P w = .ok (.enter f #[ρ x]) w := by
        simp [execOp, ho, resolve, Deferred.ofValue, hρf, invoke, callFunc, program, Sem.run, hfn, hn, hb]
      have hx0 : ev x = .own id ver := by simpa using hargs
      have hxr := hops x (by simp [ho, Op.operands, Call.operands])
      rw [hx0] at hxr
      obtain ⟨hB1, hB2⟩ := curB_spec hB
      obtain ⟨rs, xs, hm, hrows, hz0, hrl, hown, hrd⟩ := own_slice hrep hB1 hB2 hxr
      unfold Exec
      rw [hex]
      refine (hr w (ρ x) rs xs (by rw [hBz]; exact hrows) (by rw [hBz]; exact hz0) (by rw [hBz]; exact hrl) (by rw [hBz, ← hBe]; exact hown) (fun i j y hy => let ⟨u, hu, hrr⟩ := hrd i j y hy; ⟨u, by rw [hBz]; exact hu, hrr.plain (flat_plain hflat hrows hy)⟩)).mono
        fun ed w' ⟨p, n, cap, k, hsv, hk, hrows', he, hg, xs', hown', hrd'⟩ => ⟨_, he, ?_⟩
      rw [hBz] at hrows' hown' hrd'
      rw [← hBe] at hown'
      have hrl' : ∀ r ∈ rs.take k, r.length = B.z := fun r hrm => hrl r (List.mem_of_mem_take hrm)
      have hn2 : n = rs.length := by
        obtain ⟨p2, cap2, h1, _⟩ := ownsRow_val hown
        rw [hsv] at h1; cases h1; rfl
      subst hn2
      rw [hsv] at hown' hg hm
      have hown2 := ownsRow_cut hown' hk
      have hlen4 : (rs.take k).length = k := by simp; omega
      obtain ⟨g1, g2⟩ := hrep.bufStep (id := id) (row := (Value.slice p rs.length cap).ownBlock) (B' := ⟨ver + 1, B.e, B.z, con'⟩) (v' := .slice p k cap) (rs := rs.take k) (xs := xs'.take (k * B.z)) (H' := H.addBuf id ⟨ver + 1, B.e, B.z, con'⟩)
        hg (fun g hg => ⟨_, hm, hg⟩) (fun g hg => .inl (by cases p <;> exact hg))
        (fun B2 hB2' => by rw [hB1] at hB2'; cases hB2'; left; show B.ver < ver + 1; omega) (look_add ..) (fun i hi => look_add_ne _ _ _ _ hi) rfl rfl hrows' hz0 hrl' (by rw [hlen4]; exact hown2) (fun i j y hy => let ⟨u, hu, hr⟩ := (RdRow.cut hrl hrd') i j y hy; ⟨u, hu, hr.none⟩)
      refine ⟨_, g1, g2, fun i hi => ?_, rfl, _, look_add .., Nat.le_refl _, fun _ => by simp [Mp.addBf]⟩
      obtain ⟨h2, h3⟩ := hfree i hi
      refine ⟨h2, ?_⟩
      simp only [Mp.addBf]
      split
      · subst i; rw [hm] at h3; cases h3
      · exact h3
    · exact h.elim
  · exact h.elim

def minT (x y : AV) (K : AV → Prop) : Prop := match x, y with
  | .c (.i k a), .c (.i k' b) => k = k' ∧ K (.c (.i k (min a b)))
  | _, _ => False
def maxT (x y : AV) (K : AV → Prop) : Prop := match x, y with
  | .c (.i k a), .c (.i k' b) => k = k' ∧ K (.c (.i k (max a b)))
  | _, _ => False

theorem minT_sound {x y : AV} {K : AV → Prop} (h : minT x y K) : ∃ r, K r ∧ ∀ (F : Fr) (H : Hp) (m : Mp) (w : World) (u v : Value) (ts : Array TypeId) (ty : TypeId), RepA F H m w x u → RepA F H m w y v → Yl P F H m w (Builtin.min_ ts ty #[u, v]) r := by
  unfold minT at h
  split at h
  · obtain ⟨rfl, hK⟩ := h
    refine ⟨_, hK, fun F H m w u v ts ty hu hv => ?_⟩
    obtain rfl := rep_i hu
    obtain rfl := rep_i hv
    rename_i ka a b
    refine ⟨_, by simp [Builtin.min_, Builtin.min2]; rfl, ?_⟩
    have : min a b = if b < a then b else a := by rw [Int.min_def]; split <;> split <;> omega
    rw [this]; exact rep_int ..
  · exact h.elim
theorem maxT_sound {x y : AV} {K : AV → Prop} (h : maxT x y K) : ∃ r, K r ∧ ∀ (F : Fr) (H : Hp) (m : Mp) (w : World) (u v : Value) (ts : Array TypeId) (ty : TypeId), RepA F H m w x u → RepA F H m w y v → Yl P F H m w (Builtin.max_ ts ty #[u, v]) r := by
  unfold maxT at h
  split at h
  · obtain ⟨rfl, hK⟩ := h
    refine ⟨_, hK, fun F H m w u v ts ty hu hv => ?_⟩
    obtain rfl := rep_i hu
    obtain rfl := rep_i hv
    rename_i ka a b
    refine ⟨_, by simp [Builtin.max_, Builtin.max2]; rfl, ?_⟩
    have : max a b = if a < b then b else a := by rw [Int.max_def]; split <;> split <;> omega
    rw [this]; exact rep_int ..
  · exact h.elim

end Go.Abs

/-
  All operations; states; regions whose order is that of the text; the rules for code.
-/
namespace Go.Abs
set_option linter.unusedSimpArgs false
set_option linter.unusedVariables false
open Go.RowKit

variable {P : Program}

/-- the callee hands back a buffer -/
def ownF (cf : Cfg) (f : FuncId) : Bool := match cf.tbl f with | some ct => ct.own.isSome || ct.win.isSome | none => false
/-- the callee cuts a buffer -/
def cutA (cf : Cfg) (f : FuncId) (args : List AV) : Bool := match cf.tbl f with | some ct => ct.cut.isSome && isOne args | none => false
/-- buffers handed to a callee that may hand them back -/
def fzB (cf : Cfg) (st : St) : Op → Bool
  | .call c => match c.callee with
    | .value (.func f) => match cf.tbl f with | some ct => !ct.fresh && !ct.own.isSome && !(ct.cut.isSome && isOne (c.args.toList.map st.ev)) && (c.args.toList.map st.ev).any isOwn | none => false
    | _ => false
  | .build _ ps => (ps.toList.map fun p => st.ev p.2).any isOwn
  | _ => false

def callE (P : Program) (cf : Cfg) (st : St) (c : Call) (K : AV → St → Prop) : Prop := match c.callee with
  | .builtin .len => match c.args.toList, c.argTypes.toList with
    | [x], [t] => match st.ev x with
      | .c (.str s) => P.underlying t = some .string ∧ K (.c (.i .i64 s.size)) st
      | y => (elO P t).isSome = true ∧ lenT st.H y (fun r => K r st)
    | _, _ => False
  | .builtin .append => match c.args.toList, c.argTypes.toList with
    | [x, y], [t, t'] => t = t' ∧ appT P st.H st.nx t (st.ev x) (st.ev y) (fun r H nx => K r { st with H, nx })
    | _, _ => False
  | .builtin .min => match c.args.toList with
    | [x, y] => minT (st.ev x) (st.ev y) (fun r => K r st)
    | _ => False
  | .builtin .max => match c.args.toList with
    | [x, y] => maxT (st.ev x) (st.ev y) (fun r => K r st)
    | _ => False
  | .value (.func f) => if ownF cf f then callOT cf st.H st.nx f (c.args.toList.map st.ev) (fun r H nx => K r { st with H, nx }) else if cutA cf f (c.args.toList.map st.ev) then callCT cf st.H st.nx f (c.args.toList.map st.ev) (fun r H nx => K r { st with H, nx }) else callT cf st.H f (c.args.toList.map st.ev) (fun r => K r st)
  | _ => False

def opE (P : Program) (cf : Cfg) (st : St) (o : Op) (K : AV → St → Prop) : Prop := match o with
  | .move x => K (st.ev x) st
  | .assign x => K (st.ev x) st
  | .pick c a b => pickT (st.ev c) (K (st.ev a) st) (K (st.ev b) st)
  | .alloc e => match zeroO P e with
    | some zs => zs.all oneCell = true ∧ K (.bx st.nx 0) { st with H := st.H.addBox st.nx (zs.map fun v => .c (ofC v)), nx := st.nx + 1 }
    | none => False
  | .box _ x => match cellsOf (st.ev x) with
    | some cs => K (.bx st.nx 0) { st with H := st.H.addBox st.nx (cs.map .c), nx := st.nx + 1 }
    | none => False
  | .build t ps => buildT P t (ps.toList.map fun p => (p.1, st.ev p.2)) (fun r => K r st)
  | .buildSlice t n ps => if n == 0 then ps.size = 0 ∧ lit0T P st.H st.nx t (fun r H nx => K r { st with H, nx }) else litT P t n (ps.toList.map fun p => (p.1, st.ev p.2)) (fun r => K r st)
  | .load t x => loadT P st.H t (st.ev x) (fun r => K r st)
  | .store t a x => storeT P st.H t (st.ev a) (st.ev x) (fun H => K .u { st with H })
  | .binOp op t x y _ => binT P cf op t (st.ev x) (st.ev y) (fun r => K r st)
  | .unOp op _ x => unT op (st.ev x) (fun r => K r st)
  | .convert s d x => (P.underlying s).isSome = true ∧ convT P d (st.ev x) (fun r => K r st)
  | .makeSlice t l c => makeT P st.H st.nx t (st.ev l) (st.ev c) (fun r H nx => K r { st with H, nx })
  | .slice t x lo hi none => match st.ev x with
    | .own id ver => cutT P st.H st.nx t (.own id ver) (lo.map st.ev) (hi.map st.ev) (fun r H nx => K r { st with H, nx })
    | .bw k l n => bcutT P st.H t k l n (lo.map st.ev) (hi.map st.ev) (fun r => K r st)
    | y => sliceT P t y (lo.map st.ev) (hi.map st.ev) (fun r => K r st)
  | .fieldAddr s x f => fieldAddrT P s (st.ev x) f (fun r => K r st)
  | .field s x f => fieldT P s (st.ev x) f (fun r => K r st)
  | .indexAddr t x i => indexAddrT P st.H t (st.ev x) (st.ev i) (fun r => K r st)
  | .extract x i => extractT (st.ev x) i (fun r => K r st)
  | .index t x i => indexT P t (st.ev x) (st.ev i) (fun r => K r st)
  | .call c => callE P cf st c K
  | _ => False

/-- a buffer is cut -/
def cutB (cf : Cfg) (st : St) : Op → Bool
  | .slice _ x _ _ _ => isOwn (st.ev x)
  | .call c => match c.callee with | .value (.func f) => (ownF cf f || cutA cf f (c.args.toList.map st.ev)) || fzB cf st (.call c) | _ => false
  | .build t ps => fzB cf st (.build t ps)
  | _ => false

/-- operations that may write -/
def mayW : Op → Bool
  | .store _ _ _ | .makeSlice _ _ _ | .alloc _ | .box _ _ => true
  | .buildSlice _ n _ => n == 0
  | .call c => match c.callee with | .builtin .append => true | _ => false
  | _ => false

/-- what a step does to a state: it is quiet, or it writes -/
def OpS (P : Program) (cf : Cfg) (st st' : St) (o : Oper) (r : AV) : Prop :=
  st'.n = st.n ∧ st'.sl = st.sl ∧ st.nx ≤ st'.nx ∧
  ((st'.H.buf = st.H.buf ∧ ((∀ i, i < st.nx → look st'.H.box i = look st.H.box i) ∧ st'.H.bor = st.H.bor) ∧ ∀ F : Fr, OpQ P F st'.H st.nx st'.nx o st.ev r) ∨ ((mayW o.op || cutB cf st o.op) = true ∧ ∀ F : Fr, OpW P F st.H st'.H st.nx st'.nx o st.ev r))

theorem OpS.same {cf : Cfg} {st : St} {o : Oper} {r : AV} (h : ∀ F : Fr, OpQ P F st.H st.nx st.nx o st.ev r) : OpS P cf st st o r := ⟨rfl, rfl, Nat.le_refl _, .inl ⟨rfl, ⟨fun _ _ => rfl, rfl⟩, h⟩⟩
theorem OpS.writes {cf : Cfg} {st : St} {o : Oper} {r : AV} {H : Hp} {nx : Nat} (hm : (mayW o.op || cutB cf st o.op) = true) (hnx : st.nx ≤ nx) (h : ∀ F : Fr, OpW P F st.H H st.nx nx o st.ev r) : OpS P cf st { st with H, nx } o r := ⟨rfl, rfl, hnx, .inr ⟨hm, h⟩⟩

theorem len_exec {o : Oper} {x : Operand} {c : Call} (ho : o.op = .call c) (hc : c.callee = .builtin .len) (hx : c.args.toList = [x]) (t : TypeId) (ht : c.argTypes.toList = [t]) (ρ : Operand → Value) :
    execOp ρ o = (do pure (Next.value (← Builtin.len_ #[t] o.type #[ρ x]))) := by
  obtain ⟨callee, args, tys⟩ := c
  obtain ⟨args⟩ := args
  obtain ⟨tys⟩ := tys
  simp at hx ht hc
  subst hx; subst ht; subst hc
  have e : Array.map ρ ⟨[x]⟩ = #[ρ x] := by simp
  simp only [execOp, ho, resolve, pure_bind, invoke, builtin, e]

theorem min_exec {o : Oper} {x y : Operand} {c : Call} (ho : o.op = .call c) (hc : c.callee = .builtin .min) (hx : c.args.toList = [x, y]) (ρ : Operand → Value) :
    execOp ρ o = (do pure (Next.value (← Builtin.min_ c.argTypes o.type #[ρ x, ρ y]))) := by
  obtain ⟨callee, args, tys⟩ := c
  obtain ⟨args⟩ := args
  simp at hx hc
  subst hx; subst hc
  have e : Array.map ρ ⟨[x, y]⟩ = #[ρ x, ρ y] := by simp
  simp only [execOp, ho, resolve, pure_bind, invoke, builtin, e]
theorem max_exec {o : Oper} {x y : Operand} {c : Call} (ho : o.op = .call c) (hc : c.callee = .builtin .max) (hx : c.args.toList = [x, y]) (ρ : Operand → Value) :
    execOp ρ o = (do pure (Next.value (← Builtin.max_ c.argTypes o.type #[ρ x, ρ y]))) := by
  obtain ⟨callee, args, tys⟩ := c
  obtain ⟨args⟩ := args
  simp at hx hc
  subst hx; subst hc
  have e : Array.map ρ ⟨[x, y]⟩ = #[ρ x, ρ y] := by simp
  simp only [execOp, ho, resolve, pure_bind, invoke, builtin, e]

theorem appT_nx {H : Hp} {nx : Nat} {t : TypeId} {x y : AV} {K : AV → Hp → Nat → Prop} (h : appT P H nx t x y K) : appT P H nx t x y (fun r H' nx' => nx ≤ nx' ∧ K r H' nx') := by
  unfold appT at *
  repeat' split at h
  all_goals first | exact h.elim | skip
  all_goals simp [*]

theorem makeT_nx {H : Hp} {nx : Nat} {t : TypeId} {x y : AV} {K : AV → Hp → Nat → Prop} (h : makeT P H nx t x y K) : makeT P H nx t x y (fun r H' nx' => nx ≤ nx' ∧ K r H' nx') := by
  unfold makeT at *
  repeat' split at h
  all_goals first | exact h.elim | skip
  all_goals simp [*]

theorem lit0T_nx {H : Hp} {nx : Nat} {t : TypeId} {K : AV → Hp → Nat → Prop} (h : lit0T P H nx t K) : lit0T P H nx t (fun r H' nx' => nx ≤ nx' ∧ K r H' nx') := by
  unfold lit0T at *
  repeat' split at h
  all_goals first | exact h.elim | skip
  all_goals simp [*]

theorem cutT_nx {H : Hp} {nx : Nat} {t : TypeId} {x : AV} {lo hi : Option AV} {K : AV → Hp → Nat → Prop} (h : cutT P H nx t x lo hi K) : cutT P H nx t x lo hi (fun r H' nx' => nx ≤ nx' ∧ K r H' nx') := by
  unfold cutT at *
  repeat' split at h
  all_goals first | exact h.elim | skip
  all_goals simp [*]


theorem call_ext {c : Call} {b : Callee} {xs : List Operand} {ts : List TypeId} (h1 : c.callee = b) (h2 : c.args.toList = xs) (h3 : c.argTypes.toList = ts) : c = { callee := b, args := xs.toArray, argTypes := ts.toArray } := by
  obtain ⟨callee, args, tys⟩ := c
  simp at h1 h2 h3
  subst h1; subst h2; subst h3
  simp

theorem callE_sound {cf : Cfg} (hcf : TblOk P cf) {st : St} {o : Oper} {c : Call} (ho : o.op = .call c) {K : AV → St → Prop} (h : callE P cf st c K) : ∃ r st', K r st' ∧ OpS P cf st st' o r := by
  unfold callE at h
  split at h
  · rename_i hc
    split at h
    · rename_i x t hx ht
      split at h
      · rename_i s hs
        obtain ⟨hu, hK⟩ := h
        refine ⟨_, st, hK, OpS.same fun F => OpQ.of_yl fun H' m w ρ hsup hrep hops => ⟨_, len_exec ho hc hx t ht ρ, ?_⟩⟩
        have hxr := hops x (by simp [ho, Op.operands, Call.operands, hc]; rw [← Array.mem_toList_iff, hx]; simp)
        rw [hs] at hxr
        obtain hρ := rd_str hxr
        rw [hρ]
        exact ⟨_, by simp [Builtin.len_, run_underlying hu, goInt], rep_int ..⟩
      · rename_i hns
        obtain ⟨he, hl⟩ := h
        obtain ⟨r, hK, hr⟩ := lenT_sound (P := P) (t := t) (.inl he) hl
        refine ⟨r, st, hK, OpS.same fun F => OpQ.of_yl fun H' m w ρ hsup hrep hops => ⟨_, len_exec ho hc hx t ht ρ, ?_⟩⟩
        have hxr := hops x (by simp [ho, Op.operands, Call.operands, hc]; rw [← Array.mem_toList_iff, hx]; simp)
        refine hr F H' m w (ρ x) o.type hsup hrep hxr (fun hu => ?_) (fun _ s => hns s)
        obtain ⟨e, he⟩ := Option.isSome_iff_exists.1 he
        rw [elO_some he] at hu; cases hu
    · exact h.elim
  · rename_i hc
    split at h
    · rename_i x y t t' hx ht
      obtain ⟨rfl, h⟩ := h
      have hcc := call_ext hc hx ht
      obtain ⟨r, H', nx', ⟨hnx, hK⟩, hr⟩ := appT_sound (P := P) (o := o) (ev := st.ev) (x := x) (y := y) (by rw [ho, hcc]) (appT_nx h)
      exact ⟨r, _, hK, OpS.writes (by simp [ho, mayW, hc]) hnx hr⟩
    · exact h.elim
  · rename_i hc
    split at h
    · rename_i x y hx
      obtain ⟨r, hK, hr⟩ := minT_sound (P := P) h
      refine ⟨r, st, hK, OpS.same fun F => OpQ.of_yl fun H' m w ρ hsup hrep hops => ⟨_, min_exec ho hc hx ρ, ?_⟩⟩
      exact hr F H' m w _ _ _ _ (hops x (by simp [ho, Op.operands, Call.operands, hc]; rw [← Array.mem_toList_iff, hx]; simp)) (hops y (by simp [ho, Op.operands, Call.operands, hc]; rw [← Array.mem_toList_iff, hx]; simp))
    · exact h.elim
  · rename_i hc
    split at h
    · rename_i x y hx
      obtain ⟨r, hK, hr⟩ := maxT_sound (P := P) h
      refine ⟨r, st, hK, OpS.same fun F => OpQ.of_yl fun H' m w ρ hsup hrep hops => ⟨_, max_exec ho hc hx ρ, ?_⟩⟩
      exact hr F H' m w _ _ _ _ (hops x (by simp [ho, Op.operands, Call.operands, hc]; rw [← Array.mem_toList_iff, hx]; simp)) (hops y (by simp [ho, Op.operands, Call.operands, hc]; rw [← Array.mem_toList_iff, hx]; simp))
    · exact h.elim
  · rename_i f hc
    have hcc : c = { callee := .value (.func f), args := c.args, argTypes := c.argTypes } := by obtain ⟨a, b, d⟩ := c; simp at hc; subst hc; rfl
    split at h
    · rename_i hof
      obtain ⟨r, H', nx', hK, hnx, hr⟩ := callOT_sound (P := P) hcf (nx := st.nx) (o := o) (ev := st.ev) (f := f) (args := c.args) (ts := c.argTypes) rfl (by rw [ho, hcc]) h
      exact ⟨r, _, hK, OpS.writes (by simp [ho, cutB, hc, hof]) hnx hr⟩
    split at h
    · rename_i hof hca
      obtain ⟨r, H', hK, hr⟩ := callCT_sound (P := P) hcf (nx := st.nx) (o := o) (ev := st.ev) (f := f) (args := c.args) (ts := c.argTypes) rfl (by rw [ho, hcc]) h
      exact ⟨r, _, hK, OpS.writes (by simp [ho, cutB, hc, hca]) (Nat.le_refl _) hr⟩
    · obtain ⟨r, hK, hr⟩ := callT_sound (P := P) hcf (nx := st.nx) (o := o) (ev := st.ev) (f := f) (args := c.args) (ts := c.argTypes) rfl (by rw [ho, hcc]) h
      exact ⟨r, st, hK, OpS.same hr⟩
  · exact h.elim

theorem opE_sound {cf : Cfg} (hcf : TblOk P cf) {st : St} {o : Oper} {K : AV → St → Prop} (h : opE P cf st o.op K) : ∃ r st', K r st' ∧ OpS P cf st st' o r := by
  unfold opE at h
  have yl : ∀ {r : AV} {f : (Operand → Value) → Sem Value}, (∀ ρ, execOp ρ o = (do pure (Next.value (← f ρ)))) → (∀ (F : Fr) (H' : Hp) (m : Mp) (w : World) (ρ : Operand → Value), Sup H' st.H → HRep F H' m w → (∀ x ∈ o.op.operands, RepA F H' m w (st.ev x) (ρ x)) → Yl P F H' m w (f ρ) r) → OpS P cf st st o r :=
    fun h1 h2 => OpS.same fun F => OpQ.of_yl fun H' m w ρ hsup hrep hops => ⟨_, h1 ρ, h2 F H' m w ρ hsup hrep hops⟩
  split at h
  · rename_i x ho
    exact ⟨_, st, h, yl (f := fun ρ => pure (ρ x)) (fun ρ => by simp [execOp, ho]) fun F H' m w ρ _ _ hops => ⟨ρ x, rfl, hops x (by simp [ho, Op.operands])⟩⟩
  · rename_i x ho
    exact ⟨_, st, h, yl (f := fun ρ => pure (ρ x)) (fun ρ => by simp [execOp, ho]) fun F H' m w ρ _ _ hops => ⟨ρ x, rfl, hops x (by simp [ho, Op.operands])⟩⟩
  · rename_i c a b ho
    unfold pickT at h
    split at h
    · rename_i hc
      refine ⟨_, st, h, yl (f := fun ρ => do pure (if ← asBool (ρ c) then ρ a else ρ b)) (fun ρ => by simp [execOp, ho]) fun F H' m w ρ _ _ hops => ⟨ρ a, ?_, hops a (by simp [ho, Op.operands])⟩⟩
      have := hops c (by simp [ho, Op.operands])
      rw [hc] at this
      simp [rep_b this, asBool]
    · rename_i hc
      refine ⟨_, st, h, yl (f := fun ρ => do pure (if ← asBool (ρ c) then ρ a else ρ b)) (fun ρ => by simp [execOp, ho]) fun F H' m w ρ _ _ hops => ⟨ρ b, ?_, hops b (by simp [ho, Op.operands])⟩⟩
      have := hops c (by simp [ho, Op.operands])
      rw [hc] at this
      simp [rep_b this, asBool]
    · exact h.elim
  · rename_i e ho
    split at h
    · rename_i zs hz
      obtain ⟨h1, hK⟩ := h
      exact ⟨_, _, hK, rfl, rfl, Nat.le_succ _, .inl ⟨rfl, ⟨fun i hi => look_add_ne _ _ _ _ (by omega), rfl⟩, fun F => OpQ.alloc ho hz h1⟩⟩
    · exact h.elim
  · rename_i e x ho
    split at h
    · rename_i cs hc
      exact ⟨_, _, h, rfl, rfl, Nat.le_succ _, .inl ⟨rfl, ⟨fun i hi => look_add_ne _ _ _ _ (by omega), rfl⟩, fun F => OpQ.box ho hc⟩⟩
    · exact h.elim
  · rename_i t ps ho
    obtain ⟨r, hK, hr⟩ := buildT_sound h
    refine ⟨r, st, hK, yl (f := fun ρ => Instr.build t (ps.map fun (i, x) => (i, ρ x))) (fun ρ => by simp [execOp, ho]) fun F H' m w ρ _ _ hops => hr F H' m w _ (by simp) fun j x v hx hv => ?_⟩
    simp only [List.getElem?_map, Array.getElem?_toList, Option.map_eq_some_iff] at hx
    obtain ⟨p, hp, rfl⟩ := hx
    simp [hp] at hv
    subst hv
    exact hops p.2 (by simp [ho, Op.operands]; exact ⟨p.1, by have := Array.mem_of_getElem? hp; simpa using this⟩)
  · rename_i t n ps ho
    split at h
    · rename_i hn
      have hn0 : n = 0 := by simpa using hn
      subst hn0
      obtain ⟨r, H', nx', ⟨hnx, hK⟩, hr⟩ := lit0T_sound (o := o) (ev := st.ev) ho h.1 (lit0T_nx h.2)
      exact ⟨r, _, hK, OpS.writes (by simp [ho, mayW]) hnx hr⟩
    obtain ⟨r, hK, hr⟩ := litT_sound h
    refine ⟨r, st, hK, OpS.same fun F => OpQ.of_ext fun H' m w ρ hsup hrep hops => ?_⟩
    obtain ⟨v, w', hrun, hext, hrr⟩ := hr F H' m w (ps.map fun (i, x) => (i, ρ x)) hrep (by simp) (fun j x v hx hv => by
      simp only [List.getElem?_map, Array.getElem?_toList, Option.map_eq_some_iff] at hx
      obtain ⟨p, hp, rfl⟩ := hx
      simp [hp] at hv
      subst hv
      exact hops p.2 (by simp [ho, Op.operands]; exact ⟨p.1, by have := Array.mem_of_getElem? hp; simpa using this⟩))
    unfold Exec
    have hex : (execOp ρ o).run P w = .ok (.value v) w' := by simp only [execOp, ho, Sem.run_bind, hrun, Result.andThen_ok, Sem.run_pure]
    rw [hex]
    exact ⟨hext, hrr⟩
  · rename_i t x ho
    obtain ⟨r, hK, hr⟩ := loadT_sound h
    exact ⟨r, st, hK, yl (f := fun ρ => Instr.loadAt t (ρ x)) (fun ρ => by simp [execOp, ho]) fun F H' m w ρ hsup hrep hops => hr F H' m w _ hsup hrep (hops x (by simp [ho, Op.operands]))⟩
  · rename_i t a x ho
    obtain ⟨H', hK, hr⟩ := storeT_sound (nx := st.nx) ho h
    exact ⟨_, _, hK, OpS.writes (by simp [ho, mayW]) (Nat.le_refl _) hr⟩
  · rename_i op t x y _ ho
    obtain ⟨r, hK, hr⟩ := binT_sound hcf.1 h
    exact ⟨r, st, hK, yl (f := fun ρ => do eqGuard op t x y (ρ x) (ρ y); binOp op t (ρ x) (ρ y)) (fun ρ => by simp [execOp, ho]) fun F H' m w ρ hsup hrep hops => hr F H' m w _ _ x y (hops x (by simp [ho, Op.operands])) (hops y (by simp [ho, Op.operands]))⟩
  · rename_i op _ x ho
    obtain ⟨r, hK, hr⟩ := unT_sound (P := P) h
    exact ⟨r, st, hK, yl (f := fun ρ => Op.unary op (ρ x)) (fun ρ => by simp [execOp, ho]) fun F H' m w ρ hsup hrep hops => hr F H' m w _ (hops x (by simp [ho, Op.operands]))⟩
  · rename_i s d x ho
    obtain ⟨hs, h⟩ := h
    obtain ⟨r, hK, hr⟩ := convT_sound (P := P) hs h
    exact ⟨r, st, hK, yl (f := fun ρ => convert s d (ρ x)) (fun ρ => by simp [execOp, ho]) fun F H' m w ρ hsup hrep hops => hr F H' m w _ (hops x (by simp [ho, Op.operands]))⟩
  · rename_i t l c ho
    obtain ⟨r, H', nx', ⟨hnx, hK⟩, hr⟩ := makeT_sound (o := o) (ev := st.ev) ho (makeT_nx h)
    exact ⟨r, _, hK, OpS.writes (by simp [ho, mayW]) hnx hr⟩
  · rename_i t x lo hi ho
    split at h
    · rename_i id ver hx
      rw [← hx] at h
      obtain ⟨r, H', nx', ⟨hnx, hK⟩, hr⟩ := cutT_sound (o := o) (ev := st.ev) ho (cutT_nx h)
      exact ⟨r, _, hK, OpS.writes (by simp [ho, mayW, cutB, hx, isOwn]) hnx hr⟩
    · rename_i k l n hx
      obtain ⟨r, hK, hr⟩ := bcutT_sound (P := P) h
      refine ⟨r, st, hK, yl (f := fun ρ => Instr.sliceAt t (ρ x) (lo.map ρ) (hi.map ρ) none) (fun ρ => by simp [execOp, ho]) fun F H' m w ρ hsup hrep hops => ?_⟩
      have hxr := hops x (by simp [ho, Op.operands])
      rw [hx] at hxr
      refine hr F H' m w _ _ _ hsup hrep hxr ?_ ?_
      · intro hy; simp at hy; simp [hy]
      · intro y hy
        obtain ⟨a, rfl, rfl⟩ := Option.map_eq_some_iff.1 hy
        exact ⟨_, rfl, hops a (by simp [ho, Op.operands])⟩
    · obtain ⟨r, hK, hr⟩ := sliceT_sound (P := P) h
      refine ⟨r, st, hK, yl (f := fun ρ => Instr.sliceAt t (ρ x) (lo.map ρ) (hi.map ρ) none) (fun ρ => by simp [execOp, ho]) fun F H' m w ρ hsup hrep hops => hr F H' m w _ _ _ (hops x (by simp [ho, Op.operands])) ?_ ?_ ?_ ?_⟩
      · intro y hy
        obtain ⟨a, rfl, rfl⟩ := Option.map_eq_some_iff.1 hy
        exact ⟨_, rfl, hops a (by simp [ho, Op.operands])⟩
      · intro hy; simp at hy; simp [hy]
      · intro y hy
        obtain ⟨a, rfl, rfl⟩ := Option.map_eq_some_iff.1 hy
        exact ⟨_, rfl, hops a (by simp [ho, Op.operands])⟩
      · intro hy; simp at hy; simp [hy]
  · rename_i s x f ho
    obtain ⟨r, hK, hr⟩ := fieldAddrT_sound (P := P) h
    exact ⟨r, st, hK, yl (f := fun ρ => Instr.fieldAt s (ρ x) f) (fun ρ => by simp [execOp, ho]) fun F H' m w ρ hsup hrep hops => hr F H' m w _ (hops x (by simp [ho, Op.operands]))⟩
  · rename_i s x f ho
    obtain ⟨r, hK, hr⟩ := fieldT_sound (P := P) h
    exact ⟨r, st, hK, yl (f := fun ρ => Instr.field s (ρ x) f) (fun ρ => by simp [execOp, ho]) fun F H' m w ρ hsup hrep hops => hr F H' m w _ (hops x (by simp [ho, Op.operands]))⟩
  · rename_i t x i ho
    obtain ⟨r, hK, hr⟩ := indexAddrT_sound (P := P) h
    exact ⟨r, st, hK, yl (f := fun ρ => Instr.indexAt t (ρ x) (ρ i)) (fun ρ => by simp [execOp, ho]) fun F H' m w ρ hsup hrep hops => hr F H' m w _ _ hsup hrep (hops x (by simp [ho, Op.operands])) (hops i (by simp [ho, Op.operands]))⟩
  · rename_i x i ho
    obtain ⟨r, hK, hr⟩ := extractT_sound (P := P) h
    exact ⟨r, st, hK, yl (f := fun ρ => Instr.extract (ρ x) i) (fun ρ => by simp [execOp, ho]) fun F H' m w ρ hsup hrep hops => hr F H' m w _ (hops x (by simp [ho, Op.operands]))⟩
  · rename_i t x i ho
    obtain ⟨r, hK, hr⟩ := indexT_sound (P := P) h
    exact ⟨r, st, hK, yl (f := fun ρ => Instr.index t (ρ x) (ρ i)) (fun ρ => by simp [execOp, ho]) fun F H' m w ρ hsup hrep hops => hr F H' m w _ _ (hops x (by simp [ho, Op.operands])) (hops i (by simp [ho, Op.operands]))⟩
  · rename_i c ho
    exact callE_sound hcf ho h
  · exact h.elim

end Go.Abs

/-
  States; regions; the rules for code; functions.
-/
namespace Go.Abs
set_option linter.unusedSimpArgs false
set_option linter.unusedVariables false
open Go.RowKit

variable {P : Program}

structure StRep (F : Fr) (st : St) (m : Mp) (a : Act) (w : World) : Prop where
  d : a.defers = []
  sz : a.tmps.size = st.n
  h : HRep F st.H m w
  fr : ∀ i, st.nx ≤ i → m.bx i = none ∧ m.bf i = none
  sl : ∀ t, RepA F st.H m w (st.get t) (a.tmps.getD t undef)

theorem rep_ofV (F : Fr) (H : Hp) (m : Mp) (w : World) (v : Value) : RepA F H m w (ofV v) v := by
  unfold ofV
  split
  · split
    · rename_i cs h
      exact ⟨cs, rfl, RdL.ofC h⟩
    · trivial
  · trivial
  · rename_i h1 h2
    refine rd_ofC w _ v ?_
    cases v <;> first | rfl | (exfalso; first | exact h1 _ rfl | exact h2 _ rfl)

theorem StRep.ev {F : Fr} {st : St} {m : Mp} {a : Act} {w : World} (h : StRep F st m a w) (x : Operand) : RepA F st.H m w (st.ev x) (a.eval x) := by
  cases x with
  | tmp t => exact h.sl t
  | const v => exact rep_ofV ..
  | global g => trivial
  | func f => exact Rd.a _ rfl

theorem StRep.put {F : Fr} {st : St} {m : Mp} {a : Act} {w : World} (h : StRep F st m a w) (d : Nat) {r : AV} {v : Value} (hr : RepA F st.H m w r v) : StRep F (st.put d r) m (a.put (some d) v) w := by
  unfold St.put
  split
  · rename_i hd
    refine ⟨h.d, by simp [Act.put, h.sz], h.h, h.fr, fun t => ?_⟩
    simp only [St.get, look, Act.put]
    by_cases ht : d = t
    · subst ht
      have : d < a.tmps.size := by rw [h.sz]; exact hd
      simp [this]
      exact hr
    · have hne : (d == t) = false := by simp [ht]
      simp only [hne, Bool.false_eq_true, if_false]
      have := h.sl t
      simp only [St.get] at this
      simpa [Array.getElem?_setIfInBounds_ne ht] using this
  · rename_i hd
    have : a.put (some d) v = a := by
      simp only [Act.put]
      rw [Array.setIfInBounds_eq_of_size_le (by rw [h.sz]; omega)]
    rw [this]
    exact h

def St.putO (st : St) (d : Option Nat) (r : AV) : St := match d with | some d => st.put d r | none => st

theorem StRep.putO {F : Fr} {st : St} {m : Mp} {a : Act} {w : World} (h : StRep F st m a w) (d : Option Nat) {r : AV} {v : Value} (hr : RepA F st.H m w r v) : StRep F (st.putO d r) m (a.put d v) w := by
  cases d with
  | none => exact h
  | some d => exact h.put d hr

/-- a slot told in other words -/
theorem StRep.tell {F : Fr} {st : St} {m : Mp} {a : Act} {w : World} (h : StRep F st m a w) (d : Nat) {r : AV} (hr : RepA F st.H m w r (a.tmps.getD d undef)) : StRep F (st.put d r) m a w := by
  have h2 := h.put d hr
  have : a.put (some d) (a.tmps.getD d undef) = a := by
    simp only [Act.put]
    congr 1
    apply Array.ext_getElem?
    intro i
    rw [Array.getElem?_setIfInBounds]
    split
    · rename_i hi; subst hi
      split
      · rename_i hlt; simp [hlt]
      · rename_i hlt; simp [Array.getElem?_eq_none (Nat.not_lt.1 hlt)]
    · rfl
  rw [this] at h2
  exact h2

theorem OpS.exec {cf : Cfg} {st st' : St} {o : Oper} {r : AV} (h : OpS P cf st st' o r) {F : Fr} {m : Mp} {a : Act} {w : World} (hs : StRep F st m a w) :
    Exec P o a.eval w fun v w' => ∃ m', StRep F st' m' a w' ∧ RepA F st'.H m' w' r v := by
  obtain ⟨hn, hsl, hnx, hor⟩ := h
  have hget : ∀ t, st'.get t = st.get t := fun t => by simp [St.get, hsl]
  rcases hor with ⟨hbuf, ⟨hbox, hbo⟩, hq⟩ | ⟨_, hw⟩
  · obtain ⟨g1, g2⟩ := hs.h.hp (H' := st'.H) (fun i b hb => hbox i (by
      rcases Nat.lt_or_ge i st.nx with h | h
      · exact h
      · rw [(hs.fr i h).1] at hb; cases hb)) (fun i B hB => by rw [hbuf]; exact hB) hbo
    refine (hq F st'.H m w a.eval ⟨⟨fun _ _ h => h, rfl⟩, rfl⟩ g1 (fun i hi _ => (hs.fr i hi).1) (fun x _ => g2.rep (hs.ev x))).mono fun v w' ⟨m', h1, h2, h3, h4, h5⟩ => ⟨m', ⟨hs.d, by rw [hn]; exact hs.sz, h1, fun i hi => ?_, fun t => ?_⟩, h5⟩
    · exact ⟨h4 i (by omega) (hs.fr i (by omega)).1, by rw [h3]; exact (hs.fr i (by omega)).2⟩
    · rw [hget]; exact h2.rep (g2.rep (hs.sl t))
  · refine (hw F m w a.eval hs.h hs.fr (fun x _ => hs.ev x)).mono fun v w' ⟨m', h1, h2, h3, h4⟩ => ⟨m', ⟨hs.d, by rw [hn]; exact hs.sz, h1, h3, fun t => ?_⟩, h4⟩
    rw [hget]; exact h2.rep (hs.sl t)

/-- one state tells all that the other one does -/
def Fit (st st' : St) : Prop := ∀ (F : Fr) (m : Mp) (a : Act) (w : World), StRep F st m a w → ∃ m', StRep F st' m' a w

end Go.Abs

/-
  One state fits another; functions.
-/
namespace Go.Abs
set_option linter.unusedSimpArgs false
set_option linter.unusedVariables false
open Go.RowKit

variable {P : Program}

/-- a value of one state told as a value of another -/
def fitAV (H H' : Hp) (x y : AV) : Prop := match y with
  | .u => True
  | .own id ver => match x with
    | .own id0 ver0 => id0 = id ∧ (curB H id0 ver0).isSome = true ∧ (curB H' id ver).isSome = true
    | .c .nil => look H.buf id = none ∧ (curB H' id ver).isSome = true
    | _ => False
  | .c c' => match x with
    | .c .nil => c' = .nil ∨ c'.rows = some (c'.z, [])
    | .c c => c = c'
    | .own id0 ver0 => match curB H id0 ver0 with
      | some B => look H'.buf id0 = none ∧ B.con = c'
      | none => False
    | _ => False
  | .bx id off => x = .bx id off ∧ (look H'.box id).isSome = true
  | .oel _ _ _ _ => False
  | .win _ _ _ _ => False
  | .bel _ _ _ => False
  | .bw k lo len => x = .bw k lo len ∧ (match look H.bor k, look H'.bor k with | some B, some B' => B.con = B'.con | _, _ => False)
  | .g xs => x = .g xs
  | .t l => x = .t l
  | .el xs => x = .el xs

def fitL (H H' : Hp) : List AV → List AV → Prop
  | [], [] => True
  | x :: xs, y :: ys => fitAV H H' x y ∧ fitL H H' xs ys
  | _, _ => False

def fitBox (st st' : St) : List (Nat × List AV) → Prop
  | [] => True
  | (id, cs') :: l => id < st'.nx ∧ (match look st.H.box id with | some cs => fitL st.H st'.H cs cs' | none => st.nx ≤ id) ∧ fitBox st st' l
def fitBuf (st st' : St) : List (Nat × Buf) → Prop
  | [] => True
  | (id, B') :: l => id < st'.nx ∧ (match look st.H.buf id with
      | some B => B.con = B'.con ∧ B.z = B'.z ∧ B.e = B'.e
      | none => st.nx ≤ id ∧ B'.con.rows = some (B'.z, []) ∧ 0 < B'.z) ∧ fitBuf st st' l
def fitSl (st st' : St) : List (Nat × AV) → Prop
  | [] => True
  | (t, y) :: l => fitAV st.H st'.H (st.get t) y ∧ fitSl st st' l

/-- what was handed over is told alike -/
def fitBor (st st' : St) : List (Nat × Bor) → Prop
  | [] => True
  | (k, _) :: l => (match look st.H.bor k, look st'.H.bor k with | some B, some B' => B.e = B'.e ∧ B.con = B'.con | _, _ => False) ∧ fitBor st st' l

/-- told in the simplest way: no slot, box or buffer stands twice on the second side -/
def FitP (st st' : St) : Prop := st'.n = st.n ∧ fitSl st st' st'.sl ∧ fitBox st st' st'.H.box ∧ fitBuf st st' st'.H.buf ∧ fitBor st st' st.H.bor

theorem fitBor_get {st st' : St} : ∀ {l : List (Nat × Bor)} {k : Nat} {B0 : Bor}, fitBor st st' l → look l k = some B0 → ∃ B B', look st.H.bor k = some B ∧ look st'.H.bor k = some B' ∧ B.e = B'.e ∧ B.con = B'.con
  | [], k, B0, h, hl => by simp [look] at hl
  | (k', B1) :: l, k, B0, h, hl => by
    simp only [look] at hl
    split at hl
    · rename_i he
      simp at he; subst he
      have := h.1
      split at this
      · rename_i B B' h1 h2; exact ⟨B, B', h1, h2, this.1, this.2⟩
      · exact this.elim
    · exact fitBor_get h.2 hl

theorem fitSl_get {st st' : St} : ∀ {l : List (Nat × AV)} {t : Nat} {y : AV}, fitSl st st' l → look l t = some y → fitAV st.H st'.H (st.get t) y
  | [], t, y, h, hl => by simp [look] at hl
  | (t', y') :: l, t, y, h, hl => by
    simp only [look] at hl
    split at hl
    · rename_i he; cases hl; simp at he; subst he; exact h.1
    · exact fitSl_get h.2 hl
theorem fitBox_get {st st' : St} : ∀ {l : List (Nat × List AV)} {id : Nat} {cs' : List AV}, fitBox st st' l → look l id = some cs' → id < st'.nx ∧ (match look st.H.box id with | some cs => fitL st.H st'.H cs cs' | none => st.nx ≤ id)
  | [], t, y, h, hl => by simp [look] at hl
  | (t', y') :: l, t, y, h, hl => by
    simp only [look] at hl
    split at hl
    · rename_i he; cases hl; simp at he; subst he; exact ⟨h.1, h.2.1⟩
    · exact fitBox_get h.2.2 hl
theorem fitBuf_get {st st' : St} : ∀ {l : List (Nat × Buf)} {id : Nat} {B' : Buf}, fitBuf st st' l → look l id = some B' → id < st'.nx ∧ (match look st.H.buf id with
      | some B => B.con = B'.con ∧ B.z = B'.z ∧ B.e = B'.e
      | none => st.nx ≤ id ∧ B'.con.rows = some (B'.z, []) ∧ 0 < B'.z)
  | [], t, y, h, hl => by simp [look] at hl
  | (t', y') :: l, t, y, h, hl => by
    simp only [look] at hl
    split at hl
    · rename_i he; cases hl; simp at he; subst he; exact ⟨h.1, h.2.1⟩
    · exact fitBuf_get h.2.2 hl

theorem fitL_get {H H' : Hp} : ∀ {cs cs' : List AV}, fitL H H' cs cs' → cs.length = cs'.length ∧ ∀ (j : Nat) x y, cs[j]? = some x → cs'[j]? = some y → fitAV H H' x y
  | [], [], h => ⟨rfl, by simp⟩
  | x :: xs, y :: ys, h => by
    obtain ⟨h1, h2⟩ := fitL_get h.2
    refine ⟨by simp [h1], fun j a b ha hb => ?_⟩
    match j with
    | 0 => simp at ha hb; subst ha; subst hb; exact h.1
    | j + 1 => exact h2 j a b (by simpa using ha) (by simpa using hb)
  | [], _ :: _, h => h.elim
  | _ :: _, [], h => h.elim

/-- where things lie in the second state -/
def fitMp (H H' : Hp) (m : Mp) : Mp where
  bx i := if (look H'.box i).isSome then m.bx i else none
  bf i := if (look H'.buf i).isSome then (if (look H.buf i).isSome then m.bf i else some (.slice none 0 0)) else none

theorem fitMp_own {H H' : Hp} {m : Mp} {b : Nat} (h : Own (fitMp H H' m) b) : Own m b := by
  rcases h with ⟨i, hi⟩ | ⟨i, v, hv, hb⟩
  · simp only [fitMp] at hi
    split at hi
    · exact .inl ⟨i, hi⟩
    · cases hi
  · simp only [fitMp] at hv
    split at hv
    · split at hv
      · exact .inr ⟨i, v, hv, hb⟩
      · cases hv; simp [Value.ownBlock] at hb
    · cases hv

theorem fitMp_stays {F : Fr} {H H' : Hp} {m : Mp} (w : World) : Stays (F.S m) (F.S (fitMp H H' m)) w w := by
  intro b h _
  refine ⟨?_, rfl⟩
  rcases h with h | ⟨h1, h2⟩
  · exact .inl h
  · exact .inr ⟨h1, fun ho => h2 (fitMp_own ho)⟩

theorem fitAV_rep {F : Fr} {H H' : Hp} {m : Mp} {w : World} (hrep : HRep F H m w) {x y : AV} {v : Value} (hf : fitAV H H' x y) (h : RepA F H m w x v) : RepA F H' (fitMp H H' m) w y v := by
  have hst : Stays (F.S m) (F.S (fitMp H H' m)) w w := fitMp_stays w
  cases y with
  | u => trivial
  | c c' =>
    simp only [fitAV] at hf
    split at hf
    · rcases hf with rfl | hr
      · exact Rd.mono hst h
      · have := rd_nil h
        subst this
        exact .emp _ _ none 0 hr (fun _ => rfl)
    · subst hf; exact Rd.mono hst h
    · rename_i id0 ver0
      split at hf
      · rename_i B hB
        obtain ⟨hnone, rfl⟩ := hf
        obtain ⟨hB1, hB2⟩ := curB_spec hB
        have hv := h
        obtain ⟨rs, xs, hm, _⟩ := own_slice hrep hB1 hB2 hv
        have hrd := own_rd hrep hB1 hB2 h
        -- only this buffer's block is looked at besides the views
        obtain ⟨g1, g2, g3⟩ := hrep.dropBuf (H' := { H with buf := (id0, { B with ver := B.ver + 1 }) :: H.buf }) (B' := { B with ver := B.ver + 1 }) hm hB1 (by simp) (look_add ..) (fun i hi => look_add_ne _ _ _ _ hi) rfl rfl
        refine Rd.mono ?_ g3
        intro b hb _
        refine ⟨?_, rfl⟩
        rcases hb with hb | ⟨h1, h2⟩
        · exact .inl hb
        · refine .inr ⟨h1, fun ho => h2 ?_⟩
          rcases ho with ⟨i, hi⟩ | ⟨i, u, hu, hub⟩
          · simp only [fitMp] at hi
            split at hi
            · exact .inl ⟨i, hi⟩
            · cases hi
          · simp only [fitMp] at hu
            split at hu
            · rename_i hsome
              split at hu
              · refine .inr ⟨i, u, ?_, hub⟩
                simp only [Mp.addBf]
                split
                · rename_i hi; subst hi; rw [hnone] at hsome; simp at hsome
                · exact hu
              · cases hu; simp [Value.ownBlock] at hub
            · cases hu
      · exact hf.elim
    · exact hf.elim
  | own id ver =>
    simp only [fitAV] at hf
    split at hf
    · obtain ⟨rfl, h1, h2⟩ := hf
      obtain ⟨B, hB⟩ := Option.isSome_iff_exists.1 h1
      obtain ⟨B', hB'⟩ := Option.isSome_iff_exists.1 h2
      obtain ⟨hB1, hB2⟩ := curB_spec hB
      obtain ⟨hB1', hB2'⟩ := curB_spec hB'
      obtain ⟨rs, xs, hm, _⟩ := own_slice hrep hB1 hB2 h
      exact ⟨h.1, B', hB1', by omega, fun _ => by simp [fitMp, hB1', hB1, hm]⟩
    · obtain ⟨h1, h2⟩ := hf
      obtain ⟨B', hB'⟩ := Option.isSome_iff_exists.1 h2
      obtain ⟨hB1', hB2'⟩ := curB_spec hB'
      have := rd_nil h
      subst this
      exact ⟨rfl, B', hB1', by omega, fun _ => by simp [fitMp, hB1', h1]⟩
    · exact hf.elim
  | bx id off =>
    obtain ⟨rfl, hs⟩ := hf
    obtain ⟨b, hb, rfl⟩ := h
    exact ⟨b, by simp [fitMp, hs, hb], rfl⟩
  | oel id ver i off => exact hf.elim
  | win id ver i off => exact hf.elim
  | bel k i off => exact hf.elim
  | bw k lo len =>
    obtain ⟨rfl, hm⟩ := hf
    split at hm
    · rename_i B B' hB hB'
      obtain ⟨h1, B2, p, n, cap, hB2, hF, hn, hor⟩ := h
      rw [hB] at hB2; cases hB2
      exact ⟨h1, B', p, n, cap, hB', hF, hn, by rw [← hm]; exact hor⟩
    · exact hm.elim
  | g xs => obtain rfl := hf; obtain ⟨vs, rfl, hl⟩ := h; exact ⟨vs, rfl, hl.mono hst⟩
  | t l => obtain rfl := hf; obtain ⟨vs, rfl, hs, hl⟩ := h; exact ⟨vs, rfl, hs, fun j y u hy hu => (hl j y u hy hu).mono hst⟩
  | el xs =>
    obtain rfl := hf
    obtain ⟨b, off, rfl, hS, hc⟩ := h
    refine ⟨b, off, rfl, fun hne => ?_, fun j y hy => let ⟨u, hu, hr⟩ := hc j y hy; ⟨u, hu, hr.mono hst⟩⟩
    obtain ⟨y, ys, rfl⟩ := List.exists_cons_of_ne_nil hne
    obtain ⟨u, hu, _⟩ := hc 0 y rfl
    exact (hst b (hS hne) (block_lt hu)).1

theorem fit_of2 {st st' : St} (hn : st'.n = st.n) (hsl : ∀ t y, look st'.sl t = some y → fitAV st.H st'.H (st.get t) y)
    (hbox : ∀ id cs', look st'.H.box id = some cs' → (id < st'.nx ∨ st.nx ≤ st'.nx) ∧ (match look st.H.box id with | some cs => fitL st.H st'.H cs cs' | none => st.nx ≤ id))
    (hbuf : ∀ id B', look st'.H.buf id = some B' → (id < st'.nx ∨ (st.nx ≤ st'.nx ∧ (look st.H.buf id).isSome = true)) ∧ (match look st.H.buf id with
      | some B => B.con = B'.con ∧ B.z = B'.z ∧ B.e = B'.e
      | none => st.nx ≤ id ∧ B'.con.rows = some (B'.z, []) ∧ 0 < B'.z))
    (hbor : ∀ k B, look st.H.bor k = some B → ∃ B', look st'.H.bor k = some B' ∧ B.e = B'.e ∧ B.con = B'.con) : Fit st st' := by
  intro F m a w hs
  have hst : Stays (F.S m) (F.S (fitMp st.H st'.H m)) w w := fitMp_stays w
  refine ⟨fitMp st.H st'.H m, hs.d, by rw [hn]; exact hs.sz, ⟨hs.h.os, hs.h.tape, hs.h.output, hs.h.size, hs.h.block, fun b ho => hs.h.fresh b (fitMp_own ho), hs.h.brB, hs.h.bri, ?_, ?_, ?_, ?_, ?_, ?_⟩, ?_, ?_⟩
  · intro i j b hi hj
    simp only [fitMp] at hi hj
    split at hi
    · split at hj
      · exact hs.h.ibb i j b hi hj
      · cases hj
    · cases hi
  · intro i j b v hi hj
    simp only [fitMp] at hi hj
    split at hi
    · split at hj
      · split at hj
        · exact hs.h.ibf i j b v hi hj
        · cases hj; simp [Value.ownBlock]
      · cases hj
    · cases hi
  · intro i j b u v hi hj hu hv
    simp only [fitMp] at hi hj
    split at hi
    · split at hi
      · split at hj
        · split at hj
          · exact hs.h.iff i j b u v hi hj hu hv
          · cases hj; simp [Value.ownBlock] at hv
        · cases hj
      · cases hi; simp [Value.ownBlock] at hu
    · cases hi
  · intro i b hi
    simp only [fitMp] at hi
    split at hi
    · rename_i hsome
      obtain ⟨cs', hcs'⟩ := Option.isSome_iff_exists.1 hsome
      obtain ⟨cs, arr, e, h1, h2, h3, h4⟩ := hs.h.box i b hi
      have hf := (hbox i cs' hcs').2
      rw [h1] at hf
      obtain ⟨hl, hj⟩ := fitL_get hf
      refine ⟨cs', arr, e, hcs', h2, by omega, fun j y u hy hu => ?_⟩
      have hlt := (List.getElem?_eq_some_iff.1 hy).1
      have hx : cs[j]? = some (cs[j]'(by omega)) := List.getElem?_eq_getElem _
      obtain ⟨g1, g2⟩ := h4 j _ u hx hu
      exact ⟨g1, fitAV_rep hs.h (hj j _ y hx hy) g2⟩
    · cases hi
  · intro i v hv
    simp only [fitMp] at hv
    split at hv
    · rename_i hsome
      obtain ⟨B', hB'⟩ := Option.isSome_iff_exists.1 hsome
      have hf := (hbuf i B' hB').2
      split at hv
      · rename_i hsome2
        obtain ⟨B, hB⟩ := Option.isSome_iff_exists.1 hsome2
        obtain ⟨B2, rs, xs, h1, h2, h3, h4, h5, h6⟩ := hs.h.buf i v hv
        rw [hB] at h1; cases h1
        rw [hB] at hf
        obtain ⟨e1, e2, e3⟩ := hf
        refine ⟨B', rs, xs, hB', by rw [← e1, ← e2]; exact h2, by rw [← e2]; exact h3, by rw [← e2]; exact h4, by rw [← e2, ← e3]; exact h5, fun i j y hy => ?_⟩
        obtain ⟨u, hu, hr⟩ := h6 i j y hy
        exact ⟨u, by rw [← e2]; exact hu, hr.mono hst⟩
      · rename_i hnone
        cases hv
        have : look st.H.buf i = none := by simpa using hnone
        rw [this] at hf
        obtain ⟨_, hr, hz⟩ := hf
        exact ⟨B', [], [], hB', hr, hz, by simp, World.ownsRow_nil .., fun i j y hy => by simp [at2] at hy⟩
    · cases hv
  · intro k v hv
    obtain ⟨B, rs, xs, h1, h2, h3, h4, h5, h6⟩ := hs.h.bor k v hv
    obtain ⟨B', hB', e1, e2⟩ := hbor k B h1
    refine ⟨B', rs, xs, hB', by rw [← e2]; exact h2, by rw [← e2]; exact h3, by rw [← e2]; exact h4, by rw [← e2, ← e1]; exact h5, fun i j y hy => ?_⟩
    obtain ⟨u, hu, hr⟩ := h6 i j y hy
    exact ⟨u, by rw [← e2]; exact hu, hr.mono hst⟩
  · intro i hi
    simp only [fitMp]
    constructor
    · split
      · rename_i hsome
        obtain ⟨cs', hcs'⟩ := Option.isSome_iff_exists.1 hsome
        rcases (hbox i cs' hcs').1 with h | h
        · omega
        · exact (hs.fr i (by omega)).1
      · rfl
    · split
      · rename_i hsome
        obtain ⟨B', hB'⟩ := Option.isSome_iff_exists.1 hsome
        rcases (hbuf i B' hB').1 with h | ⟨h, h2⟩
        · omega
        · rw [if_pos h2]; exact (hs.fr i (by omega)).2
      · rfl
  · intro t
    show RepA F st'.H (fitMp st.H st'.H m) w (match look st'.sl t with | some x => x | none => .u) _
    cases hl : look st'.sl t with
    | none => trivial
    | some y => exact fitAV_rep hs.h (hsl t y hl) (hs.sl t)

theorem fit_of {st st' : St} (h : FitP st st') : Fit st st' :=
  fit_of2 h.1 (fun _ _ hl => fitSl_get h.2.1 hl) (fun _ _ hl => let q := fitBox_get h.2.2.1 hl; ⟨.inl q.1, q.2⟩) (fun _ _ hl => let q := fitBuf_get h.2.2.2.1 hl; ⟨.inl q.1, q.2⟩)
    (fun _ _ hl => let ⟨B, B', h1, h2, h3, h4⟩ := fitBor_get h.2.2.2.2 hl; ⟨B', h2, by rw [h1] at hl; cases hl; exact h3, by rw [h1] at hl; cases hl; exact h4⟩)


/-- a value told without some buffers -/
def fzAV (H : Hp) (ids : List Nat) : AV → AV
  | .own id ver => match curB H id ver with | some B => if ids.contains id then .c B.con else .own id ver | none => .u
  | .oel _ _ _ _ => .u
  | .win _ _ _ _ => .u
  | .bel _ _ _ => .u
  | .bw k lo len => match look H.bor k with | some _ => .bw k lo len | none => .u
  | .bx id off => match look H.box id with | some _ => .bx id off | none => .u
  | x => x
/-- some buffers given up: their slices are views from now on -/
def St.fz (st : St) (ids : List Nat) : St :=
  { st with sl := st.sl.map fun p => (p.1, fzAV st.H ids p.2), H := ⟨st.H.box.map fun p => (p.1, p.2.map (fzAV st.H ids)), st.H.buf.filter fun p => !ids.contains p.1, st.H.bor⟩ }

theorem look_map {α β : Type} (f : α → β) : ∀ (l : List (Nat × α)) (t : Nat), look (l.map fun p => (p.1, f p.2)) t = (look l t).map f
  | [], t => rfl
  | (i, x) :: l, t => by
    simp only [List.map_cons, look, look_map f l t]
    split <;> rfl

theorem look_filter {α : Type} (ids : List Nat) : ∀ (l : List (Nat × α)) (t : Nat), look (l.filter fun p => !ids.contains p.1) t = if ids.contains t then none else look l t
  | [], t => by simp [look]
  | (i, x) :: l, t => by
    have ih := look_filter ids l t
    simp only [List.filter_cons]
    by_cases hc : ids.contains i = true
    · simp only [hc, Bool.not_true, Bool.false_eq_true, if_false, ih, look]
      by_cases hit : i = t
      · subst hit; simp only [hc, if_true]
      · have : (i == t) = false := by simp [hit]
        simp [this]
    · simp only [Bool.not_eq_true] at hc
      simp only [hc, Bool.not_false, if_true, look, ih]
      by_cases hit : i = t
      · subst hit; simp only [beq_self_eq_true, if_true, hc, Bool.false_eq_true, if_false]
      · have : (i == t) = false := by simp [hit]
        simp [this]

theorem curB_fz {H : Hp} {ids : List Nat} {bx : List (Nat × List AV)} {bo : List (Nat × Bor)} {id ver : Nat} (hc : ids.contains id = false) : curB ⟨bx, H.buf.filter fun p => !ids.contains p.1, bo⟩ id ver = curB H id ver := by
  simp only [curB, look_filter, hc, Bool.false_eq_true, if_false]

theorem fz_fitAV (st : St) (ids : List Nat) (x : AV) : fitAV st.H (st.fz ids).H x (fzAV st.H ids x) := by
  cases x with
  | c c => cases c <;> simp [fzAV, fitAV]
  | g xs => simp [fzAV, fitAV]
  | t l => simp [fzAV, fitAV]
  | el xs => simp [fzAV, fitAV]
  | u => simp [fzAV, fitAV]
  | oel => simp [fzAV, fitAV]
  | win => simp [fzAV, fitAV]
  | bel => simp [fzAV, fitAV]
  | bw k lo len =>
    simp only [fzAV]
    split
    · rename_i B hB
      simp only [fitAV]
      refine ⟨trivial, ?_⟩
      have : look (st.fz ids).H.bor k = some B := hB
      simp only [this, hB]
    · simp [fitAV]
  | bx id off =>
    simp only [fzAV]
    split
    · rename_i cs hcs
      simp only [fitAV]
      refine ⟨trivial, ?_⟩
      show (look (st.H.box.map fun p => (p.1, p.2.map (fzAV st.H ids))) id).isSome = true
      rw [look_map, hcs]; rfl
    · simp [fitAV]
  | own id ver =>
    simp only [fzAV]
    split
    · rename_i B hB
      split
      · rename_i hc
        simp only [fitAV, hB]
        refine ⟨?_, trivial⟩
        show look (st.H.buf.filter fun p => !ids.contains p.1) id = none
        rw [look_filter, if_pos hc]
      · rename_i hc
        simp only [Bool.not_eq_true] at hc
        simp only [fitAV]
        refine ⟨trivial, by rw [hB]; rfl, ?_⟩
        show (curB ⟨_, st.H.buf.filter fun p => !ids.contains p.1, _⟩ id ver).isSome = true
        rw [curB_fz hc, hB]; rfl
    · simp [fitAV]

theorem fitL_map (st : St) (ids : List Nat) : ∀ cs : List AV, fitL st.H (st.fz ids).H cs (cs.map (fzAV st.H ids))
  | [] => trivial
  | x :: cs => ⟨fz_fitAV st ids x, fitL_map st ids cs⟩

theorem fz_fit (st : St) (ids : List Nat) : Fit st (st.fz ids) := by
  refine fit_of2 rfl (fun t y hy => ?_) (fun id cs' hcs => ?_) (fun id B' hB => ?_) (fun k B hB => ⟨B, hB, rfl, rfl⟩)
  · have h : look (st.sl.map fun p => (p.1, fzAV st.H ids p.2)) t = some y := hy
    rw [look_map] at h
    obtain ⟨x, hx, rfl⟩ := Option.map_eq_some_iff.1 h
    have : st.get t = x := by simp [St.get, hx]
    rw [this]
    exact fz_fitAV st ids x
  · have h : look (st.H.box.map fun p => (p.1, p.2.map (fzAV st.H ids))) id = some cs' := hcs
    rw [look_map] at h
    obtain ⟨cs, hx, rfl⟩ := Option.map_eq_some_iff.1 h
    refine ⟨.inr (Nat.le_refl _), ?_⟩
    rw [hx]
    exact fitL_map st ids cs
  · have h : look (st.H.buf.filter fun p => !ids.contains p.1) id = some B' := hB
    rw [look_filter] at h
    split at h
    · cases h
    · rw [h]; exact ⟨.inr ⟨Nat.le_refl _, rfl⟩, rfl, rfl, rfl⟩

/-- the buffers among values -/
def ownIds : List AV → List Nat
  | .own id _ :: l => id :: ownIds l
  | _ :: l => ownIds l
  | [] => []
/-- what an operation needs told as views -/
def fzArgs (st : St) : Op → List AV
  | .call c => c.args.toList.map st.ev
  | .build _ ps => ps.toList.map fun p => st.ev p.2
  | _ => []
def fzFor (cf : Cfg) (st : St) (o : Op) : St := if fzB cf st o then st.fz (ownIds (fzArgs st o)) else st

theorem fzFor_fit (cf : Cfg) (st : St) (o : Op) : Fit st (fzFor cf st o) := by
  unfold fzFor
  split
  · exact fz_fit st _
  · exact fun F m a w h => ⟨m, h⟩

end Go.Abs
