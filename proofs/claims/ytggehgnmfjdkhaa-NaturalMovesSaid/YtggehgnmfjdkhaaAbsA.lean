/-
  An abstract reading of values and memory: lists for slices, own boxes for variables in memory, own buffers for slices that are still being built.
-/
import Derived.Below
import Derived.Calls
import Derived.Orders
import Derived.Laws.AppendOwn
import Derived.Laws.MakeOwn
import Derived.Laws.OwnMore
import Derived.Laws.Tables
import Derived.Laws.Rows
import Derived.Deep.MidRow
namespace Go.Abs
set_option linter.unusedSimpArgs false
set_option linter.unusedVariables false
open Go.RowKit

/-- What one cell reads as. -/
inductive C where
  | a (x : Value)
  | i (k : IntKind) (n : Int)
  | b (x : Bool)
  | str (s : ByteArray)
  | nil
  | e0
  | ints (k : IntKind) (xs : List Int)
  | bools (xs : List Bool)
  | sl (z : Nat) (xs : List (List C))

def C.z : C → Nat
  | .sl z _ => z
  | _ => 1

/-- The rows of a slice: how many cells an element has, and the elements. -/
def C.rows : C → Option (Nat × List (List C))
  | .ints k xs => some (1, xs.map fun x => [.i k x])
  | .bools xs => some (1, xs.map fun x => [.b x])
  | .sl z xs => some (z, xs)
  | _ => none

def at2 (rs : List (List C)) (i j : Nat) : Option C := (rs[i]?).bind (·[j]?)

abbrev oneCell (v : Value) : Bool := v.oneCell'

inductive Rd (w : World) (S : Nat → Prop) : C → Value → Prop where
  | a (x : Value) (h : oneCell x = true) : Rd w S (.a x) x
  | i (k : IntKind) (n : Int) : Rd w S (.i k n) (.int k n)
  | b (x : Bool) : Rd w S (.b x) (.bool x)
  | str (s : ByteArray) : Rd w S (.str s) (.string s)
  | nil : Rd w S .nil (.slice none 0 0)
  | e0 (a : Addr) (cap : Nat) : Rd w S .e0 (.slice (some a) 0 cap)
  | emp (c : C) (z : Nat) (p : Option Addr) (cap : Nat) (h : c.rows = some (z, [])) (hp : p = none → cap = 0) : Rd w S c (.slice p 0 cap)
  | sl (c : C) (z : Nat) (rs : List (List C)) (b off cap : Nat) (us : Nat → Nat → Value) (h : c.rows = some (z, rs)) (hne : rs ≠ []) (hz : 0 < z)
      (hm : rs.length ≤ maxLen) (hcap : rs.length ≤ cap) (hr : ∀ r ∈ rs, r.length = z) (hS : S b)
      (hc : ∀ i j y, at2 rs i j = some y → w.cell? ⟨b, off + (i * z + j), none⟩ = some (us i j))
      (hd : ∀ i j y, at2 rs i j = some y → Rd w S y (us i j)) : Rd w S c (.slice (some ⟨b, off, none⟩) rs.length cap)

theorem block_lt {w : World} {a : Addr} {v : Value} (h : w.cell? a = some v) : a.block < w.heap.size := World.block_lt_of_cell? w a h

theorem at2_00 {rs : List (List C)} {z : Nat} (hne : rs ≠ []) (hz : 0 < z) (hr : ∀ r ∈ rs, r.length = z) : ∃ y, at2 rs 0 0 = some y := by
  cases rs with
  | nil => exact absurd rfl hne
  | cons r rs =>
    have := hr r (List.mem_cons_self ..)
    cases r with
    | nil => simp at this; omega
    | cons y r => exact ⟨y, rfl⟩

theorem at2_in {rs : List (List C)} {z i j : Nat} (hr : ∀ r ∈ rs, r.length = z) (hi : i < rs.length) (hj : j < z) : ∃ y, at2 rs i j = some y := by
  have h1 : rs[i]? = some rs[i] := List.getElem?_eq_getElem hi
  have h2 : rs[i].length = z := hr _ (List.getElem_mem hi)
  exact ⟨(rs[i])[j]'(by omega), by simp [at2, h1, List.getElem?_eq_getElem (show j < rs[i].length by omega)]⟩

theorem at2_lt {rs : List (List C)} {z i j : Nat} {y : C} (hr : ∀ r ∈ rs, r.length = z) (h : at2 rs i j = some y) : i < rs.length ∧ j < z := by
  unfold at2 at h
  cases hi : rs[i]? with
  | none => simp [hi] at h
  | some r =>
    simp [hi] at h
    have hm : r ∈ rs := List.mem_of_getElem? hi
    have hl := hr r hm
    have h1 := (List.getElem?_eq_some_iff.1 hi).1
    have h2 := (List.getElem?_eq_some_iff.1 h).1
    exact ⟨h1, by omega⟩

/-- The blocks that a reading may look at stay as they are. -/
def Stays (S S' : Nat → Prop) (w w' : World) : Prop := ∀ b, S b → b < w.heap.size → S' b ∧ w'.heap[b]? = w.heap[b]?

theorem Stays.cell {S S' : Nat → Prop} {w w' : World} (h : Stays S S' w w') {a : Addr} {v : Value} (hS : S a.block) (hc : w.cell? a = some v) : w'.cell? a = some v :=
  (World.cell?_of_block (h a.block hS (block_lt hc)).2).trans hc

theorem Rd.mono {w w' : World} {S S' : Nat → Prop} {c : C} {v : Value} (hst : Stays S S' w w') (h : Rd w S c v) : Rd w' S' c v := by
  induction h with
  | a x h => exact .a x h
  | i k n => exact .i k n
  | b x => exact .b x
  | str s => exact .str s
  | nil => exact .nil
  | e0 a cap => exact .e0 a cap
  | emp c z p cap h hp => exact .emp c z p cap h hp
  | sl c z rs b off cap us h hne hz hm hcap hr hS hc hd ih =>
    obtain ⟨y, hy⟩ := at2_00 hne hz hr
    have hb := block_lt (hc 0 0 y hy)
    exact .sl c z rs b off cap us h hne hz hm hcap hr (hst b hS hb).1 (fun i j y hy => hst.cell hS (hc i j y hy)) ih

theorem Rd.one {w : World} {S : Nat → Prop} {c : C} {v : Value} (h : Rd w S c v) : oneCell v = true := by
  cases h <;> first | rfl | assumption

/-- What a slot holds. -/
inductive AV where
  | c (x : C)
  | g (xs : List C)
  | t (vs : List (C ⊕ List C))
  | bx (id off : Nat)
  | own (id ver : Nat)
  | oel (id ver i off : Nat)
  | win (id ver lo len : Nat)
  | bw (k lo len : Nat)
  | bel (k i off : Nat)
  | el (xs : List C)
  | u

structure Buf where
  ver : Nat
  e : TypeId
  z : Nat
  con : C

/-- What was handed over to be written: a row of a slice. -/
structure Bor where
  e : TypeId
  con : C

/-- The abstract memory of a call: its own boxes, its own buffers, what was handed over to be written. -/
structure Hp where
  box : List (Nat × List AV)
  buf : List (Nat × Buf)
  bor : List (Nat × Bor)

def look {α : Type} : List (Nat × α) → Nat → Option α
  | [], _ => none
  | (i, x) :: l, j => if i == j then some x else look l j

theorem look_cons {α : Type} (i : Nat) (x : α) (l : List (Nat × α)) (j : Nat) : look ((i, x) :: l) j = if i == j then some x else look l j := rfl

/-- Where the boxes lie, and what the buffers' slices are. -/
structure Mp where
  bx : Nat → Option Nat
  bf : Nat → Option Value

/-- The frame of a call: its world at the start, what it may look at, what it may write besides new memory. -/
structure Fr where
  w0 : World
  S0 : Nat → Prop
  B0 : List Nat
  br : Nat → Option Value

def Own (m : Mp) (b : Nat) : Prop := (∃ i, m.bx i = some b) ∨ (∃ i v, m.bf i = some v ∧ v.ownBlock = some b)

/-- What views may look at. -/
def Fr.S (F : Fr) (m : Mp) (b : Nat) : Prop := (F.S0 b ∧ b < F.w0.heap.size ∧ b ∉ F.B0) ∨ (F.w0.heap.size ≤ b ∧ ¬ Own m b)

def RdL (w : World) (S : Nat → Prop) (xs : List C) (vs : List Value) : Prop :=
  vs.length = xs.length ∧ ∀ (j : Nat) y u, xs[j]? = some y → vs[j]? = some u → Rd w S y u

def RdS (w : World) (S : Nat → Prop) : C ⊕ List C → Value → Prop
  | .inl x, v => Rd w S x v
  | .inr xs, v => ∃ vs, v = .agg vs ∧ RdL w S xs vs.toList

def RepA (F : Fr) (H : Hp) (m : Mp) (w : World) : AV → Value → Prop
  | .c x, v => Rd w (F.S m) x v
  | .g xs, v => ∃ vs, v = .agg vs ∧ RdL w (F.S m) xs vs.toList
  | .t l, v => ∃ vs, v = .tuple vs ∧ vs.size = l.length ∧ ∀ (j : Nat) y u, l[j]? = some y → vs[j]? = some u → RdS w (F.S m) y u
  | .bx id off, v => ∃ b, m.bx id = some b ∧ v = .pointer (some ⟨b, off, none⟩)
  | .own id ver, v => oneCell v = true ∧ ∃ B, look H.buf id = some B ∧ ver ≤ B.ver ∧ (B.ver = ver → m.bf id = some v)
  | .oel id ver i off, v => ∃ B, look H.buf id = some B ∧ ver ≤ B.ver ∧ (B.ver = ver → ∃ g n cap, m.bf id = some (.slice (some ⟨g, 0, none⟩) n cap) ∧ i < n ∧ off < B.z ∧ v = .pointer (some ⟨g, i * B.z + off, none⟩))
  | .win id ver lo len, v => oneCell v = true ∧ ∃ B, look H.buf id = some B ∧ ver ≤ B.ver ∧ (B.ver = ver → ∃ p n cap, m.bf id = some (.slice p n cap) ∧ lo + len ≤ n ∧
      v = .slice (if cap = lo then p else p.map (·.add (lo * B.z))) len (cap - lo))
  | .bw k lo len, v => oneCell v = true ∧ ∃ B p n cap, look H.bor k = some B ∧ F.br k = some (.slice p n cap) ∧ lo + len ≤ n ∧
      v = .slice (if cap = lo then p else p.map (·.add (lo * B.con.z))) len (cap - lo)
  | .bel k i off, v => ∃ B g n cap, look H.bor k = some B ∧ F.br k = some (.slice (some ⟨g, 0, none⟩) n cap) ∧ i < n ∧ off < B.con.z ∧ v = .pointer (some ⟨g, i * B.con.z + off, none⟩)
  | .el xs, v => ∃ b off, v = .pointer (some ⟨b, off, none⟩) ∧ (xs ≠ [] → F.S m b) ∧ ∀ (j : Nat) y, xs[j]? = some y → ∃ u, w.cell? ⟨b, off + j, none⟩ = some u ∧ Rd w (F.S m) y u
  | .u, _ => True

/-- The buffer's row of cells reads as its content. -/
def RdRow (w : World) (S : Nat → Prop) (z : Nat) (rs : List (List C)) (xs : List Value) : Prop :=
  ∀ i j y, at2 rs i j = some y → ∃ u, xs[i * z + j]? = some u ∧ Rd w S y u

structure HRep (F : Fr) (H : Hp) (m : Mp) (w : World) : Prop where
  os : w.os = F.w0.os
  tape : w.tape = F.w0.tape
  output : w.output = F.w0.output
  size : F.w0.heap.size ≤ w.heap.size
  block : ∀ k, k < F.w0.heap.size → k ∉ F.B0 → w.heap[k]? = F.w0.heap[k]?
  fresh : ∀ b, Own m b → F.w0.heap.size ≤ b
  brB : ∀ k v b, F.br k = some v → v.ownBlock = some b → b ∈ F.B0 ∧ b < F.w0.heap.size
  bri : ∀ i j b u v, F.br i = some u → F.br j = some v → u.ownBlock = some b → v.ownBlock = some b → i = j
  ibb : ∀ i j b, m.bx i = some b → m.bx j = some b → i = j
  ibf : ∀ i j b v, m.bx i = some b → m.bf j = some v → v.ownBlock ≠ some b
  iff : ∀ i j b u v, m.bf i = some u → m.bf j = some v → u.ownBlock = some b → v.ownBlock = some b → i = j
  box : ∀ i b, m.bx i = some b → ∃ cs arr e, look H.box i = some cs ∧ w.heap[b]? = some (.cells arr e (0, 0)) ∧ arr.size = cs.length ∧
    ∀ (j : Nat) x u, cs[j]? = some x → arr[j]? = some u → oneCell u = true ∧ RepA F H m w x u
  buf : ∀ i v, m.bf i = some v → ∃ B rs xs, look H.buf i = some B ∧ B.con.rows = some (B.z, rs) ∧ 0 < B.z ∧ (∀ r ∈ rs, r.length = B.z) ∧ w.ownsRow 0 B.e B.z v rs.length xs ∧ RdRow w (F.S m) B.z rs xs
  bor : ∀ k v, F.br k = some v → ∃ B rs xs, look H.bor k = some B ∧ B.con.rows = some (B.con.z, rs) ∧ 0 < B.con.z ∧ (∀ r ∈ rs, r.length = B.con.z) ∧ w.ownsRow 0 B.e B.con.z v rs.length xs ∧ RdRow w (F.S m) B.con.z rs xs

end Go.Abs
