/-
  What stays as it is behind a step; a step's meaning.
-/
import Derived.Test.YtggehgnmfjdkhaaAbsA
namespace Go.Abs
set_option linter.unusedSimpArgs false
set_option linter.unusedVariables false
open Go.RowKit

structure Later (F : Fr) (H : Hp) (m : Mp) (w : World) (H' : Hp) (m' : Mp) (w' : World) : Prop where
  st : Stays (F.S m) (F.S m') w w'
  bx : ∀ i b, m.bx i = some b → m'.bx i = some b
  bf : ∀ id B, look H.buf id = some B → ∃ B', look H'.buf id = some B' ∧ B.ver ≤ B'.ver ∧ (B'.ver = B.ver → (∀ v, m.bf id = some v → m'.bf id = some v) ∧ B'.z = B.z)
  bo : ∀ k B, look H.bor k = some B → ∃ B', look H'.bor k = some B' ∧ B'.con.z = B.con.z

theorem RdL.mono {w w' : World} {S S' : Nat → Prop} {xs : List C} {vs : List Value} (hst : Stays S S' w w') (h : RdL w S xs vs) : RdL w' S' xs vs :=
  ⟨h.1, fun j y u hy hu => (h.2 j y u hy hu).mono hst⟩

theorem RdS.mono {w w' : World} {S S' : Nat → Prop} {x : C ⊕ List C} {v : Value} (hst : Stays S S' w w') (h : RdS w S x v) : RdS w' S' x v := by
  cases x with
  | inl x => exact Rd.mono hst h
  | inr xs => obtain ⟨vs, rfl, h⟩ := h; exact ⟨vs, rfl, h.mono hst⟩

theorem Later.rep {F : Fr} {H H' : Hp} {m m' : Mp} {w w' : World} (hl : Later F H m w H' m' w') {av : AV} {v : Value} (h : RepA F H m w av v) : RepA F H' m' w' av v := by
  cases av with
  | c x => exact Rd.mono hl.st h
  | g xs => obtain ⟨vs, rfl, h⟩ := h; exact ⟨vs, rfl, h.mono hl.st⟩
  | t l => obtain ⟨vs, rfl, hs, h⟩ := h; exact ⟨vs, rfl, hs, fun j y u hy hu => (h j y u hy hu).mono hl.st⟩
  | bx id off => obtain ⟨b, hb, rfl⟩ := h; exact ⟨b, hl.bx _ _ hb, rfl⟩
  | own id ver =>
    obtain ⟨h1, B, hB, hv, h⟩ := h
    obtain ⟨B', hB', hle, hk⟩ := hl.bf id B hB
    refine ⟨h1, B', hB', by omega, fun e => ?_⟩
    have e2 : B'.ver = B.ver := by omega
    exact (hk e2).1 v (h (by omega))
  | oel id ver i off =>
    obtain ⟨B, hB, hv, h⟩ := h
    obtain ⟨B', hB', hle, hk⟩ := hl.bf id B hB
    refine ⟨B', hB', by omega, fun e => ?_⟩
    have e2 : B'.ver = B.ver := by omega
    obtain ⟨g, n, cap, hg, hi, ho, rfl⟩ := h (by omega)
    refine ⟨g, n, cap, (hk e2).1 _ hg, hi, ?_, ?_⟩
    · rw [(hk e2).2]; exact ho
    · rw [(hk e2).2]
  | win id ver lo len =>
    obtain ⟨h1, B, hB, hv, h⟩ := h
    obtain ⟨B', hB', hle, hk⟩ := hl.bf id B hB
    refine ⟨h1, B', hB', by omega, fun e => ?_⟩
    have e2 : B'.ver = B.ver := by omega
    obtain ⟨p, n, cap, hm, hn, hh⟩ := h (by omega)
    refine ⟨p, n, cap, (hk e2).1 _ hm, hn, ?_⟩
    rw [(hk e2).2]; exact hh
  | bw k lo len =>
    obtain ⟨h1, B, p, n, cap, hB, hF, hn, hh⟩ := h
    obtain ⟨B', hB', hz⟩ := hl.bo k B hB
    exact ⟨h1, B', p, n, cap, hB', hF, hn, by rw [hz]; exact hh⟩
  | bel k i off =>
    obtain ⟨B, g, n, cap, hB, hF, hn, ho, hh⟩ := h
    obtain ⟨B', hB', hz⟩ := hl.bo k B hB
    exact ⟨B', g, n, cap, hB', hF, hn, by rw [hz]; exact ho, by rw [hz]; exact hh⟩
  | el xs =>
    obtain ⟨b, off, rfl, hS, h⟩ := h
    by_cases he : xs = []
    · subst he
      exact ⟨b, off, rfl, fun h => absurd rfl h, fun j y hy => by simp at hy⟩
    · have hS2 := hS he
      clear hS
      obtain ⟨y, ys, rfl⟩ := List.exists_cons_of_ne_nil he
      obtain ⟨u, hu, _⟩ := h 0 y rfl
      have hb := (hl.st b hS2 (block_lt hu)).1
      exact ⟨b, off, rfl, fun _ => hb, fun j y hy => let ⟨u, hu, hr⟩ := h j y hy; ⟨u, hl.st.cell (a := ⟨b, off + j, none⟩) hS2 hu, hr.mono hl.st⟩⟩
  | u => trivial


/-- The world grows: nothing that was there turns. -/
abbrev Ext (w w' : World) : Prop := Below w.heap.size w w'

theorem Ext.trans {a b c : World} (h : Ext a b) (k : Ext b c) : Ext a c := Below.trans h (k.mono h.size)

theorem HRep.ext_later {F : Fr} {H : Hp} {m : Mp} {w w' : World} (he : Ext w w') : Later F H m w H m w' where
  st b hS hb := ⟨hS, he.block b hb⟩
  bx i b h := h
  bf id B h := ⟨B, h, Nat.le_refl _, fun _ => ⟨fun _ h => h, rfl⟩⟩
  bo k B h := ⟨B, h, rfl⟩

theorem own_lt {F : Fr} {H : Hp} {m : Mp} {w : World} (h : HRep F H m w) {b : Nat} (ho : Own m b) : b < w.heap.size := by
  rcases ho with ⟨i, hi⟩ | ⟨i, v, hv, hb⟩
  · obtain ⟨cs, arr, e, _, hh, _⟩ := h.box i b hi
    exact (Array.getElem?_eq_some_iff.1 hh).1
  · obtain ⟨B, rs, xs, _, _, _, _, ho, _⟩ := h.buf i v hv
    exact (ho.lt b hb).2

theorem HRep.ext {F : Fr} {H : Hp} {m : Mp} {w w' : World} (h : HRep F H m w) (he : Ext w w') : HRep F H m w' where
  os := he.os.trans h.os
  tape := he.tape.trans h.tape
  output := he.output.trans h.output
  size := Nat.le_trans h.size he.size
  block k hk hb := (he.block k (Nat.lt_of_lt_of_le hk h.size)).trans (h.block k hk hb)
  fresh := h.fresh
  brB := h.brB
  bri := h.bri
  ibb := h.ibb
  ibf := h.ibf
  iff := h.iff
  box i b hb := by
    obtain ⟨cs, arr, e, h1, h2, h3, h4⟩ := h.box i b hb
    exact ⟨cs, arr, e, h1, (he.block b (Array.getElem?_eq_some_iff.1 h2).1).trans h2, h3, fun j x u hx hu => ⟨(h4 j x u hx hu).1, (HRep.ext_later he).rep (h4 j x u hx hu).2⟩⟩
  buf i v hv := by
    obtain ⟨B, rs, xs, h1, h2, h3, h4, h5, h6⟩ := h.buf i v hv
    refine ⟨B, rs, xs, h1, h2, h3, h4, h5.kept (row := none) ⟨he.os, he.tape, he.output, he.size, fun k hk _ => he.block k hk⟩ (by cases v.ownBlock <;> simp), ?_⟩
    intro i j y hy
    obtain ⟨u, hu, hr⟩ := h6 i j y hy
    exact ⟨u, hu, hr.mono (HRep.ext_later (H := H) he).st⟩
  bor k v hv := by
    obtain ⟨B, rs, xs, h1, h2, h3, h4, h5, h6⟩ := h.bor k v hv
    refine ⟨B, rs, xs, h1, h2, h3, h4, h5.kept (row := none) ⟨he.os, he.tape, he.output, he.size, fun k hk _ => he.block k hk⟩ (by cases v.ownBlock <;> simp), ?_⟩
    intro i j y hy
    obtain ⟨u, hu, hr⟩ := h6 i j y hy
    exact ⟨u, hu, hr.mono (HRep.ext_later (H := H) he).st⟩

/-- Another abstract memory that says the same of what lies. -/
theorem HRep.hp {F : Fr} {H H' : Hp} {m : Mp} {w : World} (h : HRep F H m w) (hb : ∀ i b, m.bx i = some b → look H'.box i = look H.box i)
    (hf : ∀ i B, look H.buf i = some B → look H'.buf i = some B) (hbo : H'.bor = H.bor) : HRep F H' m w ∧ Later F H m w H' m w := by
  have hl : Later F H m w H' m w := ⟨fun b hS _ => ⟨hS, rfl⟩, fun _ _ h => h, fun id B hB => ⟨B, hf id B hB, Nat.le_refl _, fun _ => ⟨fun _ h => h, rfl⟩⟩, fun k B hB => ⟨B, by rw [hbo]; exact hB, rfl⟩⟩
  refine ⟨⟨h.os, h.tape, h.output, h.size, h.block, h.fresh, h.brB, h.bri, h.ibb, h.ibf, h.iff, ?_, ?_, ?_⟩, hl⟩
  · intro i b hi
    obtain ⟨cs, arr, e, h1, h2, h3, h4⟩ := h.box i b hi
    exact ⟨cs, arr, e, (hb i b hi).trans h1, h2, h3, fun j x u hx hu => ⟨(h4 j x u hx hu).1, hl.rep (h4 j x u hx hu).2⟩⟩
  · intro i v hv
    obtain ⟨B, rs, xs, h1, h2⟩ := h.buf i v hv
    exact ⟨B, rs, xs, hf i B h1, h2⟩
  · intro k v hv
    obtain ⟨B, rs, xs, h1, h2⟩ := h.bor k v hv
    exact ⟨B, rs, xs, by rw [hbo]; exact h1, h2⟩

def Mp.addBx (m : Mp) (id b : Nat) : Mp := { m with bx := fun i => if i = id then some b else m.bx i }
def Mp.addBf (m : Mp) (id : Nat) (v : Option Value) : Mp := { m with bf := fun i => if i = id then v else m.bf i }

theorem alloc_ext (w : World) (o : Obj) : Ext w (w.alloc o) := (Below.refl _ _).alloc (Nat.le_refl _) o

/-- A new box: the abstract memory tells already what it will hold. -/
theorem HRep.newBox {F : Fr} {H : Hp} {m : Mp} {w : World} (h : HRep F H m w) (id : Nat) (hid : m.bx id = none) (arr : Array Value) (e : TypeId) (cs : List AV) (hl : look H.box id = some cs)
    (hs : arr.size = cs.length) (hr : ∀ (j : Nat) x u, cs[j]? = some x → arr[j]? = some u → oneCell u = true ∧ RepA F H m w x u) :
    HRep F H (m.addBx id w.heap.size) (w.alloc (.cells arr e)) ∧ Later F H m w H (m.addBx id w.heap.size) (w.alloc (.cells arr e)) := by
  have hlt : ∀ b, Own m b → b < w.heap.size := fun b ho => own_lt h ho
  have hown : ∀ b, Own (m.addBx id w.heap.size) b → Own m b ∨ b = w.heap.size := by
    rintro b (⟨i, hi⟩ | ⟨i, v, hv, hb⟩)
    · simp only [Mp.addBx] at hi
      split at hi
      · simp at hi; exact .inr hi.symm
      · exact .inl (.inl ⟨i, hi⟩)
    · exact .inl (.inr ⟨i, v, hv, hb⟩)
  have hlat : Later F H m w H (m.addBx id w.heap.size) (w.alloc (.cells arr e)) := by
    refine ⟨fun b hS hb => ⟨?_, Below.heap_alloc w _ b hb⟩, ?_, fun id B h => ⟨B, h, Nat.le_refl _, fun _ => ⟨fun _ h => h, rfl⟩⟩, fun k B h => ⟨B, h, rfl⟩⟩
    · rcases hS with hS | ⟨h1, h2⟩
      · exact .inl hS
      · refine .inr ⟨h1, fun ho => ?_⟩
        rcases hown b ho with ho | rfl
        · exact h2 ho
        · omega
    · intro i b hi
      simp only [Mp.addBx]
      split
      · subst i; rw [hid] at hi; cases hi
      · exact hi
  have hext := h.ext (alloc_ext w (.cells arr e))
  refine ⟨?_, hlat⟩
  refine ⟨hext.os, hext.tape, hext.output, hext.size, hext.block, ?_, h.brB, h.bri, ?_, ?_, ?_, ?_, ?_, ?_⟩
  · intro b ho
    rcases hown b ho with ho | rfl
    · exact h.fresh b ho
    · exact h.size
  · intro i j b hi hj
    simp only [Mp.addBx] at hi hj
    split at hi <;> split at hj
    · omega
    · simp at hi; subst hi; have := hlt _ (.inl ⟨j, hj⟩); omega
    · simp at hj; subst hj; have := hlt _ (.inl ⟨i, hi⟩); omega
    · exact h.ibb i j b hi hj
  · intro i j b v hi hj hv
    simp only [Mp.addBx] at hi
    split at hi
    · simp at hi; subst hi; have := hlt _ (.inr ⟨j, v, hj, hv⟩); omega
    · exact h.ibf i j b v hi hj hv
  · exact h.iff
  · intro i b hi
    simp only [Mp.addBx] at hi
    split at hi
    · subst i; simp at hi; subst hi
      exact ⟨cs, arr, e, hl, heap_alloc_new w _, hs, fun j x u hx hu => ⟨(hr j x u hx hu).1, hlat.rep (hr j x u hx hu).2⟩⟩
    · obtain ⟨cs', arr', e', h1, h2, h3, h4⟩ := h.box i b hi
      exact ⟨cs', arr', e', h1, (Below.heap_alloc w _ b (Array.getElem?_eq_some_iff.1 h2).1).trans h2, h3, fun j x u hx hu => ⟨(h4 j x u hx hu).1, hlat.rep (h4 j x u hx hu).2⟩⟩
  · intro i v hv
    obtain ⟨B, rs, xs, h1, h2, h3, h4, h5, h6⟩ := h.buf i v hv
    exact ⟨B, rs, xs, h1, h2, h3, h4, h5.alloc _, fun i j y hy => let ⟨u, hu, hr⟩ := h6 i j y hy; ⟨u, hu, hr.mono hlat.st⟩⟩
  · intro k v hv
    obtain ⟨B, rs, xs, h1, h2, h3, h4, h5, h6⟩ := h.bor k v hv
    exact ⟨B, rs, xs, h1, h2, h3, h4, h5.alloc _, fun i j y hy => let ⟨u, hu, hr⟩ := h6 i j y hy; ⟨u, hu, hr.mono hlat.st⟩⟩

theorem own_not_S {F : Fr} {H : Hp} {m : Mp} {w : World} (h : HRep F H m w) {b : Nat} (ho : Own m b) : ¬ F.S m b := by
  rintro (⟨_, h1, h2⟩ | ⟨_, h2⟩)
  · have h3 := h.fresh b ho
    omega
  · exact h2 ho

/-- what was handed over is neither looked at nor own -/
theorem br_not_S {F : Fr} {H : Hp} {m : Mp} {w : World} (h : HRep F H m w) {k b : Nat} {v : Value} (hk : F.br k = some v) (hb : v.ownBlock = some b) : ¬ F.S m b ∧ ¬ Own m b := by
  obtain ⟨h1, h2⟩ := h.brB k v b hk hb
  refine ⟨?_, fun ho => by have := h.fresh b ho; omega⟩
  rintro (⟨_, _, h3⟩ | ⟨h3, _⟩)
  · exact h3 h1
  · omega

theorem heap_setCell_same (w : World) (b off : Nat) (v : Value) (arr : Array Value) (e : TypeId) (fz : Nat × Nat) (h : w.heap[b]? = some (.cells arr e fz)) :
    (w.setCell ⟨b, off, none⟩ v).heap[b]? = some (.cells (arr.setIfInBounds off v) e fz) := by
  simp [World.setCell, Array.getElem?_modify, h]

/-- A store into a box, of one cell or of many. -/
theorem HRep.setBox {F : Fr} {H H' : Hp} {m : Mp} {w : World} (h : HRep F H m w) {id b : Nat} {cs cs' : List AV} {arr arr' : Array Value} {e : TypeId} (hb : m.bx id = some b) (hcs : look H.box id = some cs)
    (harr : w.heap[b]? = some (.cells arr e (0, 0))) (hlen : arr'.size = cs'.length) (hx : ∀ (j : Nat) x u, cs'[j]? = some x → arr'[j]? = some u → oneCell u = true ∧ RepA F H m w x u)
    (hid : look H'.box id = some cs') (hne : ∀ i, i ≠ id → look H'.box i = look H.box i) (hbuf : H'.buf = H.buf) (hbo : H'.bor = H.bor) :
    HRep F H' m (w.setRow b arr') ∧ Later F H m w H' m (w.setRow b arr') := by
  have hother : ∀ k, k ≠ b → (w.setRow b arr').heap[k]? = w.heap[k]? := fun k hk => setRow_other w b k arr' hk
  have hsz : (w.setRow b arr').heap.size = w.heap.size := setRow_size w b arr'
  have hlat : Later F H m w H' m (w.setRow b arr') := by
    refine ⟨fun k hS _ => ⟨hS, hother k (fun e => ?_)⟩, fun _ _ h => h, fun id B hB => ⟨B, by rw [hbuf]; exact hB, Nat.le_refl _, fun _ => ⟨fun _ h => h, rfl⟩⟩, fun k B hB => ⟨B, by rw [hbo]; exact hB, rfl⟩⟩
    subst e
    exact own_not_S h (.inl ⟨id, hb⟩) hS
  refine ⟨⟨h.os, h.tape, h.output, by rw [hsz]; exact h.size, ?_, h.fresh, h.brB, h.bri, h.ibb, h.ibf, h.iff, ?_, ?_, ?_⟩, hlat⟩
  · intro k hk hkB
    rw [hother k (fun e => ?_)]
    · exact h.block k hk hkB
    · subst e
      have h3 := h.fresh k (.inl ⟨id, hb⟩)
      omega
  · intro i b' hi
    by_cases hii : i = id
    · subst hii
      rw [hb] at hi; cases hi
      exact ⟨cs', arr', e, hid, setRow_heap w b arr arr' e (0, 0) harr, hlen, fun j y u hy hu => ⟨(hx j y u hy hu).1, hlat.rep (hx j y u hy hu).2⟩⟩
    · obtain ⟨cs2, arr2, e2, h2, h3, h4, h5⟩ := h.box i b' hi
      refine ⟨cs2, arr2, e2, by rw [hne i hii]; exact h2, ?_, h4, fun j y u hy hu => ⟨(h5 j y u hy hu).1, hlat.rep (h5 j y u hy hu).2⟩⟩
      rw [hother b' (fun e => hii (by subst e; exact h.ibb i id _ hi hb))]
      exact h3
  · intro i v' hv
    obtain ⟨B, rs, xs, h2, h3, h4, h5, h6, h7⟩ := h.buf i v' hv
    refine ⟨B, rs, xs, by rw [hbuf]; exact h2, h3, h4, h5, ?_, fun i j y hy => let ⟨u, hu, hr⟩ := h7 i j y hy; ⟨u, hu, hr.mono hlat.st⟩⟩
    refine h6.kept (row := some b) ⟨rfl, rfl, rfl, by rw [hsz]; exact Nat.le_refl _, fun k _ hk => hother k (fun e => hk (by rw [e]))⟩ ?_
    cases hob : v'.ownBlock with
    | none => exact .inl rfl
    | some g => exact .inr (fun e => by cases e; exact h.ibf id i b v' hb hv hob)
  · intro i v' hv
    obtain ⟨B, rs, xs, h2, h3, h4, h5, h6, h7⟩ := h.bor i v' hv
    refine ⟨B, rs, xs, by rw [hbo]; exact h2, h3, h4, h5, ?_, fun i j y hy => let ⟨u, hu, hr⟩ := h7 i j y hy; ⟨u, hu, hr.mono hlat.st⟩⟩
    refine h6.kept (row := some b) ⟨rfl, rfl, rfl, by rw [hsz]; exact Nat.le_refl _, fun k _ hk => hother k (fun e => hk (by rw [e]))⟩ ?_
    cases hob : v'.ownBlock with
    | none => exact .inl rfl
    | some g => exact .inr (fun e => by cases e; exact (br_not_S h hv hob).2 (.inl ⟨id, hb⟩))

/-- A step of a buffer: made, grown, written or cut. -/
theorem HRep.bufStep {F : Fr} {H H' : Hp} {m : Mp} {w w' : World} (h : HRep F H m w) {id : Nat} {row : Option Nat} {B' : Buf} {v' : Value} {rs : List (List C)} {xs : List Value}
    (hg : w.grownBy w' row) (hrow : ∀ g, row = some g → ∃ v, m.bf id = some v ∧ v.ownBlock = some g) 
    (hnew : ∀ g, v'.ownBlock = some g → row = some g ∨ w.heap.size ≤ g)
    (hB : ∀ B, look H.buf id = some B → B.ver < B'.ver ∨ (B'.ver = B.ver ∧ m.bf id = some v' ∧ B'.z = B.z))
    (hid : look H'.buf id = some B') (hne : ∀ i, i ≠ id → look H'.buf i = look H.buf i) (hbox : H'.box = H.box) (hbo : H'.bor = H.bor)
    (hc : B'.con.rows = some (B'.z, rs)) (hz : 0 < B'.z) (hr : ∀ r ∈ rs, r.length = B'.z) (ho : w'.ownsRow 0 B'.e B'.z v' rs.length xs) (hx : RdRow w (F.S m) B'.z rs xs) :
    HRep F H' (m.addBf id (some v')) w' ∧ Later F H m w H' (m.addBf id (some v')) w' := by
  have hrowOwn : ∀ g, row = some g → Own m g := fun g hgr => let ⟨v, hv, hb⟩ := hrow g hgr; .inr ⟨id, v, hv, hb⟩
  have hown : ∀ b, Own (m.addBf id (some v')) b → Own m b ∨ w.heap.size ≤ b := by
    rintro b (⟨i, hi⟩ | ⟨i, v, hv, hb⟩)
    · exact .inl (.inl ⟨i, hi⟩)
    · simp only [Mp.addBf] at hv
      split at hv
      · cases hv
        rcases hnew b hb with h1 | h1
        · exact .inl (hrowOwn b h1)
        · exact .inr h1
      · exact .inl (.inr ⟨i, v, hv, hb⟩)
  have hlat : Later F H m w H' (m.addBf id (some v')) w' := by
    refine ⟨fun k hS hk => ⟨?_, hg.block k hk (fun e => own_not_S h (hrowOwn k e.symm) hS)⟩, fun _ _ h => h, fun i B hiB => ?_, fun k B hB => ⟨B, by rw [hbo]; exact hB, rfl⟩⟩
    · rcases hS with hS | ⟨h1, h2⟩
      · exact .inl hS
      · exact .inr ⟨h1, fun hoo => by rcases hown k hoo with h3 | h3 <;> first | exact h2 h3 | omega⟩
    · by_cases hi : i = id
      · subst hi
        refine ⟨B', hid, by rcases hB B hiB with h1 | h1 <;> omega, fun e => ?_⟩
        rcases hB B hiB with h1 | ⟨_, h2, h3⟩
        · omega
        · exact ⟨fun v hv => by simp [Mp.addBf]; rw [h2] at hv; exact Option.some.inj hv, h3⟩
      · exact ⟨B, by rw [hne i hi]; exact hiB, Nat.le_refl _, fun _ => ⟨fun v hv => by simp [Mp.addBf, hi]; exact hv, rfl⟩⟩
  have hblk : ∀ k, k < w.heap.size → row ≠ some k → w'.heap[k]? = w.heap[k]? := fun k hk hn => hg.block k hk (fun e => hn e.symm)
  refine ⟨⟨hg.os.trans h.os, hg.tape.trans h.tape, hg.output.trans h.output, Nat.le_trans h.size hg.size, ?_, ?_, h.brB, h.bri, h.ibb, ?_, ?_, ?_, ?_, ?_⟩, hlat⟩
  · intro k hk hkB
    rw [hblk k (Nat.lt_of_lt_of_le hk h.size) (fun e => ?_)]
    · exact h.block k hk hkB
    · have h3 := h.fresh k (hrowOwn k e)
      omega
  · intro b hob
    rcases hown b hob with h1 | h1
    · exact h.fresh b h1
    · exact Nat.le_trans h.size h1
  · intro i j b v hi hj hv
    simp only [Mp.addBf] at hi hj
    split at hj
    · cases hj
      rcases hnew b hv with h1 | h1
      · obtain ⟨v0, hv0, hb0⟩ := hrow b h1
        exact h.ibf i id b v0 hi hv0 hb0
      · have := own_lt h (.inl ⟨i, hi⟩ : Own m b); omega
    · exact h.ibf i j b v hi hj hv
  · intro i j b u v hi hj hu hv
    simp only [Mp.addBf] at hi hj
    split at hi <;> split at hj
    · omega
    · cases hi
      rcases hnew b hu with h1 | h1
      · obtain ⟨v0, hv0, hb0⟩ := hrow b h1
        have := h.iff j id b v v0 hj hv0 hv hb0; omega
      · have := own_lt h (.inr ⟨j, v, hj, hv⟩ : Own m b); omega
    · cases hj
      rcases hnew b hv with h1 | h1
      · obtain ⟨v0, hv0, hb0⟩ := hrow b h1
        have := h.iff i id b u v0 hi hv0 hu hb0; omega
      · have := own_lt h (.inr ⟨i, u, hi, hu⟩ : Own m b); omega
    · exact h.iff i j b u v hi hj hu hv
  · intro i b hi
    obtain ⟨cs, arr, e, h2, h3, h4, h5⟩ := h.box i b hi
    refine ⟨cs, arr, e, by rw [hbox]; exact h2, ?_, h4, fun j y u hy hu => ⟨(h5 j y u hy hu).1, hlat.rep (h5 j y u hy hu).2⟩⟩
    rw [hblk b (Array.getElem?_eq_some_iff.1 h3).1 (fun e => ?_)]
    · exact h3
    · obtain ⟨v0, hv0, hb0⟩ := hrow b e
      exact h.ibf i id b v0 hi hv0 hb0
  · intro i v hv
    simp only [Mp.addBf] at hv
    split at hv
    · subst i
      cases hv
      exact ⟨B', rs, xs, hid, hc, hz, hr, ho, fun i j y hy => let ⟨u, hu, hrd⟩ := hx i j y hy; ⟨u, hu, hrd.mono hlat.st⟩⟩
    · rename_i hi
      obtain ⟨B, rs2, xs2, h2, h3, h4, h5, h6, h7⟩ := h.buf i v hv
      refine ⟨B, rs2, xs2, by rw [hne i hi]; exact h2, h3, h4, h5, ?_, fun i j y hy => let ⟨u, hu, hrd⟩ := h7 i j y hy; ⟨u, hu, hrd.mono hlat.st⟩⟩
      refine h6.kept (row := row) hg ?_
      cases hob : v.ownBlock with
      | none => exact .inl rfl
      | some g =>
        refine .inr (fun e => ?_)
        obtain ⟨v0, hv0, hb0⟩ := hrow g e.symm
        exact hi (h.iff i id g v v0 hv hv0 hob hb0)
  · intro i v hv
    obtain ⟨B, rs2, xs2, h2, h3, h4, h5, h6, h7⟩ := h.bor i v hv
    refine ⟨B, rs2, xs2, by rw [hbo]; exact h2, h3, h4, h5, ?_, fun i j y hy => let ⟨u, hu, hrd⟩ := h7 i j y hy; ⟨u, hu, hrd.mono hlat.st⟩⟩
    refine h6.kept (row := row) hg ?_
    cases hob : v.ownBlock with
    | none => exact .inl rfl
    | some g => exact .inr (fun e => (br_not_S h hv hob).2 (hrowOwn g e.symm))

/-- a step of a row that was handed over -/
theorem HRep.borStep {F : Fr} {H H' : Hp} {m : Mp} {w w' : World} (h : HRep F H m w) {k : Nat} {B B' : Bor} {v : Value} {rs : List (List C)} {xs : List Value}
    (hk : F.br k = some v) (hg : w.grownBy w' v.ownBlock) (hB : look H.bor k = some B) (hz' : B'.con.z = B.con.z)
    (hid : look H'.bor k = some B') (hne : ∀ i, i ≠ k → look H'.bor i = look H.bor i) (hbox : H'.box = H.box) (hbuf : H'.buf = H.buf)
    (hc : B'.con.rows = some (B'.con.z, rs)) (hz : 0 < B'.con.z) (hr : ∀ r ∈ rs, r.length = B'.con.z) (ho : w'.ownsRow 0 B'.e B'.con.z v rs.length xs) (hx : RdRow w (F.S m) B'.con.z rs xs) :
    HRep F H' m w' ∧ Later F H m w H' m w' := by
  have hblk : ∀ j, j < w.heap.size → v.ownBlock ≠ some j → w'.heap[j]? = w.heap[j]? := fun j hj hn => hg.block j hj (fun e => hn e.symm)
  have hlat : Later F H m w H' m w' := by
    refine ⟨fun j hS hj => ⟨hS, hblk j hj (fun e => (br_not_S h hk e).1 hS)⟩, fun _ _ h => h, fun i B hiB => ⟨B, by rw [hbuf]; exact hiB, Nat.le_refl _, fun _ => ⟨fun _ h => h, rfl⟩⟩, fun i B2 hiB => ?_⟩
    by_cases hi : i = k
    · subst hi
      rw [hB] at hiB; cases hiB
      exact ⟨B', hid, hz'⟩
    · exact ⟨B2, by rw [hne i hi]; exact hiB, rfl⟩
  refine ⟨⟨hg.os.trans h.os, hg.tape.trans h.tape, hg.output.trans h.output, Nat.le_trans h.size hg.size, ?_, h.fresh, h.brB, h.bri, h.ibb, h.ibf, h.iff, ?_, ?_, ?_⟩, hlat⟩
  · intro j hj hjB
    rw [hblk j (Nat.lt_of_lt_of_le hj h.size) (fun e => hjB (h.brB k v j hk e).1)]
    exact h.block j hj hjB
  · intro i b hi
    obtain ⟨cs, arr, e, h2, h3, h4, h5⟩ := h.box i b hi
    refine ⟨cs, arr, e, by rw [hbox]; exact h2, ?_, h4, fun j y u hy hu => ⟨(h5 j y u hy hu).1, hlat.rep (h5 j y u hy hu).2⟩⟩
    rw [hblk b (Array.getElem?_eq_some_iff.1 h3).1 (fun e => (br_not_S h hk e).2 (.inl ⟨i, hi⟩))]
    exact h3
  · intro i v2 hv2
    obtain ⟨B2, rs2, xs2, h2, h3, h4, h5, h6, h7⟩ := h.buf i v2 hv2
    refine ⟨B2, rs2, xs2, by rw [hbuf]; exact h2, h3, h4, h5, ?_, fun i j y hy => let ⟨u, hu, hrd⟩ := h7 i j y hy; ⟨u, hu, hrd.mono hlat.st⟩⟩
    refine h6.kept hg ?_
    cases hob : v2.ownBlock with
    | none => exact .inl rfl
    | some g => exact .inr (fun e => (br_not_S h hk e.symm).2 (.inr ⟨i, v2, hv2, hob⟩))
  · intro i v2 hv2
    by_cases hi : i = k
    · subst hi
      rw [hk] at hv2; cases hv2
      exact ⟨B', rs, xs, hid, hc, hz, hr, ho, fun i j y hy => let ⟨u, hu, hrd⟩ := hx i j y hy; ⟨u, hu, hrd.mono hlat.st⟩⟩
    · obtain ⟨B2, rs2, xs2, h2, h3, h4, h5, h6, h7⟩ := h.bor i v2 hv2
      refine ⟨B2, rs2, xs2, by rw [hne i hi]; exact h2, h3, h4, h5, ?_, fun i j y hy => let ⟨u, hu, hrd⟩ := h7 i j y hy; ⟨u, hu, hrd.mono hlat.st⟩⟩
      refine h6.kept hg ?_
      cases hob : v2.ownBlock with
      | none => exact .inl rfl
      | some g => exact .inr (fun e => hi (h.bri i k g v2 v hv2 hk hob e.symm))

/-- A buffer is given up: from now on its slice is a view. -/
theorem HRep.dropBuf {F : Fr} {H H' : Hp} {m : Mp} {w : World} (h : HRep F H m w) {id : Nat} {B B' : Buf} {v : Value} (hv : m.bf id = some v) (hB : look H.buf id = some B) (hver : B.ver < B'.ver)
    (hid : look H'.buf id = some B') (hne : ∀ i, i ≠ id → look H'.buf i = look H.buf i) (hbox : H'.box = H.box) (hbo : H'.bor = H.bor) :
    HRep F H' (m.addBf id none) w ∧ Later F H m w H' (m.addBf id none) w ∧ Rd w (F.S (m.addBf id none)) B.con v := by
  have hown : ∀ b, Own (m.addBf id none) b → Own m b := by
    rintro b (⟨i, hi⟩ | ⟨i, v, hv, hb⟩)
    · exact .inl ⟨i, hi⟩
    · simp only [Mp.addBf] at hv
      split at hv
      · cases hv
      · exact .inr ⟨i, v, hv, hb⟩
  have hlat : Later F H m w H' (m.addBf id none) w := by
    refine ⟨fun k hS hk => ⟨?_, rfl⟩, fun _ _ h => h, fun i B2 hiB => ?_, fun k B hB => ⟨B, by rw [hbo]; exact hB, rfl⟩⟩
    · rcases hS with hS | ⟨h1, h2⟩
      · exact .inl hS
      · exact .inr ⟨h1, fun hoo => h2 (hown k hoo)⟩
    · by_cases hi : i = id
      · subst hi
        rw [hB] at hiB; cases hiB
        exact ⟨B', hid, by omega, fun e => by omega⟩
      · exact ⟨B2, by rw [hne i hi]; exact hiB, Nat.le_refl _, fun _ => ⟨fun v hv => by simp [Mp.addBf, hi]; exact hv, rfl⟩⟩
  refine ⟨⟨h.os, h.tape, h.output, h.size, h.block, fun b ho => h.fresh b (hown b ho), h.brB, h.bri, h.ibb, ?_, ?_, ?_, ?_, ?_⟩, hlat, ?_⟩
  · intro i j b v2 hi hj
    simp only [Mp.addBf] at hj
    split at hj
    · cases hj
    · exact h.ibf i j b v2 hi hj
  · intro i j b u v2 hi hj
    simp only [Mp.addBf] at hi hj
    split at hi
    · cases hi
    · split at hj
      · cases hj
      · exact h.iff i j b u v2 hi hj
  · intro i b hi
    obtain ⟨cs, arr, e, h2, h3, h4, h5⟩ := h.box i b hi
    exact ⟨cs, arr, e, by rw [hbox]; exact h2, h3, h4, fun j y u hy hu => ⟨(h5 j y u hy hu).1, hlat.rep (h5 j y u hy hu).2⟩⟩
  · intro i v2 hv2
    simp only [Mp.addBf] at hv2
    split at hv2
    · cases hv2
    · rename_i hi
      obtain ⟨B2, rs2, xs2, h2, h3, h4, h5, h6, h7⟩ := h.buf i v2 hv2
      exact ⟨B2, rs2, xs2, by rw [hne i hi]; exact h2, h3, h4, h5, h6, fun i j y hy => let ⟨u, hu, hrd⟩ := h7 i j y hy; ⟨u, hu, hrd.mono hlat.st⟩⟩
  · intro i v2 hv2
    obtain ⟨B2, rs2, xs2, h2, h3, h4, h5, h6, h7⟩ := h.bor i v2 hv2
    exact ⟨B2, rs2, xs2, by rw [hbo]; exact h2, h3, h4, h5, h6, fun i j y hy => let ⟨u, hu, hrd⟩ := h7 i j y hy; ⟨u, hu, hrd.mono hlat.st⟩⟩
  · obtain ⟨B2, rs, xs, h2, h3, h4, h5, h6, h7⟩ := h.buf id v hv
    rw [hB] at h2; cases h2
    rcases h6.2 with ⟨rfl, h0⟩ | ⟨g, cap, cur, rfl, hbg, hgg, hnc, hcm, hcs, htake⟩
    · have : rs = [] := List.eq_nil_of_length_eq_zero h0
      subst this
      exact .emp _ _ none 0 h3 (fun _ => rfl)
    · by_cases he : rs = []
      · subst he
        exact .emp _ _ _ cap h3 (fun h => by cases h)
      · have hcell : ∀ i j y, at2 rs i j = some y → ∃ u, w.cell? ⟨g, 0 + (i * B.z + j), none⟩ = some u ∧ Rd w (F.S m) y u := by
          intro i j y hy
          obtain ⟨u, hu, hrd⟩ := h7 i j y hy
          have := h6.cells (g := g) rfl (i * B.z + j) u hu
          refine ⟨u, ?_, hrd⟩
          rw [← this]
          unfold Addr.add
          split
          · rename_i hz0; simp [hz0]
          · rfl
        refine .sl B.con B.z rs g 0 cap (fun i j => (xs[i * B.z + j]?).getD undef) h3 he h4 (Nat.le_trans hnc hcm) hnc h5 ?_ ?_ ?_
        · refine .inr ⟨h.fresh g (.inr ⟨id, _, hv, rfl⟩), fun hoo => ?_⟩
          rcases hoo with ⟨i, hi⟩ | ⟨i, v2, hv2, hb2⟩
          · exact h.ibf i id g _ hi hv rfl
          · simp only [Mp.addBf] at hv2
            split at hv2
            · cases hv2
            · rename_i hi
              exact hi (h.iff i id g v2 _ hv2 hv hb2 rfl)
        · intro i j y hy
          obtain ⟨u, hu, hrd⟩ := hcell i j y hy
          obtain ⟨u2, hu2, _⟩ := h7 i j y hy
          have := h6.cells (g := g) rfl (i * B.z + j) u2 hu2
          simp only [hu2, Option.getD_some]
          rw [← this]
          unfold Addr.add
          split
          · rename_i hz0; simp [hz0]
          · simp
        · intro i j y hy
          obtain ⟨u2, hu2, hrd⟩ := h7 i j y hy
          simp only [hu2, Option.getD_some]
          exact hrd.mono hlat.st

end Go.Abs
