/-
  States; regions; the rules for code; functions.
-/
import Derived.Test.YtggehgnmfjdkhaaAbsK
namespace Go.Abs
set_option linter.unusedSimpArgs false
set_option linter.unusedVariables false
open Go.RowKit

variable {P : Program}

structure StRep (F : Fr) (st : St) (m : Mp) (a : Act) (w : World) : Prop where
  d : a.defers = []
  sz : a.tmps.size = st.n
  h : HRep F st.H m w
  fr : ∀ i, st.nx ≤ i → m.bx i = none ∧ m.bf i = none
  sl : ∀ t, RepA F st.H m w (st.get t) (a.tmps.getD t undef)

theorem rep_ofV (F : Fr) (H : Hp) (m : Mp) (w : World) (v : Value) : RepA F H m w (ofV v) v := by
  unfold ofV
  split
  · split
    · rename_i cs h
      exact ⟨cs, rfl, RdL.ofC h⟩
    · trivial
  · trivial
  · rename_i h1 h2
    refine rd_ofC w _ v ?_
    cases v <;> first | rfl | (exfalso; first | exact h1 _ rfl | exact h2 _ rfl)

theorem StRep.ev {F : Fr} {st : St} {m : Mp} {a : Act} {w : World} (h : StRep F st m a w) (x : Operand) : RepA F st.H m w (st.ev x) (a.eval x) := by
  cases x with
  | tmp t => exact h.sl t
  | const v => exact rep_ofV ..
  | global g => trivial
  | func f => exact Rd.a _ rfl

theorem StRep.put {F : Fr} {st : St} {m : Mp} {a : Act} {w : World} (h : StRep F st m a w) (d : Nat) {r : AV} {v : Value} (hr : RepA F st.H m w r v) : StRep F (st.put d r) m (a.put (some d) v) w := by
  unfold St.put
  split
  · rename_i hd
    refine ⟨h.d, by simp [Act.put, h.sz], h.h, h.fr, fun t => ?_⟩
    simp only [St.get, look, Act.put]
    by_cases ht : d = t
    · subst ht
      have : d < a.tmps.size := by rw [h.sz]; exact hd
      simp [this]
      exact hr
    · have hne : (d == t) = false := by simp [ht]
      simp only [hne, Bool.false_eq_true, if_false]
      have := h.sl t
      simp only [St.get] at this
      simpa [Array.getElem?_setIfInBounds_ne ht] using this
  · rename_i hd
    have : a.put (some d) v = a := by
      simp only [Act.put]
      rw [Array.setIfInBounds_eq_of_size_le (by rw [h.sz]; omega)]
    rw [this]
    exact h

def St.putO (st : St) (d : Option Nat) (r : AV) : St := match d with | some d => st.put d r | none => st

theorem StRep.putO {F : Fr} {st : St} {m : Mp} {a : Act} {w : World} (h : StRep F st m a w) (d : Option Nat) {r : AV} {v : Value} (hr : RepA F st.H m w r v) : StRep F (st.putO d r) m (a.put d v) w := by
  cases d with
  | none => exact h
  | some d => exact h.put d hr

/-- a slot told in other words -/
theorem StRep.tell {F : Fr} {st : St} {m : Mp} {a : Act} {w : World} (h : StRep F st m a w) (d : Nat) {r : AV} (hr : RepA F st.H m w r (a.tmps.getD d undef)) : StRep F (st.put d r) m a w := by
  have h2 := h.put d hr
  have : a.put (some d) (a.tmps.getD d undef) = a := by
    simp only [Act.put]
    congr 1
    apply Array.ext_getElem?
    intro i
    rw [Array.getElem?_setIfInBounds]
    split
    · rename_i hi; subst hi
      split
      · rename_i hlt; simp [hlt]
      · rename_i hlt; simp [Array.getElem?_eq_none (Nat.not_lt.1 hlt)]
    · rfl
  rw [this] at h2
  exact h2

theorem OpS.exec {cf : Cfg} {st st' : St} {o : Oper} {r : AV} (h : OpS P cf st st' o r) {F : Fr} {m : Mp} {a : Act} {w : World} (hs : StRep F st m a w) :
    Exec P o a.eval w fun v w' => ∃ m', StRep F st' m' a w' ∧ RepA F st'.H m' w' r v := by
  obtain ⟨hn, hsl, hnx, hor⟩ := h
  have hget : ∀ t, st'.get t = st.get t := fun t => by simp [St.get, hsl]
  rcases hor with ⟨hbuf, ⟨hbox, hbo⟩, hq⟩ | ⟨_, hw⟩
  · obtain ⟨g1, g2⟩ := hs.h.hp (H' := st'.H) (fun i b hb => hbox i (by
      rcases Nat.lt_or_ge i st.nx with h | h
      · exact h
      · rw [(hs.fr i h).1] at hb; cases hb)) (fun i B hB => by rw [hbuf]; exact hB) hbo
    refine (hq F st'.H m w a.eval ⟨⟨fun _ _ h => h, rfl⟩, rfl⟩ g1 (fun i hi _ => (hs.fr i hi).1) (fun x _ => g2.rep (hs.ev x))).mono fun v w' ⟨m', h1, h2, h3, h4, h5⟩ => ⟨m', ⟨hs.d, by rw [hn]; exact hs.sz, h1, fun i hi => ?_, fun t => ?_⟩, h5⟩
    · exact ⟨h4 i (by omega) (hs.fr i (by omega)).1, by rw [h3]; exact (hs.fr i (by omega)).2⟩
    · rw [hget]; exact h2.rep (g2.rep (hs.sl t))
  · refine (hw F m w a.eval hs.h hs.fr (fun x _ => hs.ev x)).mono fun v w' ⟨m', h1, h2, h3, h4⟩ => ⟨m', ⟨hs.d, by rw [hn]; exact hs.sz, h1, h3, fun t => ?_⟩, h4⟩
    rw [hget]; exact h2.rep (hs.sl t)

/-- one state tells all that the other one does -/
def Fit (st st' : St) : Prop := ∀ (F : Fr) (m : Mp) (a : Act) (w : World), StRep F st m a w → ∃ m', StRep F st' m' a w

end Go.Abs
