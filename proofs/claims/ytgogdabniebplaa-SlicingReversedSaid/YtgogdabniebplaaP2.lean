import Derived.Test.YtgogdabniebplaaP
namespace Go.Proofs.NatL
set_option linter.unusedSimpArgs false
set_option linter.unusedVariables false

theorem B2_nil : B2 [] = 0 := rfl
theorem B2_cons (b : Bool) (l : List Bool) : B2 (b :: l) = 2 * B2 l + (if b then 1 else 0) := by
  have h := group_step (b :: l) 0 l.length (by simp)
  simpa using h
theorem B2_false (n : Nat) (l : List Bool) : B2 (List.replicate n false ++ l) = B2 l * 2 ^ n := B2_shift n l
theorem B2_zeros (n : Nat) : B2 (List.replicate n false) = 0 := by
  have := B2_false n []
  rw [List.append_nil, B2_nil, Nat.zero_mul] at this; exact this
theorem set_zeros (k : Nat) (ls : List Bool) (hk : 0 < k) (b : Bool) : (List.replicate k false ++ ls).set (k - 1) b = List.replicate (k - 1) false ++ b :: ls := by
  obtain ⟨j, rfl⟩ : ∃ j, k = j + 1 := ⟨k - 1, by omega⟩
  rw [show j + 1 - 1 = j by omega, List.replicate_succ', List.append_assoc]
  rw [List.set_append_right _ _ (by simp)]
  simp
theorem set_last (k : Nat) (c b : Bool) (ls : List Bool) : (List.replicate k false ++ c :: ls).set k b = List.replicate k false ++ b :: ls := by
  rw [List.set_append_right _ _ (by simp)]
  simp
theorem drop_bit (l : List Bool) (k : Nat) (hk : 0 < k) (hl : k ≤ l.length) : B2 (l.drop (k - 1)) = 2 * B2 (l.drop k) + (if l.getD (k - 1) false then 1 else 0) := by
  rw [List.drop_eq_getElem_cons (i := k - 1) (by omega), B2_cons, show k - 1 + 1 = k by omega]
  simp [List.getD_eq_getElem?_getD, List.getElem?_eq_getElem (show k - 1 < l.length by omega)]
theorem drop_bs (m : Nat) : B2 ((bs m).drop 0) = m := by rw [List.drop_zero, B2_bs]
theorem root_hi (v p a : Nat) (h : a < (v + 2 * p) * (v + 2 * p)) : a < ((v + p) + p) * ((v + p) + p) := by
  rw [show v + p + p = v + 2 * p by omega]; exact h
theorem sgz_sg (s : Bool) (k : Nat) : sgz (sg s k) s = s := by
  unfold sgz
  by_cases h : sg s k = 0
  · rw [if_pos h]
  · rw [if_neg h]
    cases s
    · rw [sgf] at h ⊢; exact decide_eq_false (by omega)
    · rw [sgt] at h ⊢; exact decide_eq_true (by omega)
theorem sg_eq_add (s : Bool) (m n : Nat) : sg s m + sg s n = sg s (m + n) := by cases s <;> simp only [sgt, sgf] <;> omega
theorem sg_eq_sub {s t : Bool} (h : s ≠ t) {m n : Nat} (hn : n ≤ m) : sg s m + sg t n = sg s (m - n) := by
  cases s <;> cases t <;> simp only [sgt, sgf] <;> first | exact absurd rfl h | omega
theorem sg_eq_sub' {s t : Bool} (h : s ≠ t) {m n : Nat} (hn : m ≤ n) : sg s m + sg t n = sg t (n - m) := by
  cases s <;> cases t <;> simp only [sgt, sgf] <;> first | exact absurd rfl h | omega
theorem sg_lt (s : Bool) (m : Nat) : sg s m < 0 ↔ s = true ∧ 0 < m := by cases s <;> simp [sg]
theorem tdiv2_abs (z : Int) : (z.tdiv 2).natAbs = z.natAbs / 2 := by rw [Int.natAbs_tdiv]; rfl
theorem tmod2_ne (z : Int) : decide (¬ z.tmod 2 = 0) = decide (z.natAbs % 2 = 1) := by
  have h1 : (z.tmod 2).natAbs = z.natAbs % 2 := by rw [Int.natAbs_tmod]; rfl
  congr 1
  exact propext ⟨fun h => by omega, fun h => by omega⟩

end Go.Proofs.NatL
