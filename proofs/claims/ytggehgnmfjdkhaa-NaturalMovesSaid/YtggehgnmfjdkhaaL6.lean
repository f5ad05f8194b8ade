/- Plain laws for the division's end. -/
import Derived.Test.YtggehgnmfjdkhaaL5
namespace Go.Proofs.NatL
set_option linter.unusedSimpArgs false
set_option linter.unusedVariables false

theorem addback_end (P B a k x r : Nat) (hP : 0 < P) (h : a + P * (k + x) = P * B + r) (h1 : a < P) (h2 : r < P) : k + x = B ∧ a = r := by
  have e : a = r := by
    have := congrArg (· % P) h
    simpa [Nat.add_mul_mod_self_left, Nat.mul_add_mod, Nat.mod_eq_of_lt h1, Nat.mod_eq_of_lt h2] using this
  subst e
  refine ⟨?_, rfl⟩
  exact Nat.eq_of_mul_eq_mul_left hP (by omega)

/-- what is borrowed in the end is one at most -/
theorem borrow_le (P B Vo g Vv Vu t : Nat) (hB : 2 ≤ B) (h : Vo + g * Vv = Vu + P * B * t) (ho : Vo < P * B) (hv : Vv < P) (hg : g ≤ Vu / Vv + 1) : t ≤ 1 := by
  have h1 : Vu / Vv * Vv ≤ Vu := Nat.div_mul_le_self _ _
  have h2 : g * Vv ≤ (Vu / Vv + 1) * Vv := Nat.mul_le_mul_right _ hg
  rw [Nat.add_mul, Nat.one_mul] at h2
  have h3 : P * 2 ≤ P * B := Nat.mul_le_mul_left _ hB
  rcases Nat.lt_or_ge t 2 with h4 | h4
  · omega
  · have : P * B * 2 ≤ P * B * t := Nat.mul_le_mul_left _ h4
    omega

theorem getD_mid3 (p o us s : List Int) (i : Nat) (hl : o.length = i) (hi : i < us.length) : (p ++ (o ++ us.drop i) ++ s).getD (p.length + i) 0 = us.getD i 0 := by
  subst hl
  rw [List.getD_eq_getElem?_getD, List.append_assoc, List.getElem?_append_right (by omega), List.append_assoc, List.getElem?_append_right (by omega), List.getElem?_append_left (by simp; omega), List.getElem?_drop, List.getD_eq_getElem?_getD]
  congr 2; omega
theorem set_mid3 (p o us s : List Int) (i : Nat) (v : Int) (hl : o.length = i) (hi : i < us.length) : (p ++ (o ++ us.drop i) ++ s).set (p.length + i) v = p ++ ((o ++ [v]) ++ us.drop (i + 1)) ++ s := by
  subst hl
  have := set_mid o us v hi
  rw [List.append_assoc, List.set_append_right _ _ (by omega), Nat.add_sub_cancel_left, List.set_append_left _ _ (by simp; omega), this]; simp only [List.append_assoc]
theorem mid_start (p us s : List Int) : p ++ us ++ s = p ++ ([] ++ us.drop 0) ++ s := by simp
theorem mid_end (p o us s : List Int) (h : us.length ≤ o.length) : p ++ (o ++ us.drop o.length) ++ s = p ++ o ++ s := by
  rw [List.drop_eq_nil_of_le h, List.append_nil]

end Go.Proofs.NatL
