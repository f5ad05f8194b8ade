/-
  Plain lists of digits: values, trimming, digits of a number. No program in sight.
-/
namespace Go.Proofs.NatL
set_option linter.unusedSimpArgs false
set_option linter.unusedVariables false

/-- without the zeros at its end -/
def trimL (xs : List Int) : List Int := (xs.reverse.dropWhile (· == 0)).reverse

theorem trimL_snoc (xs : List Int) (x : Int) : trimL (xs ++ [x]) = if x = 0 then trimL xs else xs ++ [x] := by
  unfold trimL
  by_cases h : x = 0 <;> simp [h]

theorem split_last (xs : List Int) (h : 0 < xs.length) : xs = xs.take (xs.length - 1) ++ [xs.getD (xs.length - 1) 0] := by
  have h1 : xs.getD (xs.length - 1) 0 = xs[xs.length - 1] := by simp [List.getD_eq_getElem?_getD, List.getElem?_eq_getElem (show xs.length - 1 < xs.length by omega)]
  rw [h1, ← List.take_succ_eq_append_getElem (by omega)]
  rw [show xs.length - 1 + 1 = xs.length by omega, List.take_length]

theorem trimL_drop (xs : List Int) (h : 0 < xs.length) (h0 : xs.getD (xs.length - 1) 0 = 0) : trimL (xs.take (xs.length - 1)) = trimL xs := by
  conv => rhs; rw [split_last xs h, trimL_snoc, if_pos h0]

theorem trimL_stop (xs : List Int) (h : xs.length = 0 ∨ xs.getD (xs.length - 1) 0 ≠ 0) : trimL xs = xs := by
  by_cases h0 : xs.length = 0
  · have : xs = [] := List.eq_nil_of_length_eq_zero h0
    subst this; rfl
  · rcases h with h | h
    · exact absurd h h0
    · conv => lhs; rw [split_last xs (by omega), trimL_snoc, if_neg h]
      exact (split_last xs (by omega)).symm

/-- the value of digits, the least significant one first -/
def V (B : Nat) : List Int → Nat
  | [] => 0
  | x :: xs => x.toNat + B * V B xs

/-- all of them are digits -/
def InB (B : Nat) (xs : List Int) : Prop := ∀ x ∈ xs, 0 ≤ x ∧ x < B

/-- the digits of a number -/
def dgF (B : Nat) : Nat → Nat → List Int
  | 0, _ => []
  | f + 1, n => if n = 0 then [] else ((n % B : Nat) : Int) :: dgF B f (n / B)
def dg (B n : Nat) : List Int := dgF B n n

theorem V_append (B : Nat) (xs ys : List Int) : V B (xs ++ ys) = V B xs + B ^ xs.length * V B ys := by
  induction xs with
  | nil => simp [V]
  | cons x xs ih => simp only [List.cons_append, V, ih, List.length_cons, Nat.pow_succ]; rw [Nat.mul_add, Nat.add_assoc, ← Nat.mul_assoc, Nat.mul_comm B (B ^ xs.length)]

theorem V_snoc (B : Nat) (xs : List Int) (x : Int) : V B (xs ++ [x]) = V B xs + B ^ xs.length * x.toNat := by
  rw [V_append]; simp [V]

theorem V_lt (B : Nat) (hB : 0 < B) (xs : List Int) (h : InB B xs) : V B xs < B ^ xs.length := by
  induction xs with
  | nil => simp [V]
  | cons x xs ih =>
    have h1 := h x (List.mem_cons_self ..)
    have h2 := ih fun y hy => h y (List.mem_cons_of_mem _ hy)
    simp only [V, List.length_cons, Nat.pow_succ]
    have h3 : x.toNat < B := by omega
    have h4 : B * V B xs + B ≤ B * B ^ xs.length := by
      have : B * (V B xs + 1) ≤ B * B ^ xs.length := Nat.mul_le_mul_left _ h2
      rwa [Nat.mul_add, Nat.mul_one] at this
    rw [Nat.mul_comm (B ^ xs.length) B]
    omega

theorem dgF_fuel (B : Nat) (hB : 2 ≤ B) : ∀ f n, n ≤ f → dgF B f n = dgF B n n := by
  intro f
  induction f using Nat.strongRecOn with
  | _ f ih =>
    intro n hn
    match f, n with
    | 0, 0 => rfl
    | f + 1, 0 => simp [dgF]
    | f + 1, n + 1 =>
      simp only [dgF, Nat.succ_ne_zero, if_false, Nat.add_eq_zero_iff, Nat.one_ne_zero, and_false]
      have hlt : (n + 1) / B ≤ n := by
        have : (n + 1) / B < n + 1 := Nat.div_lt_self (by omega) (by omega)
        omega
      rw [ih f (by omega) _ (by omega)]
      by_cases hnf : n = f
      · subst hnf
        rw [ih n (by omega) _ hlt]
      · rw [ih n (by omega) _ hlt]

theorem dg_zero (B : Nat) : dg B 0 = [] := rfl

theorem dg_pos (B n : Nat) (hB : 2 ≤ B) (hn : 0 < n) : dg B n = ((n % B : Nat) : Int) :: dg B (n / B) := by
  obtain ⟨m, rfl⟩ : ∃ m, n = m + 1 := ⟨n - 1, by omega⟩
  have h : dg B (m + 1) = (((m + 1) % B : Nat) : Int) :: dgF B m ((m + 1) / B) := by simp [dg, dgF]
  rw [h]
  congr 1
  have hlt : (m + 1) / B ≤ m := by
    have : (m + 1) / B < m + 1 := Nat.div_lt_self (by omega) (by omega)
    omega
  exact dgF_fuel B hB m _ hlt

theorem V_dg (B : Nat) (hB : 2 ≤ B) (n : Nat) : V B (dg B n) = n := by
  induction n using Nat.strongRecOn with
  | _ n ih =>
    by_cases hn : n = 0
    · subst hn; rfl
    · rw [dg_pos B n hB (by omega), V, ih _ (Nat.div_lt_self (by omega) (by omega))]
      simp only [Int.toNat_natCast]
      exact Nat.mod_add_div n B

theorem InB_dg (B : Nat) (hB : 2 ≤ B) (n : Nat) : InB B (dg B n) := by
  induction n using Nat.strongRecOn with
  | _ n ih =>
    by_cases hn : n = 0
    · subst hn; intro x hx; cases hx
    · rw [dg_pos B n hB (by omega)]
      intro x hx
      rcases List.mem_cons.1 hx with rfl | hx
      · have := Nat.mod_lt n (show 0 < B by omega); omega
      · exact ih _ (Nat.div_lt_self (by omega) (by omega)) x hx

/-- no zero at the end -/
def Trd (xs : List Int) : Prop := xs.length = 0 ∨ xs.getD (xs.length - 1) 0 ≠ 0

theorem trd_cons (x : Int) (xs : List Int) (h : Trd xs) (hx : xs = [] → x ≠ 0) : Trd (x :: xs) := by
  right
  cases xs with
  | nil => simpa using hx rfl
  | cons y ys =>
    rcases h with h | h
    · simp at h
    · simpa using h

theorem trd_tail (x : Int) (xs : List Int) (h : Trd (x :: xs)) : Trd xs := by
  cases xs with
  | nil => left; rfl
  | cons y ys =>
    right
    rcases h with h | h
    · simp at h
    · simpa using h

theorem dg_trd (B : Nat) (hB : 2 ≤ B) (n : Nat) : Trd (dg B n) := by
  induction n using Nat.strongRecOn with
  | _ n ih =>
    by_cases hn : n = 0
    · subst hn; left; rfl
    · rw [dg_pos B n hB (by omega)]
      refine trd_cons _ _ (ih _ (Nat.div_lt_self (by omega) (by omega))) fun he => ?_
      have h0 : n / B = 0 := by
        by_cases h : n / B = 0
        · exact h
        · rw [dg_pos B _ hB (Nat.pos_of_ne_zero h)] at he; cases he
      have : n % B = n := Nat.mod_eq_of_lt (by rcases Nat.lt_or_ge n B with h | h; · exact h
                                               · have := Nat.div_pos h (by omega); omega)
      rw [this]; omega

/-- digits without a zero at the end are those of their value -/
theorem dg_V (B : Nat) (hB : 2 ≤ B) : ∀ xs : List Int, InB B xs → Trd xs → dg B (V B xs) = xs
  | [], _, _ => rfl
  | x :: xs, h, ht => by
    have h1 := h x (List.mem_cons_self ..)
    have h2 : InB B xs := fun y hy => h y (List.mem_cons_of_mem _ hy)
    have ih := dg_V B hB xs h2 (trd_tail x xs ht)
    have hpos : 0 < V B (x :: xs) := by
      rcases Nat.eq_zero_or_pos (V B (x :: xs)) with h0 | h0
      · exfalso
        simp only [V] at h0
        have hx0 : x = 0 := by omega
        have hv0 : V B xs = 0 := by
          have : B * V B xs = 0 := by omega
          rcases Nat.mul_eq_zero.1 this with h | h
          · omega
          · exact h
        rw [hv0] at ih
        have hxs : xs = [] := ih.symm
        subst hxs
        rcases ht with ht | ht
        · simp at ht
        · simp at ht; exact ht hx0
      · exact h0
    rw [dg_pos B _ hB hpos]
    have hm : V B (x :: xs) % B = x.toNat := by
      simp only [V]
      rw [Nat.add_mul_mod_self_left]
      exact Nat.mod_eq_of_lt (by omega)
    have hd : V B (x :: xs) / B = V B xs := by
      simp only [V]
      rw [Nat.add_mul_div_left _ _ (by omega), Nat.div_eq_of_lt (by omega)]; simp
    rw [hm, hd, ih]
    congr 1
    omega

theorem V_trimL (B : Nat) (xs : List Int) : V B (trimL xs) = V B xs := by
  generalize hn : xs.length = n
  induction n generalizing xs with
  | zero => have : xs = [] := List.eq_nil_of_length_eq_zero hn; subst this; rfl
  | succ n ih =>
    rw [split_last xs (by omega), trimL_snoc]
    split
    · rename_i h
      rw [ih _ (by simp; omega), V_snoc, h]; simp
    · rfl

theorem trimL_trd (xs : List Int) : Trd (trimL xs) := by
  generalize hn : xs.length = n
  induction n generalizing xs with
  | zero => have : xs = [] := List.eq_nil_of_length_eq_zero hn; subst this; left; rfl
  | succ n ih =>
    rw [split_last xs (by omega), trimL_snoc]
    split
    · exact ih _ (by simp; omega)
    · rename_i h; right; simpa using h

theorem trimL_len (xs : List Int) : (trimL xs).length ≤ xs.length := by
  unfold trimL
  have h1 := (List.dropWhile_sublist (l := xs.reverse) (· == 0)).length_le
  simp only [List.length_reverse] at h1 ⊢
  exact h1

theorem trimL_take (xs : List Int) : trimL xs = xs.take (trimL xs).length := by
  generalize hn : xs.length = n
  induction n generalizing xs with
  | zero => have : xs = [] := List.eq_nil_of_length_eq_zero hn; subst this; rfl
  | succ n ih =>
    have hs := split_last xs (by omega)
    by_cases h0 : xs.getD (xs.length - 1) 0 = 0
    · have h1 := trimL_drop xs (by omega) h0
      have h2 := ih (xs.take (xs.length - 1)) (by simp; omega)
      rw [h1] at h2
      have h3 : (trimL xs).length ≤ xs.length - 1 := by
        have := congrArg List.length h2
        rw [List.take_take, List.length_take] at this
        omega
      rw [List.take_take, Nat.min_eq_left h3] at h2
      exact h2
    · rw [trimL_stop xs (.inr h0), List.take_length]

theorem trimL_mem (xs : List Int) : ∀ x ∈ trimL xs, x ∈ xs := by
  intro x hx
  unfold trimL at hx
  have := (List.dropWhile_sublist (l := xs.reverse) (· == 0)).mem (List.mem_reverse.1 hx)
  exact List.mem_reverse.1 this

theorem trimL_eq (B : Nat) (hB : 2 ≤ B) (xs : List Int) (h : InB B xs) : trimL xs = dg B (V B xs) := by
  rw [← V_trimL B xs, dg_V B hB _ (fun x hx => h x (trimL_mem xs x hx)) (trimL_trd xs)]

end Go.Proofs.NatL
