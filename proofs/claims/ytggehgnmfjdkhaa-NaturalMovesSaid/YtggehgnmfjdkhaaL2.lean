/-
  Plain lists of digits: places, comparison. No program in sight.
-/
import Derived.Test.YtggehgnmfjdkhaaL1
namespace Go.Proofs.NatL
set_option linter.unusedSimpArgs false
set_option linter.unusedVariables false

theorem getD_eq (xs : List Int) (i : Nat) (h : i < xs.length) : xs.getD i 0 = xs[i] := by simp [List.getD_eq_getElem?_getD, List.getElem?_eq_getElem h]

theorem InB_getD {B : Nat} (hB : 0 < B) {xs : List Int} (h : InB B xs) (i : Nat) : 0 ≤ xs.getD i 0 ∧ xs.getD i 0 < B := by
  by_cases hi : i < xs.length
  · rw [getD_eq xs i hi]; exact h _ (List.getElem_mem hi)
  · rw [List.getD_eq_getElem?_getD, List.getElem?_eq_none (by omega)]; simp; omega

theorem V_take_succ (B : Nat) (xs : List Int) (i : Nat) (h : i < xs.length) : V B (xs.take (i + 1)) = V B (xs.take i) + B ^ i * (xs.getD i 0).toNat := by
  rw [List.take_succ_eq_append_getElem h, V_snoc, getD_eq xs i h]
  congr 3
  simp; omega

theorem V_take_ge (B : Nat) (xs : List Int) (i : Nat) (h : xs.length ≤ i) : V B (xs.take (i + 1)) = V B (xs.take i) := by
  rw [List.take_of_length_le (by omega), List.take_of_length_le h]

theorem V_drop (B : Nat) (xs : List Int) (i : Nat) (h : i < xs.length) : V B (xs.drop i) = (xs.getD i 0).toNat + B * V B (xs.drop (i + 1)) := by
  rw [List.drop_eq_getElem_cons h, V, getD_eq xs i h]

theorem V_split (B : Nat) (xs : List Int) (i : Nat) (h : i ≤ xs.length) : V B xs = V B (xs.take i) + B ^ i * V B (xs.drop i) := by
  have := V_append B (xs.take i) (xs.drop i)
  rw [List.take_append_drop, List.length_take, Nat.min_eq_left h] at this
  exact this

theorem InB_take {B : Nat} {xs : List Int} (h : InB B xs) (i : Nat) : InB B (xs.take i) := fun x hx => h x (List.mem_of_mem_take hx)
theorem InB_drop {B : Nat} {xs : List Int} (h : InB B xs) (i : Nat) : InB B (xs.drop i) := fun x hx => h x (List.mem_of_mem_drop hx)
theorem InB_snoc {B : Nat} {xs : List Int} (h : InB B xs) {x : Int} (h0 : 0 ≤ x) (h1 : x < B) : InB B (xs ++ [x]) := by
  intro y hy
  rcases List.mem_append.1 hy with hy | hy
  · exact h y hy
  · simp at hy; subst hy; exact ⟨h0, h1⟩
theorem InB_set {B : Nat} {xs : List Int} (h : InB B xs) (i : Nat) {x : Int} (h0 : 0 ≤ x) (h1 : x < B) : InB B (xs.set i x) := by
  intro y hy
  rcases List.mem_or_eq_of_mem_set hy with hy | rfl
  · exact h y hy
  · exact ⟨h0, h1⟩
theorem InB_nil (B : Nat) : InB B [] := fun _ hx => by cases hx
theorem InB_replicate {B : Nat} (hB : 0 < B) (n : Nat) : InB B (List.replicate n 0) := fun x hx => by
  have := List.eq_of_mem_replicate hx; subst this; exact ⟨by omega, by omega⟩
theorem V_replicate (B n : Nat) : V B (List.replicate n 0) = 0 := by
  induction n with
  | zero => rfl
  | succ n ih => simp [List.replicate_succ, V, ih]

theorem V_set (B : Nat) (xs : List Int) (i : Nat) (x : Int) (h : i < xs.length) : V B (xs.set i x) + B ^ i * (xs.getD i 0).toNat = V B xs + B ^ i * x.toNat := by
  induction xs generalizing i with
  | nil => simp at h
  | cons y ys ih =>
    match i with
    | 0 => simp [V]; omega
    | i + 1 =>
      have hh := ih i (by simpa using h)
      simp only [List.set_cons_succ, V, List.getD_cons_succ, Nat.pow_succ]
      have e : ∀ a : Nat, B ^ i * B * a = B * (B ^ i * a) := fun a => by rw [Nat.mul_comm (B ^ i) B, Nat.mul_assoc]
      rw [e, e, Nat.add_assoc, Nat.add_assoc, ← Nat.mul_add, ← Nat.mul_add, hh]

/-- the greater digit at the first place from the top decides -/
theorem cmp_at {B : Nat} (hB : 0 < B) {xs ys : List Int} (hx : InB B xs) (hy : InB B ys) (hl : xs.length = ys.length) (i : Nat) (hi : i < xs.length) (hd : xs.drop (i + 1) = ys.drop (i + 1)) (hlt : xs.getD i 0 < ys.getD i 0) : V B xs < V B ys := by
  rw [V_split B xs i (by omega), V_split B ys i (by omega), V_drop B xs i hi, V_drop B ys i (by omega), hd]
  have h1 := V_lt B hB _ (InB_take hx i)
  rw [List.length_take, Nat.min_eq_left (by omega)] at h1
  have h2 := (InB_getD hB hx i).1
  have h3 : (xs.getD i 0).toNat + 1 ≤ (ys.getD i 0).toNat := by omega
  have h4 : B ^ i * ((xs.getD i 0).toNat + B * V B (ys.drop (i + 1)) + 1) ≤ B ^ i * ((ys.getD i 0).toNat + B * V B (ys.drop (i + 1))) := Nat.mul_le_mul_left _ (by omega)
  rw [Nat.mul_add, Nat.mul_one] at h4
  omega

theorem drop_step {xs ys : List Int} (hl : xs.length = ys.length) (i : Nat) (hi : i < xs.length) (hd : xs.drop (i + 1) = ys.drop (i + 1)) (he : xs.getD i 0 = ys.getD i 0) : xs.drop i = ys.drop i := by
  rw [List.drop_eq_getElem_cons hi, List.drop_eq_getElem_cons (show i < ys.length by omega), hd]
  rw [getD_eq xs i hi, getD_eq ys i (by omega)] at he
  rw [he]

theorem len_lt {B : Nat} (hB : 0 < B) {xs ys : List Int} (hx : InB B xs) (hy : InB B ys) (ht : Trd ys) (hl : xs.length < ys.length) : V B xs < V B ys := by
  rcases ht with ht | ht
  · omega
  · have h1 := V_lt B hB xs hx
    have h2 := V_split B ys (ys.length - 1) (by omega)
    rw [V_drop B ys _ (by omega)] at h2
    have h3 := (InB_getD hB hy (ys.length - 1)).1
    have h4 : 1 ≤ (ys.getD (ys.length - 1) 0).toNat := by omega
    have h5 : B ^ xs.length ≤ B ^ (ys.length - 1) := Nat.pow_le_pow_right hB (by omega)
    have h6 : B ^ (ys.length - 1) * 1 ≤ B ^ (ys.length - 1) * ((ys.getD (ys.length - 1) 0).toNat + B * V B (ys.drop (ys.length - 1 + 1))) := Nat.mul_le_mul_left _ (by omega)
    omega

/-- -1, 0 or 1 -/
def cmp3 (a b : Nat) : Int := if a < b then -1 else if a = b then 0 else 1

theorem V_inj {B : Nat} (hB : 2 ≤ B) {xs ys : List Int} (hx : InB B xs) (hy : InB B ys) (tx : Trd xs) (ty : Trd ys) (h : V B xs = V B ys) : xs = ys := by
  rw [← dg_V B hB xs hx tx, ← dg_V B hB ys hy ty, h]

theorem dg_len_le {B : Nat} (hB : 2 ≤ B) (n k : Nat) (h : n < B ^ k) : (dg B n).length ≤ k := by
  induction k generalizing n with
  | zero => simp at h; subst h; simp [dg_zero]
  | succ k ih =>
    by_cases hn : n = 0
    · subst hn; simp [dg_zero]
    · rw [dg_pos B n hB (by omega), List.length_cons]
      have := ih (n / B) (by rw [Nat.div_lt_iff_lt_mul (by omega)]; rwa [← Nat.pow_succ])
      omega
theorem dg_len_gt {B : Nat} (hB : 2 ≤ B) (n k : Nat) (h : B ^ k ≤ n) : k < (dg B n).length := by
  rcases Nat.lt_or_ge k (dg B n).length with h1 | h1
  · exact h1
  · exfalso
    have := V_lt B (by omega) _ (InB_dg B hB n)
    rw [V_dg B hB] at this
    have h2 : B ^ (dg B n).length ≤ B ^ k := Nat.pow_le_pow_right (by omega) h1
    omega

theorem V_take_getD (B : Nat) (xs : List Int) (i : Nat) : V B (xs.take (i + 1)) = V B (xs.take i) + B ^ i * (xs.getD i 0).toNat := by
  by_cases h : i < xs.length
  · exact V_take_succ B xs i h
  · rw [V_take_ge B xs i (by omega), List.getD_eq_getElem?_getD, List.getElem?_eq_none (by omega)]; simp

/-- a digit and a carry -/
theorem carry_step (B i v c t r q x : Nat) (h : v + B ^ i * c = t) (hs : r + B * q = c + x) : v + B ^ i * r + B ^ (i + 1) * q = t + B ^ i * x := by
  have e : B ^ (i + 1) * q = B ^ i * (B * q) := by rw [Nat.pow_succ, Nat.mul_assoc]
  have e2 : B ^ i * r + B ^ i * (B * q) = B ^ i * c + B ^ i * x := by rw [← Nat.mul_add, hs, Nat.mul_add]
  rw [e, Nat.add_assoc, e2, ← Nat.add_assoc, h]

theorem add_step (B i : Nat) (o us vs : List Int) (c r q x y : Int) (h : V B o + B ^ i * c.toNat = V B (us.take i) + V B (vs.take i)) (hl : o.length = i) (hx : x = us.getD i 0) (hy : y = vs.getD i 0)
    (hr : r.toNat + B * q.toNat = c.toNat + (x.toNat + y.toNat)) : V B (o ++ [r]) + B ^ (i + 1) * q.toNat = V B (us.take (i + 1)) + V B (vs.take (i + 1)) := by
  have e := carry_step B i _ _ _ _ _ _ h hr
  rw [V_snoc, hl, V_take_getD, V_take_getD, e, ← hx, ← hy, Nat.mul_add]
  omega

theorem sub_step (B i : Nat) (o xs ys : List Int) (c d q x y : Int) (h : V B o + V B (ys.take i) = V B (xs.take i) + B ^ i * c.toNat) (hl : o.length = i) (hx : x = xs.getD i 0) (hy : y = ys.getD i 0)
    (hr : c.toNat + (d.toNat + y.toNat) = x.toNat + B * q.toNat) : V B (o ++ [d]) + V B (ys.take (i + 1)) = V B (xs.take (i + 1)) + B ^ (i + 1) * q.toNat := by
  have e : B ^ (i + 1) * q.toNat = B ^ i * (B * q.toNat) := by rw [Nat.pow_succ, Nat.mul_assoc]
  have e2 : B ^ i * c.toNat + (B ^ i * d.toNat + B ^ i * y.toNat) = B ^ i * x.toNat + B ^ i * (B * q.toNat) := by rw [← Nat.mul_add, ← Nat.mul_add, hr, Nat.mul_add]
  rw [V_snoc, hl, V_take_getD, V_take_getD, ← hx, ← hy, e]
  omega

theorem sub_end (B : Nat) (hB : 0 < B) (o xs ys : List Int) (c : Int) (bo : InB B o) (hl : o.length = xs.length) (hy : ys.length ≤ xs.length) (hv : V B ys ≤ V B xs) (hc : c ≤ 1) (h : V B o + V B (ys.take o.length) = V B (xs.take o.length) + B ^ o.length * c.toNat) : V B o = V B xs - V B ys := by
  rw [List.take_of_length_le (by omega), List.take_of_length_le (by omega)] at h
  have h1 := V_lt B hB o bo
  have : c.toNat = 0 ∨ c.toNat = 1 := by omega
  rcases this with e | e
  · rw [e] at h; simp at h; omega
  · rw [e] at h; simp at h; omega

/-- one more row of a product -/
theorem mul_inner (B i k v v' c s r q x y z v0 t : Nat) (h : v + B ^ (i + k) * c = v0 + B ^ i * (x * t)) (hset : v' + B ^ (i + k) * z = v + B ^ (i + k) * r) (hs : s = c + x * y + z) (hr : r + B * q = s) :
    v' + B ^ (i + k + 1) * q = v0 + B ^ i * (x * (t + B ^ k * y)) := by
  have e1 : B ^ (i + k + 1) * q = B ^ (i + k) * (B * q) := by rw [Nat.pow_succ, Nat.mul_assoc]
  have e2 : B ^ (i + k) * r + B ^ (i + k) * (B * q) = B ^ (i + k) * c + B ^ (i + k) * (x * y) + B ^ (i + k) * z := by rw [← Nat.mul_add, hr, hs, Nat.mul_add, Nat.mul_add]
  have e3 : B ^ i * (x * (t + B ^ k * y)) = B ^ i * (x * t) + B ^ (i + k) * (x * y) := by
    rw [Nat.mul_add, Nat.mul_add, Nat.pow_add]
    congr 1
    rw [Nat.mul_assoc]
    congr 1
    rw [← Nat.mul_assoc, Nat.mul_comm x (B ^ k), Nat.mul_assoc]
  rw [e1, e3]
  omega

theorem getD_ge (xs : List Int) (i : Nat) (h : xs.length ≤ i) : xs.getD i 0 = 0 := by
  rw [List.getD_eq_getElem?_getD, List.getElem?_eq_none h]; rfl

theorem getD_mid (o xs : List Int) (h : o.length ≤ xs.length) : (o ++ xs.drop o.length).getD o.length 0 = xs.getD o.length 0 := by
  simp [List.getD_eq_getElem?_getD, List.getElem?_append_right, List.getElem?_drop]

theorem set_mid (o xs : List Int) (v : Int) (h : o.length < xs.length) : (o ++ xs.drop o.length).set o.length v = (o ++ [v]) ++ xs.drop (o.length + 1) := by
  rw [List.set_append_right _ _ (Nat.le_refl _), Nat.sub_self, List.drop_eq_getElem_cons h, List.set_cons_zero]
  simp

/-- numbers that are great have no zero at the end -/
theorem trd_of_ge {B : Nat} (hB : 0 < B) (o : List Int) (bo : InB B o) (h : B ^ (o.length - 1) ≤ V B o) : Trd o := by
  by_cases h0 : o.length = 0
  · exact .inl h0
  · right
    intro hz
    have h1 := V_split B o (o.length - 1) (by omega)
    rw [V_drop B o _ (by omega), hz, show o.length - 1 + 1 = o.length by omega, List.drop_length] at h1
    simp [V] at h1
    have h2 := V_lt B hB _ (InB_take bo (o.length - 1))
    rw [List.length_take, Nat.min_eq_left (by omega)] at h2
    omega
theorem V_ge_of_trd {B : Nat} (hB : 0 < B) (o : List Int) (bo : InB B o) (h : Trd o) (h0 : 0 < o.length) : B ^ (o.length - 1) ≤ V B o := by
  rcases h with h | h
  · omega
  · have h1 := V_split B o (o.length - 1) (by omega)
    rw [V_drop B o _ (by omega)] at h1
    have h2 := (InB_getD hB bo (o.length - 1)).1
    have h3 : B ^ (o.length - 1) * 1 ≤ B ^ (o.length - 1) * ((o.getD (o.length - 1) 0).toNat + B * V B (o.drop (o.length - 1 + 1))) := Nat.mul_le_mul_left _ (by omega)
    omega
theorem InB_app {B : Nat} {xs ys : List Int} (h : InB B xs) (h2 : InB B ys) : InB B (xs ++ ys) := fun x hx => by
  rcases List.mem_append.1 hx with hx | hx
  · exact h x hx
  · exact h2 x hx
theorem InB_two {B : Nat} {x y : Int} (h1 : 0 ≤ x ∧ x < B) (h2 : 0 ≤ y ∧ y < B) : InB B [x, y] := fun z hz => by
  simp at hz; rcases hz with rfl | rfl <;> assumption
theorem V_le_len {B : Nat} (hB : 0 < B) {xs ys : List Int} (bx : InB B xs) (by' : InB B ys) (ty : Trd ys) (hv : V B ys ≤ V B xs) : ys.length ≤ xs.length := by
  rcases Nat.lt_or_ge xs.length ys.length with h | h
  · have := len_lt hB bx by' ty h; omega
  · exact h

theorem getD_set_ne (xs : List Int) (i j : Nat) (v : Int) (h : i ≠ j) : (xs.set i v).getD j 0 = xs.getD j 0 := by
  simp [List.getD_eq_getElem?_getD, List.getElem?_set_ne h]
theorem getD_replicate (n j : Nat) : (List.replicate n (0 : Int)).getD j 0 = 0 := by
  simp only [List.getD_eq_getElem?_getD, List.getElem?_replicate]
  split <;> rfl

end Go.Proofs.NatL
