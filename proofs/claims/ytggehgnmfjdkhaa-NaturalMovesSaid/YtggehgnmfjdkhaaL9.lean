/- Plain laws of binary digits and square roots. -/
import Derived.Test.YtggehgnmfjdkhaaL8
namespace Go.Proofs.NatL
set_option linter.unusedSimpArgs false
set_option linter.unusedVariables false

/-- a bool as a digit -/
def bI (l : List Bool) : List Int := l.map fun b => if b then 1 else 0
/-- digits to the base 2 as bools -/
def bB (xs : List Int) : List Bool := xs.map fun x => x == 1
theorem bI_nil : bI [] = [] := rfl
theorem bI_len (l : List Bool) : (bI l).length = l.length := by simp [bI]
theorem bB_len (l : List Int) : (bB l).length = l.length := by simp [bB]
theorem bI_in (l : List Bool) : InB 2 (bI l) := fun x hx => by
  obtain ⟨b, _, rfl⟩ := List.mem_map.1 hx
  cases b <;> simp
theorem bB_bI (l : List Bool) : bB (bI l) = l := by
  unfold bB bI
  rw [List.map_map]
  conv => rhs; rw [← List.map_id l]
  congr 1
  funext b; cases b <;> rfl
theorem bI_snoc (l : List Bool) (b : Bool) : bI (l ++ [b]) = bI l ++ [if b then 1 else 0] := by simp [bI]
theorem bI_app (l m : List Bool) : bI (l ++ m) = bI l ++ bI m := by simp [bI]
theorem bI_take (l : List Bool) (n : Nat) : bI (l.take n) = (bI l).take n := by simp [bI]
theorem bI_drop (l : List Bool) (n : Nat) : bI (l.drop n) = (bI l).drop n := by simp [bI]
theorem bI_zeros (n : Nat) : bI (List.replicate n false) = List.replicate n 0 := by simp [bI]
/-- the value of binary digits -/
def B2 (l : List Bool) : Nat := V 2 (bI l)
/-- the binary digits of a number -/
def bs (n : Nat) : List Bool := bB (dg 2 n)
theorem bI_bB (xs : List Int) (h : InB 2 xs) : bI (bB xs) = xs := by
  unfold bB bI
  rw [List.map_map]
  conv => rhs; rw [← List.map_id xs]
  refine List.map_congr_left fun x hx => ?_
  have := h x hx
  rcases (by omega : x = 0 ∨ x = 1) with rfl | rfl <;> rfl
theorem bI_bs (n : Nat) : bI (bs n) = dg 2 n := bI_bB _ (InB_dg 2 (by omega) n)
theorem B2_bs (n : Nat) : B2 (bs n) = n := by unfold B2; rw [bI_bs, V_dg 2 (by omega)]
theorem bs_len (n : Nat) : (bs n).length = (dg 2 n).length := by simp [bs, bB]
/-- digits without a leading zero -/
theorem bs_of (l : List Bool) (h : l.length = 0 ∨ l.getD (l.length - 1) false = true) : l = bs (B2 l) := by
  have ht : Trd (bI l) := by
    rcases h with h | h
    · exact .inl (by rw [bI_len]; exact h)
    · refine .inr ?_
      rw [bI_len]
      unfold bI
      rw [List.getD_eq_getElem?_getD, List.getElem?_map]
      rw [List.getD_eq_getElem?_getD] at h
      cases he : l[l.length - 1]? with
      | none => rw [he] at h; simp at h
      | some b => rw [he] at h; simp at h; subst h; simp
  unfold bs B2
  rw [dg_V 2 (by omega) _ (bI_in l) ht, bB_bI]

theorem B2_drop_last (l : List Bool) (h : 0 < l.length) (h0 : l.getD (l.length - 1) false = false) : B2 (l.take (l.length - 1)) = B2 l := by
  unfold B2
  have := V_take_getD 2 (bI l) (l.length - 1)
  rw [show l.length - 1 + 1 = l.length by omega, List.take_of_length_le (by rw [bI_len]; omega)] at this
  rw [bI_take, this]
  have e : (bI l).getD (l.length - 1) 0 = 0 := by
    unfold bI
    rw [List.getD_eq_getElem?_getD, List.getElem?_map]
    rw [List.getD_eq_getElem?_getD] at h0
    cases he : l[l.length - 1]? with
    | none => rfl
    | some b => rw [he] at h0; simp at h0; subst h0; rfl
  rw [e]; simp

/-- one more binary digit of a number -/
theorem bit_step (l : List Bool) (m x c : Nat) (hl : l.length = m) (h : B2 l + 2 ^ m * x = c) : B2 (l ++ [decide (x % 2 = 1)]) + 2 ^ (m + 1) * (x / 2) = c := by
  unfold B2 at *
  rw [bI_snoc, V_snoc, bI_len, hl, ← h]
  have e : (if decide (x % 2 = 1) = true then (1 : Int) else 0).toNat = x % 2 := by
    rcases Nat.mod_two_eq_zero_or_one x with h | h <;> simp [h]
  rw [e, Nat.pow_succ, Nat.mul_assoc, Nat.add_assoc, ← Nat.mul_add]
  congr 2
  omega

/-- a group of digits, read from the top -/
theorem group_step (l : List Bool) (m k : Nat) (hm : m < l.length) : B2 ((l.drop m).take (k + 1)) = 2 * B2 ((l.drop (m + 1)).take k) + (if l.getD m false then 1 else 0) := by
  unfold B2
  rw [List.drop_eq_getElem_cons hm, List.take_succ_cons]
  simp only [bI, List.map_cons, V, List.getD_eq_getElem?_getD, List.getElem?_eq_getElem hm, Option.getD_some]
  cases l[m] <;> simp <;> omega
theorem group_end (l : List Bool) (m k : Nat) (hm : l.length ≤ m) : B2 ((l.drop m).take k) = 0 := by
  rw [List.drop_eq_nil_of_le hm]; simp [B2, bI, V]
theorem B2_lt (l : List Bool) : B2 l < 2 ^ l.length := by
  have := V_lt 2 (by omega) _ (bI_in l)
  rwa [bI_len] at this
theorem digit_group (j : Nat) (o : List Int) (l : List Bool) (h : V 65536 o = B2 (l.take (16 * j))) (hl : o.length = j) (x : Nat) (hx : x = B2 ((l.drop (16 * j)).take 16)) (hj : 16 * j ≤ l.length) :
    V 65536 (o ++ [(x : Int)]) = B2 (l.take (16 * (j + 1))) := by
  rw [V_snoc, h, hl, Int.toNat_natCast, hx]
  unfold B2
  have e : l.take (16 * (j + 1)) = l.take (16 * j) ++ (l.drop (16 * j)).take 16 := by
    rw [show 16 * (j + 1) = 16 * j + 16 by omega, List.take_add]
  rw [e, bI_app, V_append, bI_len, List.length_take, Nat.min_eq_left hj, show (65536 : Nat) = 2 ^ 16 from rfl, ← Nat.pow_mul]

theorem B2_shift (n : Nat) (l : List Bool) : B2 (List.replicate n false ++ l) = B2 l * 2 ^ n := by
  unfold B2
  rw [bI_app, bI_zeros, V_zeros, Nat.mul_comm]
theorem B2_drop (l : List Bool) (n : Nat) : B2 (l.drop n) = B2 l / 2 ^ n := by
  unfold B2
  rw [bI_drop, V_drop_div 2 (by omega) _ (bI_in l)]

/-- a square root, rounded down -/
theorem ex_rt (a : Nat) : ∃ s, s * s ≤ a ∧ a < (s + 1) * (s + 1) := by
  induction a with
  | zero => exact ⟨0, by simp⟩
  | succ a ih =>
    obtain ⟨s, h1, h2⟩ := ih
    rcases Nat.lt_or_ge (a + 1) ((s + 1) * (s + 1)) with h | h
    · exact ⟨s, by omega, h⟩
    · refine ⟨s + 1, h, ?_⟩
      have e : (s + 1 + 1) * (s + 1 + 1) = (s + 1) * (s + 1) + 2 * (s + 1) + 1 := by
        rw [Nat.add_mul, Nat.mul_add]; omega
      omega
noncomputable def rt (a : Nat) : Nat := Classical.choose (ex_rt a)
theorem rt_spec (a : Nat) : rt a * rt a ≤ a ∧ a < (rt a + 1) * (rt a + 1) := Classical.choose_spec (ex_rt a)
theorem rt_eq {a s : Nat} (h1 : s * s ≤ a) (h2 : a < (s + 1) * (s + 1)) : rt a = s := by
  obtain ⟨g1, g2⟩ := rt_spec a
  have a1 : ¬ rt a + 1 ≤ s := fun h => by
    have := Nat.mul_le_mul h h; omega
  have a2 : ¬ s + 1 ≤ rt a := fun h => by
    have := Nat.mul_le_mul h h; omega
  omega
theorem rt_le (a : Nat) : rt a ≤ a := by
  obtain ⟨g1, _⟩ := rt_spec a
  rcases Nat.eq_zero_or_pos (rt a) with h | h
  · omega
  · have := Nat.le_mul_of_pos_left (rt a) h; omega
theorem rt_zero : rt 0 = 0 := by have := rt_le 0; omega

/-- four products are below a square -/
theorem amgm (x q : Nat) : 4 * (x * q) ≤ (x + q) * (x + q) := by
  rcases Nat.le_total x q with h | h
  · obtain ⟨d, rfl⟩ := Nat.le.dest h
    have e : (x + (x + d)) * (x + (x + d)) = 4 * (x * (x + d)) + d * d := by
      have e1 : (x + (x + d)) = 2 * x + d := by omega
      rw [e1, Nat.mul_add, Nat.add_mul, Nat.add_mul, Nat.mul_add]
      have a1 : 2 * x * (2 * x) = 4 * (x * x) := by rw [Nat.mul_mul_mul_comm]
      have a2 : d * (2 * x) = 2 * (x * d) := by rw [Nat.mul_left_comm, Nat.mul_comm d]
      have a3 : 2 * x * d = 2 * (x * d) := Nat.mul_assoc ..
      omega
    omega
  · obtain ⟨d, rfl⟩ := Nat.le.dest h
    have e : (q + d + q) * (q + d + q) = 4 * ((q + d) * q) + d * d := by
      have e1 : (q + d + q) = 2 * q + d := by omega
      rw [e1, Nat.mul_add, Nat.add_mul, Nat.add_mul, Nat.add_mul]
      have a1 : 2 * q * (2 * q) = 4 * (q * q) := by rw [Nat.mul_mul_mul_comm]
      have a2 : d * (2 * q) = 2 * (d * q) := by rw [Nat.mul_left_comm]
      have a3 : 2 * q * d = 2 * (d * q) := by rw [Nat.mul_assoc, Nat.mul_comm q]
      omega
    omega
/-- a step from above stays above the root -/
theorem newton_step (a x : Nat) (hx : 0 < x) : a < ((x + a / x) / 2 + 1) * ((x + a / x) / 2 + 1) := by
  have h1 : a < x * (a / x + 1) := by
    have := Nat.div_add_mod a x
    have h2 := Nat.mod_lt a hx
    rw [Nat.mul_add, Nat.mul_one]; omega
  have h2 := amgm x (a / x + 1)
  generalize a / x = q at *
  have h3 : x + (q + 1) ≤ 2 * ((x + q) / 2 + 1) := by omega
  have h4 := Nat.mul_le_mul h3 h3
  have e : 2 * ((x + q) / 2 + 1) * (2 * ((x + q) / 2 + 1)) = 4 * (((x + q) / 2 + 1) * ((x + q) / 2 + 1)) := by rw [Nat.mul_mul_mul_comm]
  omega
/-- where a step does not go down, the root is reached -/
theorem newton_end (a x : Nat) (hx : 0 < x) (h : x ≤ (x + a / x) / 2) : x * x ≤ a := by
  have h1 : x ≤ a / x := by omega
  exact (Nat.le_div_iff_mul_le hx).1 h1

/-- a number moved by binary digits -/
def shf (a : Nat) (n : Int) : Nat := if n < 0 then a / 2 ^ (-n).toNat else a * 2 ^ n.toNat

end Go.Proofs.NatL
