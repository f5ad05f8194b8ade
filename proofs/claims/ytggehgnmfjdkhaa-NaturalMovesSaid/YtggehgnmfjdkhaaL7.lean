/- Plain laws of long division: normalization, a step, the end. -/
import Derived.Test.YtggehgnmfjdkhaaL6
namespace Go.Proofs.NatL
set_option linter.unusedSimpArgs false
set_option linter.unusedVariables false

theorem V_top (B : Nat) (bs : List Int) (h : 0 < bs.length) : V B bs = V B (bs.take (bs.length - 1)) + B ^ (bs.length - 1) * (bs.getD (bs.length - 1) 0).toNat := by
  have := V_take_getD B bs (bs.length - 1)
  rwa [show bs.length - 1 + 1 = bs.length by omega, List.take_length] at this

theorem norm_hi (B : Nat) (hB : 0 < B) (bs : List Int) (b : InB B bs) (h : 0 < bs.length) (S : Nat) (hs : ((bs.getD (bs.length - 1) 0).toNat + 1) * S ≤ B) (hS : 0 < S) : V B bs * S < B ^ bs.length := by
  have h1 := V_top B bs h
  have h2 := V_lt B hB _ (InB_take b (bs.length - 1))
  have h3 : (bs.take (bs.length - 1)).length = bs.length - 1 := by simp
  rw [h3] at h2
  have h4 : V B bs < B ^ (bs.length - 1) * ((bs.getD (bs.length - 1) 0).toNat + 1) := by rw [h1, Nat.mul_add, Nat.mul_one]; omega
  have h5 : V B bs * S < B ^ (bs.length - 1) * ((bs.getD (bs.length - 1) 0).toNat + 1) * S := Nat.mul_lt_mul_of_pos_right h4 hS
  rw [Nat.mul_assoc] at h5
  have h6 : B ^ (bs.length - 1) * (((bs.getD (bs.length - 1) 0).toNat + 1) * S) ≤ B ^ (bs.length - 1) * B := Nat.mul_le_mul_left _ hs
  have h7 : B ^ (bs.length - 1) * B = B ^ bs.length := by rw [← Nat.pow_succ]; congr 1; omega
  omega

theorem norm_lo (B : Nat) (bs : List Int) (h : 0 < bs.length) (S : Nat) (hs : B ≤ 2 * ((bs.getD (bs.length - 1) 0).toNat * S)) : B ^ bs.length ≤ 2 * (V B bs * S) := by
  have h1 := V_top B bs h
  have h4 : B ^ (bs.length - 1) * (bs.getD (bs.length - 1) 0).toNat ≤ V B bs := by omega
  have h5 := Nat.mul_le_mul_right S h4
  have h6 : B ^ (bs.length - 1) * B ≤ B ^ (bs.length - 1) * (2 * ((bs.getD (bs.length - 1) 0).toNat * S)) := Nat.mul_le_mul_left _ hs
  have h7 : B ^ (bs.length - 1) * B = B ^ bs.length := by rw [← Nat.pow_succ]; congr 1; omega
  have h8 : B ^ (bs.length - 1) * (2 * ((bs.getD (bs.length - 1) 0).toNat * S)) = 2 * (B ^ (bs.length - 1) * (bs.getD (bs.length - 1) 0).toNat * S) := by
    rw [Nat.mul_left_comm, Nat.mul_assoc]
  omega

theorem start_lt (B la n Va Vv S : Nat) (hva : Va < B ^ la) (hS : 2 * S ≤ B) (hS0 : 0 < S) (hn : n ≤ la + 1) (hv : B ^ n ≤ 2 * Vv) : Va * S < B ^ (la + 1 - n) * Vv := by
  have h1 : Va * (2 * S) < B ^ la * (2 * S) := Nat.mul_lt_mul_of_pos_right hva (by omega)
  have h2 : B ^ la * (2 * S) ≤ B ^ la * B := Nat.mul_le_mul_left _ hS
  have h3 : B ^ la * B = B ^ (la + 1 - n) * B ^ n := by rw [← Nat.pow_succ, ← Nat.pow_add]; congr 1; omega
  have h4 : B ^ (la + 1 - n) * B ^ n ≤ B ^ (la + 1 - n) * (2 * Vv) := Nat.mul_le_mul_left _ hv
  have h5 : Va * (2 * S) = 2 * (Va * S) := Nat.mul_left_comm ..
  have h6 : B ^ (la + 1 - n) * (2 * Vv) = 2 * (B ^ (la + 1 - n) * Vv) := Nat.mul_left_comm ..
  omega

theorem div_step (B j U Vv Vu lo W Q : Nat) (hv : 0 < Vv) (h : Vu = U % (B ^ (j + 1) * Vv)) (hu : Vu = lo + B ^ j * W) (hlo : lo < B ^ j) (hB : 0 < B) (hQ : Q = U / (B ^ (j + 1) * Vv)) :
    (lo + B ^ j * (W % Vv) = U % (B ^ j * Vv) ∧ W / Vv + B * Q = U / (B ^ j * Vv)) ∧ W < B * Vv := by
  have hP : 0 < B ^ j := Nat.pow_pos hB
  have e1 : B ^ (j + 1) * Vv = B ^ j * Vv * B := by rw [Nat.pow_succ, Nat.mul_right_comm]
  have e2 := Nat.div_add_mod U (B ^ (j + 1) * Vv)
  rw [← h, ← hQ, e1] at e2
  have e3 := Nat.div_add_mod W Vv
  have hlt : W % Vv < Vv := Nat.mod_lt _ hv
  have hsm : lo + B ^ j * (W % Vv) < B ^ j * Vv := by
    have : B ^ j * (W % Vv + 1) ≤ B ^ j * Vv := Nat.mul_le_mul_left _ hlt
    rw [Nat.mul_add, Nat.mul_one] at this
    omega
  have key : lo + B ^ j * (W % Vv) + B ^ j * Vv * (W / Vv + B * Q) = U := by
    rw [Nat.mul_add (B ^ j * Vv), ← Nat.mul_assoc (B ^ j * Vv)]
    have e4 : B ^ j * W = B ^ j * Vv * (W / Vv) + B ^ j * (W % Vv) := by
      rw [Nat.mul_assoc, ← Nat.mul_add, e3]
    omega
  refine ⟨?_, ?_⟩
  · have := (Nat.div_mod_unique (Nat.mul_pos hP hv) (a := U) (d := W / Vv + B * Q) (c := lo + B ^ j * (W % Vv))).2 ⟨key, hsm⟩
    exact ⟨this.2.symm, this.1.symm⟩
  · have h1 : Vu < B ^ (j + 1) * Vv := by rw [h]; exact Nat.mod_lt _ (Nat.mul_pos (Nat.pow_pos hB) hv)
    have h2 : B ^ j * W < B ^ j * (B * Vv) := by
      have : B ^ j * (B * Vv) = B ^ (j + 1) * Vv := by rw [Nat.pow_succ, Nat.mul_assoc]
      omega
    exact Nat.lt_of_mul_lt_mul_left h2

theorem V_drop_zero (B : Nat) (xs : List Int) (i : Nat) (hi : i ≤ xs.length) (h : V B xs < B ^ i) : V B (xs.drop i) = 0 := by
  have := V_split B xs i hi
  rcases Nat.eq_zero_or_pos (V B (xs.drop i)) with h1 | h1
  · exact h1
  · have : B ^ i * 1 ≤ B ^ i * V B (xs.drop i) := Nat.mul_le_mul_left _ h1
    omega

/-- the window of a number whose upper digits are zero -/
theorem V_win (B : Nat) (xs : List Int) (j k : Nat) (h : j + k ≤ xs.length) (hlt : V B xs < B ^ (j + k)) : V B xs = V B (xs.take j) + B ^ j * V B ((xs.drop j).take k) := by
  have h1 := V_split B xs j (by omega)
  have h2 := V_split B (xs.drop j) k (by simp; omega)
  have h3 := V_drop_zero B xs (j + k) h hlt
  rw [List.drop_drop, h3] at h2
  rw [h1, h2]; simp

theorem V_rewin (B : Nat) (hB : 0 < B) (xs : List Int) (j k m : Nat) (h : j + k ≤ xs.length) (hlt : V B xs < B ^ (j + k)) (hm : m < B ^ k) :
    V B (xs.take j ++ pad B k m ++ xs.drop (j + k)) = V B (xs.take j) + B ^ j * m := by
  rw [V_append, V_append, V_drop_zero B xs (j + k) h hlt, V_pad B k m hB hm]
  simp [Nat.min_eq_left (show j ≤ xs.length by omega)]

theorem rewin_len (B : Nat) (xs : List Int) (j k m : Nat) (h : j + k ≤ xs.length) : (xs.take j ++ pad B k m ++ xs.drop (j + k)).length = xs.length := by
  simp [pad_len]; omega

theorem V_set_drop (B : Nat) (xs : List Int) (j : Nat) (x : Nat) (h : j < xs.length) : V B ((xs.set j (x : Int)).drop j) = x + B * V B (xs.drop (j + 1)) := by
  rw [V_drop B _ j (by simpa using h), List.drop_set_of_lt (by omega)]
  simp [List.getD_eq_getElem?_getD, h]

theorem take_small (B : Nat) (xs : List Int) (n : Nat) (hn : n ≤ xs.length) (h : V B xs < B ^ n) : V B (xs.take n) = V B xs := by
  have := V_split B xs n hn
  rw [V_drop_zero B xs n hn h] at this
  simpa using this.symm

theorem shift_norm (B t : Nat) (k s : Nat) (hk : 0 < k) (h1 : 2 ^ (k - 1) ≤ t) (h2 : t < 2 ^ k) (hs : k + s = B) : (t + 1) * 2 ^ s ≤ 2 ^ B ∧ 2 ^ B ≤ 2 * (t * 2 ^ s) := by
  have e : 2 ^ k * 2 ^ s = 2 ^ B := by rw [← Nat.pow_add, hs]
  have e2 : 2 ^ k = 2 * 2 ^ (k - 1) := by
    have : k - 1 + 1 = k := by omega
    rw [← Nat.pow_succ', Nat.succ_eq_add_one, this]
  constructor
  · rw [← e]; exact Nat.mul_le_mul_right _ h2
  · rw [← e, e2, Nat.mul_assoc]; exact Nat.mul_le_mul_left _ (Nat.mul_le_mul_right _ h1)

end Go.Proofs.NatL
