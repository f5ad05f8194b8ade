/-
  Division of numbers of many digits, digit by digit. No program in sight.
-/
import Derived.Test.YtggehgnmfjdkhaaL4
namespace Go.Proofs.NatL
set_option linter.unusedSimpArgs false
set_option linter.unusedVariables false

/-- a number with a given number of digits -/
def pad (B k m : Nat) : List Int := (List.range k).map fun i => ((m / B ^ i % B : Nat) : Int)

theorem pad_len (B k m : Nat) : (pad B k m).length = k := by simp [pad]
theorem InB_pad (B k m : Nat) (hB : 0 < B) : InB B (pad B k m) := by
  intro x hx
  simp only [pad, List.mem_map, List.mem_range] at hx
  obtain ⟨i, _, rfl⟩ := hx
  exact ⟨Int.natCast_nonneg _, by exact_mod_cast Nat.mod_lt _ hB⟩
theorem pad_eq (B : Nat) (hB : 0 < B) (xs : List Int) (h : InB B xs) : xs = pad B xs.length (V B xs) := by
  apply List.ext_getElem
  · simp [pad]
  · intro i h1 h2
    simp only [pad, List.getElem_map, List.getElem_range]
    rw [V_digit B hB xs h i, getD_eq xs i h1]
    have := h _ (List.getElem_mem h1)
    omega
theorem V_pad (B k m : Nat) (hB : 0 < B) (h : m < B ^ k) : V B (pad B k m) = m := by
  induction k with
  | zero => simp at h; subst h; rfl
  | succ k ih =>
    have : ∀ j, V B (pad B j m) = m % B ^ j := by
      intro j
      induction j with
      | zero => simp [pad, V, Nat.mod_one]
      | succ j ihj =>
        have e : pad B (j + 1) m = pad B j m ++ [((m / B ^ j % B : Nat) : Int)] := by simp [pad, List.range_succ]
        rw [e, V_snoc, ihj, pad_len, Int.toNat_natCast, mod_pow_succ']
    rw [this, Nat.mod_eq_of_lt h]

theorem V_top2 (B : Nat) (xs : List Int) (n : Nat) (h : xs.length = n) (hn : 2 ≤ n) : V B xs = V B (xs.take (n - 2)) + B ^ (n - 2) * ((xs.getD (n - 2) 0).toNat + B * (xs.getD (n - 1) 0).toNat) := by
  rw [V_split B xs (n - 2) (by omega), V_drop B xs (n - 2) (by omega), V_drop B xs (n - 2 + 1) (by omega), show n - 2 + 1 = n - 1 by omega, show n - 1 + 1 = n by omega, List.drop_eq_nil_of_le (by omega)]
  simp [V]
theorem V_top3 (B : Nat) (xs : List Int) (n : Nat) (h : xs.length = n + 1) (hn : 2 ≤ n) : V B xs = V B (xs.take (n - 2)) + B ^ (n - 2) * ((xs.getD (n - 2) 0).toNat + B * ((xs.getD (n - 1) 0).toNat + B * (xs.getD n 0).toNat)) := by
  rw [V_split B xs (n - 2) (by omega), V_drop B xs (n - 2) (by omega), V_drop B xs (n - 2 + 1) (by omega), show n - 2 + 1 = n - 1 by omega, V_drop B xs (n - 1 + 1) (by omega), show n - 1 + 1 = n by omega, List.drop_eq_nil_of_le (by omega)]
  simp [V]

/-- what a guess is held against -/
structure Est (B : Nat) (Vu Vv U3 V2 u2 head v1 v2 : Nat) : Prop where
  ex : ∃ P ul vl, 0 < P ∧ Vu = ul + P * U3 ∧ ul < P ∧ Vv = vl + P * V2 ∧ vl < P
  u : U3 = u2 + B * head
  v : V2 = v2 + B * v1
  ku2 : u2 < B
  kv2 : v2 < B
  kv1 : 0 < v1
  lt : Vu < B * Vv
  hd : head < v1 * B + B

theorem est_of (B : Nat) (hB : 0 < B) (us vs : List Int) (n : Nat) (hu : us.length = n + 1) (hv : vs.length = n) (hn : 2 ≤ n) (bu : InB B us) (bv : InB B vs) (hlt : V B us < B * V B vs) (ht : Trd vs) :
    Est B (V B us) (V B vs) ((us.getD (n - 2) 0).toNat + B * ((us.getD (n - 1) 0).toNat + B * (us.getD n 0).toNat)) ((vs.getD (n - 2) 0).toNat + B * (vs.getD (n - 1) 0).toNat) (us.getD (n - 2) 0).toNat ((us.getD (n - 1) 0).toNat + B * (us.getD n 0).toNat) (vs.getD (n - 1) 0).toNat (vs.getD (n - 2) 0).toNat := by
  have h1 := V_top3 B us n hu hn
  have h2 := V_top2 B vs n hv hn
  have l1 := V_lt B hB _ (InB_take bu (n - 2))
  have l2 := V_lt B hB _ (InB_take bv (n - 2))
  rw [List.length_take, Nat.min_eq_left (by omega)] at l1 l2
  have c1 := InB_getD hB bu (n - 2)
  have c2 := InB_getD hB bu (n - 1)
  have c3 := InB_getD hB bu n
  have c4 := InB_getD hB bv (n - 1)
  have c5 := InB_getD hB bv (n - 2)
  have ht1 : 0 < (vs.getD (n - 1) 0).toNat := by
    rcases ht with ht | ht
    · omega
    · rw [hv] at ht; omega
  refine ⟨⟨B ^ (n - 2), _, _, Nat.pow_pos hB, h1, l1, h2, l2⟩, rfl, rfl, by omega, by omega, ht1, hlt, ?_⟩
  generalize (us.getD n 0).toNat = u0 at *
  generalize hu1 : (us.getD (n - 1) 0).toNat = u1 at *
  generalize hu2 : (us.getD (n - 2) 0).toNat = u2 at *
  generalize (vs.getD (n - 1) 0).toNat = v1 at *
  generalize hv2 : (vs.getD (n - 2) 0).toNat = v2 at *
  generalize B ^ (n - 2) = P at *
  have hu1' : u1 < B := by omega
  have hv2' : v2 < B := by omega
  rcases Nat.lt_or_ge v1 u0 with hc | hc
  · exfalso
    have e1 : P * (B * (B * (v1 + 1))) ≤ P * (B * (B * u0)) := Nat.mul_le_mul_left _ (Nat.mul_le_mul_left _ (Nat.mul_le_mul_left _ hc))
    have e2 : P * (B * (B * u0)) ≤ V B us := by
      rw [h1]
      have : B * (B * u0) ≤ u2 + B * (u1 + B * u0) := by rw [Nat.mul_add]; omega
      have := Nat.mul_le_mul_left P this
      omega
    have e3 : V B vs < P * (B * (v1 + 1)) := by
      rw [h2]
      have : v2 + B * v1 + 1 ≤ B * (v1 + 1) := by rw [Nat.mul_add]; omega
      have := Nat.mul_le_mul_left P this
      rw [Nat.mul_add] at this
      omega
    have e4 : B * (V B vs + 1) ≤ B * (P * (B * (v1 + 1))) := Nat.mul_le_mul_left _ e3
    have e5 : B * (P * (B * (v1 + 1))) = P * (B * (B * (v1 + 1))) := Nat.mul_left_comm ..
    rw [Nat.mul_add] at e4
    omega
  · have : B * u0 ≤ B * v1 := Nat.mul_le_mul_left _ hc
    rw [Nat.mul_comm v1 B]
    omega

theorem Est.q_le {B Vu Vv U3 V2 u2 head v1 v2 : Nat} (h : Est B Vu Vv U3 V2 u2 head v1 v2) : Vu / Vv * V2 ≤ U3 := by
  obtain ⟨P, ul, vl, hP, hu, hul, hv, hvl⟩ := h.ex
  have h1 : Vu / Vv * Vv ≤ Vu := Nat.div_mul_le_self _ _
  have h2 : Vu / Vv * (P * V2) ≤ Vu / Vv * Vv := Nat.mul_le_mul_left _ (by omega)
  have h3 : P * (Vu / Vv * V2) < P * (U3 + 1) := by
    rw [Nat.mul_left_comm, Nat.mul_add]; omega
  have := Nat.lt_of_mul_lt_mul_left h3
  omega
theorem Est.vpos {B Vu Vv U3 V2 u2 head v1 v2 : Nat} (h : Est B Vu Vv U3 V2 u2 head v1 v2) : 0 < Vv := by
  have h1 := h.lt
  rcases Nat.eq_zero_or_pos Vv with h0 | h0
  · rw [h0] at h1; omega
  · exact h0
theorem Est.q_lt {B Vu Vv U3 V2 u2 head v1 v2 : Nat} (h : Est B Vu Vv U3 V2 u2 head v1 v2) : Vu / Vv < B := by
  rw [Nat.div_lt_iff_lt_mul h.vpos]; exact h.lt
theorem Est.start {B Vu Vv U3 V2 u2 head v1 v2 : Nat} (h : Est B Vu Vv U3 V2 u2 head v1 v2) (hB : 0 < B) : Vu / Vv ≤ head / v1 := by
  rw [Nat.le_div_iff_mul_le h.kv1]
  have h1 := h.q_le
  rw [h.u, h.v, Nat.mul_add, Nat.mul_left_comm] at h1
  have h2 : B * (Vu / Vv * v1) < B * (head + 1) := by rw [Nat.mul_add]; have := h.ku2; omega
  have := Nat.lt_of_mul_lt_mul_left h2
  omega
/-- a guess that is too great -/
theorem Est.more {B Vu Vv U3 V2 u2 head v1 v2 g r : Nat} (h : Est B Vu Vv U3 V2 u2 head v1 v2) (hi : g * v1 + r = head) (hc : B ≤ g ∨ r * B + u2 < g * v2) : Vu / Vv < g := by
  rcases hc with hc | hc
  · have := h.q_lt; omega
  · rcases Nat.lt_or_ge (Vu / Vv) g with h1 | h1
    · exact h1
    · exfalso
      have h2 : g * V2 ≤ Vu / Vv * V2 := Nat.mul_le_mul_right _ h1
      have h3 := h.q_le
      have h4 : g * V2 = g * v2 + B * (g * v1) := by rw [h.v, Nat.mul_add, Nat.mul_left_comm]
      have h5 : U3 = u2 + B * (g * v1) + r * B := by rw [h.u, ← hi, Nat.mul_add, Nat.mul_comm B r]; omega
      omega
theorem Est.fits {B Vu Vv U3 V2 u2 head v1 v2 g r : Nat} (h : Est B Vu Vv U3 V2 u2 head v1 v2) (hi : g * v1 + r = head) (hc : g * v2 ≤ r * B + u2) : g * V2 ≤ U3 := by
  have h4 : g * V2 = g * v2 + B * (g * v1) := by rw [h.v, Nat.mul_add, Nat.mul_left_comm]
  have h5 : U3 = u2 + B * (g * v1) + r * B := by rw [h.u, ← hi, Nat.mul_add, Nat.mul_comm B r]; omega
  omega
theorem Est.stop_lt {B Vu Vv U3 V2 u2 head v1 v2 g r : Nat} (h : Est B Vu Vv U3 V2 u2 head v1 v2) (hi : g * v1 + r = head) (hr : B ≤ r) : g < B := by
  rcases Nat.lt_or_ge g B with h1 | h1
  · exact h1
  · exfalso
    have h2 : B * v1 ≤ g * v1 := Nat.mul_le_mul_right _ h1
    have h3 := h.hd
    rw [Nat.mul_comm v1 B] at h3
    omega
theorem Est.stop_fits {B Vu Vv U3 V2 u2 head v1 v2 g r : Nat} (h : Est B Vu Vv U3 V2 u2 head v1 v2) (hi : g * v1 + r = head) (hr : B ≤ r) : g * V2 ≤ U3 := by
  have h1 := h.stop_lt hi hr
  refine h.fits hi ?_
  have h2 : g * v2 ≤ B * B := Nat.mul_le_mul (by omega) (by have := h.kv2; omega)
  have h3 : B * B ≤ r * B := Nat.mul_le_mul_right _ hr
  omega
/-- at most one too many -/
theorem Est.near {B Vu Vv U3 V2 u2 head v1 v2 g : Nat} (h : Est B Vu Vv U3 V2 u2 head v1 v2) (hg : g < B) (hf : g * V2 ≤ U3) : g ≤ Vu / Vv + 1 := by
  obtain ⟨P, ul, vl, hP, hu, hul, hv, hvl⟩ := h.ex
  have h1 : g * vl ≤ B * P := Nat.mul_le_mul (by omega) (by omega)
  have h2 : B * P ≤ Vv := by
    rw [hv, h.v, Nat.mul_add]
    have : P * (B * 1) ≤ P * (B * v1) := Nat.mul_le_mul_left _ (Nat.mul_le_mul_left _ h.kv1)
    rw [Nat.mul_one, Nat.mul_comm P B] at this
    omega
  have h1' : g * vl < B * P := by
    rcases Nat.eq_zero_or_pos g with h0 | h0
    · subst h0; simp; exact Nat.mul_pos (by omega) hP
    · exact Nat.lt_of_lt_of_le (Nat.mul_lt_mul_of_pos_left hvl h0) (Nat.mul_le_mul_right _ (by omega))
  have h3 : g * Vv < Vu + Vv := by
    have e : g * Vv = g * vl + P * (g * V2) := by rw [hv, Nat.mul_add, Nat.mul_left_comm]
    have : P * (g * V2) ≤ P * U3 := Nat.mul_le_mul_left _ hf
    omega
  have h4 : Vu < (Vu / Vv + 1) * Vv := by
    rw [Nat.add_mul, Nat.one_mul, Nat.mul_comm]
    have := Nat.div_add_mod Vu Vv
    have := Nat.mod_lt Vu h.vpos
    omega
  have h5 : g * Vv < (Vu / Vv + 2) * Vv := by
    have : (Vu / Vv + 2) * Vv = (Vu / Vv + 1) * Vv + Vv := by rw [show Vu / Vv + 2 = Vu / Vv + 1 + 1 by omega, Nat.add_mul _ 1, Nat.one_mul]
    omega
  have := Nat.lt_of_mul_lt_mul_right h5
  omega

/-- a step of subtracting a multiple -/
theorem msub_step (B i g : Nat) (o us vs : List Int) (c b d low c' b' : Nat) (h : V B o + g * V B (vs.take i) = V B (us.take i) + B ^ i * (b + c)) (hl : o.length = i) (hc : c + g * (vs.getD i 0).toNat = low + B * c') (hd : d + low + b = (us.getD i 0).toNat + B * b') :
    V B (o ++ [(d : Int)]) + g * V B (vs.take (i + 1)) = V B (us.take (i + 1)) + B ^ (i + 1) * (b' + c') := by
  rw [V_snoc, hl, V_take_getD, V_take_getD, Int.toNat_natCast, Nat.mul_add]
  have e1 : g * (B ^ i * (vs.getD i 0).toNat) = B ^ i * (g * (vs.getD i 0).toNat) := Nat.mul_left_comm ..
  have e2 : B ^ (i + 1) * (b' + c') = B ^ i * (B * b' + B * c') := by rw [Nat.pow_succ, Nat.mul_assoc, Nat.mul_add]
  have e3 : B ^ i * (b + c) + B ^ i * d + B ^ i * (g * (vs.getD i 0).toNat) = B ^ i * (us.getD i 0).toNat + B ^ i * (B * b' + B * c') := by
    rw [← Nat.mul_add, ← Nat.mul_add, ← Nat.mul_add]
    congr 1
    omega
  rw [e1, e2]
  omega

/-- the end, where nothing was borrowed -/
theorem digit_end0 {B Vu Vv U3 V2 u2 head v1 v2 g Vo : Nat} (h : Est B Vu Vv U3 V2 u2 head v1 v2) (hq : Vu / Vv ≤ g) (he : Vo + g * Vv = Vu) : g = Vu / Vv ∧ Vo = Vu % Vv := by
  have h1 : g * Vv ≤ Vu := by omega
  have h2 : g ≤ Vu / Vv := (Nat.le_div_iff_mul_le h.vpos).2 h1
  have h3 : g = Vu / Vv := by omega
  refine ⟨h3, ?_⟩
  have := Nat.div_add_mod Vu Vv
  rw [Nat.mul_comm, ← h3] at this
  omega
/-- the end, where one too many was subtracted -/
theorem digit_end1 {B Vu Vv U3 V2 u2 head v1 v2 g Vo M : Nat} (h : Est B Vu Vv U3 V2 u2 head v1 v2) (hn : g ≤ Vu / Vv + 1) (hq : Vu / Vv ≤ g) (he : Vo + g * Vv = Vu + M) (hM : Vo < M) : g = Vu / Vv + 1 ∧ Vo + Vv = M + Vu % Vv := by
  have h1 : g ≠ Vu / Vv := by
    intro e
    have : g * Vv ≤ Vu := by rw [e]; exact Nat.div_mul_le_self _ _
    omega
  have h2 : g = Vu / Vv + 1 := by omega
  refine ⟨h2, ?_⟩
  have := Nat.div_add_mod Vu Vv
  rw [Nat.mul_comm] at this
  rw [h2, Nat.add_mul, Nat.one_mul] at he
  omega

end Go.Proofs.NatL
