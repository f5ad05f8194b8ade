/- Plain laws of digits, halves and greatest common divisors. -/
import Derived.Test.YtggehgnmfjdkhaaL7
namespace Go.Proofs.NatL
set_option linter.unusedSimpArgs false
set_option linter.unusedVariables false

theorem dg_head (n : Nat) : (dg 65536 n).getD 0 0 = ((n % 65536 : Nat) : Int) := by
  rcases Nat.eq_zero_or_pos n with h | h
  · subst h; rfl
  · rw [dg_pos _ _ (by omega) h]; rfl
theorem tmod2 (n : Nat) : Int.tmod (n : Int) 2 = ((n % 2 : Nat) : Int) := by
  rw [Int.tmod_eq_emod_of_nonneg (Int.natCast_nonneg _)]; omega
theorem dg_len_pos (B n : Nat) (hB : 2 ≤ B) : 0 < (dg B n).length ↔ 0 < n := by
  constructor
  · intro h
    rcases Nat.eq_zero_or_pos n with h1 | h1
    · subst h1; simp [dg_zero] at h
    · exact h1
  · intro h
    rw [dg_pos _ _ hB h]; simp
theorem dg_len_mono {B : Nat} (hB : 2 ≤ B) {a b : Nat} (h : a ≤ b) : (dg B a).length ≤ (dg B b).length := by
  have h1 := dg_len_gt hB b ((dg B b).length)
  rcases Nat.lt_or_ge b (B ^ (dg B b).length) with h2 | h2
  · exact dg_len_le hB a _ (Nat.lt_of_le_of_lt h h2)
  · have := h1 h2; omega
theorem lt_of_len {B : Nat} (hB : 2 ≤ B) {a k : Nat} (h : (dg B a).length ≤ k) : a < B ^ k := by
  rcases Nat.lt_or_ge a (B ^ k) with h2 | h2
  · exact h2
  · have := dg_len_gt hB a k h2; omega
/-- a number with few digits has few factors of two -/
theorem pow_le_len {t a k : Nat} (h : 2 ^ t ≤ a) (hl : (dg 65536 a).length ≤ k) : t < 16 * k := by
  have h1 := lt_of_len (B := 65536) (by omega) hl
  rw [show (65536 : Nat) = 2 ^ 16 from rfl, ← Nat.pow_mul] at h1
  exact (Nat.pow_lt_pow_iff_right (a := 2) (by omega)).1 (Nat.lt_of_le_of_lt h h1)

theorem gcd_even2 {a b : Nat} (ha : a % 2 = 0) (hb : b % 2 = 0) : Nat.gcd a b = Nat.gcd (a / 2) (b / 2) * 2 := by
  obtain ⟨x, rfl⟩ : ∃ x, a = 2 * x := ⟨a / 2, by omega⟩
  obtain ⟨y, rfl⟩ : ∃ y, b = 2 * y := ⟨b / 2, by omega⟩
  rw [Nat.gcd_mul_left, Nat.mul_div_cancel_left _ (by omega), Nat.mul_div_cancel_left _ (by omega), Nat.mul_comm]
theorem cop2 {b : Nat} (hb : b % 2 = 1) : Nat.Coprime 2 b := by
  rw [Nat.coprime_iff_gcd_eq_one, Nat.gcd_rec, hb]; decide
theorem gcd_even1 {a b : Nat} (ha : a % 2 = 0) (hb : b % 2 = 1) : Nat.gcd (a / 2) b = Nat.gcd a b := by
  obtain ⟨x, rfl⟩ : ∃ x, a = 2 * x := ⟨a / 2, by omega⟩
  rw [Nat.mul_div_cancel_left _ (by omega), (cop2 hb).gcd_mul_left_cancel]

theorem dbl_step (B i : Nat) (o xs : List Int) (c r q c0 : Nat) (h : V B o + B ^ i * c = V B (xs.take i) * 2 + c0) (hl : o.length = i) (hr : r + B * q = c + 2 * (xs.getD i 0).toNat) :
    V B (o ++ [(r : Int)]) + B ^ (i + 1) * q = V B (xs.take (i + 1)) * 2 + c0 := by
  have e := carry_step B i _ _ _ _ _ _ h hr
  rw [V_snoc, hl, V_take_getD, Int.toNat_natCast, e, Nat.add_mul]
  have : B ^ i * (2 * (xs.getD i 0).toNat) = B ^ i * (xs.getD i 0).toNat * 2 := by rw [Nat.mul_comm 2, Nat.mul_assoc]
  omega

theorem V65 (n : Nat) : V 65536 (dg 65536 n) = n := V_dg 65536 (by omega) n
theorem I65 (n : Nat) : InB 65536 (dg 65536 n) = True := eq_true (InB_dg 65536 (by omega) n)
theorem T65 (n : Nat) : Trd (dg 65536 n) = True := eq_true (dg_trd 65536 (by omega) n)
theorem V32 (n : Nat) : V 4294967296 (dg 4294967296 n) = n := V_dg 4294967296 (by omega) n
theorem I32 (n : Nat) : InB 4294967296 (dg 4294967296 n) = True := eq_true (InB_dg 4294967296 (by omega) n)
theorem T32 (n : Nat) : Trd (dg 4294967296 n) = True := eq_true (dg_trd 4294967296 (by omega) n)
theorem I0 (B : Nat) : InB B [] = True := eq_true (fun _ h => by cases h)
theorem T0 : Trd [] = True := eq_true (.inl rfl)
theorem V0 (B : Nat) : V B [] = 0 := rfl

theorem W_half (k : Nat) : (4294967296 : Nat) ^ k = 65536 ^ (2 * k) := by rw [Nat.pow_mul]
theorem of_len {xs : List Int} {k : Nat} (h : xs.length ≤ k) (b : InB 4294967296 xs) : (dg 65536 (V 4294967296 xs)).length ≤ 2 * k := by
  refine dg_len_le (by omega) _ _ ?_
  rw [← W_half]
  exact Nat.lt_of_lt_of_le (V_lt _ (by omega) _ b) (Nat.pow_le_pow_right (by omega) h)
theorem add_len {B a b k : Nat} (hB : 2 ≤ B) (h : (dg B a).length ≤ k) (h2 : (dg B b).length ≤ k) : (dg B (a + b)).length ≤ k + 1 := by
  have h := lt_of_len hB h
  have h2 := lt_of_len hB h2
  refine dg_len_le hB _ _ ?_
  rw [Nat.pow_succ]
  have : B ^ k * 2 ≤ B ^ k * B := Nat.mul_le_mul_left _ hB
  omega
theorem mul_len {B a b k l : Nat} (hB : 2 ≤ B) (h : (dg B a).length ≤ k) (h2 : (dg B b).length ≤ l) : (dg B (a * b)).length ≤ k + l := by
  have h := lt_of_len hB h
  have h2 := lt_of_len hB h2
  refine dg_len_le hB _ _ ?_
  rw [Nat.pow_add]
  exact Nat.mul_lt_mul_of_le_of_lt (Nat.le_of_lt h) h2 (Nat.pos_of_ne_zero (fun e => by rw [e] at h; omega))
theorem sub_len {B a b k : Nat} (hB : 2 ≤ B) (h : (dg B a).length ≤ k) : (dg B (a - b)).length ≤ k := by
  have h := lt_of_len hB h
  exact dg_len_le hB _ _ (by omega)
theorem cmp3_lt (a b : Nat) : cmp3 a b < 0 ↔ a < b := by
  unfold cmp3; split
  · simp_all
  · split <;> simp_all
theorem cmp3_ge (a b : Nat) : 0 ≤ cmp3 a b ↔ b ≤ a := by
  have := cmp3_lt a b
  omega

end Go.Proofs.NatL
