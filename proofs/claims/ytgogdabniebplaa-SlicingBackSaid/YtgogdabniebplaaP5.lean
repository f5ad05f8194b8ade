import Derived.Test.YtgogdabniebplaaP4
import Derived.Test.YtgogdabniebplaaN18
namespace Go.Proofs.Ytgogdabniebplaa
set_option linter.unusedSimpArgs false
set_option linter.unusedVariables false
open Go.Proofs.NatL

def shZ (a n : Int) : Int := if n < 0 then a / ((2 ^ (-n).toNat : Nat) : Int) else a * ((2 ^ n.toNat : Nat) : Int)
theorem shZ_nat (m : Nat) (n : Int) : shZ (m : Int) n = (shf m n : Nat) := by
  unfold shZ shf
  split
  · exact (Int.natCast_ediv m _).symm
  · exact (Int.natCast_mul m _).symm
theorem shZ_up (m : Nat) {n : Int} (h : ¬ n < 0) : shZ (-(m : Int)) n = -((shf m n : Nat) : Int) := by
  unfold shZ shf
  rw [if_neg h, if_neg h, Int.natCast_mul, Int.neg_mul]
theorem shZ_down {m : Nat} {n : Int} (hm : 0 < m) (h : n < 0) : shZ (-(m : Int)) n = -((shf (m - 1) n + 1 : Nat) : Int) := by
  unfold shZ shf
  rw [if_pos h, if_pos h]
  have hp := pow2_pos (-n).toNat
  generalize 2 ^ (-n).toNat = p at *
  have h1 := Nat.div_add_mod (m - 1) p
  have h2 := Nat.mod_lt (m - 1) hp
  generalize (m - 1) / p = q at *
  generalize (m - 1) % p = r at *
  have e : -(m : Int) = -((q + 1 : Nat) : Int) * (p : Int) + ((p - 1 - r : Nat) : Int) := by
    have h3 : ((p - 1 - r : Nat) : Int) = (p : Int) - 1 - r := by omega
    have h4 : (m : Int) = (p : Int) * q + r + 1 := by
      have : m = p * q + r + 1 := by omega
      exact_mod_cast this
    rw [h3, h4]; push_cast; rw [Int.neg_mul, Int.add_mul, Int.mul_comm (q : Int)]; omega
  rw [e, Int.add_comm, Int.add_mul_ediv_right _ _ (by omega), Int.ediv_eq_zero_of_lt (by omega) (by omega)]
  omega
theorem shBig_len {m : Nat} {n : Int} (lm : (dg 4294967296 m).length ≤ 128) (h : shBig m n = true) : ¬ (dg 4294967296 (shf m n)).length ≤ 128 := by
  obtain ⟨h1, h2⟩ := of_decide_eq_true h
  have hm : 0 < m := by
    rcases Nat.eq_zero_or_pos m with h | h
    · subst h; exact absurd h1 (by decide)
    · exact h
  obtain ⟨b1, b2, b3⟩ := bl_spec m hm
  have h3 : 2 ^ (bl m - 1) * 2 ^ n.toNat ≤ shf m n := by
    have : 0 < n := by
      have hb : bl m ≤ 4096 := by
        obtain ⟨k, hk⟩ : ∃ k, k = 128 := ⟨_, rfl⟩
        rw [← hk] at lm
        have h1 := lt_of_len (B := 4294967296) (by omega) lm
        rw [show (4294967296 : Nat) = 2 ^ 32 from rfl, ← Nat.pow_mul] at h1
        have := bl_lt m _ h1
        omega
      omega
    unfold shf
    rw [if_neg (by omega)]
    exact Nat.mul_le_mul_right _ b1
  rw [← Nat.pow_add] at h3
  obtain ⟨k, hk⟩ : ∃ k, k = 128 := ⟨_, rfl⟩
  have h4 : 4294967296 ^ k ≤ shf m n := by
    rw [show (4294967296 : Nat) = 2 ^ 32 from rfl, ← Nat.pow_mul]
    exact Nat.le_trans (Nat.pow_le_pow_right (by omega) (by omega)) h3
  have := dg_len_gt (B := 4294967296) (by omega) _ _ h4
  omega
theorem shf_le {m : Nat} {n : Int} (h : n < 0) : shf m n ≤ m := by
  unfold shf; rw [if_pos h]; exact Nat.div_le_self _ _
theorem shZ_big {a n : Int} (ha : a ≠ 0) (hn : 4096 < n) : ¬ (dg 4294967296 (shZ a n).natAbs).length ≤ 128 := by
  have e : (shZ a n).natAbs = a.natAbs * 2 ^ n.toNat := by
    unfold shZ; rw [if_neg (by omega), Int.natAbs_mul]; rfl
  rw [e]
  have h1 : 1 * 2 ^ n.toNat ≤ a.natAbs * 2 ^ n.toNat := Nat.mul_le_mul_right _ (by omega)
  obtain ⟨k, hk⟩ : ∃ k, k = 128 := ⟨_, rfl⟩
  have h4 : 4294967296 ^ k ≤ a.natAbs * 2 ^ n.toNat := by
    rw [show (4294967296 : Nat) = 2 ^ 32 from rfl, ← Nat.pow_mul]
    exact Nat.le_trans (Nat.pow_le_pow_right (by omega) (show 32 * k ≤ n.toNat by omega)) (by omega)
  have := dg_len_gt (B := 4294967296) (by omega) _ _ h4
  omega
theorem bl_zero_iff (m : Nat) : 0 < bl m ↔ 0 < m := by
  constructor
  · intro h
    rcases Nat.eq_zero_or_pos m with h0 | h0
    · subst h0; exact absurd h (by decide)
    · exact h0
  · intro h; exact (bl_spec m h).2.2

theorem sg_pow (s : Bool) (m n : Nat) : sg (s && decide (n % 2 = 1)) (m ^ n) = sg s m ^ n := by
  cases s
  · simp only [Bool.false_and, sgf]; exact Int.natCast_pow m n
  · simp only [Bool.true_and, sgt]
    induction n with
    | zero => simp [sgf]
    | succ n ih =>
      rw [Int.pow_succ, ← ih]
      rcases Nat.mod_two_eq_zero_or_one n with h | h
      · rw [decide_eq_false (p := n % 2 = 1) (by omega), decide_eq_true (p := (n + 1) % 2 = 1) (by omega), sgf, sgt, Nat.pow_succ]
        push_cast; rw [Int.mul_neg]
      · rw [decide_eq_true (p := n % 2 = 1) h, decide_eq_false (p := (n + 1) % 2 = 1) (by omega), sgf, sgt, Nat.pow_succ]
        push_cast; rw [Int.neg_mul_neg]
theorem abs_pow (a : Int) (n : Nat) : (a ^ n).natAbs = a.natAbs ^ n := by
  induction n with
  | zero => rw [Int.pow_zero, Nat.pow_zero]; rfl
  | succ n ih => rw [Int.pow_succ, Int.natAbs_mul, ih, Nat.pow_succ]
theorem pow_le_pow' {m k n : Nat} (hm : 0 < m) (h : k ≤ n) : m ^ k ≤ m ^ n := Nat.pow_le_pow_right hm h
theorem pow_stays {m i : Nat} (h : m ^ i * m = m ^ i) : ∀ d, m ^ (i + d) = m ^ i
  | 0 => rfl
  | d + 1 => by rw [← Nat.add_assoc, Nat.pow_succ, pow_stays h d, h]
theorem pow_len {a : Int} {k n : Nat} (hk : k ≤ n) (h0 : a ≠ 0 ∨ k = 0 ∨ 0 < k) (hl : (dg 4294967296 (a ^ n).natAbs).length ≤ 128) : (dg 4294967296 (a ^ k).natAbs).length ≤ 128 := by
  rcases Int.lt_or_le a 0 with h | h
  · refine Nat.le_trans (dg_len_mono (by omega) ?_) hl
    rw [abs_pow, abs_pow]; exact pow_le_pow' (by omega) hk
  · rcases Int.lt_or_eq_of_le h with h | h
    · refine Nat.le_trans (dg_len_mono (by omega) ?_) hl
      rw [abs_pow, abs_pow]; exact pow_le_pow' (by omega) hk
    · subst h
      rw [abs_pow]
      refine Nat.le_trans (dg_len_le (B := 4294967296) (by omega) _ 1 ?_) (by omega)
      rcases Nat.eq_zero_or_pos k with h | h
      · subst h; decide
      · rw [show (0 : Int).natAbs = 0 from rfl, Nat.zero_pow h]; decide

def pm (a : Int) (e : Nat) (m : Int) : Int := (a ^ e) % m
theorem pm_twice (a m : Int) (e : Nat) : pm a (2 * e) m = (pm a e m * pm a e m) % m := by
  unfold pm; rw [Nat.mul_comm, Int.pow_mul, ← Int.mul_emod]; rw [show a ^ e * a ^ e = (a ^ e) ^ 2 by rw [Int.pow_succ, Int.pow_succ, Int.pow_zero, Int.one_mul]]
theorem pm_odd (a m : Int) (e : Nat) : pm a (2 * e + 1) m = (((pm a e m * pm a e m) % m) * (a % m)) % m := by
  rw [← pm_twice]; unfold pm; rw [Int.pow_succ, Int.mul_emod]
theorem pm_odd' (a m : Int) (e : Nat) : pm a (2 * e + 1) m = (((pm a e m * pm a e m) % m) * a) % m := by
  rw [← pm_twice]; unfold pm; rw [Int.pow_succ, Int.mul_emod (a ^ (2 * e) % m), Int.emod_emod_of_dvd _ (Int.dvd_refl m), ← Int.mul_emod]
theorem pm_add (a m : Int) (e d : Nat) : pm a (e + d) m = (pm a e m * pm a d m) % m := by
  unfold pm; rw [Int.pow_add, ← Int.mul_emod]
theorem pm_nonneg {a m : Int} (hm : 0 < m) (e : Nat) : 0 ≤ pm a e m ∧ pm a e m < m := ⟨Int.emod_nonneg _ (by omega), Int.emod_lt_of_pos _ hm⟩

end Go.Proofs.Ytgogdabniebplaa
