import Derived.Test.YtgogdabniebplaaP
namespace Go.Proofs.NatL
set_option linter.unusedSimpArgs false
set_option linter.unusedVariables false
theorem zadd_len {B k : Nat} {a b : Int} (hB : 2 ≤ B) (h : (dg B a.natAbs).length ≤ k) (h2 : (dg B b.natAbs).length ≤ k) : (dg B (a + b).natAbs).length ≤ k + 1 :=
  Nat.le_trans (dg_len_mono hB (Int.natAbs_add_le a b)) (add_len hB h h2)
theorem zsub_len {B k : Nat} {a b : Int} (hB : 2 ≤ B) (h : (dg B a.natAbs).length ≤ k) (h2 : (dg B b.natAbs).length ≤ k) : (dg B (a - b).natAbs).length ≤ k + 1 := by
  rw [Int.sub_eq_add_neg]
  exact zadd_len hB h (by rw [Int.natAbs_neg]; exact h2)
theorem zmul_len {B k l : Nat} {a b : Int} (hB : 2 ≤ B) (h : (dg B a.natAbs).length ≤ k) (h2 : (dg B b.natAbs).length ≤ l) : (dg B (a * b).natAbs).length ≤ k + l := by
  rw [Int.natAbs_mul]; exact mul_len hB h h2
theorem zneg_len {B k : Nat} {a : Int} (h : (dg B a.natAbs).length ≤ k) : (dg B (-a).natAbs).length ≤ k := by rw [Int.natAbs_neg]; exact h
theorem cmp3_gt (a b : Nat) : 0 < cmp3 a b ↔ b < a := by
  have h1 := cmp3_ge a b
  have h2 := cmp3_lt a b
  unfold cmp3 at *
  split
  · omega
  · split
    · rename_i h; simp_all
    · omega
theorem sg_dec {s : Bool} {m : Nat} (h : 0 < m) : decide (sg s m < 0) = s := by
  cases s
  · exact decide_eq_false (by rw [sgf]; omega)
  · exact decide_eq_true (by rw [sgt]; omega)
theorem sg_zero (s : Bool) : sg s 0 = 0 := by cases s <;> rfl
theorem sg_ne0 {s : Bool} {m : Nat} (h : 0 < m) : sg s m ≠ 0 := by
  intro e
  have := sg_abs s m
  rw [e] at this
  simp at this; omega
theorem floor_sg1 (s t : Bool) (m n : Nat) (hn : 0 < n) (h : s = t ∨ m % n = 0) : sg (s != t) (m / n) = (sg s m).fdiv (sg t n) ∧ sg t (m % n) = (sg s m).fmod (sg t n) := by
  rcases Nat.eq_zero_or_pos m with h0 | h0
  · subst h0
    rw [Nat.zero_div, Nat.zero_mod, sg_zero, sg_zero, sg_zero, Int.zero_fdiv, Int.zero_fmod]
    exact ⟨rfl, rfl⟩
  · have := floor_same (a := sg s m) (b := sg t n) (sg_ne0 hn) (by rw [sg_dec h0, sg_dec hn, sg_abs, sg_abs]; exact h)
    rw [sg_dec h0, sg_dec hn, sg_abs, sg_abs] at this
    exact this
theorem floor_sg2 (s t : Bool) (m n : Nat) (hn : 0 < n) (h : s ≠ t) (hr : m % n ≠ 0) : sg true (m / n + 1) = (sg s m).fdiv (sg t n) ∧ sg t (n - m % n) = (sg s m).fmod (sg t n) := by
  have h0 : 0 < m := by
    rcases Nat.eq_zero_or_pos m with h0 | h0
    · subst h0; simp at hr
    · exact h0
  have := floor_diff (a := sg s m) (b := sg t n) (sg_ne0 hn) (by rw [sg_dec h0, sg_dec hn]; exact h) (by rw [sg_abs, sg_abs]; exact hr)
  rw [sg_dec hn, sg_abs, sg_abs] at this
  exact ⟨this.1, this.2.1⟩
theorem fdiv_abs {a b : Int} (hb : b ≠ 0) : (a.fdiv b).natAbs ≤ a.natAbs ∧ (a.fmod b).natAbs ≤ b.natAbs := by
  have b0 : 0 < b.natAbs := by omega
  have hr0 := Nat.mod_lt a.natAbs b0
  have hd := Nat.div_le_self a.natAbs b.natAbs
  by_cases hs : decide (a < 0) = decide (b < 0) ∨ a.natAbs % b.natAbs = 0
  · obtain ⟨z1, z2⟩ := floor_same hb hs
    rw [← z1, ← z2, sg_abs, sg_abs]; omega
  · obtain ⟨z1, z2, z3⟩ := floor_diff hb (fun h => hs (.inl h)) (fun h => hs (.inr h))
    rw [← z1, ← z2, sg_abs, sg_abs]; omega
theorem gcd_le_add (m n : Nat) : Nat.gcd m n ≤ m + n := by
  rcases Nat.eq_zero_or_pos m with h | h
  · subst h; rw [Nat.gcd_zero_left]; omega
  · have := Nat.gcd_le_left n h; omega
end Go.Proofs.NatL
