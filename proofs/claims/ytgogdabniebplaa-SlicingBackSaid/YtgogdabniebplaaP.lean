import Derived.Test.YtgogdabniebplaaL
namespace Go.Proofs.NatL
set_option linter.unusedSimpArgs false
set_option linter.unusedVariables false

def sv (B : Nat) (s : Bool) (xs : List Int) : Int := if s then -(V B xs : Int) else V B xs
def sgz (z : Int) (b : Bool) : Bool := if z = 0 then b else decide (z < 0)

theorem sv_sgz {B : Nat} (hB : 2 ≤ B) (z : Int) (b : Bool) : sv B (sgz z b) (dg B z.natAbs) = z := by
  unfold sv sgz
  rw [V_dg B hB]
  by_cases h0 : z = 0
  · subst h0; simp
  · rw [if_neg h0]
    by_cases h : z < 0
    · rw [if_pos (by simpa using h)]; omega
    · rw [if_neg (by simpa using h)]; omega
theorem sv_sg {B : Nat} (hB : 2 ≤ B) (z : Int) : sv B (decide (z < 0)) (dg B z.natAbs) = z := by
  have := sv_sgz hB z false
  unfold sgz at this
  by_cases h0 : z = 0
  · subst h0; simp [sv, dg_zero, V]
  · rw [if_neg h0] at this; exact this
theorem sv32 (z : Int) : sv 4294967296 (decide (z < 0)) (dg 4294967296 z.natAbs) = z := sv_sg (by omega) z
theorem sv65 (z : Int) : sv 65536 (decide (z < 0)) (dg 65536 z.natAbs) = z := sv_sg (by omega) z
theorem svz65 (z : Int) (b : Bool) : sv 65536 (sgz z b) (dg 65536 z.natAbs) = z := sv_sgz (by omega) z b
theorem svf (B : Nat) (xs : List Int) : sv B false xs = V B xs := rfl
theorem svt (B : Nat) (xs : List Int) : sv B true xs = -(V B xs : Int) := rfl
theorem sv0 (B : Nat) (s : Bool) : sv B s [] = 0 := by cases s <;> simp [sv, V]
theorem sv_abs (B : Nat) (s : Bool) (xs : List Int) : (sv B s xs).natAbs = V B xs := by cases s <;> simp [sv]
theorem sgz_ne {z : Int} {b : Bool} (h : z ≠ 0) : sgz z b = decide (z < 0) := by simp [sgz, h]
theorem sgz_false (z : Int) : sgz z false = decide (z < 0) := by
  unfold sgz; split
  · rename_i h; subst h; rfl
  · rfl

instance decTrd (xs : List Int) : Decidable (Trd xs) := by unfold Trd; infer_instance
def sg (s : Bool) (m : Nat) : Int := if s then -(m : Int) else m
theorem sv_d {B : Nat} (hB : 2 ≤ B) (s : Bool) (m : Nat) : sv B s (dg B m) = sg s m := by unfold sv sg; rw [V_dg B hB]
theorem sv32d (s : Bool) (m : Nat) : sv 4294967296 s (dg 4294967296 m) = sg s m := sv_d (by omega) s m
theorem sgt (m : Nat) : sg true m = -(m : Int) := rfl
theorem sgf (m : Nat) : sg false m = m := rfl
theorem sg_abs (s : Bool) (m : Nat) : (sg s m).natAbs = m := by cases s <;> simp [sg]
theorem sg_self (a : Int) : sg (decide (a < 0)) a.natAbs = a := by
  by_cases h : a < 0
  · rw [decide_eq_true h, sgt]; omega
  · rw [decide_eq_false h, sgf]; omega
theorem sg_not (s : Bool) (m : Nat) : sg (!s) m = -sg s m := by cases s <;> simp [sg]
theorem sg_mul (s t : Bool) (m n : Nat) : sg (s != t) (m * n) = sg s m * sg t n := by cases s <;> cases t <;> simp [sg, Int.neg_mul, Int.mul_neg]
def okZ (s : Bool) (xs : List Int) : Bool := decide (xs.length ≤ 128 ∧ ((xs = [] ∧ s = false) ∨ (xs ≠ [] ∧ Trd xs)))
theorem okZ_eq {s : Bool} {xs : List Int} (h : okZ s xs = true) (bx : InB 4294967296 xs) :
    s = decide (sv 4294967296 s xs < 0) ∧ xs = dg 4294967296 (sv 4294967296 s xs).natAbs ∧ xs.length ≤ 128 := by
  unfold okZ at h
  obtain ⟨hl, h⟩ := of_decide_eq_true h
  rw [sv_abs]
  rcases h with ⟨rfl, rfl⟩ | ⟨hne, ht⟩
  · exact ⟨by simp [sv, V], by simp [V, dg_zero], hl⟩
  · have hd := dg_V 4294967296 (by omega) xs bx ht
    have h0 : 0 < V 4294967296 xs := by
      rcases Nat.eq_zero_or_pos (V 4294967296 xs) with h | h
      · rw [h, dg_zero] at hd; exact absurd hd.symm hne
      · exact h
    refine ⟨?_, hd.symm, hl⟩
    cases s
    · rw [decide_eq_false]; simp [sv]
    · rw [decide_eq_true]; simp [sv]; omega
theorem okZ_g (z : Int) : okZ (decide (z < 0)) (dg 4294967296 z.natAbs) = decide ((dg 4294967296 z.natAbs).length ≤ 128) := by
  unfold okZ
  congr 1
  refine propext ⟨fun h => h.1, fun h => ⟨h, ?_⟩⟩
  by_cases h0 : z = 0
  · subst h0; left; exact ⟨rfl, rfl⟩
  · right
    refine ⟨fun e => ?_, dg_trd _ (by omega) _⟩
    have := (dg_len_pos 4294967296 z.natAbs (by omega)).2 (by omega)
    rw [e] at this; simp at this
theorem okZ_ex {s : Bool} {xs : List Int} (h : okZ s xs = true) (bx : InB 4294967296 xs) : ∃ z : Int, s = decide (z < 0) ∧ xs = dg 4294967296 z.natAbs ∧ (dg 4294967296 z.natAbs).length ≤ 128 := by
  obtain ⟨h1, h2, h3⟩ := okZ_eq h bx
  exact ⟨_, h1, h2, by rw [← h2]; exact h3⟩
theorem okZ_len {s : Bool} {xs : List Int} (h : okZ s xs = true) : xs.length ≤ 128 := (of_decide_eq_true h).1
theorem okZ_trd {s : Bool} {xs : List Int} (h : okZ s xs = true) : Trd xs := by
  rcases (of_decide_eq_true h).2 with ⟨rfl, _⟩ | ⟨_, h⟩
  · exact .inl rfl
  · exact h

def cl (k : Nat) (z : Int) : Int := if (dg 4294967296 z.natAbs).length ≤ k then z else 0
def clC (k : Nat) (z : Int) : Int := if (dg 4294967296 z.natAbs).length ≤ k then 0 else 14
def clI (k : Nat) (z : Int) : Int := if (dg 4294967296 z.natAbs).length ≤ k then 0 else -1
theorem cl_fit {k : Nat} {z : Int} (h : (dg 4294967296 z.natAbs).length ≤ k) : cl k z = z ∧ clC k z = 0 ∧ clI k z = 0 := by simp [cl, clC, clI, h]
theorem cl_big {k : Nat} {z : Int} (h : ¬ (dg 4294967296 z.natAbs).length ≤ k) : cl k z = 0 ∧ clC k z = 14 ∧ clI k z = -1 := by simp [cl, clC, clI, h]
theorem cl_len (k : Nat) (z : Int) : (dg 4294967296 (cl k z).natAbs).length ≤ k := by
  unfold cl; split
  · assumption
  · simp [dg_zero]
theorem dg_natAbs_le {B : Nat} (hB : 2 ≤ B) {a b : Int} (h : a.natAbs ≤ b.natAbs) : (dg B a.natAbs).length ≤ (dg B b.natAbs).length := dg_len_mono hB h
theorem len_add {B k : Nat} (hB : 2 ≤ B) {a b : Int} (h : (dg B a.natAbs).length ≤ k) (h2 : (dg B b.natAbs).length ≤ k) : (dg B (a + b).natAbs).length ≤ k + 1 :=
  Nat.le_trans (dg_len_mono hB (Int.natAbs_add_le a b)) (add_len hB h h2)
theorem len_mul {B k l : Nat} (hB : 2 ≤ B) {a b : Int} (h : (dg B a.natAbs).length ≤ k) (h2 : (dg B b.natAbs).length ≤ l) : (dg B (a * b).natAbs).length ≤ k + l := by
  rw [Int.natAbs_mul]; exact mul_len hB h h2
theorem len_neg {B : Nat} (a : Int) : (dg B (-a).natAbs).length = (dg B a.natAbs).length := by rw [Int.natAbs_neg]
theorem dg_len_iff' {B : Nat} (hB : 2 ≤ B) (n k : Nat) : (dg B n).length ≤ k ↔ n < B ^ k := by
  constructor
  · intro h; exact lt_of_len hB h
  · exact dg_len_le hB n k
theorem dg_half' (n k : Nat) : (dg 65536 n).length ≤ 2 * k ↔ (dg 4294967296 n).length ≤ k := by
  rw [dg_len_iff' (by omega), dg_len_iff' (by omega), Nat.pow_mul]
theorem dg_half_le' {n k : Nat} (h : (dg 4294967296 n).length ≤ k) : (dg 65536 n).length ≤ 2 * k := (dg_half' n k).2 h

def fbC : List (Bool × List Int) → Int
  | [] => 0
  | p :: l => if okZ p.1 p.2 then fbC l else 6
def fbX : Int → List (Bool × List Int) → Int
  | _, [] => 0
  | i, p :: l => if okZ p.1 p.2 then fbX (i + 1) l else -1 - i
def allL (n : Nat) : List (Bool × List Int) → Prop
  | [] => True
  | p :: l => p.2.length ≤ n ∧ allL n l
theorem allL_get {n : Nat} : ∀ {l : List (Bool × List Int)} {i : Nat}, allL n l → (l.getD i (false, [])).2.length ≤ n
  | [], i, _ => by simp
  | p :: l, 0, h => h.1
  | p :: l, i + 1, h => by simpa using allL_get (i := i) h.2
theorem drop_getD (l : List (Bool × List Int)) (i : Nat) (h : i < l.length) : l.drop i = l.getD i (false, []) :: l.drop (i + 1) := by
  rw [List.drop_eq_getElem_cons h, List.getD_eq_getElem?_getD, List.getElem?_eq_getElem h]; rfl
theorem okZ_iff (s : Bool) (xs : List Int) (b : Bool) (h : b = true ↔ ((xs.length : Int) ≤ 128 ∧ (((xs.length : Int) = 0 ∧ s = false) ∨ (0 < (xs.length : Int) ∧ xs.getD ((xs.length : Int) - 1).toNat 0 ≠ 0)))) : b = okZ s xs := by
  have e : ((xs.length : Int) - 1).toNat = xs.length - 1 := by omega
  have h2 : okZ s xs = true ↔ ((xs.length : Int) ≤ 128 ∧ (((xs.length : Int) = 0 ∧ s = false) ∨ (0 < (xs.length : Int) ∧ xs.getD ((xs.length : Int) - 1).toNat 0 ≠ 0))) := by
    unfold okZ Trd
    rw [decide_eq_true_iff, e]
    have e1 : xs = [] ↔ (xs.length : Int) = 0 := by rw [← List.length_eq_zero_iff]; omega
    have e2 : xs.length = 0 ↔ (xs.length : Int) = 0 := by omega
    rw [e1, e2, ne_eq, e1]
    constructor
    · rintro ⟨h1, h3 | ⟨h3, h4 | h4⟩⟩
      · exact ⟨by omega, .inl h3⟩
      · exact absurd h4 h3
      · exact ⟨by omega, .inr ⟨by omega, h4⟩⟩
    · rintro ⟨h1, h3 | ⟨h3, h4⟩⟩
      · exact ⟨by omega, .inl h3⟩
      · exact ⟨by omega, .inr ⟨by omega, .inr h4⟩⟩
  rw [Bool.eq_iff_iff, h, h2]

def cmpZ (a b : Int) : Int := if a < b then -1 else if a = b then 0 else 1
theorem cmpZ_neg (a b : Int) : cmpZ (-a) (-b) = cmpZ b a := by
  unfold cmpZ
  rcases Int.lt_trichotomy a b with h | h | h
  · rw [if_neg (by omega), if_neg (by omega), if_neg (by omega), if_neg (by omega)]
  · subst h; simp
  · rw [if_pos (by omega), if_pos (by omega)]
theorem cmp3_Z (a b : Nat) : cmp3 a b = cmpZ (a : Int) b := by
  unfold cmp3 cmpZ
  rcases Nat.lt_trichotomy a b with h | h | h
  · rw [if_pos h, if_pos (by omega)]
  · subst h; simp
  · rw [if_neg (by omega), if_neg (by omega), if_neg (by omega), if_neg (by omega)]

theorem floor_parts (b : Int) (hb : b ≠ 0) (a : Int) : ∃ (n m q r : Nat), 0 < n ∧ (b = n ∧ ¬ b < 0 ∨ b = -(n : Int) ∧ b < 0) ∧ (a = m ∧ ¬ a < 0 ∨ a = -(m : Int) ∧ a < 0) ∧ a.natAbs = m ∧ b.natAbs = n ∧ m / n = q ∧ m % n = r ∧ n * q + r = m ∧ r < n := by
  refine ⟨b.natAbs, a.natAbs, a.natAbs / b.natAbs, a.natAbs % b.natAbs, by omega, by omega, by omega, rfl, rfl, rfl, rfl, Nat.div_add_mod _ _, Nat.mod_lt _ (by omega)⟩
theorem fdm_pos {a b q r : Int} (hb : 0 < b) (h : r + b * q = a) (h0 : 0 ≤ r) (h1 : r < b) : q = a.fdiv b ∧ r = a.fmod b := by
  obtain ⟨h2, h3⟩ := (Int.fdiv_fmod_unique hb).2 ⟨h, h0, h1⟩
  exact ⟨h2.symm, h3.symm⟩
theorem fdm_neg {a b q r : Int} (hb : b < 0) (h : r + b * q = a) (h0 : b < r) (h1 : r ≤ 0) : q = a.fdiv b ∧ r = a.fmod b := by
  obtain ⟨h2, h3⟩ := (Int.fdiv_fmod_unique' hb).2 ⟨h, h0, h1⟩
  exact ⟨h2.symm, h3.symm⟩
theorem floor_same {a b : Int} (hb : b ≠ 0) (h : decide (a < 0) = decide (b < 0) ∨ a.natAbs % b.natAbs = 0) :
    sg (decide (a < 0) != decide (b < 0)) (a.natAbs / b.natAbs) = a.fdiv b ∧ sg (decide (b < 0)) (a.natAbs % b.natAbs) = a.fmod b := by
  obtain ⟨n, m, q, r, hn, h1, h2, e1, e2, e3, e4, e5, e6⟩ := floor_parts b hb a
  rw [e1, e2, e3, e4]
  rw [e1, e2, e4] at h
  have e7 : (n : Int) * q + r = m := by exact_mod_cast e5
  rcases h1 with ⟨rfl, hb0⟩ | ⟨rfl, hb0⟩ <;> rcases h2 with ⟨rfl, ha0⟩ | ⟨rfl, ha0⟩
  all_goals simp only [hb0, ha0, decide_true, decide_false, bne_self_eq_false, Bool.bne_true, Bool.bne_false, Bool.not_true, Bool.not_false, sgt, sgf, reduceCtorEq, false_or, Bool.true_bne, Bool.false_bne] at h ⊢
  · exact fdm_pos (by omega) (by omega) (by omega) (by omega)
  · subst h; exact fdm_pos (by omega) (by rw [Int.mul_neg]; omega) (by omega) (by omega)
  · subst h; exact fdm_neg (by omega) (by rw [Int.neg_mul, Int.mul_neg]; omega) (by omega) (by omega)
  · exact fdm_neg (by omega) (by rw [Int.neg_mul]; omega) (by omega) (by omega)
theorem floor_diff {a b : Int} (hb : b ≠ 0) (h : decide (a < 0) ≠ decide (b < 0)) (hr : a.natAbs % b.natAbs ≠ 0) :
    sg true (a.natAbs / b.natAbs + 1) = a.fdiv b ∧ sg (decide (b < 0)) (b.natAbs - a.natAbs % b.natAbs) = a.fmod b ∧ a.natAbs / b.natAbs + 1 ≤ a.natAbs := by
  obtain ⟨n, m, q, r, hn, h1, h2, e1, e2, e3, e4, e5, e6⟩ := floor_parts b hb a
  rw [e1, e2, e3, e4]
  rw [e1, e2, e4] at hr
  have e7 : (n : Int) * q + r = m := by exact_mod_cast e5
  have e8 : q + 1 ≤ m := by
    have : 1 * q ≤ n * q := Nat.mul_le_mul_right q hn
    omega
  rw [← and_assoc]
  refine ⟨?_, e8⟩
  have e9 : ((n - r : Nat) : Int) = (n : Int) - r := by omega
  rcases h1 with ⟨rfl, hb0⟩ | ⟨rfl, hb0⟩ <;> rcases h2 with ⟨rfl, ha0⟩ | ⟨rfl, ha0⟩
  all_goals simp only [hb0, ha0, decide_true, decide_false, ne_eq, not_true_eq_false] at h ⊢
  · simp only [sgt, sgf, e9]
    refine fdm_pos (by omega) ?_ (by omega) (by omega)
    rw [Int.mul_neg]; push_cast; rw [Int.mul_add]; omega
  · simp only [sgt, e9]
    refine fdm_neg (by omega) ?_ (by omega) (by omega)
    rw [Int.neg_mul_neg]; push_cast; rw [Int.mul_add]; omega

end Go.Proofs.NatL
