import Derived.Test.YtneecniebhhhlaaH28
import Derived.Test.YtneecniebhhhlaaH29
namespace Go.Proofs.Ytneecniebhhhlaa
set_option linter.unusedSimpArgs false
set_option linter.unusedVariables false
open Go.Abs Go.Proofs.NatL

theorem has_iff {S T D v : Int} (hD : D ≠ 0) : hasR S T D v ↔ ∃ k, 0 ≤ k ∧ k < rLen S T D ∧ v = S + D * k := by
  constructor
  · rintro ⟨h1, h2, h3⟩
    have e := Int.fmod_add_mul_fdiv (v - S) D
    rw [h1] at e
    exact ⟨_, h2, h3, by omega⟩
  · rintro ⟨k, h1, h2, rfl⟩
    have e : S + D * k - S = D * k := by omega
    unfold hasR
    rw [e, Int.mul_fdiv_cancel_left _ hD]
    exact ⟨Int.mul_fmod_right _ _, h1, h2⟩
theorem has_up {S T D v : Int} (hD : D ≠ 0) : hasR S T D v ↔ 0 < rLen S T D ∧ upF S T D ≤ v ∧ v ≤ upL S T D ∧ ∃ k, v = upF S T D + upS D * k := by
  rw [has_iff hD]
  unfold upF upL upS
  generalize rLen S T D = n
  rcases Int.lt_or_gt_of_ne hD with hd | hd
  · rw [if_pos hd, if_pos hd, if_pos hd]
    constructor
    · rintro ⟨k, h1, h2, rfl⟩
      have a1 : D * (n - 1) ≤ D * k := Int.mul_le_mul_of_nonpos_left (by omega) (by omega)
      have a2 : D * k ≤ 0 := Int.mul_nonpos_of_nonpos_of_nonneg (by omega) h1
      refine ⟨by omega, by omega, by omega, n - 1 - k, ?_⟩
      rw [Int.neg_mul, Int.mul_sub D (n - 1) k]; omega
    · rintro ⟨h0, h1, h2, k, rfl⟩
      have e : D * (n - 1) + -D * k = D * (n - 1 - k) := by rw [Int.neg_mul, Int.mul_sub D (n - 1) k]; omega
      refine ⟨n - 1 - k, ?_, ?_, by omega⟩
      · rcases Int.lt_or_le (n - 1 - k) 0 with h | h
        · have : D * (n - 1 - k) ≥ D * (-1) := Int.mul_le_mul_of_nonpos_left (by omega) (by omega)
          omega
        · exact h
      · rcases Int.lt_or_le (n - 1 - k) n with h | h
        · exact h
        · have : -D * k ≤ -D * (-1) := Int.mul_le_mul_of_nonneg_left (by omega) (by omega)
          omega
  · rw [if_neg (by omega), if_neg (by omega), if_neg (by omega)]
    constructor
    · rintro ⟨k, h1, h2, rfl⟩
      have a1 : D * k ≤ D * (n - 1) := Int.mul_le_mul_of_nonneg_left (by omega) (by omega)
      have a2 : 0 ≤ D * k := Int.mul_nonneg (by omega) h1
      exact ⟨by omega, by omega, by omega, k, rfl⟩
    · rintro ⟨h0, h1, h2, k, rfl⟩
      refine ⟨k, ?_, ?_, rfl⟩
      · rcases Int.lt_or_le k 0 with h | h
        · have : D * k ≤ D * (-1) := Int.mul_le_mul_of_nonneg_left (by omega) (by omega)
          omega
        · exact h
      · rcases Int.lt_or_le k n with h | h
        · exact h
        · have : D * n ≤ D * k := Int.mul_le_mul_of_nonneg_left (by omega) (by omega)
          rw [Int.mul_sub] at h2
          omega
theorem comF_s {p s q t : Int} {i : Nat} : ∃ k, comF p s q t i = p + s * k := ⟨_, rfl⟩
theorem comF_t {p s q t : Int} {i : Nat} (hs : 0 < s) (ht : 0 < t) (hr : (q - p).fmod (gOf s t) = 0) (hi : isInv s t i) : ∃ k, comF p s q t i = q + t * k := by
  obtain ⟨⟨g0, g1⟩, ⟨o0, ol⟩, ⟨u0, ul⟩, _, es, et⟩ := gcd_facts hs ht (g := gOf s t) rfl rfl rfl
  obtain ⟨_, k, hk⟩ := hi
  unfold comF
  generalize s.fdiv (gOf s t) = o at *
  generalize t.fdiv (gOf s t) = u at *
  have e := Int.fmod_add_mul_fdiv (q - p) (gOf s t)
  rw [hr] at e
  generalize gOf s t = g at *
  generalize (q - p).fdiv g = y at *
  have e1 := Int.fmod_add_mul_fdiv y u
  generalize y.fmod u = y' at *
  generalize y.fdiv u = m1 at *
  have e2 := Int.fmod_add_mul_fdiv (y' * (i : Int)) u
  generalize (y' * (i : Int)).fmod u = x at *
  generalize (y' * (i : Int)).fdiv u = m2 at *
  refine ⟨y' * k - m1 - o * m2, ?_⟩
  -- s * x = g * (o * x) and o * x = y' + y' * u * k - o * u * m2
  have e3 : o * x = y' + u * (y' * k) - u * (o * m2) := by
    have : o * x = o * (y' * (i : Int)) - o * (u * m2) := by rw [← Int.mul_sub]; congr 1; omega
    rw [this, Int.mul_left_comm o y', hk, Int.mul_add, Int.mul_one, Int.mul_left_comm y' u, Int.mul_left_comm o u]
  have e4 : s * x = g * y' + t * (y' * k) - t * (o * m2) := by
    rw [es, et, Int.mul_assoc, e3, Int.mul_sub, Int.mul_add, Int.mul_assoc, Int.mul_assoc]
  have e5 : q - p = g * y' + t * m1 := by
    rw [et, Int.mul_assoc, ← Int.mul_add]
    have : y' + u * m1 = y := e1
    rw [this]; omega
  rw [e4, Int.mul_sub, Int.mul_sub]
  omega
def Meets (p s q t st f : Int) : Prop := p ≤ f ∧ q ≤ f ∧ (∃ k, f = p + s * k) ∧ (∃ k, f = q + t * k) ∧ ∀ v, p ≤ v → q ≤ v → (∃ k, v = p + s * k) → (∃ k, v = q + t * k) → ∃ k, 0 ≤ k ∧ v = f + st * k
theorem comS_t {s t : Int} (hs : 0 < s) (ht : 0 < t) : comS s t = t * s.fdiv (gOf s t) ∧ comS s t = s * t.fdiv (gOf s t) := by
  obtain ⟨_, _, _, _, es, et⟩ := gcd_facts hs ht (g := gOf s t) rfl rfl rfl
  refine ⟨?_, rfl⟩
  unfold comS
  generalize s.fdiv (gOf s t) = o at *
  generalize t.fdiv (gOf s t) = u at *
  generalize gOf s t = g at *
  rw [es, et, Int.mul_assoc, Int.mul_assoc, Int.mul_comm o u]
theorem com_diff {s t a b : Int} {i : Nat} (hs : 0 < s) (ht : 0 < t) (hi : isInv s t i) (h : s * a = t * b) : ∃ c, s * a = comS s t * c := by
  obtain ⟨⟨g0, g1⟩, ⟨o0, ol⟩, ⟨u0, ul⟩, _, es, et⟩ := gcd_facts hs ht (g := gOf s t) rfl rfl rfl
  obtain ⟨_, k, hk⟩ := hi
  unfold comS
  generalize s.fdiv (gOf s t) = o at *
  generalize t.fdiv (gOf s t) = u at *
  generalize gOf s t = g at *
  have h1 : o * a = u * b := by
    have : g * (o * a) = g * (u * b) := by rw [← Int.mul_assoc, ← Int.mul_assoc, ← es, ← et]; exact h
    exact Int.eq_of_mul_eq_mul_left (by omega) this
  have h2 : a = u * (b * (i : Int) - a * k) := by
    have e1 : a * (o * (i : Int)) = a + a * (u * k) := by rw [hk, Int.mul_add, Int.mul_one]
    have e2 : a * (o * (i : Int)) = u * (b * (i : Int)) := by rw [← Int.mul_assoc, Int.mul_comm a o, h1, Int.mul_assoc]
    rw [Int.mul_sub, ← e2, e1, Int.mul_left_comm u a k]; omega
  refine ⟨b * (i : Int) - a * k, ?_⟩
  rw [Int.mul_assoc, ← h2]
theorem mtF_facts {f q st : Int} (hs : 0 < st) : ∃ j, 0 ≤ j ∧ mtF f q st = f + st * j ∧ q ≤ mtF f q st ∧ (mtF f q st = f ∨ mtF f q st - st < q) := by
  unfold mtF
  split
  · rename_i h
    have f1 := (Int.fdiv_fmod_unique (a := q - f + (st - 1)) hs).1 ⟨rfl, rfl⟩
    generalize (q - f + (st - 1)).fdiv st = j at *
    generalize (q - f + (st - 1)).fmod st = m at *
    obtain ⟨f1, f2, f3⟩ := f1
    refine ⟨j, ?_, rfl, by omega, .inr (by omega)⟩
    rcases Int.lt_or_le j 0 with h | h
    · have : st * j ≤ st * (-1) := Int.mul_le_mul_of_nonneg_left (by omega) (by omega)
      omega
    · exact h
  · exact ⟨0, by omega, by omega, by omega, .inl rfl⟩
theorem meets {p s q t : Int} {i : Nat} (hc : pCom p s q t) (hr : (q - p).fmod (gOf s t) = 0) (hi : isInv s t i) : Meets p s q t (comS s t) (mtF (comF p s q t i) q (comS s t)) := by
  obtain ⟨w1, w2, hst, c1, c2⟩ := com_w hc hi
  obtain ⟨⟨hs, ht⟩, _⟩ := hc
  obtain ⟨k1, e1⟩ := comF_s (p := p) (s := s) (q := q) (t := t) (i := i)
  obtain ⟨k2, e2⟩ := comF_t hs ht hr hi
  obtain ⟨m1, m2⟩ := comS_t hs ht
  have hd := fun (a b : Int) => com_diff (a := a) (b := b) hs ht hi
  obtain ⟨j, j0, ej, hq, hl⟩ := mtF_facts (f := comF p s q t i) (q := q) hst
  generalize comF p s q t i = c at *
  generalize s.fdiv (gOf s t) = o at *
  generalize t.fdiv (gOf s t) = u at *
  generalize mtF c q (comS s t) = f at *
  have f1 : f = p + s * (k1 + u * j) := by rw [ej, e1, m2, Int.mul_add, Int.mul_assoc]; omega
  have f2 : f = q + t * (k2 + o * j) := by rw [ej, e2, m1, Int.mul_add, Int.mul_assoc]; omega
  generalize comS s t = st at *
  have hp : 0 ≤ st * j := Int.mul_nonneg (by omega) j0
  refine ⟨by omega, hq, ⟨_, f1⟩, ⟨_, f2⟩, fun v v1 v2 ⟨a, ha⟩ ⟨b, hb⟩ => ?_⟩
  obtain ⟨z, hz⟩ := hd (a - (k1 + u * j)) (b - (k2 + o * j)) (by rw [Int.mul_sub, Int.mul_sub]; omega)
  rw [Int.mul_sub] at hz
  refine ⟨z, ?_, by omega⟩
  rcases Int.lt_or_le z 0 with h | h
  · have : st * z ≤ st * (-1) := Int.mul_le_mul_of_nonneg_left (by omega) (by omega)
    rcases hl with hl | hl <;> omega
  · exact h
theorem meets_none {p s q t v : Int} (hs : 0 < s) (ht : 0 < t) (hr : (q - p).fmod (gOf s t) ≠ 0) (h1 : ∃ k, v = p + s * k) (h2 : ∃ k, v = q + t * k) : False := by
  obtain ⟨⟨g0, g1⟩, _, _, _, es, et⟩ := gcd_facts hs ht (g := gOf s t) rfl rfl rfl
  obtain ⟨a, ha⟩ := h1
  obtain ⟨b, hb⟩ := h2
  refine hr ?_
  have : q - p = gOf s t * (s.fdiv (gOf s t) * a - t.fdiv (gOf s t) * b) := by
    rw [Int.mul_sub, ← Int.mul_assoc, ← Int.mul_assoc, ← es, ← et]; omega
  rw [this]
  exact Int.mul_fmod_right _ _
theorem Meets.unique {p s q t st f st' f' : Int} (h : Meets p s q t st f) (h' : Meets p s q t st' f') (hs : 0 < st) (hs' : 0 < st') : f = f' := by
  obtain ⟨k, k0, e⟩ := h.2.2.2.2 f' h'.1 h'.2.1 h'.2.2.1 h'.2.2.2.1
  obtain ⟨k', k0', e'⟩ := h'.2.2.2.2 f h.1 h.2.1 h.2.2.1 h.2.2.2.1
  have a1 : 0 ≤ st * k := Int.mul_nonneg (by omega) k0
  have a2 : 0 ≤ st' * k' := Int.mul_nonneg (by omega) k0'
  omega
theorem Meets.swap {p s q t st f : Int} (h : Meets p s q t st f) : Meets q t p s st f := ⟨h.2.1, h.1, h.2.2.2.1, h.2.2.1, fun v v1 v2 v3 v4 => h.2.2.2.2 v v2 v1 v4 v3⟩
theorem gOf_comm (s t : Int) : gOf s t = gOf t s := by unfold gOf; rw [Nat.gcd_comm]
theorem comS_comm {s t : Int} (hs : 0 < s) (ht : 0 < t) : comS s t = comS t s := by
  rw [(comS_t hs ht).1, gOf_comm]; rfl
theorem mtL_comm (a b : Int) : mtL a b = mtL b a := by unfold mtL; split <;> split <;> omega
theorem meet_has {S T D S' T' D' v : Int} {i : Nat} (h : RV S T D) (h' : RV S' T' D') (hp : 0 < rLen S T D) (hp' : 0 < rLen S' T' D')
    (hr : (upF S' T' D' - upF S T D).fmod (gOf (upS D) (upS D')) = 0) (hi : isInv (upS D) (upS D') i) :
    hasR (meetF S T D S' T' D' i) (meetE S T D S' T' D') (meetS D D') v ↔ hasR S T D v ∧ hasR S' T' D' v := by
  have pc := pc_of h h' hp hp'
  have hm := meets pc hr hi
  obtain ⟨_, _, hst, _, _⟩ := com_w pc hi
  obtain ⟨m1, m2⟩ := comS_t pc.1.1 pc.1.2
  rw [has_up h.1, has_up h'.1, has_iff (by unfold meetS; omega)]
  unfold meetF meetE meetS
  have hli := fun k hk => rLen_iff (S := mtF (comF (upF S T D) (upS D) (upF S' T' D') (upS D') i) (upF S' T' D') (comS (upS D) (upS D'))) (T := mtL (upL S T D) (upL S' T' D') + 1) (D := comS (upS D) (upS D')) (by omega) k hk
  generalize upF S T D = p at *
  generalize upF S' T' D' = q at *
  generalize upL S T D = l at *
  generalize upL S' T' D' = l' at *
  generalize upS D = s at *
  generalize upS D' = t at *
  generalize s.fdiv (gOf s t) = o at *
  generalize t.fdiv (gOf s t) = u at *
  generalize comS s t = st at *
  generalize mtF (comF p s q t i) q st = f at *
  obtain ⟨a1, a2, ⟨k1, e1⟩, ⟨k2, e2⟩, a5⟩ := hm
  have hl : ∀ x, x < mtL l l' + 1 ↔ x ≤ l ∧ x ≤ l' := fun x => by unfold mtL; split <;> omega
  constructor
  · rintro ⟨k, h1, h2, rfl⟩
    have h3 := (hli k h1).1 h2
    have h4 := (hl (f + st * k)).1 (by omega)
    have h5 : 0 ≤ st * k := Int.mul_nonneg (by omega) h1
    refine ⟨⟨hp, by omega, h4.1, k1 + u * k, ?_⟩, hp', by omega, h4.2, k2 + o * k, ?_⟩
    · rw [e1, m2, Int.mul_add, Int.mul_assoc]; omega
    · rw [e2, m1, Int.mul_add, Int.mul_assoc]; omega
  · rintro ⟨⟨_, h1, h2, h3⟩, _, h4, h5, h6⟩
    obtain ⟨k, k0, e⟩ := a5 v h1 h4 h3 h6
    refine ⟨k, k0, (hli k k0).2 (.inr ⟨by omega, ?_⟩), e⟩
    rw [← e]
    exact (hl v).2 ⟨h2, h5⟩
theorem pl_has {S T D v : Int} (hD : D ≠ 0) (hs : 0 < D) : hasR (plS S T D) (plT S T D) (plD S T D) v ↔ hasR S T D v := by
  by_cases hz : rLen S T D = 0
  · unfold plS plT plD
    rw [if_pos hz, if_pos hz, if_pos hz, has_iff (by decide), has_iff hD, hz]
    have : rLen 0 0 1 = 0 := by decide
    rw [this]
    constructor <;> rintro ⟨k, h1, h2, _⟩ <;> omega
  · have hn := rLen_nonneg S T D hD
    unfold plS plT plD
    rw [if_neg hz, if_neg hz, if_neg hz]
    have es : sgR D = 1 := if_neg (by omega)
    rw [es]
    by_cases h1 : 1 < rLen S T D
    · rw [if_pos h1, has_iff hD, has_iff hD]
      have hl : ∀ k, 0 ≤ k → (k < rLen S (S + D * (rLen S T D - 1) + 1) D ↔ k < rLen S T D) := fun k hk => by
        rw [rLen_iff hD k hk]
        generalize rLen S T D = n at *
        constructor
        · intro h
          rcases Int.lt_or_le k n with h2 | h2
          · exact h2
          · have : D * n ≤ D * k := Int.mul_le_mul_of_nonneg_left h2 (by omega)
            rw [Int.mul_sub] at h
            omega
        · intro h
          have : D * k ≤ D * (n - 1) := Int.mul_le_mul_of_nonneg_left (by omega) (by omega)
          omega
      constructor
      · rintro ⟨k, h1, h2, h3⟩
        exact ⟨k, h1, (hl k h1).1 h2, h3⟩
      · rintro ⟨k, h1, h2, h3⟩
        exact ⟨k, h1, (hl k h1).2 h2, h3⟩
    · have e1 : rLen S T D = 1 := by omega
      rw [if_neg h1, has_iff (by decide), has_iff hD, e1]
      have hl : rLen S (S + D * (1 - 1) + 1) 1 = 1 := by
        have e : S + D * (1 - 1) + 1 = S + 1 := by simp
        rw [e]
        have a := (rLen_iff (S := S) (T := S + 1) (D := 1) (by decide) 0 (by omega)).2 (by omega)
        have b := fun h => (rLen_iff (S := S) (T := S + 1) (D := 1) (by decide) 1 (by omega)).1 h
        omega
      rw [hl]
      constructor
      · rintro ⟨k, h1, h2, h3⟩
        have : k = 0 := by omega
        subst this
        exact ⟨0, by omega, by omega, by omega⟩
      · rintro ⟨k, h1, h2, h3⟩
        have : k = 0 := by omega
        subst this
        exact ⟨0, by omega, by omega, by omega⟩
theorem has_none (v : Int) : ¬ hasR 0 0 1 v := by
  rw [has_iff (by decide)]
  have : rLen 0 0 1 = 0 := by decide
  rw [this]
  rintro ⟨k, h1, h2, _⟩
  omega
end Go.Proofs.Ytneecniebhhhlaa
