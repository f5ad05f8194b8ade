import Derived.Test.YtgogdabniebplaaS7
import Derived.Test.YtgogdabniebplaaS8
namespace Go.Proofs.Ytgogdabniebplaa
set_option linter.unusedSimpArgs false
set_option linter.unusedVariables false
open Go.Abs Go.Proofs.NatL

theorem takeL_get {xs : List Int} {st sp : Int} {c k : Nat} (h : k < c) : (takeL xs st sp c).getD k 0 = xs.getD (st + (k : Int) * sp).toNat 0 := by
  simp [takeL, slPos, List.getD_eq_getElem?_getD, h]
theorem set_self (xs : List Int) (i : Nat) (h : i < xs.length) : xs.set i (xs.getD i 0) = xs := by
  rw [getD_eq _ _ h, List.set_getElem_self]
theorem putL_take {xs : List Int} {st sp : Int} {c : Nat} (hp : ∀ k : Nat, k < c → 0 ≤ st + (k : Int) * sp ∧ st + (k : Int) * sp < xs.length) : ∀ k, k ≤ c → putL xs st sp (takeL xs st sp c) k = xs := by
  intro k
  induction k with
  | zero => intro _; rfl
  | succ k ih =>
    intro h
    have := hp k (by omega)
    rw [putL, ih (by omega), takeL_get (by omega), set_self _ _ (by omega)]
theorem takeL_one {xs : List Int} {a c : Nat} (h : a + c ≤ xs.length) : takeL xs a 1 c = (xs.drop a).take c := by
  refine List.ext_getElem (by rw [takeL_len, List.length_take, List.length_drop]; omega) fun i h1 h2 => ?_
  rw [takeL_len] at h1
  have e := takeL_get (xs := xs) (st := (a : Int)) (sp := 1) h1
  rw [getD_eq _ _ (by rw [takeL_len]; exact h1), show ((a : Int) + (i : Int) * 1).toNat = a + i by omega, getD_eq _ _ (by omega)] at e
  rw [e, List.getElem_take, List.getElem_drop]
theorem back_one {xs : List Int} {a c : Nat} (h : a + c ≤ xs.length) : xs.take a ++ (takeL xs a 1 c ++ xs.drop (a + c)) = xs := by
  rw [takeL_one h, ← List.drop_drop, List.take_append_drop, List.take_append_drop]
theorem mem_one {a c : Nat} {i : Nat} : (i : Int) ∈ slPos (a : Int) 1 c ↔ a ≤ i ∧ i < a + c := by
  rw [mem_pos]
  constructor
  · rintro ⟨k, h1, h2⟩; omega
  · rintro ⟨h1, h2⟩; exact ⟨i - a, by omega, by omega⟩
theorem dropL_one {xs : List Int} {a c : Nat} (h : a + c ≤ xs.length) : ∀ i, i ≤ xs.length → dropL xs (slPos a 1 c) i = xs.take (min i a) ++ (xs.drop (a + c)).take (i - (a + c)) := by
  intro i
  induction i with
  | zero => intro _; simp [dropL]
  | succ i ih =>
    intro hi
    rw [dropL, ih (by omega)]
    by_cases hm : (i : Int) ∈ slPos (a : Int) 1 c
    · rw [if_pos hm]
      have := mem_one.1 hm
      rw [show min i a = a by omega, show min (i + 1) a = a by omega, show i - (a + c) = 0 by omega, show i + 1 - (a + c) = 0 by omega]
    · rw [if_neg hm]
      have hn : ¬ (a ≤ i ∧ i < a + c) := fun h => hm (mem_one.2 h)
      by_cases hia : i < a
      · rw [show min i a = i by omega, show min (i + 1) a = i + 1 by omega, show i - (a + c) = 0 by omega, show i + 1 - (a + c) = 0 by omega, List.take_zero, List.append_nil, List.append_nil, List.take_succ_eq_append_getElem (by omega), getD_eq _ _ (by omega)]
      · rw [show min i a = a by omega, show min (i + 1) a = a by omega, show i + 1 - (a + c) = (i - (a + c)) + 1 by omega, List.take_succ_eq_append_getElem (by rw [List.length_drop]; omega), List.append_assoc, List.getElem_drop, getD_eq _ _ (by omega)]
        congr 3
        congr 1
        omega
theorem dropL_all {xs : List Int} {a c : Nat} (h : a + c ≤ xs.length) : dropL xs (slPos a 1 c) xs.length = xs.take a ++ xs.drop (a + c) := by
  rw [dropL_one h _ (Nat.le_refl _), show min xs.length a = a by omega, List.take_of_length_le (l := xs.drop (a + c)) (by rw [List.length_drop]; omega)]
theorem count_step (ps : List Int) (hnd : ps.Nodup) (i : Int) : ps.countP (· < i + 1) = ps.countP (· < i) + (if i ∈ ps then 1 else 0) := by
  induction ps with
  | nil => rfl
  | cons p ps ih =>
    obtain ⟨h1, h2⟩ := List.nodup_cons.1 hnd
    have ih := ih h2
    rw [List.countP_cons, List.countP_cons, ih]
    by_cases hp : p = i
    · subst hp
      rw [if_neg h1]
      simp
      omega
    · have e : (i ∈ p :: ps) ↔ i ∈ ps := by simp; omega
      simp only [e]
      have e2 : decide (p < i + 1) = decide (p < i) := by congr 1; apply propext; omega
      rw [e2]
      omega
theorem dropL_len (xs ps : List Int) (hnd : ps.Nodup) (h0 : ∀ p ∈ ps, 0 ≤ p) (i : Nat) : (dropL xs ps i).length + ps.countP (· < (i : Int)) = i := by
  induction i with
  | zero =>
    have : ps.countP (· < ((0 : Nat) : Int)) = 0 := List.countP_eq_zero.2 fun p hp => by have := h0 p hp; simp; omega
    rw [this]; rfl
  | succ i ih =>
    have hc := count_step ps hnd i
    have e : ((i + 1 : Nat) : Int) = (i : Int) + 1 := by omega
    rw [dropL, e, hc]
    by_cases hm : (i : Int) ∈ ps
    · rw [if_pos hm, if_pos hm]; omega
    · rw [if_neg hm, if_neg hm, List.length_append, List.length_singleton]; omega
theorem pos_nodup {st sp : Int} (h : sp ≠ 0) (c : Nat) : (slPos st sp c).Nodup := by
  induction c with
  | zero => exact List.nodup_nil
  | succ c ih =>
    rw [slPos_succ]
    refine List.nodup_append.2 ⟨ih, by simp, fun x hx y hy => ?_⟩
    simp at hy; subst hy
    intro e; subst e
    exact pos_new h c hx
theorem drop_count {xs : List Int} {st sp : Int} {c : Nat} (h : sp ≠ 0) (hp : ∀ k : Nat, k < c → 0 ≤ st + (k : Int) * sp ∧ st + (k : Int) * sp < xs.length) : c + (dropL xs (slPos st sp c) xs.length).length = xs.length := by
  have h1 := dropL_len xs (slPos st sp c) (pos_nodup h c) (fun p hm => by obtain ⟨k, hk, rfl⟩ := mem_pos.1 hm; exact (hp k hk).1) xs.length
  have h2 : (slPos st sp c).countP (· < (xs.length : Int)) = (slPos st sp c).length := List.countP_eq_length.2 fun p hm => by obtain ⟨k, hk, rfl⟩ := mem_pos.1 hm; exact decide_eq_true (hp k hk).2
  rw [h2, slPos_len] at h1
  omega
theorem turn_get {a : List Int} {c i : Nat} (hl : a.length = c) (hi : i < c) : (takeL a ((c : Int) - 1) (-1) c).getD (c - 1 - i) 0 = a.getD i 0 := by
  rw [takeL_get (by omega)]
  congr 1
  omega
theorem turn_cnt (c : Nat) : slCnt ((c : Int) - 1) (-1) (-1) = c := by
  unfold slCnt
  rw [if_pos (by omega), show ((c : Int) - 1 - -1 - -1 - 1) = c by omega, show (- -1 : Int) = 1 from rfl, Int.ediv_one, Int.toNat_natCast]
end Go.Proofs.Ytgogdabniebplaa
