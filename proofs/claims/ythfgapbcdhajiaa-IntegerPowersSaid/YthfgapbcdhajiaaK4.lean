import Derived.Test.YthfgapbcdhajiaaK1
import Derived.Test.YthfgapbcdhajiaaI10
import Derived.Test.YthfgapbcdhajiaaI11
namespace Go.Proofs.Ythfgapbcdhajiaa
set_option linter.unusedSimpArgs false
set_option linter.unusedVariables false
open Go.Abs Go.Proofs.NatL

abbrev z0 : C ⊕ List C := .inr [.b false, .ints .u32 []]
abbrev flt2 (c i : Int) : C ⊕ List C := .inr [.i .i64 c, .i .i64 i]
def tot2 (good : Int → Int → (AV → Prop) → Prop) (bad : List (C ⊕ List C)) : CT := mkCT [nP, nP] false fun l K => match l with
  | [.inr [.b s, .ints .u32 xs], .inr [.b t, .ints .u32 ys]] => (xs.length ≤ 140737488355328 ∧ ys.length ≤ 140737488355328 ∧ InB 4294967296 xs ∧ InB 4294967296 ys) ∧
      (if okZ s xs = true then (if okZ t ys = true then good (sv 4294967296 s xs) (sv 4294967296 t ys) K else K (.t (bad ++ [flt2 6 (-2)]))) else K (.t (bad ++ [flt2 6 (-1)])))
  | _ => False
theorem gI_of' {s : Bool} {xs : List Int} (h1 : okZ s xs = true) (h2 : InB 4294967296 xs) : [.b s, .ints .u32 xs] = gI (sv 4294967296 s xs) ∧ (dg 4294967296 (sv 4294967296 s xs).natAbs).length ≤ 128 := by
  obtain ⟨a1, a2, a3⟩ := okZ_eq h1 h2
  exact ⟨by rw [gI, ← a1, ← a2], by rw [← a2]; exact a3⟩
theorem tot2_tr {F : FuncId} {good : Int → Int → (AV → Prop) → Prop} {bad : List (C ⊕ List C)} (hg : ∀ a b : Int, (dg 4294967296 a.natAbs).length ≤ 128 → (dg 4294967296 b.natAbs).length ≤ 128 → ∀ K, good a b K → ∃ r, Ret Try.prog F false [.inr (gI a), .inr (gI b)] r ∧ K r)
    (hb : ∀ (s t : Bool) (xs ys : List Int), xs.length ≤ 140737488355328 → ys.length ≤ 140737488355328 → (okZ s xs = false ∨ okZ s xs = true ∧ okZ t ys = false) → Ret Try.prog F false [.inr [.b s, .ints .u32 xs], .inr [.b t, .ints .u32 ys]] (.t (bad ++ [.inr [.i .i64 6, .i .i64 (if okZ s xs then -2 else -1)]])))
    (l : List (C ⊕ List C)) (K : AV → Prop) (hk : match l with
      | [.inr [.b s, .ints .u32 xs], .inr [.b t, .ints .u32 ys]] => (xs.length ≤ 140737488355328 ∧ ys.length ≤ 140737488355328 ∧ InB 4294967296 xs ∧ InB 4294967296 ys) ∧
        (if okZ s xs = true then (if okZ t ys = true then good (sv 4294967296 s xs) (sv 4294967296 t ys) K else K (.t (bad ++ [flt2 6 (-2)]))) else K (.t (bad ++ [flt2 6 (-1)])))
      | _ => False) : ∃ r, Ret Try.prog F false l r ∧ K r := by
  split at hk
  · rename_i s xs t ys
    obtain ⟨⟨h1, h2, h3, h4⟩, h⟩ := hk
    split at h
    · rename_i o1
      split at h
      · rename_i o2
        obtain ⟨e1, l1⟩ := gI_of' o1 h3
        obtain ⟨e2, l2⟩ := gI_of' o2 h4
        rw [e1, e2]
        exact hg _ _ l1 l2 K h
      · rename_i o2
        have := hb s t xs ys h1 h2 (.inr ⟨o1, by simpa using o2⟩)
        rw [if_pos o1] at this
        exact ⟨_, this, h⟩
    · rename_i o1
      have := hb s t xs ys h1 h2 (.inl (by simpa using o1))
      rw [if_neg o1] at this
      exact ⟨_, this, h⟩
  · exact hk.elim
def tot1 (good : Int → (AV → Prop) → Prop) (bad : List (C ⊕ List C)) : CT := mkCT [nP] false fun l K => match l with
  | [.inr [.b s, .ints .u32 xs]] => (xs.length ≤ 140737488355328 ∧ InB 4294967296 xs) ∧ (if okZ s xs = true then good (sv 4294967296 s xs) K else K (.t (bad ++ [flt2 6 (-1)])))
  | _ => False
theorem tot1_tr {F : FuncId} {good : Int → (AV → Prop) → Prop} {bad : List (C ⊕ List C)} (hg : ∀ a : Int, (dg 4294967296 a.natAbs).length ≤ 128 → ∀ K, good a K → ∃ r, Ret Try.prog F false [.inr (gI a)] r ∧ K r)
    (hb : ∀ (s : Bool) (xs : List Int), xs.length ≤ 140737488355328 → okZ s xs = false → Ret Try.prog F false [.inr [.b s, .ints .u32 xs]] (.t (bad ++ [.inr [.i .i64 6, .i .i64 (-1)]])))
    (l : List (C ⊕ List C)) (K : AV → Prop) (hk : match l with
      | [.inr [.b s, .ints .u32 xs]] => (xs.length ≤ 140737488355328 ∧ InB 4294967296 xs) ∧ (if okZ s xs = true then good (sv 4294967296 s xs) K else K (.t (bad ++ [flt2 6 (-1)])))
      | _ => False) : ∃ r, Ret Try.prog F false l r ∧ K r := by
  split at hk
  · rename_i s xs
    obtain ⟨⟨h1, h3⟩, h⟩ := hk
    split at h
    · rename_i o1
      obtain ⟨e1, l1⟩ := gI_of' o1 h3
      rw [e1]
      exact hg _ l1 K h
    · rename_i o1
      exact ⟨_, hb s xs h1 (by simpa using o1), h⟩
  · exact hk.elim
def totN (good : Int → Int → (AV → Prop) → Prop) (bad : List (C ⊕ List C)) : CT := mkCT [nP] false fun l K => match l with
  | [.inr [.b s, .ints .u32 xs], .inl (.i .i64 n)] => (xs.length ≤ 140737488355328 ∧ InB 4294967296 xs ∧ -9223372036854775808 ≤ n ∧ n ≤ 9223372036854775807) ∧ (if okZ s xs = true then good (sv 4294967296 s xs) n K else K (.t (bad ++ [flt2 6 (-1)])))
  | _ => False
theorem totN_tr {F : FuncId} {good : Int → Int → (AV → Prop) → Prop} {bad : List (C ⊕ List C)} (hg : ∀ a n : Int, -9223372036854775808 ≤ n → n ≤ 9223372036854775807 → okZ (decide (a < 0)) (dg 4294967296 a.natAbs) = true → ∀ K, good a n K → ∃ r, Ret Try.prog F false [.inr (gI a), .inl (.i .i64 n)] r ∧ K r)
    (hb : ∀ (s : Bool) (xs : List Int) (n : Int), xs.length ≤ 140737488355328 → okZ s xs = false → Ret Try.prog F false [.inr [.b s, .ints .u32 xs], .inl (.i .i64 n)] (.t (bad ++ [.inr [.i .i64 6, .i .i64 (-1)]])))
    (l : List (C ⊕ List C)) (K : AV → Prop) (hk : match l with
      | [.inr [.b s, .ints .u32 xs], .inl (.i .i64 n)] => (xs.length ≤ 140737488355328 ∧ InB 4294967296 xs ∧ -9223372036854775808 ≤ n ∧ n ≤ 9223372036854775807) ∧ (if okZ s xs = true then good (sv 4294967296 s xs) n K else K (.t (bad ++ [flt2 6 (-1)])))
      | _ => False) : ∃ r, Ret Try.prog F false l r ∧ K r := by
  split at hk
  · rename_i s xs n
    obtain ⟨⟨h1, h3, h4, h5⟩, h⟩ := hk
    split at h
    · rename_i o1
      obtain ⟨a1, a2, a3⟩ := okZ_eq o1 h3
      obtain ⟨e1, l1⟩ := gI_of' o1 h3
      rw [e1]
      exact hg _ n h4 h5 (by rw [← a1, ← a2]; exact o1) K h
    · rename_i o1
      exact ⟨_, hb s xs n h1 (by simpa using o1), h⟩
  · exact hk.elim

def gdAdd (a b : Int) (K : AV → Prop) : Prop := K (rCl (a + b))
def gdSub (a b : Int) (K : AV → Prop) : Prop := K (rCl (a - b))
def gdMul (a b : Int) (K : AV → Prop) : Prop := K (rCl (a * b))
def gdAnd (a b : Int) (K : AV → Prop) : Prop := K (rCl (zAnd a b))
def gdOr (a b : Int) (K : AV → Prop) : Prop := K (rCl (zOr a b))
def gdXor (a b : Int) (K : AV → Prop) : Prop := K (rCl (zXor a b))
def gdGcd (a b : Int) (K : AV → Prop) : Prop := K (rGcd a b)
def gdCmp (a b : Int) (K : AV → Prop) : Prop := K (rCmp a b)
def gdDiv (a b : Int) (K : AV → Prop) : Prop := (b = 0 → K (.t [z0, z0, flt2 22 (-2)])) ∧ (¬ b = 0 → K (rDiv a b))
def kx1 : Cfg := addT 30 (tot2 gdAdd [z0]) kd2
theorem kx1_ok : TblOk Try.prog kx1 := q_I kd2_ok Try.func30 fun l K h =>
  tot2_tr (good := gdAdd) (bad := [z0]) (fun a b la lb K h => ⟨_, iAdd_ok a b la lb, h⟩) (fun s t xs ys lx ly h => iAdd_bad s t xs ys lx ly h) l K h
def kx2 : Cfg := addT 16 (tot2 gdSub [z0]) kx1
theorem kx2_ok : TblOk Try.prog kx2 := q_I kx1_ok Try.func16 fun l K h =>
  tot2_tr (good := gdSub) (bad := [z0]) (fun a b la lb K h => ⟨_, iSub_ok a b la lb, h⟩) (fun s t xs ys lx ly h => iSub_bad s t xs ys lx ly h) l K h
def kx3 : Cfg := addT 31 (tot2 gdMul [z0]) kx2
theorem kx3_ok : TblOk Try.prog kx3 := q_I kx2_ok Try.func31 fun l K h =>
  tot2_tr (good := gdMul) (bad := [z0]) (fun a b la lb K h => ⟨_, iMul_ok a b la lb, h⟩) (fun s t xs ys lx ly h => iMul_bad s t xs ys lx ly h) l K h
def kx4 : Cfg := addT 54 (tot2 gdAnd [z0]) kx3
theorem kx4_ok : TblOk Try.prog kx4 := q_I kx3_ok Try.func54 fun l K h =>
  tot2_tr (good := gdAnd) (bad := [z0]) (fun a b la lb K h => ⟨_, iAnd_ok a b la lb, h⟩) (fun s t xs ys lx ly h => iAnd_bad s t xs ys lx ly h) l K h
def kx5 : Cfg := addT 55 (tot2 gdOr [z0]) kx4
theorem kx5_ok : TblOk Try.prog kx5 := q_I kx4_ok Try.func55 fun l K h =>
  tot2_tr (good := gdOr) (bad := [z0]) (fun a b la lb K h => ⟨_, iOr_ok a b la lb, h⟩) (fun s t xs ys lx ly h => iOr_bad s t xs ys lx ly h) l K h
def kx6 : Cfg := addT 56 (tot2 gdXor [z0]) kx5
theorem kx6_ok : TblOk Try.prog kx6 := q_I kx5_ok Try.func56 fun l K h =>
  tot2_tr (good := gdXor) (bad := [z0]) (fun a b la lb K h => ⟨_, iXor_ok a b la lb, h⟩) (fun s t xs ys lx ly h => iXor_bad s t xs ys lx ly h) l K h
def kx7 : Cfg := addT 15 (tot2 gdGcd [z0]) kx6
theorem kx7_ok : TblOk Try.prog kx7 := q_I kx6_ok Try.func15 fun l K h =>
  tot2_tr (good := gdGcd) (bad := [z0]) (fun a b la lb K h => ⟨_, iGcd_ok a b la lb, h⟩) (fun s t xs ys lx ly h => iGcd_bad s t xs ys lx ly h) l K h
def kx8 : Cfg := addT 40 (tot2 gdCmp [.inl (.i .i64 0)]) kx7
theorem kx8_ok : TblOk Try.prog kx8 := q_I kx7_ok Try.func40 fun l K h =>
  tot2_tr (good := gdCmp) (bad := [.inl (.i .i64 0)]) (fun a b la lb K h => ⟨_, iCmp_ok a b la lb, h⟩) (fun s t xs ys lx ly h => iCmp_bad s t xs ys lx ly h) l K h
def kx9 : Cfg := addT 19 (tot2 gdDiv [z0, z0]) kx8
theorem kx9_ok : TblOk Try.prog kx9 := q_I kx8_ok Try.func19 fun l K h =>
  tot2_tr (good := gdDiv) (bad := [z0, z0]) (fun a b la lb K h => by
    by_cases hb : b = 0
    · have h2 := h.1 hb; subst hb; exact ⟨_, iDivMod_zero a la, h2⟩
    · exact ⟨_, iDivMod_ok a b hb la lb, h.2 hb⟩) (fun s t xs ys lx ly h => iDivMod_bad s t xs ys lx ly h) l K h
def gdNeg (a : Int) (K : AV → Prop) : Prop := K (.t [.inr (gI (-a)), flt2 0 0])
def gdAbs (a : Int) (K : AV → Prop) : Prop := K (.t [.inr (gI (a.natAbs : Int)), flt2 0 0])
def gdNot (a : Int) (K : AV → Prop) : Prop := K (rCl (-a - 1))
def gdBits (a : Int) (K : AV → Prop) : Prop := K (.t [.inl (.i .i64 (bl a.natAbs : Nat)), flt2 0 0])
def gdSmall (a : Int) (K : AV → Prop) : Prop := K (.t [.inl (.i .i64 (smV a)), flt2 (smC a) (smI a)])
def gdSqrt (a : Int) (K : AV → Prop) : Prop := (a < 0 → K (.t [z0, flt2 4 (-1)])) ∧ (¬ a < 0 → K (.t [.inr (gI (rt a.natAbs : Nat)), flt2 0 0]))
def ky1 : Cfg := addT 45 (tot1 gdNeg [z0]) kx9
theorem ky1_ok : TblOk Try.prog ky1 := q_I kx9_ok Try.func45 fun l K h =>
  tot1_tr (good := gdNeg) (bad := [z0]) (fun a la K h => ⟨_, iNeg_ok a la, h⟩) (fun s xs lx h => iNeg_bad s xs lx h) l K h
def ky2 : Cfg := addT 46 (tot1 gdAbs [z0]) ky1
theorem ky2_ok : TblOk Try.prog ky2 := q_I ky1_ok Try.func46 fun l K h =>
  tot1_tr (good := gdAbs) (bad := [z0]) (fun a la K h => ⟨_, iAbs_ok a la, h⟩) (fun s xs lx h => iAbs_bad s xs lx h) l K h
def ky3 : Cfg := addT 57 (tot1 gdNot [z0]) ky2
theorem ky3_ok : TblOk Try.prog ky3 := q_I ky2_ok Try.func57 fun l K h =>
  tot1_tr (good := gdNot) (bad := [z0]) (fun a la K h => ⟨_, iNot_ok a la, h⟩) (fun s xs lx h => iNot_bad s xs lx h) l K h
def ky4 : Cfg := addT 44 (tot1 gdBits [.inl (.i .i64 0)]) ky3
theorem ky4_ok : TblOk Try.prog ky4 := q_I ky3_ok Try.func44 fun l K h =>
  tot1_tr (good := gdBits) (bad := [.inl (.i .i64 0)]) (fun a la K h => ⟨_, iBits_ok a la, h⟩) (fun s xs lx h => iBits_bad s xs lx h) l K h
theorem iSmall_z (a : Int) (la : (dg 4294967296 a.natAbs).length ≤ 128) : Ret Try.prog 43 false [.inr (gI a)] (.t [.inl (.i .i64 (smV a)), flt2 (smC a) (smI a)]) := by
  have oa := (okZ_g a).trans (decide_eq_true la)
  have e := sg_self a
  by_cases h : a < 0
  · have h1 : decide (a < 0) = true := decide_eq_true h
    rw [h1] at e oa
    have := iSmall_true a.natAbs (fun _ => by omega) la oa
    rw [e] at this
    simpa only [gI, h1] using this
  · have h1 : decide (a < 0) = false := decide_eq_false h
    rw [h1] at e oa
    have := iSmall_false a.natAbs (fun h => by cases h) la oa
    rw [e] at this
    simpa only [gI, h1] using this
def ky5 : Cfg := addT 43 (tot1 gdSmall [.inl (.i .i64 0)]) ky4
theorem ky5_ok : TblOk Try.prog ky5 := q_I ky4_ok Try.func43 fun l K h =>
  tot1_tr (good := gdSmall) (bad := [.inl (.i .i64 0)]) (fun a la K h => ⟨_, iSmall_z a la, h⟩) (fun s xs lx h => iSmall_bad s xs lx h) l K h
def ky6 : Cfg := addT 22 (tot1 gdSqrt [z0]) ky5
theorem ky6_ok : TblOk Try.prog ky6 := q_I ky5_ok Try.func22 fun l K h =>
  tot1_tr (good := gdSqrt) (bad := [z0]) (fun a la K h => by
    by_cases hb : a < 0
    · exact ⟨_, iSqrt_neg a hb la, h.1 hb⟩
    · exact ⟨_, iSqrt_ok a (by omega) la, h.2 hb⟩) (fun s xs lx h => iSqrt_bad s xs lx h) l K h
def gdPow (a n : Int) (K : AV → Prop) : Prop := ((n < 0 ∨ 10000 < n) → K (.t [z0, flt2 4 (-2)])) ∧ (0 ≤ n ∧ n ≤ 10000 → K (rCl (a ^ n.toNat)))
def gdShift (a n : Int) (K : AV → Prop) : Prop := K (rCl (shZ a n))
theorem as_sg {F : FuncId} {a : Int} {r : Int → AV} {l : List (C ⊕ List C)} (h : ∀ (s : Bool) (m : Nat), sg s m = a → (s = true → 0 < m) → s = decide (a < 0) → m = a.natAbs → Ret Try.prog F false (.inr [.b s, .ints .u32 (dg 4294967296 m)] :: l) (r (sg s m))) : Ret Try.prog F false (.inr (gI a) :: l) (r a) := by
  have e := sg_self a
  have := h (decide (a < 0)) a.natAbs e (fun h => by have := of_decide_eq_true h; omega) rfl rfl
  rw [e] at this
  exact this
def ky7 : Cfg := addT 49 (totN gdPow [z0]) ky6
theorem ky7_ok : TblOk Try.prog ky7 := q_I ky6_ok Try.func49 fun l K h =>
  totN_tr (good := gdPow) (bad := [z0]) (fun a n hn1 hn2 oa K h => by
    have la := okZ_len oa
    by_cases hb : n < 0 ∨ 10000 < n
    · exact ⟨_, iPow_range _ _ n oa (by omega) hb, h.1 hb⟩
    · have h := h.2 (by omega)
      obtain ⟨k, rfl⟩ : ∃ k : Nat, n = k := ⟨n.toNat, by omega⟩
      refine ⟨_, as_sg (r := fun z => rPw (z ^ k)) (fun s m e1 e2 e3 e4 => ?_), by rw [Int.toNat_natCast] at h; exact h⟩
      subst e3; subst e4
      cases hs : decide (a < 0)
      · exact iPow_false a.natAbs k (fun h => by cases h) (by omega) (by rw [hs] at oa; exact oa) la
      · exact iPow_true a.natAbs k (fun h => e2 hs) (by omega) (by rw [hs] at oa; exact oa) la) (fun s xs n lx h => iPow_bad s xs n h lx) l K h
def ky8 : Cfg := addT 58 (totN gdShift [z0]) ky7
theorem ky8_ok : TblOk Try.prog ky8 := q_I ky7_ok Try.func58 fun l K h =>
  totN_tr (good := gdShift) (bad := [z0]) (fun a n hn1 hn2 oa K h => by
    refine ⟨_, as_sg (r := fun z => rCz (shZ z n)) (fun s m e1 e2 e3 e4 => ?_), h⟩
    subst e3; subst e4
    exact iShift_ok _ a.natAbs n e2 ⟨hn1, hn2⟩ oa (okZ_len oa)) (fun s xs n lx h => iShift_bad s xs n lx h) l K h
attribute [go_sem] tot2 tot1 totN gdAdd gdSub gdMul gdAnd gdOr gdXor gdGcd gdCmp gdDiv gdNeg gdAbs gdNot gdBits gdSmall gdSqrt gdPow gdShift z0 flt2

end Go.Proofs.Ythfgapbcdhajiaa
