import Derived.Test.YtgogdabniebplaaP3
import Derived.Test.YtgogdabniebplaaP2
import Derived.Test.YtgogdabniebplaaN17
namespace Go.Proofs.Ytgogdabniebplaa
set_option linter.unusedSimpArgs false
set_option linter.unusedVariables false
open Go.Proofs.NatL

structure BitOp (op : Nat → Nat → Nat) : Prop where
  lt : ∀ k x y, x < 2 ^ k → y < 2 ^ k → op x y < 2 ^ k
  split : ∀ k x y s t, x < 2 ^ k → y < 2 ^ k → op (x + 2 ^ k * s) (y + 2 ^ k * t) = op x y + 2 ^ k * op s t

theorem tb_split {k x s : Nat} (h : x < 2 ^ k) (j : Nat) : (x + 2 ^ k * s).testBit j = if j < k then x.testBit j else s.testBit (j - k) := by
  rw [Nat.add_comm]; exact Nat.testBit_two_pow_mul_add s h j
theorem andOp : BitOp (fun x y => x &&& y) where
  lt k x y h _ := Nat.lt_of_le_of_lt Nat.and_le_left h
  split k x y s t h1 h2 := by
    have h3 : x &&& y < 2 ^ k := Nat.lt_of_le_of_lt Nat.and_le_left h1
    refine Nat.eq_of_testBit_eq fun j => ?_
    rw [Nat.testBit_and, tb_split h1, tb_split h2, tb_split h3, Nat.testBit_and, Nat.testBit_and]
    split <;> rfl
theorem orOp : BitOp (fun x y => x ||| y) where
  lt k x y h h2 := Nat.or_lt_two_pow h h2
  split k x y s t h1 h2 := by
    have h3 : x ||| y < 2 ^ k := Nat.or_lt_two_pow h1 h2
    refine Nat.eq_of_testBit_eq fun j => ?_
    rw [Nat.testBit_or, tb_split h1, tb_split h2, tb_split h3, Nat.testBit_or, Nat.testBit_or]
    split <;> rfl
theorem xorOp : BitOp (fun x y => x ^^^ y) where
  lt k x y h h2 := Nat.xor_lt_two_pow h h2
  split k x y s t h1 h2 := by
    have h3 : x ^^^ y < 2 ^ k := Nat.xor_lt_two_pow h1 h2
    refine Nat.eq_of_testBit_eq fun j => ?_
    rw [Nat.testBit_xor, tb_split h1, tb_split h2, tb_split h3, Nat.testBit_xor, Nat.testBit_xor]
    split <;> rfl
theorem BitOp.zero {op : Nat → Nat → Nat} (h : BitOp op) : op 0 0 = 0 := by
  have := h.split 0 0 0 0 0 (by simp) (by simp)
  simp at this; omega

def lo (k : Nat) (a : Int) : Nat := (a % ((2 ^ k : Nat) : Int)).toNat
def sgB (a : Int) : Nat := if a < 0 then 1 else 0
def FitK (k : Nat) (a : Int) : Prop := -((2 ^ k : Nat) : Int) ≤ a ∧ a < ((2 ^ k : Nat) : Int)
theorem pow2_pos (k : Nat) : 0 < 2 ^ k := Nat.pow_pos (by omega)
theorem FitK.mono {k m : Nat} {a : Int} (h : FitK k a) (hm : k ≤ m) : FitK m a := by
  have := Nat.pow_le_pow_right (n := 2) (by omega) hm
  unfold FitK at *; omega
theorem sgB_lt (a : Int) : sgB a < 2 := by unfold sgB; split <;> omega
theorem lo_lt (k : Nat) (a : Int) : lo k a < 2 ^ k := by
  have h := pow2_pos k
  have h1 := Int.emod_nonneg a (b := ((2 ^ k : Nat) : Int)) (by omega)
  have h2 := Int.emod_lt_of_pos a (b := ((2 ^ k : Nat) : Int)) (by omega)
  unfold lo; omega
theorem emod_shift {a p : Int} (h : -p ≤ a) (h2 : a < 0) : a % p = a + p := by
  rw [← Int.add_emod_right, Int.emod_eq_of_lt (by omega) (by omega)]
theorem lo_eq {k : Nat} {a : Int} (h : FitK k a) : (lo k a : Int) = a + ((2 ^ k : Nat) : Int) * sgB a := by
  unfold FitK at h
  unfold lo sgB
  split
  · rw [emod_shift (by omega) (by omega)]; omega
  · rw [Int.emod_eq_of_lt (by omega) (by omega)]; omega
theorem lo_succ {k : Nat} {a : Int} (h : FitK k a) : lo (k + 1) a = lo k a + 2 ^ k * sgB a := by
  have h1 := lo_eq h
  have h2 := lo_eq (h.mono (show k ≤ k + 1 by omega))
  have h3 : 2 ^ (k + 1) = 2 * 2 ^ k := by rw [Nat.pow_succ]; omega
  rw [h3] at h2
  generalize (2 : Nat) ^ k = p at *
  have h4 := sgB_lt a
  rcases (show sgB a = 0 ∨ sgB a = 1 by omega) with h | h <;> rw [h] at h1 h2 ⊢ <;> omega

def bop (op : Nat → Nat → Nat) (k : Nat) (a b : Int) : Int := (op (lo k a) (lo k b) : Int) - ((2 ^ k * op (sgB a) (sgB b) : Nat) : Int)
theorem bop_succ {op : Nat → Nat → Nat} (ho : BitOp op) {k : Nat} {a b : Int} (ha : FitK k a) (hb : FitK k b) : bop op (k + 1) a b = bop op k a b := by
  unfold bop
  rw [lo_succ ha, lo_succ hb, ho.split k _ _ _ _ (lo_lt k a) (lo_lt k b), Nat.pow_succ, Nat.mul_comm (2 ^ k) 2, Nat.mul_assoc]
  omega
theorem bop_le {op : Nat → Nat → Nat} (ho : BitOp op) {k : Nat} {a b : Int} (ha : FitK k a) (hb : FitK k b) : ∀ d, bop op (k + d) a b = bop op k a b
  | 0 => rfl
  | d + 1 => by rw [← Nat.add_assoc, bop_succ ho (ha.mono (by omega)) (hb.mono (by omega)), bop_le ho ha hb d]
def zop (op : Nat → Nat → Nat) (a b : Int) : Int := bop op (bl a.natAbs + bl b.natAbs) a b
theorem fitK_bl (a : Int) : FitK (bl a.natAbs) a := by
  have := lt_bl a.natAbs
  unfold FitK; omega
theorem zop_eq {op : Nat → Nat → Nat} (ho : BitOp op) {k : Nat} {a b : Int} (ha : FitK k a) (hb : FitK k b) : bop op k a b = zop op a b := by
  unfold zop
  have h1 := bop_le ho ha hb (bl a.natAbs + bl b.natAbs)
  have h2 := bop_le ho ((fitK_bl a).mono (Nat.le_add_right _ (bl b.natAbs))) ((fitK_bl b).mono (Nat.le_add_left _ (bl a.natAbs))) k
  rw [← h1, ← h2, Nat.add_comm]
theorem op01 {op : Nat → Nat → Nat} (ho : BitOp op) (a b : Int) : op (sgB a) (sgB b) < 2 := by
  have := ho.lt 1 (sgB a) (sgB b) (sgB_lt a) (sgB_lt b)
  exact this
theorem zop_fit {op : Nat → Nat → Nat} (ho : BitOp op) {k : Nat} {a b : Int} (ha : FitK k a) (hb : FitK k b) : FitK k (zop op a b) := by
  rw [← zop_eq ho ha hb]
  have h1 := op01 ho a b
  have h2 := ho.lt k _ _ (lo_lt k a) (lo_lt k b)
  unfold bop FitK
  rcases (show op (sgB a) (sgB b) = 0 ∨ op (sgB a) (sgB b) = 1 by omega) with h | h <;> rw [h] <;> omega
theorem sgB_zop {op : Nat → Nat → Nat} (ho : BitOp op) {k : Nat} {a b : Int} (ha : FitK k a) (hb : FitK k b) : sgB (zop op a b) = op (sgB a) (sgB b) := by
  rw [← zop_eq ho ha hb]
  have h1 := op01 ho a b
  have h2 := ho.lt k _ _ (lo_lt k a) (lo_lt k b)
  unfold bop
  generalize hs : op (sgB a) (sgB b) = s at *
  unfold sgB
  rcases (show s = 0 ∨ s = 1 by omega) with h | h <;> subst h
  · rw [if_neg (by omega)]
  · rw [if_pos (by omega)]
theorem lo_zop {op : Nat → Nat → Nat} (ho : BitOp op) {k : Nat} {a b : Int} (ha : FitK k a) (hb : FitK k b) : lo k (zop op a b) = op (lo k a) (lo k b) := by
  have h1 := lo_eq (zop_fit ho ha hb)
  rw [sgB_zop ho ha hb] at h1
  have h2 := zop_eq ho ha hb
  unfold bop at h2
  push_cast at h1 h2
  omega
def sgn (k r : Nat) : Int := if 2 ^ k ≤ r then (r : Int) - ((2 ^ (k + 1) : Nat) : Int) else r
theorem sgn_lo {k : Nat} {a : Int} (h : FitK k a) : sgn k (lo (k + 1) a) = a ∧ (2 ^ k ≤ lo (k + 1) a ↔ a < 0) := by
  have h1 := lo_eq (h.mono (show k ≤ k + 1 by omega))
  have h3 : 2 ^ (k + 1) = 2 * 2 ^ k := by rw [Nat.pow_succ]; omega
  unfold sgn
  rw [h3] at h1 ⊢
  unfold FitK at h
  generalize (2 : Nat) ^ k = p at *
  unfold sgB at h1
  split at h1
  · rw [if_pos (by omega)]; omega
  · rw [if_neg (by omega)]; omega

theorem sgB_not (a : Int) : sgB (-a - 1) = 1 - sgB a := by
  unfold sgB
  by_cases h : a < 0
  · rw [if_pos h, if_neg (by omega)]
  · rw [if_neg h, if_pos (by omega)]
theorem fitK_not {k : Nat} {a : Int} (h : FitK k a) : FitK k (-a - 1) := by unfold FitK at *; omega
theorem lo_not {k : Nat} {a : Int} (h : FitK k a) : lo k (-a - 1) = 2 ^ k - (lo k a + 1) := by
  have h1 := lo_eq h
  have h2 := lo_eq (fitK_not h)
  rw [sgB_not] at h2
  have h3 := lo_lt k a
  have h4 := sgB_lt a
  rcases (show sgB a = 0 ∨ sgB a = 1 by omega) with h | h <;> rw [h] at h1 h2 <;> omega
theorem lo_neg {k : Nat} {a : Int} (h0 : 0 < a) (h : FitK k a) : lo k (-a) = 2 ^ k - a.natAbs := by
  have h2 := lo_eq (k := k) (a := -a) (by unfold FitK at *; omega)
  unfold FitK at h
  have h4 : sgB (-a) = 1 := by unfold sgB; rw [if_pos (by omega)]
  rw [h4] at h2
  omega
theorem lo_nat {k m : Nat} (h : m < 2 ^ k) : lo k (m : Int) = m := by
  unfold lo
  rw [Int.emod_eq_of_lt (by omega) (by omega)]; omega

theorem add_xor_and : ∀ n x y : Nat, x ≤ n → x + y = (x ^^^ y) + 2 * (x &&& y)
  | 0, x, y, h => by
    obtain rfl : x = 0 := by omega
    simp
  | n + 1, x, y, h => by
    have hx : x = x % 2 + 2 ^ 1 * (x / 2) := by omega
    have hy : y = y % 2 + 2 ^ 1 * (y / 2) := by omega
    rcases Nat.eq_zero_or_pos x with h0 | h0
    · subst h0; simp
    · have ih := add_xor_and n (x / 2) (y / 2) (by omega)
      have e1 := xorOp.split 1 (x % 2) (y % 2) (x / 2) (y / 2) (by omega) (by omega)
      have e2 := andOp.split 1 (x % 2) (y % 2) (x / 2) (y / 2) (by omega) (by omega)
      simp only [← hx, ← hy] at e1 e2
      rw [e1, e2]
      have e3 : x % 2 + y % 2 = (x % 2 ^^^ y % 2) + 2 * (x % 2 &&& y % 2) := by
        rcases Nat.mod_two_eq_zero_or_one x with h1 | h1 <;> rcases Nat.mod_two_eq_zero_or_one y with h2 | h2 <;> rw [h1, h2] <;> rfl
      omega
theorem zop_sum (a b : Int) : zop (fun x y => x ^^^ y) a b + 2 * zop (fun x y => x &&& y) a b = a + b := by
  have ha := (fitK_bl a).mono (Nat.le_add_right _ (bl b.natAbs))
  have hb := (fitK_bl b).mono (Nat.le_add_left _ (bl a.natAbs))
  unfold zop bop
  generalize bl a.natAbs + bl b.natAbs = k at *
  have h1 := lo_eq ha
  have h2 := lo_eq hb
  have e1 := add_xor_and _ (lo k a) (lo k b) (Nat.le_refl _)
  have e2 := add_xor_and _ (sgB a) (sgB b) (Nat.le_refl _)
  have e3 : 2 ^ k * sgB a + 2 ^ k * sgB b = 2 ^ k * (sgB a ^^^ sgB b) + 2 * (2 ^ k * (sgB a &&& sgB b)) := by
    rw [← Nat.mul_add, e2, Nat.mul_add]; congr 1; rw [Nat.mul_left_comm]
  push_cast at h1 h2 ⊢
  push_cast at e3
  have e4 : ((2 : Int) ^ k) * (sgB a : Int) + (2 : Int) ^ k * (sgB b : Int) = (2 : Int) ^ k * ((sgB a ^^^ sgB b : Nat) : Int) + 2 * ((2 : Int) ^ k * ((sgB a &&& sgB b : Nat) : Int)) := by
    exact_mod_cast e3
  generalize (2 : Int) ^ k * ((sgB a ^^^ sgB b : Nat) : Int) = u at *
  generalize (2 : Int) ^ k * ((sgB a &&& sgB b : Nat) : Int) = v at *
  generalize (2 : Int) ^ k * (sgB a : Int) = u' at *
  generalize (2 : Int) ^ k * (sgB b : Int) = v' at *
  omega
theorem not_and_not (k x y : Nat) (hx : x < 2 ^ k) (hy : y < 2 ^ k) : (2 ^ k - (x + 1)) &&& (2 ^ k - (y + 1)) = 2 ^ k - ((x ||| y) + 1) := by
  have h3 := Nat.or_lt_two_pow hx hy
  refine Nat.eq_of_testBit_eq fun j => ?_
  rw [Nat.testBit_and, Nat.testBit_two_pow_sub_succ hx, Nat.testBit_two_pow_sub_succ hy, Nat.testBit_two_pow_sub_succ h3, Nat.testBit_or]
  cases decide (j < k) <;> simp
theorem zop_not (a b : Int) : -(zop (fun x y => x &&& y) (-a - 1) (-b - 1)) - 1 = zop (fun x y => x ||| y) a b := by
  have ha := (fitK_bl a).mono (Nat.le_add_right _ (bl b.natAbs))
  have hb := (fitK_bl b).mono (Nat.le_add_left _ (bl a.natAbs))
  generalize bl a.natAbs + bl b.natAbs = k at *
  rw [← zop_eq andOp (fitK_not ha) (fitK_not hb), ← zop_eq orOp ha hb]
  unfold bop
  show -(((lo k (-a - 1) &&& lo k (-b - 1) : Nat) : Int) - ((2 ^ k * (sgB (-a - 1) &&& sgB (-b - 1)) : Nat) : Int)) - 1 = ((lo k a ||| lo k b : Nat) : Int) - ((2 ^ k * (sgB a ||| sgB b) : Nat) : Int)
  rw [lo_not ha, lo_not hb, not_and_not k _ _ (lo_lt k a) (lo_lt k b), sgB_not, sgB_not]
  have h3 := Nat.or_lt_two_pow (lo_lt k a) (lo_lt k b)
  have e : ∀ s t : Nat, s < 2 → t < 2 → ((1 - s) &&& (1 - t)) = 1 - (s ||| t) ∧ (s ||| t) < 2 := fun s t hs ht => by
    rcases (show s = 0 ∨ s = 1 by omega) with rfl | rfl <;> rcases (show t = 0 ∨ t = 1 by omega) with rfl | rfl <;> decide
  obtain ⟨e1, e2⟩ := e (sgB a) (sgB b) (sgB_lt a) (sgB_lt b)
  rw [e1]
  rcases (show (sgB a ||| sgB b) = 0 ∨ (sgB a ||| sgB b) = 1 by omega) with h | h <;> rw [h] <;> omega

theorem V_op {op : Nat → Nat → Nat} (ho : BitOp op) : ∀ (xs ys : List Int), xs.length = ys.length → InB 4294967296 xs → InB 4294967296 ys →
    V 4294967296 (List.zipWith (fun x y => ((op x.toNat y.toNat : Nat) : Int)) xs ys) = op (V 4294967296 xs) (V 4294967296 ys)
  | [], [], _, _, _ => ho.zero.symm
  | x :: xs, y :: ys, h, hx, hy => by
    have h1 := hx x (List.mem_cons_self ..)
    have h2 := hy y (List.mem_cons_self ..)
    have ih := V_op ho xs ys (by simpa using h) (fun z hz => hx z (List.mem_cons_of_mem _ hz)) (fun z hz => hy z (List.mem_cons_of_mem _ hz))
    simp only [List.zipWith_cons_cons, V, ih, Int.toNat_natCast]
    exact (ho.split 32 x.toNat y.toNat (V 4294967296 xs) (V 4294967296 ys) (by omega) (by omega)).symm
theorem InB_op {op : Nat → Nat → Nat} (ho : BitOp op) : ∀ (xs ys : List Int), InB 4294967296 xs → InB 4294967296 ys → InB 4294967296 (List.zipWith (fun x y => ((op x.toNat y.toNat : Nat) : Int)) xs ys)
  | [], _, _, _ => by simpa using InB_nil _
  | _ :: _, [], _, _ => by simpa using InB_nil _
  | x :: xs, y :: ys, hx, hy => fun z hz => by
    have h1 := hx x (List.mem_cons_self ..)
    have h2 := hy y (List.mem_cons_self ..)
    have h3 := ho.lt 32 x.toNat y.toNat (by omega) (by omega)
    rw [List.zipWith_cons_cons, List.mem_cons] at hz
    rcases hz with rfl | hz
    · omega
    · exact InB_op ho xs ys (fun z hz => hx z (List.mem_cons_of_mem _ hz)) (fun z hz => hy z (List.mem_cons_of_mem _ hz)) z hz
theorem B2_op {op : Nat → Nat → Nat} (ho : BitOp op) (f : Bool → Bool → Bool) (hf : ∀ b c : Bool, op b.toNat c.toNat = (f b c).toNat) : ∀ (l m : List Bool), l.length = m.length → B2 (List.zipWith f l m) = op (B2 l) (B2 m)
  | [], [], _ => ho.zero.symm
  | b :: l, c :: m, h => by
    have ih := B2_op ho f hf l m (by simpa using h)
    have e : ∀ b : Bool, (if b = true then 1 else 0) = b.toNat := by decide
    have hl : ∀ b : Bool, b.toNat < 2 ^ 1 := by decide
    rw [List.zipWith_cons_cons, B2_cons, B2_cons, B2_cons, e, e, e, ih, ← hf]
    have := ho.split 1 b.toNat c.toNat (B2 l) (B2 m) (hl b) (hl c)
    rw [Nat.pow_one] at this
    rw [Nat.add_comm (2 * B2 l), Nat.add_comm (2 * B2 m), this, Nat.add_comm]

end Go.Proofs.Ytgogdabniebplaa
