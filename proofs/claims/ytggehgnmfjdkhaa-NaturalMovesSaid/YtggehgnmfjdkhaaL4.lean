/-
  Words put together, shifts of lists of digits, quotients by one digit and by many. No program in sight.
-/
import Derived.Test.YtggehgnmfjdkhaaL2
import Derived.Test.YtggehgnmfjdkhaaL3
namespace Go.Proofs.NatL
set_option linter.unusedSimpArgs false
set_option linter.unusedVariables false
open Go.Abs

theorem wrap_u64 (v : BitVec 64) : IntKind.u64.wrap (v.toNat : Int) = (v.toNat : Int) := by
  have := v.isLt
  simp [IntKind.wrap, IntKind.signed, IntKind.bits]
  omega
theorem ofInt64 (x : Int) (h0 : 0 ≤ x) (h1 : x < 18446744073709551616) : (BitVec.ofInt 64 x).toNat = x.toNat := by
  rw [BitVec.toNat_ofInt]
  congr 1
  exact Int.emod_eq_of_lt h0 (by simpa using h1)
theorem ofInt32 (x : Int) (h0 : 0 ≤ x) (h1 : x < 4294967296) : (BitVec.ofInt 32 x).toNat = x.toNat := by
  rw [BitVec.toNat_ofInt]
  congr 1
  exact Int.emod_eq_of_lt h0 (by simpa using h1)
theorem or64 (a b : Int) (a0 : 0 ≤ a) (a1 : a < 18446744073709551616) (b0 : 0 ≤ b) (b1 : b < 18446744073709551616) : bitI .or .u64 a b = ((a.toNat ||| b.toNat : Nat) : Int) := by
  have h : bitI .or .u64 a b = ((BitVec.ofInt 64 a ||| BitVec.ofInt 64 b).toNat : Int) := wrap_u64 _
  rw [h, BitVec.toNat_or, ofInt64 a a0 a1, ofInt64 b b0 b1]
theorem or32 (a b : Int) (a0 : 0 ≤ a) (a1 : a < 4294967296) (b0 : 0 ≤ b) (b1 : b < 4294967296) : bitI .or .u32 a b = ((a.toNat ||| b.toNat : Nat) : Int) := by
  rw [or_u32, BitVec.toNat_or, ofInt32 a a0 a1, ofInt32 b b0 b1]
theorem or_sum (a b i : Nat) (h : b < 2 ^ i) : (a * 2 ^ i) ||| b = a * 2 ^ i + b := by
  rw [Nat.mul_comm, ← Nat.two_pow_add_eq_or_of_lt h]
theorem or64_hi (h l : Int) (h0 : 0 ≤ h) (h1 : h < 4294967296) (l0 : 0 ≤ l) (l1 : l < 4294967296) : bitI .or .u64 (h * 4294967296) l = h * 4294967296 + l := by
  rw [or64 _ _ (by omega) (by omega) l0 (by omega)]
  have e : (h * 4294967296).toNat = h.toNat * 2 ^ 32 := by omega
  rw [e, or_sum _ _ _ (by omega)]
  omega
theorem or64_hi' (h l : Int) (h0 : 0 ≤ h) (h1 : h < 4294967296) (l0 : 0 ≤ l) (l1 : l < 4294967296) : bitI .or .u64 l (h * 4294967296) = h * 4294967296 + l := by
  rw [or64 _ _ l0 (by omega) (by omega) (by omega), Nat.or_comm]
  have e : (h * 4294967296).toNat = h.toNat * 2 ^ 32 := by omega
  rw [e, or_sum _ _ _ (by omega)]
  omega
/-- a word moved up, with what came from below -/
theorem or32_lo (x c s : Nat) (hs : s ≤ 32) (hc : c < 2 ^ s) : bitI .or .u32 (((x * 2 ^ s : Nat) : Int) % 4294967296) (c : Int) = (((x * 2 ^ s) % 4294967296 + c : Nat) : Int) := by
  have h2 : 2 ^ s ≤ 2 ^ 32 := Nat.pow_le_pow_right (by omega) hs
  have e0 : 2 ^ 32 = 2 ^ s * 2 ^ (32 - s) := by rw [← Nat.pow_add]; congr 1; omega
  have e1 : x * 2 ^ s % 4294967296 = (x % 2 ^ (32 - s)) * 2 ^ s := by
    rw [show (4294967296 : Nat) = 2 ^ 32 from rfl, e0, Nat.mul_comm x, Nat.mul_mod_mul_left, Nat.mul_comm]
  rw [or32 _ _ (by omega) (by omega) (by omega) (by omega)]
  have e2 : (((x * 2 ^ s : Nat) : Int) % 4294967296).toNat = x * 2 ^ s % 4294967296 := by omega
  rw [e2, Int.toNat_natCast, e1, or_sum _ _ _ hc]
theorem shl64 (x : Int) (s : Nat) (hs : s ≤ 32) (h0 : 0 ≤ x) (h1 : x < 4294967296) : shlI .u64 x (s : Int) = x * 2 ^ s := by
  have e : Nat.min ((s : Int)).toNat IntKind.u64.bits = s := by
    show Nat.min ((s : Int)).toNat 64 = s
    rw [Int.toNat_natCast]; exact Nat.min_eq_left (by omega)
  have h2 : (2 : Int) ^ s ≤ 2 ^ 32 := by
    have : (2 : Nat) ^ s ≤ 2 ^ 32 := Nat.pow_le_pow_right (by omega) hs
    exact_mod_cast this
  have h3 : (0 : Int) < 2 ^ s := Int.pow_pos (by omega)
  have h4 : x * 2 ^ s ≤ 4294967295 * 2 ^ s := Int.mul_le_mul_of_nonneg_right (by omega) (by omega)
  have h5 : 0 ≤ x * 2 ^ s := Int.mul_nonneg h0 (by omega)
  have h6 : (2 : Int) ^ 32 = 4294967296 := by decide
  rw [shlI, e]
  simp [IntKind.wrap, IntKind.signed, IntKind.bits]
  omega
theorem shl64_32 (x : Int) (h0 : 0 ≤ x) (h1 : x < 4294967296) : shlI .u64 x 32 = x * 4294967296 := shl64 x 32 (by omega) h0 h1
theorem shr64 (x : Int) (s : Nat) (hs : s ≤ 64) : shrI .u64 x (s : Int) = x / 2 ^ s := shrI_lit .u64 x s hs
theorem tmod32 (n : Nat) : Int.tmod (n : Int) 32 = ((n % 32 : Nat) : Int) := by
  rw [Int.tmod_eq_emod_of_nonneg (by omega)]; omega
theorem tdiv32 (n : Nat) : Int.tdiv (n : Int) 32 = ((n / 32 : Nat) : Int) := by
  rw [Int.tdiv_eq_ediv_of_nonneg (by omega)]; omega

/-- a step of moving up -/
theorem left_step (B i s : Nat) (o xs : List Int) (c r q : Nat) (h : V B o + B ^ i * c = V B (xs.take i) * s) (hl : o.length = i) (hr : r + B * q = (xs.getD i 0).toNat * s + c) :
    V B (o ++ [(r : Int)]) + B ^ (i + 1) * q = V B (xs.take (i + 1)) * s := by
  have e := carry_step B i _ _ _ r q ((xs.getD i 0).toNat * s) h (by omega)
  rw [V_snoc, hl, V_take_getD, Int.toNat_natCast, e, Nat.add_mul, Nat.mul_assoc]

theorem V_zeros (B q : Nat) (o : List Int) : V B (List.replicate q 0 ++ o) = B ^ q * V B o := by
  rw [V_append, V_replicate, List.length_replicate]; omega

/-- the digit at a place -/
theorem V_digit (B : Nat) (hB : 0 < B) (xs : List Int) (h : InB B xs) (i : Nat) : V B xs / B ^ i % B = (xs.getD i 0).toNat := by
  by_cases hi : i < xs.length
  · have h1 := V_split B xs i (by omega)
    have h2 := V_lt B hB _ (InB_take h i)
    rw [List.length_take, Nat.min_eq_left (by omega)] at h2
    rw [h1, Nat.add_mul_div_left _ _ (Nat.pow_pos hB), Nat.div_eq_of_lt h2, Nat.zero_add, V_drop B xs i hi, Nat.add_mul_mod_self_left]
    exact Nat.mod_eq_of_lt (by have := InB_getD hB h i; omega)
  · rw [getD_ge xs i (by omega)]
    have h2 := V_lt B hB xs h
    have h3 : B ^ xs.length ≤ B ^ i := Nat.pow_le_pow_right hB (by omega)
    rw [Nat.div_eq_of_lt (by omega)]; simp
theorem V_drop_div (B : Nat) (hB : 0 < B) (xs : List Int) (h : InB B xs) (i : Nat) : V B (xs.drop i) = V B xs / B ^ i := by
  by_cases hi : i ≤ xs.length
  · have h1 := V_split B xs i hi
    have h2 := V_lt B hB _ (InB_take h i)
    rw [List.length_take, Nat.min_eq_left hi] at h2
    rw [h1, Nat.add_mul_div_left _ _ (Nat.pow_pos hB), Nat.div_eq_of_lt h2, Nat.zero_add]
  · rw [List.drop_eq_nil_of_le (by omega)]
    have h2 := V_lt B hB xs h
    have h3 : B ^ xs.length ≤ B ^ i := Nat.pow_le_pow_right hB (by omega)
    rw [Nat.div_eq_of_lt (by omega)]; rfl

/-- a step of moving down: W is the base, 2^s the divisor -/
theorem right_digit (n W s i : Nat) (hs : s ∣ W) (hs0 : 0 < s) (hW : 0 < W) : (n / W ^ i % W + W * (n / W ^ (i + 1) % W)) / s % W = n / s / W ^ i % W := by
  obtain ⟨t, rfl⟩ := hs
  have ht : 0 < t := Nat.pos_of_mul_pos_left hW |> fun _ => by
    rcases Nat.eq_zero_or_pos t with h | h
    · subst h; simp at hW
    · exact h
  have e1 : n / s / (s * t) ^ i = n / (s * t) ^ i / s := by rw [Nat.div_div_eq_div_mul, Nat.div_div_eq_div_mul, Nat.mul_comm]
  rw [e1]
  generalize hm : n / (s * t) ^ i = m
  have e2 : n / (s * t) ^ (i + 1) = m / (s * t) := by rw [← hm, Nat.div_div_eq_div_mul, Nat.pow_succ]
  rw [e2]
  generalize hW2 : s * t = W at *
  have h1 : m % W + W * (m / W % W) = m % (W * W) := (Nat.mod_mul).symm
  rw [h1]
  have h2 : m = m % (W * W) + W * W * (m / (W * W)) := (Nat.mod_add_div m (W * W)).symm
  conv => rhs; rw [h2]
  have h3 : W * W * (m / (W * W)) = s * (W * (t * (m / (W * W)))) := by
    rw [← hW2]; simp only [Nat.mul_assoc, Nat.mul_comm, Nat.mul_left_comm]
  rw [h3, Nat.add_mul_div_left _ _ hs0, Nat.add_mul_mod_self_left]
theorem mod_pow_succ' (n W k : Nat) : n % W ^ k + W ^ k * (n / W ^ k % W) = n % W ^ (k + 1) := by
  rw [Nat.pow_succ]; exact (Nat.mod_mul).symm

/-- division by one digit, from the top -/
theorem short_step (B i d : Nat) (o xs : List Int) (r r' q x : Nat) (hi : i < xs.length) (hl : o.length = xs.length) (h : V B (o.drop (i + 1)) * d + r = V B (xs.drop (i + 1))) (hx : x = (xs.getD i 0).toNat) (hq : q * d + r' = r * B + x) :
    V B ((o.set i (q : Int)).drop i) * d + r' = V B (xs.drop i) := by
  rw [V_drop B xs i hi, V_drop B _ i (by simp; omega), List.drop_set_of_lt (by omega), ← h, ← hx]
  have e : (o.set i (q : Int)).getD i 0 = (q : Int) := by rw [getD_eq _ _ (by simp; omega)]; simp
  rw [e, Int.toNat_natCast, Nat.add_mul, Nat.mul_add, ← Nat.mul_assoc]
  have e2 : B * r = r * B := Nat.mul_comm ..
  omega

end Go.Proofs.NatL
