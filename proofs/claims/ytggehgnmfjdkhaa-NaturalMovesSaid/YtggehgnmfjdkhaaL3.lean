/-
  Shifts and bits of words, as numbers. No program in sight.
-/
import Derived.Test.YtggehgnmfjdkhaaAbsR
namespace Go.Proofs.NatL
set_option linter.unusedSimpArgs false
set_option linter.unusedVariables false
open Go.Abs

theorem shrI_lit (k : IntKind) (x : Int) (n : Nat) (h : n ≤ k.bits) : shrI k x (n : Int) = x / 2 ^ n := by
  have : Nat.min ((n : Int)).toNat k.bits = n := by simp [Nat.min_eq_left h]
  rw [shrI, this, Int.fdiv_eq_ediv_of_nonneg _ (by exact Int.le_of_lt (Int.pow_pos (by omega)))]
theorem shr32 (x : Int) : shrI .u64 x 32 = x / 4294967296 := shrI_lit .u64 x 32 (by decide)
theorem shr31 (x : Int) : shrI .u32 x 31 = x / 2147483648 := shrI_lit .u32 x 31 (by decide)

theorem wrap_u32 (v : BitVec 32) : IntKind.u32.wrap (v.toNat : Int) = (v.toNat : Int) := by
  have := v.isLt
  simp [IntKind.wrap, IntKind.signed, IntKind.bits]
  omega
theorem and_u32 (a b : Int) : bitI .and .u32 a b = ((BitVec.ofInt 32 a &&& BitVec.ofInt 32 b).toNat : Int) := wrap_u32 _
theorem or_u32 (a b : Int) : bitI .or .u32 a b = ((BitVec.ofInt 32 a ||| BitVec.ofInt 32 b).toNat : Int) := wrap_u32 _
theorem xor_u32 (a b : Int) : bitI .xor .u32 a b = ((BitVec.ofInt 32 a ^^^ BitVec.ofInt 32 b).toNat : Int) := wrap_u32 _
theorem ofInt_toNat32 (v : BitVec 32) : BitVec.ofInt 32 (v.toNat : Int) = v := by
  apply BitVec.eq_of_toNat_eq; simp
theorem top32 (v : BitVec 32) : (v.toNat : Int) / 2147483648 = if v.msb then 1 else 0 := by
  have h := v.isLt
  rw [BitVec.msb_eq_decide]
  simp only [decide_eq_true_eq]
  split <;> omega
theorem msb_ofInt32 (x : Int) (h0 : 0 ≤ x) (h1 : x < 4294967296) : (BitVec.ofInt 32 x).msb = decide (2147483648 ≤ x) := by
  rw [BitVec.msb_eq_decide]
  have : (BitVec.ofInt 32 x).toNat = x.toNat := by
    rw [BitVec.toNat_ofInt]
    congr 1
    exact Int.emod_eq_of_lt h0 (by simpa using h1)
  rw [this]
  apply Bool.eq_iff_iff.2
  simp only [decide_eq_true_eq]
  omega

theorem msb_max32 : (BitVec.ofInt 32 4294967295).msb = true := by decide

/-- the borrow of a difference of words -/
theorem borrow32 (x y d b : Int) (hx0 : 0 ≤ x) (hx : x < 4294967296) (hy0 : 0 ≤ y) (hy : y < 4294967296) (hb0 : 0 ≤ b) (hb : b ≤ 1) (hd : d = (x - y - b) % 4294967296) :
    shrI .u32 (bitI .or .u32 (bitI .and .u32 (bitI .xor .u32 4294967295 x) y) (bitI .and .u32 (bitI .xor .u32 4294967295 (bitI .xor .u32 x y)) d)) 31 = if x < y + b then 1 else 0 := by
  simp only [shr31, and_u32, or_u32, xor_u32, ofInt_toNat32, top32]
  have hd0 : 0 ≤ d ∧ d < 4294967296 := by omega
  simp only [BitVec.msb_or, BitVec.msb_and, BitVec.msb_xor, msb_max32, msb_ofInt32 x hx0 hx, msb_ofInt32 y hy0 hy, msb_ofInt32 d hd0.1 hd0.2]
  by_cases h1 : 2147483648 ≤ x <;> by_cases h2 : 2147483648 ≤ y <;> by_cases h3 : 2147483648 ≤ d <;> simp [h1, h2, h3] <;> omega

end Go.Proofs.NatL
