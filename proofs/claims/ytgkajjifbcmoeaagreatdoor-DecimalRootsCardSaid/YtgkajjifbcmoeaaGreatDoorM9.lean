import Derived.Test.YtgkajjifbcmoeaaGreatDoorM6
import Derived.Test.YtgkajjifbcmoeaaGreatDoorM8
namespace Go.Proofs.NatL
set_option linter.unusedSimpArgs false
set_option linter.unusedVariables false
theorem ten_len65 (k : Nat) : (dg 65536 (10 ^ k)).length ≤ 10 * (k / 3 + 1) / 16 + 1:=by
 refine dg_len_le (by omega) _ _ (Nat.lt_of_le_of_lt (ten_le_two k) ?_)
 have : (65536 : Nat) = 2 ^ 16:=by decide
 rw [this,← Nat.pow_mul]
 exact Nat.pow_lt_pow_right (by omega) (by omega)
theorem len_ds65 {n k : Nat} (h : ds n ≤ k) : (dg 65536 n).length ≤ 10 * (k / 3 + 1) / 16 + 1 :=
 Nat.le_trans (dg_len_mono (by omega) (Nat.le_of_lt (Nat.lt_of_lt_of_le (ds_lt n) (Nat.pow_le_pow_right (by omega) h)))) (ten_len65 k)
end Go.Proofs.NatL
