import Derived.Test.YtgkajjifbcmoeaaGreatDoorM43
namespace Go.Proofs.NatL
set_option linter.unusedSimpArgs false
set_option linter.unusedVariables false
theorem ten_pos (k : Nat) : 0 < 10 ^ k:=Nat.pow_pos (by omega)
end Go.Proofs.NatL

namespace Go.Proofs.NatL
set_option linter.unusedSimpArgs false
set_option linter.unusedVariables false
theorem pow_mono {a b : Nat} (h : a ≤ b) : 10 ^ a ≤ 10 ^ b:=Nat.pow_le_pow_right (by omega) h
theorem first_one {c : Nat} (hc : 0 < c) (e : Int) : firstE c 1 e = (ds c : Int) - 1 + e:=by
 have h1:=ds_top hc
 have h2:=ds_pos.2 hc
 have hg : guessE c 1 e = (ds c : Int) - 1 + e:=by unfold guessE; rw [one_ds]; omega
 unfold firstE
 rw [hg,if_neg]
 unfold ptN ptD
 by_cases h : (ds c : Int) - 1 + e ≤ e
 ·rw [if_pos h,if_pos h,show (e - ((ds c : Int) - 1 + e)).toNat = 0 by omega]; omega
 ·rw [if_neg h,if_neg h,Nat.one_mul,show ((ds c : Int) - 1 + e - e).toNat = ds c - 1 by omega]; omega
end Go.Proofs.NatL
