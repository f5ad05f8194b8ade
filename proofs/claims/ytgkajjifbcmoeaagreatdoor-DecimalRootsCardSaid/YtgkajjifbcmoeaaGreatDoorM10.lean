import Derived.Test.YtgkajjifbcmoeaaGreatDoorM5
namespace Go.Proofs.NatL
set_option linter.unusedSimpArgs false
set_option linter.unusedVariables false
theorem ds_mul {a b k l : Nat} (h : ds a ≤ k) (h2 : ds b ≤ l) : ds (a * b) ≤ k + l:=mul_len (by omega) h h2
end Go.Proofs.NatL
