import Derived.Test.YtgkajjifbcmoeaaGreatDoorM36
import Derived.Test.YtgkajjifbcmoeaaGreatDoorM83
namespace Go.Proofs.NatL
set_option linter.unusedSimpArgs false
set_option linter.unusedVariables false
theorem cmp3_mul (a b : Nat) {c : Nat} (hc : 0 < c) : cmp3 (a * c) (b * c) = cmp3 a b:=by
 unfold cmp3
 have h1 : a * c < b * c ↔ a < b:=Nat.mul_lt_mul_right hc
 have h2 : a * c = b * c ↔ a = b:=⟨fun h=>Nat.eq_of_mul_eq_mul_right hc h,fun h=>by rw [h]⟩
 simp only [h1,h2]
end Go.Proofs.NatL
