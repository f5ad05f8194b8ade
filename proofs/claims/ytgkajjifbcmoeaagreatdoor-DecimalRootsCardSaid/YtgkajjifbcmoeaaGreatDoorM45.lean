import Derived.Test.YtgkajjifbcmoeaaGreatDoorM10
import Derived.Test.YtgkajjifbcmoeaaGreatDoorM37
namespace Go.Proofs.NatL
set_option linter.unusedSimpArgs false
set_option linter.unusedVariables false
theorem none_ok : OkD dNone:=.inr (.inr ⟨rfl,rfl,rfl,rfl⟩)
theorem inf_ok (s : Bool) : OkD (dInf s):=.inr (.inl ⟨rfl,rfl,rfl⟩)
end Go.Proofs.NatL
