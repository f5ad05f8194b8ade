import Derived.Test.YtgkajjifbcmoeaaGreatDoorM20
import Derived.Test.YtgkajjifbcmoeaaGreatDoorM6
namespace Go.Proofs.NatL
set_option linter.unusedSimpArgs false
set_option linter.unusedVariables false

theorem sg_abs (s : Bool) (m : Nat) : (sg s m).natAbs = m:=by cases s <;> simp [sg]
end Go.Proofs.NatL
