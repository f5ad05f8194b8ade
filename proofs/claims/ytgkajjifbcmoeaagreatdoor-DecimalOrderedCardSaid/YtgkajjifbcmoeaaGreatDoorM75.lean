import Derived.Test.YtgkajjifbcmoeaaGreatDoorM36
import Derived.Test.YtgkajjifbcmoeaaGreatDoorM37
namespace Go.Proofs.NatL
set_option linter.unusedSimpArgs false
set_option linter.unusedVariables false
theorem fit_kind (s : Bool) (num den : Nat) (exp i p r mn mx : Int) : (fitD s num den exp i p r mn mx).kind ≠ 2:=by
 unfold fitD ovf
 (repeat' split) <;> simp
end Go.Proofs.NatL
