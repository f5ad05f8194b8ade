import Derived.Test.YtgkajjifbcmoeaaGreatDoorM20
namespace Go.Proofs.NatL
set_option linter.unusedSimpArgs false
set_option linter.unusedVariables false

theorem sg_not (s : Bool) (m : Nat) : sg (!s) m = -sg s m:=by cases s <;> simp [sg]
def cmpZ (a b : Int) : Int:=if a < b then -1 else if a = b then 0 else 1
end Go.Proofs.NatL
