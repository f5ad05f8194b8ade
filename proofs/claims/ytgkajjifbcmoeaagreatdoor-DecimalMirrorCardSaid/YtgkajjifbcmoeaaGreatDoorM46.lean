import Derived.Test.YtgkajjifbcmoeaaGreatDoorM38
import Derived.Test.YtgkajjifbcmoeaaGreatDoorM45
namespace Go.Proofs.NatL
set_option linter.unusedSimpArgs false
set_option linter.unusedVariables false
theorem add_ok {A B : Dc} {c : Cx} (hc : OkC c) : OkD (addD A B c):=by
 unfold addD
 split
 ·exact none_ok
 split
 ·exact none_ok
 split
 ·exact inf_ok _
 split
 ·exact inf_ok _
 ·exact fit_ok (by omega) hc
theorem mul_ok {A B : Dc} {c : Cx} (hc : OkC c) : OkD (mulD A B c):=by
 unfold mulD
 split
 ·exact none_ok
 split
 ·exact fit_ok (by omega) hc
 split
 ·exact none_ok
 ·exact inf_ok _
end Go.Proofs.NatL
