import Derived.Test.YtgkajjifbcmoeaaGreatDoorM44
import Derived.Test.YtgkajjifbcmoeaaGreatDoorM47
namespace Go.Proofs.NatL
set_option linter.unusedSimpArgs false
set_option linter.unusedVariables false
theorem rem_ok {A B : Dc} {c : Cx} (hc : OkC c) : OkD (remD A B c):=by
 unfold remD
 split
 ·exact none_ok
 split
 ·exact none_ok
 split
 ·exact fit_ok (by omega) hc
 ·exact fit_ok (by omega) hc
end Go.Proofs.NatL
