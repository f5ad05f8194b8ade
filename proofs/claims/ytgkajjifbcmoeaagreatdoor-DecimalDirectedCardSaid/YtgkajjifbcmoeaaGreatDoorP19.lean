import Derived.Test.YtgkajjifbcmoeaaGreatDoorP15
import Derived.Test.YtgkajjifbcmoeaaGreatDoorP16
namespace Go.Proofs.NatL
set_option linter.unusedSimpArgs false
set_option linter.unusedVariables false
theorem RT_parts {z : Int} {d : Nat} (h : RT z d) : 0 < d ∧ (dg 4294967296 z.natAbs).length ≤ 128 ∧ (dg 4294967296 d).length ≤ 128:=⟨h.1,h.2.2.1,h.2.2.2⟩
end Go.Proofs.NatL
namespace Go.Proofs.YtgkajjifbcmoeaaGreatDoor
set_option linter.unusedSimpArgs false
set_option linter.unusedVariables false
open Go.Abs Go.Proofs.NatL

end Go.Proofs.YtgkajjifbcmoeaaGreatDoor
