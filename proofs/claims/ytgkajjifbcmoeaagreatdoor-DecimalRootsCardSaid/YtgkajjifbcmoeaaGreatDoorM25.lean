import Derived.Test.YtgkajjifbcmoeaaGreatDoorM20
namespace Go.Proofs.YtgkajjifbcmoeaaGreatDoor
set_option linter.unusedSimpArgs false
set_option linter.unusedVariables false
open Go.Abs Go.Proofs.NatL

def jt0 : Cfg:=addT 33 atCT cf0
theorem jt0_ok : TblOk Tryz.prog jt0:=q_I cf0_ok Tryz.func33 fun l K h=>by
 split at h
 ·exact ⟨_,(At_ret _ _).plain rfl,h⟩
 ·exact h.elim
end Go.Proofs.YtgkajjifbcmoeaaGreatDoor
