import Derived.Test.YtgkajjifbcmoeaaGreatDoorM53
namespace Go.Proofs.YtgkajjifbcmoeaaGreatDoor
set_option linter.unusedSimpArgs false
set_option linter.unusedVariables false
open Go.Abs Go.Proofs.NatL

def rDI (D : Dc) (n : Int) : AV:=.t [.inr (gDc D),.inl (.i .i64 n)]
attribute [go_sem] rDI
end Go.Proofs.YtgkajjifbcmoeaaGreatDoor
