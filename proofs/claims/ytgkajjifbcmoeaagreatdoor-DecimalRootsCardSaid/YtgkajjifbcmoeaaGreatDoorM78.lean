import Derived.Test.YtgkajjifbcmoeaaGreatDoorM37
namespace Go.Proofs.YtgkajjifbcmoeaaGreatDoor
set_option linter.unusedSimpArgs false
set_option linter.unusedVariables false
open Go.Abs Go.Proofs.NatL

abbrev aD (k : Int) (s a : Bool) (xs : List Int) (e : Int) : List AV:=[.c (.i .i64 k),.c (.b s),.c (.b a),.c (.ints .u32 xs),.c (.i .i64 e)]
attribute [go_sem] aD
end Go.Proofs.YtgkajjifbcmoeaaGreatDoor
