import Derived.Test.YtgkajjifbcmoeaaGreatDoorP8
namespace Go.Proofs.YtgkajjifbcmoeaaGreatDoor
set_option linter.unusedSimpArgs false
set_option linter.unusedVariables false
open Go.Abs Go.Proofs.NatL

theorem dg1 (n : Nat) (h0 : 0 < n) (h1 : n < 4294967296) : dg 4294967296 n = [(n : Int)]:=by
 rw [dg_pos _ _ (by omega) h0,Nat.mod_eq_of_lt h1,Nat.div_eq_of_lt h1,dg_zero]

end Go.Proofs.YtgkajjifbcmoeaaGreatDoor
