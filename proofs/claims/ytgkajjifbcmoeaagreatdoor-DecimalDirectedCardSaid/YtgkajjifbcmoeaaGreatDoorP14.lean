import Derived.Test.YtgkajjifbcmoeaaGreatDoorP12
namespace Go.Proofs.NatL
set_option linter.unusedSimpArgs false
set_option linter.unusedVariables false

theorem tdiv2_abs (z : Int) : (z.tdiv 2).natAbs = z.natAbs / 2:=by rw [Int.natAbs_tdiv]; rfl
theorem tmod2_ne (z : Int) : decide (¬ z.tmod 2 = 0) = decide (z.natAbs % 2 = 1):=by
 have h1 : (z.tmod 2).natAbs = z.natAbs % 2:=by rw [Int.natAbs_tmod]; rfl
 congr 1
 exact propext ⟨fun h=>by omega,fun h=>by omega⟩

end Go.Proofs.NatL
