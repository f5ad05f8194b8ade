import Derived.Test.YtgkajjifbcmoeaaGreatDoorM40
import Derived.Test.YtgkajjifbcmoeaaGreatDoorM45
namespace Go.Proofs.NatL
set_option linter.unusedSimpArgs false
set_option linter.unusedVariables false
theorem div_ok {A B : Dc} {c : Cx} (hc : OkC c) : OkD (divD A B c):=by
 obtain ⟨c1,c2,c3,c4,c5,c6,c7,c8⟩:=hc
 unfold divD
 split
 ·exact none_ok
 split
 ·exact none_ok
 split
 ·exact inf_ok _
 split
 ·have ht : tinyE c.p c.mn = c.mn - c.p + 1:=rfl
  exact .inl ⟨rfl,by simp only; omega,by simp only; omega,by simp⟩
 split
 ·exact inf_ok _
 ·rename_i h; exact fit_ok (Nat.pos_of_ne_zero h) ⟨c1,c2,c3,c4,c5,c6,c7,c8⟩
end Go.Proofs.NatL
