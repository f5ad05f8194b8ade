/-
  Further rules for code over plain states.
-/
import Derived.Test.YtggehgnmfjdkhaaAbsT
namespace Go.Abs
set_option linter.unusedSimpArgs false
set_option linter.unusedVariables false
open Go.RowKit

section
variable {P : Program} {F : Fr} {Q : Exit → St → Prop}

/-- a state told as another -/
theorem awp_told {c : Code} {st : St} (st' : St) (h : FitP st st') (k : AWp P F c Q st') : AWp P F c Q st := fun m a w hs =>
  let ⟨m', hs'⟩ := fit_of h F m a w hs
  k m' a w hs'
end
end Go.Abs
