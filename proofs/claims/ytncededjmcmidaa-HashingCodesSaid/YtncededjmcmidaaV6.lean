import Derived.Test.YtncededjmcmidaaV5
namespace Go.Abs
set_option linter.unusedSimpArgs false
set_option linter.unusedVariables false
open Go.RowKit
variable {P : Program}
theorem seq_cut5 {F : Fr} {Q : Exit → St → Prop} {st : St} {a0 a1 a2 a3 a4 Y : Code} {ι : Type} (mid : ι → St) (h1 : ∀ Y',(∀ i,AWp P F Y' Q (mid i)) → AWp P F (.seq a0 (.seq a1 (.seq a2 (.seq a3 (.seq a4 Y'))))) Q st) (h2 : ∀ i,AWp P F Y Q (mid i)) : AWp P F (.seq a0 (.seq a1 (.seq a2 (.seq a3 (.seq a4 Y))))) Q st:=h1 Y h2
end Go.Abs
