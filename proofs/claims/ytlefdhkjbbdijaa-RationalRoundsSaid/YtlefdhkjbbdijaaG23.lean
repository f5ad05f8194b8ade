import Derived.Test.YtlefdhkjbbdijaaG3
namespace Go.Abs
set_option linter.unusedSimpArgs false
set_option linter.unusedVariables false
open Go.RowKit
variable {P : Program}
theorem seq_cut7 {F : Fr} {Q : Exit → St → Prop} {st : St} {a0 a1 a2 a3 a4 a5 a6 Y : Code} {ι : Type} (mid : ι → St) (h1 : ∀ Y', (∀ i, AWp P F Y' Q (mid i)) → AWp P F (.seq a0 (.seq a1 (.seq a2 (.seq a3 (.seq a4 (.seq a5 (.seq a6 Y'))))))) Q st) (h2 : ∀ i, AWp P F Y Q (mid i)) : AWp P F (.seq a0 (.seq a1 (.seq a2 (.seq a3 (.seq a4 (.seq a5 (.seq a6 Y))))))) Q st := h1 Y h2
theorem seq_cut13 {F : Fr} {Q : Exit → St → Prop} {st : St} {a0 a1 a2 a3 a4 a5 a6 a7 a8 a9 a10 a11 a12 Y : Code} {ι : Type} (mid : ι → St) (h1 : ∀ Y', (∀ i, AWp P F Y' Q (mid i)) → AWp P F (.seq a0 (.seq a1 (.seq a2 (.seq a3 (.seq a4 (.seq a5 (.seq a6 (.seq a7 (.seq a8 (.seq a9 (.seq a10 (.seq a11 (.seq a12 Y'))))))))))))) Q st) (h2 : ∀ i, AWp P F Y Q (mid i)) : AWp P F (.seq a0 (.seq a1 (.seq a2 (.seq a3 (.seq a4 (.seq a5 (.seq a6 (.seq a7 (.seq a8 (.seq a9 (.seq a10 (.seq a11 (.seq a12 Y))))))))))))) Q st := h1 Y h2
theorem cut_fit {F : Fr} {Q : Exit → St → Prop} {st : St} {Y : Code} {ι : Type} {mid : ι → St} (hY : ∀ i, AWp P F Y Q (mid i)) (i : ι) (h : FitP st (mid i)) : AWp P F Y Q st := awp_told (mid i) h (hY i)
end Go.Abs
