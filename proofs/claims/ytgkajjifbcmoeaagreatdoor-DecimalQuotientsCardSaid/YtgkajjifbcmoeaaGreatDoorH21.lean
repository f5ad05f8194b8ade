import Derived.SevenTiedAt
import Derived.Test.YtgkajjifbcmoeaaGreatDoorCards
import Derived.Test.YtgkajjifbcmoeaaGreatDoorH20
import Derived.Test.YtgkajjifbcmoeaaGreatDoorTie
namespace Go.Proofs.YtgkajjifbcmoeaaGreatDoor
set_option linter.unusedSimpArgs false
set_option linter.unusedVariables false
open Go

theorem decimalQuotients_c1 : Rows.decimalQuotientsRow.wfByText (OpenSpec.ofChange Rows.decimalQuotientsSpec) = true := by kernel_rfl
theorem decimalQuotients_c2 : Tryz.pinned.checked.prog.mainIs = some (true, "afc3de3aeb34276c6ae94581d9a1b648a764c3f31e00bec987c2114ebf9f1cef".toList) := by kernel_rfl
theorem decimalQuotients_c3 : true = Tryz.pinned.checked.prog.looks [] := by kernel_rfl
theorem decimalQuotients_c4 : Tryz.pinned.checked.prog.funcNamed "brindlewood/brindlewoodlaw3.DecimalQuotients" = some 5 := by kernel_rfl
theorem decimalQuotients_c5 : ([26, 26, 28].all fun u => !Tryz.pinned.checked.prog.wantsStandIn u) = true := by kernel_rfl
theorem decimalQuotients_c6 : false = Rows.decimalQuotientsRow.goesBy Tryz.pinned.checked.prog := by kernel_rfl
theorem decimalQuotients_c7 (f : FuncId) (fn : Func) (hf : Tryz.pinned.checked.prog.funcNamed Rows.decimalQuotientsRow.func = some f) (hfn : Tryz.pinned.checked.prog.funcs[f]? = some fn) : true = Tryz.pinned.checked.prog.looks [] ∧ ∀ (j : Nat) t, fn.params[j]? = some t → Tryz.pinned.checked.prog.wantsStandIn t = false := by
 obtain rfl : f = 5 := Option.some.inj (decimalQuotients_c4.symm.trans hf) |>.symm
 obtain rfl : fn = Tryz.f5 := (Option.some.inj (Tryz.func5.symm.trans hfn)).symm
 refine ⟨decimalQuotients_c3, fun j t ht => ?_⟩
 rw [Tryz.params5] at ht
 have hm : t ∈ [26, 26, 28] := by simpa using Array.mem_of_getElem? ht
 simpa using List.all_eq_true.1 decimalQuotients_c5 t hm
theorem decimalQuotients_card : Rows.DecimalQuotientsCardSaid :=
 Claim7.holds_tied_plain_at .later [] [.data, .data, .data, .data, .sentinel, .sentinel, .pinned] true (true, "afc3de3aeb34276c6ae94581d9a1b648a764c3f31e00bec987c2114ebf9f1cef") true decimalQuotients_holds (fun _ h => by cases h) decimalQuotients_c1 (fun _ h => by cases h) decimalQuotients_row_tie rfl ⟨rfl, rfl⟩ decimalQuotients_c2 rfl decimalQuotients_c7 decimalQuotients_c6

end Go.Proofs.YtgkajjifbcmoeaaGreatDoor
