import Derived.Test.YtgkajjifbcmoeaaGreatDoorCards
import Derived.Test.YtgkajjifbcmoeaaGreatDoorP30
import Derived.Test.YtgkajjifbcmoeaaGreatDoorTie
namespace Go.Proofs.YtgkajjifbcmoeaaGreatDoor
set_option linter.unusedSimpArgs false
set_option linter.unusedVariables false
open Go

theorem decimalRatios_c1 : Rows.decimalRatiosRow.wfByText (OpenSpec.ofChange Rows.decimalRatiosSpec) = true:=by kernel_rfl
theorem decimalRatios_c2 : Tryz.pinned.checked.prog.mainIs = some (true, "afc3de3aeb34276c6ae94581d9a1b648a764c3f31e00bec987c2114ebf9f1cef".toList) := by kernel_rfl
theorem decimalRatios_c3 : true = Tryz.pinned.checked.prog.looks []:=by kernel_rfl
theorem decimalRatios_c4 : Tryz.pinned.checked.prog.funcNamed "brindlewood/brindlewoodlaw3.DecimalRatios" = some 12 := by kernel_rfl
theorem decimalRatios_c5 : ([41,26,26,28].all fun u=>!Tryz.pinned.checked.prog.wantsStandIn u) = true:=by kernel_rfl
theorem decimalRatios_c6 : false = Rows.decimalRatiosRow.goesBy Tryz.pinned.checked.prog:=by kernel_rfl
theorem decimalRatios_c7 (f : FuncId) (fn : Func) (hf : Tryz.pinned.checked.prog.funcNamed Rows.decimalRatiosRow.func = some f) (hfn : Tryz.pinned.checked.prog.funcs[f]? = some fn) : true = Tryz.pinned.checked.prog.looks [] ∧ ∀ (j : Nat) t,fn.params[j]? = some t → Tryz.pinned.checked.prog.wantsStandIn t = false:=by
 obtain rfl : f = 12:=Option.some.inj (decimalRatios_c4.symm.trans hf) |>.symm
 obtain rfl : fn = Tryz.f12:=(Option.some.inj (Tryz.func12.symm.trans hfn)).symm
 refine ⟨decimalRatios_c3,fun j t ht=>?_⟩
 rw [Tryz.params12] at ht
 have hm : t ∈ [41,26,26,28]:=by simpa using Array.mem_of_getElem? ht
 simpa using List.all_eq_true.1 decimalRatios_c5 t hm
theorem decimalRatios_card : Rows.DecimalRatiosCardSaid :=
 Claim7.holds_tied_plain_at .later [] [.data, .data, .data, .data, .sentinel, .sentinel, .pinned] true (true, "afc3de3aeb34276c6ae94581d9a1b648a764c3f31e00bec987c2114ebf9f1cef") true decimalRatios_holds (fun _ h => by cases h) decimalRatios_c1 (fun _ h => by cases h) decimalRatios_row_tie rfl ⟨rfl, rfl⟩ decimalRatios_c2 rfl decimalRatios_c7 decimalRatios_c6

end Go.Proofs.YtgkajjifbcmoeaaGreatDoor
