import Derived.Test.YtgkajjifbcmoeaaGreatDoorCards
import Derived.Test.YtgkajjifbcmoeaaGreatDoorM90
import Derived.Test.YtgkajjifbcmoeaaGreatDoorTie
namespace Go.Proofs.YtgkajjifbcmoeaaGreatDoor
set_option linter.unusedSimpArgs false
set_option linter.unusedVariables false
open Go

theorem decimalOrdered_c1 : Rows.decimalOrderedRow.wfByText (OpenSpec.ofChange Rows.decimalOrderedSpec) = true:=by kernel_rfl
theorem decimalOrdered_c2 : Tryz.pinned.checked.prog.mainIs = some (true, "afc3de3aeb34276c6ae94581d9a1b648a764c3f31e00bec987c2114ebf9f1cef".toList) := by kernel_rfl
theorem decimalOrdered_c3 : true = Tryz.pinned.checked.prog.looks []:=by kernel_rfl
theorem decimalOrdered_c4 : Tryz.pinned.checked.prog.funcNamed "brindlewood/brindlewoodlaw3.DecimalOrdered" = some 7 := by kernel_rfl
theorem decimalOrdered_c5 : ([26,26,28].all fun u=>!Tryz.pinned.checked.prog.wantsStandIn u) = true:=by kernel_rfl
theorem decimalOrdered_c6 : false = Rows.decimalOrderedRow.goesBy Tryz.pinned.checked.prog:=by kernel_rfl
theorem decimalOrdered_c7 (f : FuncId) (fn : Func) (hf : Tryz.pinned.checked.prog.funcNamed Rows.decimalOrderedRow.func = some f) (hfn : Tryz.pinned.checked.prog.funcs[f]? = some fn) : true = Tryz.pinned.checked.prog.looks [] ∧ ∀ (j : Nat) t,fn.params[j]? = some t → Tryz.pinned.checked.prog.wantsStandIn t = false:=by
 obtain rfl : f = 7:=Option.some.inj (decimalOrdered_c4.symm.trans hf) |>.symm
 obtain rfl : fn = Tryz.f7:=(Option.some.inj (Tryz.func7.symm.trans hfn)).symm
 refine ⟨decimalOrdered_c3,fun j t ht=>?_⟩
 rw [Tryz.params7] at ht
 have hm : t ∈ [26,26,28]:=by simpa using Array.mem_of_getElem? ht
 simpa using List.all_eq_true.1 decimalOrdered_c5 t hm
theorem decimalOrdered_card : Rows.DecimalOrderedCardSaid :=
 Claim7.holds_tied_plain_at .later [] [.data, .data, .data, .data, .sentinel, .sentinel, .pinned] true (true, "afc3de3aeb34276c6ae94581d9a1b648a764c3f31e00bec987c2114ebf9f1cef") true decimalOrdered_holds (fun _ h => by cases h) decimalOrdered_c1 (fun _ h => by cases h) decimalOrdered_row_tie rfl ⟨rfl, rfl⟩ decimalOrdered_c2 rfl decimalOrdered_c7 decimalOrdered_c6

end Go.Proofs.YtgkajjifbcmoeaaGreatDoor
