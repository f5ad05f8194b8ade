import Derived.Test.YtgkajjifbcmoeaaGreatDoorCards
import Derived.Test.YtgkajjifbcmoeaaGreatDoorP34
import Derived.Test.YtgkajjifbcmoeaaGreatDoorTie
namespace Go.Proofs.YtgkajjifbcmoeaaGreatDoor
set_option linter.unusedSimpArgs false
set_option linter.unusedVariables false
open Go

theorem decimalDirected_c1 : Rows.decimalDirectedRow.wfByText (OpenSpec.ofChange Rows.decimalDirectedSpec) = true:=by kernel_rfl
theorem decimalDirected_c2 : Tryz.pinned.checked.prog.mainIs = some (true, "afc3de3aeb34276c6ae94581d9a1b648a764c3f31e00bec987c2114ebf9f1cef".toList) := by kernel_rfl
theorem decimalDirected_c3 : true = Tryz.pinned.checked.prog.looks []:=by kernel_rfl
theorem decimalDirected_c4 : Tryz.pinned.checked.prog.funcNamed "brindlewood/brindlewoodlaw3.DecimalDirected" = some 10 := by kernel_rfl
theorem decimalDirected_c5 : ([41,28,3].all fun u=>!Tryz.pinned.checked.prog.wantsStandIn u) = true:=by kernel_rfl
theorem decimalDirected_c6 : false = Rows.decimalDirectedRow.goesBy Tryz.pinned.checked.prog:=by kernel_rfl
theorem decimalDirected_c7 (f : FuncId) (fn : Func) (hf : Tryz.pinned.checked.prog.funcNamed Rows.decimalDirectedRow.func = some f) (hfn : Tryz.pinned.checked.prog.funcs[f]? = some fn) : true = Tryz.pinned.checked.prog.looks [] ∧ ∀ (j : Nat) t,fn.params[j]? = some t → Tryz.pinned.checked.prog.wantsStandIn t = false:=by
 obtain rfl : f = 10:=Option.some.inj (decimalDirected_c4.symm.trans hf) |>.symm
 obtain rfl : fn = Tryz.f10:=(Option.some.inj (Tryz.func10.symm.trans hfn)).symm
 refine ⟨decimalDirected_c3,fun j t ht=>?_⟩
 rw [Tryz.params10] at ht
 have hm : t ∈ [41,28,3]:=by simpa using Array.mem_of_getElem? ht
 simpa using List.all_eq_true.1 decimalDirected_c5 t hm
theorem decimalDirected_card : Rows.DecimalDirectedCardSaid :=
 Claim7.holds_tied_plain_at .later [] [.data, .data, .data, .data, .sentinel, .sentinel, .pinned] true (true, "afc3de3aeb34276c6ae94581d9a1b648a764c3f31e00bec987c2114ebf9f1cef") true decimalDirected_holds (fun _ h => by cases h) decimalDirected_c1 (fun _ h => by cases h) decimalDirected_row_tie rfl ⟨rfl, rfl⟩ decimalDirected_c2 rfl decimalDirected_c7 decimalDirected_c6

end Go.Proofs.YtgkajjifbcmoeaaGreatDoor
