import Derived.Test.YtgkajjifbcmoeaaGreatDoorCards
import Derived.Test.YtgkajjifbcmoeaaGreatDoorR16
import Derived.Test.YtgkajjifbcmoeaaGreatDoorTie
namespace Go.Proofs.YtgkajjifbcmoeaaGreatDoor
set_option linter.unusedSimpArgs false
set_option linter.unusedVariables false
open Go

theorem topDecimalIsRounded_c1 : Rows.topDecimalIsRoundedRow.wfByText (OpenSpec.ofChange Rows.topDecimalIsRoundedSpec) = true:=by kernel_rfl
theorem topDecimalIsRounded_c2 : Tryz.pinned.checked.prog.mainIs = some (true, "afc3de3aeb34276c6ae94581d9a1b648a764c3f31e00bec987c2114ebf9f1cef".toList) := by kernel_rfl
theorem topDecimalIsRounded_c3 : true = Tryz.pinned.checked.prog.looks []:=by kernel_rfl
theorem topDecimalIsRounded_c4 : Tryz.pinned.checked.prog.funcNamed "brindlewood/brindlewoodtop.TopDecimalIsRounded" = some 3 := by kernel_rfl
theorem topDecimalIsRounded_c5 : ([26,26,28].all fun u=>!Tryz.pinned.checked.prog.wantsStandIn u) = true:=by kernel_rfl
theorem topDecimalIsRounded_c6 : false = Rows.topDecimalIsRoundedRow.goesBy Tryz.pinned.checked.prog:=by kernel_rfl
theorem topDecimalIsRounded_c7 (f : FuncId) (fn : Func) (hf : Tryz.pinned.checked.prog.funcNamed Rows.topDecimalIsRoundedRow.func = some f) (hfn : Tryz.pinned.checked.prog.funcs[f]? = some fn) : true = Tryz.pinned.checked.prog.looks [] ∧ ∀ (j : Nat) t,fn.params[j]? = some t → Tryz.pinned.checked.prog.wantsStandIn t = false:=by
 obtain rfl : f = 3:=Option.some.inj (topDecimalIsRounded_c4.symm.trans hf) |>.symm
 obtain rfl : fn = Tryz.f3:=(Option.some.inj (Tryz.func3.symm.trans hfn)).symm
 refine ⟨topDecimalIsRounded_c3,fun j t ht=>?_⟩
 rw [Tryz.params3] at ht
 have hm : t ∈ [26,26,28]:=by simpa using Array.mem_of_getElem? ht
 simpa using List.all_eq_true.1 topDecimalIsRounded_c5 t hm
theorem topDecimalIsRounded_card : Rows.TopDecimalIsRoundedCardSaid :=
 Claim7.holds_tied_plain_at .later [] [.data, .data, .data] true (true, "afc3de3aeb34276c6ae94581d9a1b648a764c3f31e00bec987c2114ebf9f1cef") true topDecimalIsRounded_holds (fun _ h => by cases h) topDecimalIsRounded_c1 (fun _ h => by cases h) topDecimalIsRounded_row_tie rfl ⟨rfl, rfl⟩ topDecimalIsRounded_c2 rfl topDecimalIsRounded_c7 topDecimalIsRounded_c6

end Go.Proofs.YtgkajjifbcmoeaaGreatDoor
