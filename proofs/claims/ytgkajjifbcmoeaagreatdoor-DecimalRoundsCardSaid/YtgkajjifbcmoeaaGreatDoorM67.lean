import Derived.Test.YtgkajjifbcmoeaaGreatDoorCards
import Derived.Test.YtgkajjifbcmoeaaGreatDoorM66
import Derived.Test.YtgkajjifbcmoeaaGreatDoorTie
namespace Go.Proofs.YtgkajjifbcmoeaaGreatDoor
set_option linter.unusedSimpArgs false
set_option linter.unusedVariables false
open Go

theorem decimalRounds_c1 : Rows.decimalRoundsRow.wfByText (OpenSpec.ofChange Rows.decimalRoundsSpec) = true:=by kernel_rfl
theorem decimalRounds_c2 : Tryz.pinned.checked.prog.mainIs = some (true, "afc3de3aeb34276c6ae94581d9a1b648a764c3f31e00bec987c2114ebf9f1cef".toList) := by kernel_rfl
theorem decimalRounds_c3 : true = Tryz.pinned.checked.prog.looks []:=by kernel_rfl
theorem decimalRounds_c4 : Tryz.pinned.checked.prog.funcNamed "brindlewood/brindlewoodlaw3.DecimalRounds" = some 6 := by kernel_rfl
theorem decimalRounds_c5 : ([26,3,28].all fun u=>!Tryz.pinned.checked.prog.wantsStandIn u) = true:=by kernel_rfl
theorem decimalRounds_c6 : false = Rows.decimalRoundsRow.goesBy Tryz.pinned.checked.prog:=by kernel_rfl
theorem decimalRounds_c7 (f : FuncId) (fn : Func) (hf : Tryz.pinned.checked.prog.funcNamed Rows.decimalRoundsRow.func = some f) (hfn : Tryz.pinned.checked.prog.funcs[f]? = some fn) : true = Tryz.pinned.checked.prog.looks [] ∧ ∀ (j : Nat) t,fn.params[j]? = some t → Tryz.pinned.checked.prog.wantsStandIn t = false:=by
 obtain rfl : f = 6:=Option.some.inj (decimalRounds_c4.symm.trans hf) |>.symm
 obtain rfl : fn = Tryz.f6:=(Option.some.inj (Tryz.func6.symm.trans hfn)).symm
 refine ⟨decimalRounds_c3,fun j t ht=>?_⟩
 rw [Tryz.params6] at ht
 have hm : t ∈ [26,3,28]:=by simpa using Array.mem_of_getElem? ht
 simpa using List.all_eq_true.1 decimalRounds_c5 t hm
theorem decimalRounds_card : Rows.DecimalRoundsCardSaid :=
 Claim7.holds_tied_plain_at .later [] [.data, .data, .data, .data, .sentinel, .sentinel, .pinned] true (true, "afc3de3aeb34276c6ae94581d9a1b648a764c3f31e00bec987c2114ebf9f1cef") true decimalRounds_holds (fun _ h => by cases h) decimalRounds_c1 (fun _ h => by cases h) decimalRounds_row_tie rfl ⟨rfl, rfl⟩ decimalRounds_c2 rfl decimalRounds_c7 decimalRounds_c6

end Go.Proofs.YtgkajjifbcmoeaaGreatDoor
