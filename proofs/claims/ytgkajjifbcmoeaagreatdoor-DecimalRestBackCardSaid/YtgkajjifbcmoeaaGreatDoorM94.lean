import Derived.Test.YtgkajjifbcmoeaaGreatDoorCards
import Derived.Test.YtgkajjifbcmoeaaGreatDoorM93
import Derived.Test.YtgkajjifbcmoeaaGreatDoorTie
namespace Go.Proofs.YtgkajjifbcmoeaaGreatDoor
set_option linter.unusedSimpArgs false
set_option linter.unusedVariables false
open Go

theorem decimalRestBack_c1 : Rows.decimalRestBackRow.wfByText (OpenSpec.ofChange Rows.decimalRestBackSpec) = true:=by kernel_rfl
theorem decimalRestBack_c2 : Tryz.pinned.checked.prog.mainIs = some (true, "afc3de3aeb34276c6ae94581d9a1b648a764c3f31e00bec987c2114ebf9f1cef".toList) := by kernel_rfl
theorem decimalRestBack_c3 : true = Tryz.pinned.checked.prog.looks []:=by kernel_rfl
theorem decimalRestBack_c4 : Tryz.pinned.checked.prog.funcNamed "brindlewood/brindlewoodlaw3.DecimalRestBack" = some 13 := by kernel_rfl
theorem decimalRestBack_c5 : ([26,26].all fun u=>!Tryz.pinned.checked.prog.wantsStandIn u) = true:=by kernel_rfl
theorem decimalRestBack_c6 : false = Rows.decimalRestBackRow.goesBy Tryz.pinned.checked.prog:=by kernel_rfl
theorem decimalRestBack_c7 (f : FuncId) (fn : Func) (hf : Tryz.pinned.checked.prog.funcNamed Rows.decimalRestBackRow.func = some f) (hfn : Tryz.pinned.checked.prog.funcs[f]? = some fn) : true = Tryz.pinned.checked.prog.looks [] ∧ ∀ (j : Nat) t,fn.params[j]? = some t → Tryz.pinned.checked.prog.wantsStandIn t = false:=by
 obtain rfl : f = 13:=Option.some.inj (decimalRestBack_c4.symm.trans hf) |>.symm
 obtain rfl : fn = Tryz.f13:=(Option.some.inj (Tryz.func13.symm.trans hfn)).symm
 refine ⟨decimalRestBack_c3,fun j t ht=>?_⟩
 rw [Tryz.params13] at ht
 have hm : t ∈ [26,26]:=by simpa using Array.mem_of_getElem? ht
 simpa using List.all_eq_true.1 decimalRestBack_c5 t hm
theorem decimalRestBack_card : Rows.DecimalRestBackCardSaid :=
 Claim7.holds_tied_plain_at .later [] [.data, .data, .data, .data, .sentinel, .sentinel, .pinned] true (true, "afc3de3aeb34276c6ae94581d9a1b648a764c3f31e00bec987c2114ebf9f1cef") true decimalRestBack_holds (fun _ h => by cases h) decimalRestBack_c1 (fun _ h => by cases h) decimalRestBack_row_tie rfl ⟨rfl, rfl⟩ decimalRestBack_c2 rfl decimalRestBack_c7 decimalRestBack_c6

end Go.Proofs.YtgkajjifbcmoeaaGreatDoor
