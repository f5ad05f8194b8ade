import Derived.Test.YtgkajjifbcmoeaaGreatDoorCards
import Derived.Test.YtgkajjifbcmoeaaGreatDoorM99
import Derived.Test.YtgkajjifbcmoeaaGreatDoorTie
namespace Go.Proofs.YtgkajjifbcmoeaaGreatDoor
set_option linter.unusedSimpArgs false
set_option linter.unusedVariables false
open Go

theorem decimalRoots_c1 : Rows.decimalRootsRow.wfByText (OpenSpec.ofChange Rows.decimalRootsSpec) = true:=by kernel_rfl
theorem decimalRoots_c2 : Tryz.pinned.checked.prog.mainIs = some (true, "afc3de3aeb34276c6ae94581d9a1b648a764c3f31e00bec987c2114ebf9f1cef".toList) := by kernel_rfl
theorem decimalRoots_c3 : true = Tryz.pinned.checked.prog.looks []:=by kernel_rfl
theorem decimalRoots_c4 : Tryz.pinned.checked.prog.funcNamed "brindlewood/brindlewoodlaw3.DecimalRoots" = some 9 := by kernel_rfl
theorem decimalRoots_c5 : ([26,28].all fun u=>!Tryz.pinned.checked.prog.wantsStandIn u) = true:=by kernel_rfl
theorem decimalRoots_c6 : false = Rows.decimalRootsRow.goesBy Tryz.pinned.checked.prog:=by kernel_rfl
theorem decimalRoots_c7 (f : FuncId) (fn : Func) (hf : Tryz.pinned.checked.prog.funcNamed Rows.decimalRootsRow.func = some f) (hfn : Tryz.pinned.checked.prog.funcs[f]? = some fn) : true = Tryz.pinned.checked.prog.looks [] ∧ ∀ (j : Nat) t,fn.params[j]? = some t → Tryz.pinned.checked.prog.wantsStandIn t = false:=by
 obtain rfl : f = 9:=Option.some.inj (decimalRoots_c4.symm.trans hf) |>.symm
 obtain rfl : fn = Tryz.f9:=(Option.some.inj (Tryz.func9.symm.trans hfn)).symm
 refine ⟨decimalRoots_c3,fun j t ht=>?_⟩
 rw [Tryz.params9] at ht
 have hm : t ∈ [26,28]:=by simpa using Array.mem_of_getElem? ht
 simpa using List.all_eq_true.1 decimalRoots_c5 t hm
theorem decimalRoots_card : Rows.DecimalRootsCardSaid :=
 Claim7.holds_tied_plain_at .later [] [.data, .data, .data, .data, .sentinel, .sentinel, .pinned] true (true, "afc3de3aeb34276c6ae94581d9a1b648a764c3f31e00bec987c2114ebf9f1cef") true decimalRoots_holds (fun _ h => by cases h) decimalRoots_c1 (fun _ h => by cases h) decimalRoots_row_tie rfl ⟨rfl, rfl⟩ decimalRoots_c2 rfl decimalRoots_c7 decimalRoots_c6

end Go.Proofs.YtgkajjifbcmoeaaGreatDoor
