/-
  No cell of these rows narrows 'for every input' (looked for: loops, veiled, ifaces, maps, wideKeys, modest, calm, conditions, laid).
  DERIVED. THE GIVEN ROWS OF THIS SEAT. 5 by the template 'for every input the law returns true; each argument reads behind the call as it read before'; 0 by the template 'total and deterministic' (their statements: YtmcjojbffidlbaaTotals.lean).
  GIVEN WITH THE SEED: the statements are not yours to turn. If you find one false, say at which input.
  Laid BY PROGRAM, IN A SANDBOX (cutbox-rows.mjs): the forced cells as the released guide's own fill.sh prints them over the translation 0d0345636ed9f2cf… (all of the seat's roots in one cut). By AI agents, Wed Nov 11 2026. No macro, syntax, notation, axiom, sorry.
-/
import Derived.Test.YtmcjojbffidlbaaChecked
import GoSem.Claim
import GoSem.ClaimJoined
import GoSem.ClaimMapViews
import Derived.JoinedTies
import Derived.KernelRfl
namespace Go.Proofs.Ytmcjojbffidlbaa
/- THE CELL 'sum', in the pinned program and in every row, IS THE sha256 OF THE DUMP (.gsa) THAT YtmcjojbffidlbaaProg.lean LOADS. Nothing in Lean hashes anything: it is a label: what it is worth is what the hold of that sum in a sandbox is worth. -/
noncomputable def Try.pinned : Pinned := { name := "ytmcjojbffidlbaa", sum := "0d0345636ed9f2cff8dc3d581123024edf15952ecda2959a965ed70786cae8c2", checked := Try.checked }
namespace Rows
def none {H : Type} : Left H := { results := [], args := [] }

/-- 'brindlewoodlaw3.OrderingPlans': WHATEVER THE INPUT: true; the input reads as it did. -/
def orderingPlansSpec : ChangeSpec := { name := "orderingPlans", fn := fun _ => fun
  | [d1, d2, d3] => { results := [.lit (.bool true)], args := [d1, d2, d3] }
  | _ => none }
def orderingPlansRow : OpenClaim := { program := "ytmcjojbffidlbaa", sum := "0d0345636ed9f2cff8dc3d581123024edf15952ecda2959a965ed70786cae8c2", func := "brindlewood/brindlewoodlaw3.OrderingPlans", spec := "orderingPlans", apart := false }
def OrderingPlansSaid : Prop := orderingPlansRow.holds Try.pinned (OpenSpec.ofChange orderingPlansSpec)

/-- ITS FALSE NEIGHBOUR: 'it returns false'. Refute it at one input. -/
def orderingPlansWrong : ChangeSpec := { name := "orderingPlans", fn := fun _ => fun
  | [d1, d2, d3] => { results := [.lit (.bool false)], args := [d1, d2, d3] }
  | _ => none }
def OrderingPlansWrongFalsely : Prop := orderingPlansRow.holds Try.pinned (OpenSpec.ofChange orderingPlansWrong)

/-- 'brindlewoodlaw3.OrderingPermutes': WHATEVER THE INPUT: true; the input reads as it did. -/
def orderingPermutesSpec : ChangeSpec := { name := "orderingPermutes", fn := fun _ => fun
  | [d1, d2] => { results := [.lit (.bool true)], args := [d1, d2] }
  | _ => none }
def orderingPermutesRow : OpenClaim := { program := "ytmcjojbffidlbaa", sum := "0d0345636ed9f2cff8dc3d581123024edf15952ecda2959a965ed70786cae8c2", func := "brindlewood/brindlewoodlaw3.OrderingPermutes", spec := "orderingPermutes", apart := false }
def OrderingPermutesSaid : Prop := orderingPermutesRow.holds Try.pinned (OpenSpec.ofChange orderingPermutesSpec)

/-- ITS FALSE NEIGHBOUR: 'it returns false'. Refute it at one input. -/
def orderingPermutesWrong : ChangeSpec := { name := "orderingPermutes", fn := fun _ => fun
  | [d1, d2] => { results := [.lit (.bool false)], args := [d1, d2] }
  | _ => none }
def OrderingPermutesWrongFalsely : Prop := orderingPermutesRow.holds Try.pinned (OpenSpec.ofChange orderingPermutesWrong)

/-- 'brindlewoodlaw3.OrderingStable': WHATEVER THE INPUT: true; the input reads as it did. -/
def orderingStableSpec : ChangeSpec := { name := "orderingStable", fn := fun _ => fun
  | [d] => { results := [.lit (.bool true)], args := [d] }
  | _ => none }
def orderingStableRow : OpenClaim := { program := "ytmcjojbffidlbaa", sum := "0d0345636ed9f2cff8dc3d581123024edf15952ecda2959a965ed70786cae8c2", func := "brindlewood/brindlewoodlaw3.OrderingStable", spec := "orderingStable", unfollowed := true, recurses := true, apart := false }
def OrderingStableSaid : Prop := orderingStableRow.holds Try.pinned (OpenSpec.ofChange orderingStableSpec)

/-- ITS FALSE NEIGHBOUR: 'it returns false'. Refute it at one input. -/
def orderingStableWrong : ChangeSpec := { name := "orderingStable", fn := fun _ => fun
  | [d] => { results := [.lit (.bool false)], args := [d] }
  | _ => none }
def OrderingStableWrongFalsely : Prop := orderingStableRow.holds Try.pinned (OpenSpec.ofChange orderingStableWrong)

/-- 'brindlewoodlaw3.OrderingSorts': WHATEVER THE INPUT: true; the input reads as it did. -/
def orderingSortsSpec : ChangeSpec := { name := "orderingSorts", fn := fun _ => fun
  | [d1, d2, d3, d4, d5] => { results := [.lit (.bool true)], args := [d1, d2, d3, d4, d5] }
  | _ => none }
def orderingSortsRow : OpenClaim := { program := "ytmcjojbffidlbaa", sum := "0d0345636ed9f2cff8dc3d581123024edf15952ecda2959a965ed70786cae8c2", func := "brindlewood/brindlewoodlaw3.OrderingSorts", spec := "orderingSorts", unfollowed := true, recurses := true, apart := false }
def OrderingSortsSaid : Prop := orderingSortsRow.holds Try.pinned (OpenSpec.ofChange orderingSortsSpec)

/-- ITS FALSE NEIGHBOUR: 'it returns false'. Refute it at one input. -/
def orderingSortsWrong : ChangeSpec := { name := "orderingSorts", fn := fun _ => fun
  | [d1, d2, d3, d4, d5] => { results := [.lit (.bool false)], args := [d1, d2, d3, d4, d5] }
  | _ => none }
def OrderingSortsWrongFalsely : Prop := orderingSortsRow.holds Try.pinned (OpenSpec.ofChange orderingSortsWrong)

/-- 'brindlewoodlaw3.OrderingInserted': WHATEVER THE INPUT: true; the input reads as it did. -/
def orderingInsertedSpec : ChangeSpec := { name := "orderingInserted", fn := fun _ => fun
  | [d1, d2, d3] => { results := [.lit (.bool true)], args := [d1, d2, d3] }
  | _ => none }
def orderingInsertedRow : OpenClaim := { program := "ytmcjojbffidlbaa", sum := "0d0345636ed9f2cff8dc3d581123024edf15952ecda2959a965ed70786cae8c2", func := "brindlewood/brindlewoodlaw3.OrderingInserted", spec := "orderingInserted", unfollowed := true, recurses := true, apart := false }
def OrderingInsertedSaid : Prop := orderingInsertedRow.holds Try.pinned (OpenSpec.ofChange orderingInsertedSpec)

/-- ITS FALSE NEIGHBOUR: 'it returns false'. Refute it at one input. -/
def orderingInsertedWrong : ChangeSpec := { name := "orderingInserted", fn := fun _ => fun
  | [d1, d2, d3] => { results := [.lit (.bool false)], args := [d1, d2, d3] }
  | _ => none }
def OrderingInsertedWrongFalsely : Prop := orderingInsertedRow.holds Try.pinned (OpenSpec.ofChange orderingInsertedWrong)

/- THE SECOND FORM. 'bulk': how many values and letters a reading holds, each counted each time it is reached (what is shared counts as often as it is met; a slice's spare places count too). A statement '..UptoSaid' is the law's where the arguments, and the package variables that the reading takes, are together of bulk at most 1048576: NARROWER than '..Said'. Prove '..Said' where nothing that the law and all that it calls make is longer than what came in: it says more and counts as full. Else prove '..UptoSaid'. A law counts once. -/
mutual
def uptoBulk {H : Type} : DataW H → Nat
  | .lit (.string bytes) => bytes.length + 1
  | .lit _ => 1
  | .nil => 1
  | .ptr d => uptoBulk d + 1
  | .slice elems spare => uptoBulkAll elems + uptoBulkAll spare + 1
  | .agg parts => uptoBulkAll parts + 1
  | .iface _ d => uptoBulk d + 1
  | .map entries => uptoBulkEntries entries + 1
  | .held _ => 1
def uptoBulkAll {H : Type} : List (DataW H) → Nat
  | [] => 0
  | d :: r => uptoBulk d + uptoBulkAll r
def uptoBulkEntries {H : Type} : List (Lit × DataW H) → Nat
  | [] => 0
  | x :: r => uptoBulkEntry x + uptoBulkEntries r
def uptoBulkEntry {H : Type} : Lit × DataW H → Nat
  | (.string bytes, d) => bytes.length + uptoBulk d + 1
  | (_, d) => uptoBulk d + 1
 end
def uptoSmall : (H : Type) → List (DataW H) → Bool := fun _ ds => decide (uptoBulkAll ds ≤ 1048576)
def OpenSpec.upto (s : _root_.Go.ChangeSpec) : _root_.Go.OpenSpec := { _root_.Go.OpenSpec.ofChange s with cond := some uptoSmall }

/-- 'brindlewoodlaw3.OrderingPlans', WHERE WHAT IT READS IS OF BULK AT MOST 1048576: true; the input reads as it did. -/
def orderingPlansUptoRow : OpenClaim := { program := "ytmcjojbffidlbaa", sum := "0d0345636ed9f2cff8dc3d581123024edf15952ecda2959a965ed70786cae8c2", func := "brindlewood/brindlewoodlaw3.OrderingPlans", spec := "orderingPlans", apart := false, narrowed := true }
def OrderingPlansUptoSaid : Prop := orderingPlansUptoRow.holds Try.pinned (OpenSpec.upto orderingPlansSpec)

/-- 'brindlewoodlaw3.OrderingPermutes', WHERE WHAT IT READS IS OF BULK AT MOST 1048576: true; the input reads as it did. -/
def orderingPermutesUptoRow : OpenClaim := { program := "ytmcjojbffidlbaa", sum := "0d0345636ed9f2cff8dc3d581123024edf15952ecda2959a965ed70786cae8c2", func := "brindlewood/brindlewoodlaw3.OrderingPermutes", spec := "orderingPermutes", apart := false, narrowed := true }
def OrderingPermutesUptoSaid : Prop := orderingPermutesUptoRow.holds Try.pinned (OpenSpec.upto orderingPermutesSpec)

/-- 'brindlewoodlaw3.OrderingStable', WHERE WHAT IT READS IS OF BULK AT MOST 1048576: true; the input reads as it did. -/
def orderingStableUptoRow : OpenClaim := { program := "ytmcjojbffidlbaa", sum := "0d0345636ed9f2cff8dc3d581123024edf15952ecda2959a965ed70786cae8c2", func := "brindlewood/brindlewoodlaw3.OrderingStable", spec := "orderingStable", unfollowed := true, recurses := true, apart := false, narrowed := true }
def OrderingStableUptoSaid : Prop := orderingStableUptoRow.holds Try.pinned (OpenSpec.upto orderingStableSpec)

/-- 'brindlewoodlaw3.OrderingSorts', WHERE WHAT IT READS IS OF BULK AT MOST 1048576: true; the input reads as it did. -/
def orderingSortsUptoRow : OpenClaim := { program := "ytmcjojbffidlbaa", sum := "0d0345636ed9f2cff8dc3d581123024edf15952ecda2959a965ed70786cae8c2", func := "brindlewood/brindlewoodlaw3.OrderingSorts", spec := "orderingSorts", unfollowed := true, recurses := true, apart := false, narrowed := true }
def OrderingSortsUptoSaid : Prop := orderingSortsUptoRow.holds Try.pinned (OpenSpec.upto orderingSortsSpec)

/-- 'brindlewoodlaw3.OrderingInserted', WHERE WHAT IT READS IS OF BULK AT MOST 1048576: true; the input reads as it did. -/
def orderingInsertedUptoRow : OpenClaim := { program := "ytmcjojbffidlbaa", sum := "0d0345636ed9f2cff8dc3d581123024edf15952ecda2959a965ed70786cae8c2", func := "brindlewood/brindlewoodlaw3.OrderingInserted", spec := "orderingInserted", unfollowed := true, recurses := true, apart := false, narrowed := true }
def OrderingInsertedUptoSaid : Prop := orderingInsertedUptoRow.holds Try.pinned (OpenSpec.upto orderingInsertedSpec)

end Rows
end Go.Proofs.Ytmcjojbffidlbaa
