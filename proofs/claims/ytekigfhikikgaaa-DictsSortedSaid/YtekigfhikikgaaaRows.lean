/-
  No cell of these rows narrows 'for every input' (looked for: loops, veiled, ifaces, maps, wideKeys, modest, calm, conditions, laid).
  DERIVED. THE GIVEN ROWS OF THIS SEAT. 3 by the template 'for every input the law returns true; each argument reads behind the call as it read before'; 0 by the template 'total and deterministic' (their statements: YtekigfhikikgaaaTotals.lean).
  GIVEN WITH THE SEED: the statements are not yours to turn. If you find one false, say at which input.
  Laid BY PROGRAM, IN A SANDBOX (cutbox-rows.mjs): the forced cells as the released guide's own fill.sh prints them over the translation 5d3dd2815729031b… (all of the seat's roots in one cut). By AI agents, Wed Nov 11 2026. No macro, syntax, notation, axiom, sorry.
-/
import Derived.Test.YtekigfhikikgaaaChecked
import GoSem.Claim
import GoSem.ClaimJoined
import GoSem.ClaimMapViews
import Derived.JoinedTies
import Derived.KernelRfl
namespace Go.Proofs.Ytekigfhikikgaaa
/- THE CELL 'sum', in the pinned program and in every row, IS THE sha256 OF THE DUMP (.gsa) THAT YtekigfhikikgaaaProg.lean LOADS. Nothing in Lean hashes anything: it is a label: what it is worth is what the hold of that sum in a sandbox is worth. -/
noncomputable def Try.pinned : Pinned := { name := "ytekigfhikikgaaa", sum := "5d3dd2815729031bfc96bd8d9d4ef266506ab643246e7014226d2ba579b1448f", checked := Try.checked }
namespace Rows
def none {H : Type} : Left H := { results := [], args := [] }

/-- 'brindlewoodlaw3.DictsSorted': WHATEVER THE INPUT: true; the input reads as it did. -/
def dictsSortedSpec : ChangeSpec := { name := "dictsSorted", fn := fun _ => fun
  | [d1, d2] => { results := [.lit (.bool true)], args := [d1, d2] }
  | _ => none }
def dictsSortedRow : OpenClaim := { program := "ytekigfhikikgaaa", sum := "5d3dd2815729031bfc96bd8d9d4ef266506ab643246e7014226d2ba579b1448f", func := "brindlewood/brindlewoodlaw3.DictsSorted", spec := "dictsSorted", inPlace := ["slices.overlaps[brindlewood/dicts.entry[int, int]]"], unfollowed := true, recurses := true, apart := false }
def DictsSortedSaid : Prop := dictsSortedRow.holds Try.pinned (OpenSpec.ofChange dictsSortedSpec)

/-- ITS FALSE NEIGHBOUR: 'it returns false'. Refute it at one input. -/
def dictsSortedWrong : ChangeSpec := { name := "dictsSorted", fn := fun _ => fun
  | [d1, d2] => { results := [.lit (.bool false)], args := [d1, d2] }
  | _ => none }
def DictsSortedWrongFalsely : Prop := dictsSortedRow.holds Try.pinned (OpenSpec.ofChange dictsSortedWrong)

/-- 'brindlewoodlaw3.DictsTablesBack': WHATEVER THE INPUT: true; the input reads as it did. -/
def dictsTablesBackSpec : ChangeSpec := { name := "dictsTablesBack", fn := fun _ => fun
  | [d1, d2] => { results := [.lit (.bool true)], args := [d1, d2] }
  | _ => none }
def dictsTablesBackRow : OpenClaim := { program := "ytekigfhikikgaaa", sum := "5d3dd2815729031bfc96bd8d9d4ef266506ab643246e7014226d2ba579b1448f", func := "brindlewood/brindlewoodlaw3.DictsTablesBack", spec := "dictsTablesBack", inPlace := ["slices.overlaps[brindlewood/dicts.entry[int, int]]"], unfollowed := true, recurses := true, apart := false }
def DictsTablesBackSaid : Prop := dictsTablesBackRow.holds Try.pinned (OpenSpec.ofChange dictsTablesBackSpec)

/-- ITS FALSE NEIGHBOUR: 'it returns false'. Refute it at one input. -/
def dictsTablesBackWrong : ChangeSpec := { name := "dictsTablesBack", fn := fun _ => fun
  | [d1, d2] => { results := [.lit (.bool false)], args := [d1, d2] }
  | _ => none }
def DictsTablesBackWrongFalsely : Prop := dictsTablesBackRow.holds Try.pinned (OpenSpec.ofChange dictsTablesBackWrong)

/-- 'brindlewoodlaw3.DictsTables': WHATEVER THE INPUT: true; the input reads as it did. -/
def dictsTablesSpec : ChangeSpec := { name := "dictsTables", fn := fun _ => fun
  | [d] => { results := [.lit (.bool true)], args := [d] }
  | _ => none }
def dictsTablesRow : OpenClaim := { program := "ytekigfhikikgaaa", sum := "5d3dd2815729031bfc96bd8d9d4ef266506ab643246e7014226d2ba579b1448f", func := "brindlewood/brindlewoodlaw3.DictsTables", spec := "dictsTables", inPlace := ["slices.overlaps[brindlewood/dicts.entry[int, int]]"], unfollowed := true, recurses := true, apart := false }
def DictsTablesSaid : Prop := dictsTablesRow.holds Try.pinned (OpenSpec.ofChange dictsTablesSpec)

/-- ITS FALSE NEIGHBOUR: 'it returns false'. Refute it at one input. -/
def dictsTablesWrong : ChangeSpec := { name := "dictsTables", fn := fun _ => fun
  | [d] => { results := [.lit (.bool false)], args := [d] }
  | _ => none }
def DictsTablesWrongFalsely : Prop := dictsTablesRow.holds Try.pinned (OpenSpec.ofChange dictsTablesWrong)

/- THE SECOND FORM. 'bulk': how many values and letters a reading holds, each counted each time it is reached (what is shared counts as often as it is met; a slice's spare places count too). A statement '..UptoSaid' is the law's where the arguments, and the package variables that the reading takes, are together of bulk at most 1048576: NARROWER than '..Said'. Prove '..Said' where nothing that the law and all that it calls make is longer than what came in: it says more and counts as full. Else prove '..UptoSaid'. A law counts once. -/
mutual
def uptoBulk {H : Type} : DataW H → Nat
  | .lit (.string bytes) => bytes.length + 1
  | .lit _ => 1
  | .nil => 1
  | .ptr d => uptoBulk d + 1
  | .slice elems spare => uptoBulkAll elems + uptoBulkAll spare + 1
  | .agg parts => uptoBulkAll parts + 1
  | .iface _ d => uptoBulk d + 1
  | .map entries => uptoBulkEntries entries + 1
  | .held _ => 1
def uptoBulkAll {H : Type} : List (DataW H) → Nat
  | [] => 0
  | d :: r => uptoBulk d + uptoBulkAll r
def uptoBulkEntries {H : Type} : List (Lit × DataW H) → Nat
  | [] => 0
  | x :: r => uptoBulkEntry x + uptoBulkEntries r
def uptoBulkEntry {H : Type} : Lit × DataW H → Nat
  | (.string bytes, d) => bytes.length + uptoBulk d + 1
  | (_, d) => uptoBulk d + 1
 end
def uptoSmall : (H : Type) → List (DataW H) → Bool := fun _ ds => decide (uptoBulkAll ds ≤ 1048576)
def OpenSpec.upto (s : _root_.Go.ChangeSpec) : _root_.Go.OpenSpec := { _root_.Go.OpenSpec.ofChange s with cond := some uptoSmall }

/-- 'brindlewoodlaw3.DictsSorted', WHERE WHAT IT READS IS OF BULK AT MOST 1048576: true; the input reads as it did. -/
def dictsSortedUptoRow : OpenClaim := { program := "ytekigfhikikgaaa", sum := "5d3dd2815729031bfc96bd8d9d4ef266506ab643246e7014226d2ba579b1448f", func := "brindlewood/brindlewoodlaw3.DictsSorted", spec := "dictsSorted", inPlace := ["slices.overlaps[brindlewood/dicts.entry[int, int]]"], unfollowed := true, recurses := true, apart := false, narrowed := true }
def DictsSortedUptoSaid : Prop := dictsSortedUptoRow.holds Try.pinned (OpenSpec.upto dictsSortedSpec)

/-- 'brindlewoodlaw3.DictsTablesBack', WHERE WHAT IT READS IS OF BULK AT MOST 1048576: true; the input reads as it did. -/
def dictsTablesBackUptoRow : OpenClaim := { program := "ytekigfhikikgaaa", sum := "5d3dd2815729031bfc96bd8d9d4ef266506ab643246e7014226d2ba579b1448f", func := "brindlewood/brindlewoodlaw3.DictsTablesBack", spec := "dictsTablesBack", inPlace := ["slices.overlaps[brindlewood/dicts.entry[int, int]]"], unfollowed := true, recurses := true, apart := false, narrowed := true }
def DictsTablesBackUptoSaid : Prop := dictsTablesBackUptoRow.holds Try.pinned (OpenSpec.upto dictsTablesBackSpec)

/-- 'brindlewoodlaw3.DictsTables', WHERE WHAT IT READS IS OF BULK AT MOST 1048576: true; the input reads as it did. -/
def dictsTablesUptoRow : OpenClaim := { program := "ytekigfhikikgaaa", sum := "5d3dd2815729031bfc96bd8d9d4ef266506ab643246e7014226d2ba579b1448f", func := "brindlewood/brindlewoodlaw3.DictsTables", spec := "dictsTables", inPlace := ["slices.overlaps[brindlewood/dicts.entry[int, int]]"], unfollowed := true, recurses := true, apart := false, narrowed := true }
def DictsTablesUptoSaid : Prop := dictsTablesUptoRow.holds Try.pinned (OpenSpec.upto dictsTablesSpec)

end Rows
end Go.Proofs.Ytekigfhikikgaaa
