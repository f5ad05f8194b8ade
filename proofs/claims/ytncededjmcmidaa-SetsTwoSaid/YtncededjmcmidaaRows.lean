/-
  No cell of these rows narrows 'for every input' (looked for: loops, veiled, ifaces, maps, wideKeys, modest, calm, conditions, laid).
  DERIVED. THE GIVEN ROWS OF THIS SEAT. 7 by the template 'for every input the law returns true; each argument reads behind the call as it read before'; 0 by the template 'total and deterministic' (their statements: YtncededjmcmidaaTotals.lean).
  GIVEN WITH THE SEED: the statements are not yours to turn. If you find one false, say at which input.
  Laid BY PROGRAM, IN A SANDBOX (cutbox-rows.mjs): the forced cells as the released guide's own fill.sh prints them over the translation e238ca2bb9c1a6b6… (all of the seat's roots in one cut). By AI agents, Wed Nov 11 2026. No macro, syntax, notation, axiom, sorry.
-/
import Derived.Test.YtncededjmcmidaaChecked
import GoSem.Claim
import GoSem.ClaimJoined
import GoSem.ClaimMapViews
import Derived.JoinedTies
import Derived.KernelRfl
namespace Go.Proofs.Ytncededjmcmidaa
/- THE CELL 'sum', in the pinned program and in every row, IS THE sha256 OF THE DUMP (.gsa) THAT YtncededjmcmidaaProg.lean LOADS. Nothing in Lean hashes anything: it is a label: what it is worth is what the hold of that sum in a sandbox is worth. -/
noncomputable def Try.pinned : Pinned := { name := "ytncededjmcmidaa", sum := "e238ca2bb9c1a6b6630a21f128a3a3cc46f68544daaf653b2fa976fee3c8381e", checked := Try.checked }
namespace Rows
def none {H : Type} : Left H := { results := [], args := [] }

/-- 'brindlewoodlaw3.HashingCodes': WHATEVER THE INPUT: true; the input reads as it did. -/
def hashingCodesSpec : ChangeSpec := { name := "hashingCodes", fn := fun _ => fun
  | [d] => { results := [.lit (.bool true)], args := [d] }
  | _ => none }
def hashingCodesRow : OpenClaim := { program := "ytncededjmcmidaa", sum := "e238ca2bb9c1a6b6630a21f128a3a3cc46f68544daaf653b2fa976fee3c8381e", func := "brindlewood/brindlewoodlaw3.HashingCodes", spec := "hashingCodes", recurses := true, apart := false }
def HashingCodesSaid : Prop := hashingCodesRow.holds Try.pinned (OpenSpec.ofChange hashingCodesSpec)

/-- ITS FALSE NEIGHBOUR: 'it returns false'. Refute it at one input. -/
def hashingCodesWrong : ChangeSpec := { name := "hashingCodes", fn := fun _ => fun
  | [d] => { results := [.lit (.bool false)], args := [d] }
  | _ => none }
def HashingCodesWrongFalsely : Prop := hashingCodesRow.holds Try.pinned (OpenSpec.ofChange hashingCodesWrong)

/-- 'brindlewoodlaw3.HashingApart': WHATEVER THE INPUT: true; the input reads as it did. -/
def hashingApartSpec : ChangeSpec := { name := "hashingApart", fn := fun _ => fun
  | [d] => { results := [.lit (.bool true)], args := [d] }
  | _ => none }
def hashingApartRow : OpenClaim := { program := "ytncededjmcmidaa", sum := "e238ca2bb9c1a6b6630a21f128a3a3cc46f68544daaf653b2fa976fee3c8381e", func := "brindlewood/brindlewoodlaw3.HashingApart", spec := "hashingApart", recurses := true, apart := false }
def HashingApartSaid : Prop := hashingApartRow.holds Try.pinned (OpenSpec.ofChange hashingApartSpec)

/-- ITS FALSE NEIGHBOUR: 'it returns false'. Refute it at one input. -/
def hashingApartWrong : ChangeSpec := { name := "hashingApart", fn := fun _ => fun
  | [d] => { results := [.lit (.bool false)], args := [d] }
  | _ => none }
def HashingApartWrongFalsely : Prop := hashingApartRow.holds Try.pinned (OpenSpec.ofChange hashingApartWrong)

/-- 'brindlewoodlaw3.SetsOne': WHATEVER THE INPUT: true; the input reads as it did. -/
def setsOneSpec : ChangeSpec := { name := "setsOne", fn := fun _ => fun
  | [d] => { results := [.lit (.bool true)], args := [d] }
  | _ => none }
def setsOneRow : OpenClaim := { program := "ytncededjmcmidaa", sum := "e238ca2bb9c1a6b6630a21f128a3a3cc46f68544daaf653b2fa976fee3c8381e", func := "brindlewood/brindlewoodlaw3.SetsOne", spec := "setsOne", recurses := true, apart := false }
def SetsOneSaid : Prop := setsOneRow.holds Try.pinned (OpenSpec.ofChange setsOneSpec)

/-- ITS FALSE NEIGHBOUR: 'it returns false'. Refute it at one input. -/
def setsOneWrong : ChangeSpec := { name := "setsOne", fn := fun _ => fun
  | [d] => { results := [.lit (.bool false)], args := [d] }
  | _ => none }
def SetsOneWrongFalsely : Prop := setsOneRow.holds Try.pinned (OpenSpec.ofChange setsOneWrong)

/-- 'brindlewoodlaw3.DictsMerge': WHATEVER THE INPUT: true; the input reads as it did. -/
def dictsMergeSpec : ChangeSpec := { name := "dictsMerge", fn := fun _ => fun
  | [d] => { results := [.lit (.bool true)], args := [d] }
  | _ => none }
def dictsMergeRow : OpenClaim := { program := "ytncededjmcmidaa", sum := "e238ca2bb9c1a6b6630a21f128a3a3cc46f68544daaf653b2fa976fee3c8381e", func := "brindlewood/brindlewoodlaw3.DictsMerge", spec := "dictsMerge", unfollowed := true, recurses := true, apart := false }
def DictsMergeSaid : Prop := dictsMergeRow.holds Try.pinned (OpenSpec.ofChange dictsMergeSpec)

/-- ITS FALSE NEIGHBOUR: 'it returns false'. Refute it at one input. -/
def dictsMergeWrong : ChangeSpec := { name := "dictsMerge", fn := fun _ => fun
  | [d] => { results := [.lit (.bool false)], args := [d] }
  | _ => none }
def DictsMergeWrongFalsely : Prop := dictsMergeRow.holds Try.pinned (OpenSpec.ofChange dictsMergeWrong)

/-- 'brindlewoodlaw3.SetsTwo': WHATEVER THE INPUT: true; the input reads as it did. -/
def setsTwoSpec : ChangeSpec := { name := "setsTwo", fn := fun _ => fun
  | [d] => { results := [.lit (.bool true)], args := [d] }
  | _ => none }
def setsTwoRow : OpenClaim := { program := "ytncededjmcmidaa", sum := "e238ca2bb9c1a6b6630a21f128a3a3cc46f68544daaf653b2fa976fee3c8381e", func := "brindlewood/brindlewoodlaw3.SetsTwo", spec := "setsTwo", unfollowed := true, recurses := true, apart := false }
def SetsTwoSaid : Prop := setsTwoRow.holds Try.pinned (OpenSpec.ofChange setsTwoSpec)

/-- ITS FALSE NEIGHBOUR: 'it returns false'. Refute it at one input. -/
def setsTwoWrong : ChangeSpec := { name := "setsTwo", fn := fun _ => fun
  | [d] => { results := [.lit (.bool false)], args := [d] }
  | _ => none }
def SetsTwoWrongFalsely : Prop := setsTwoRow.holds Try.pinned (OpenSpec.ofChange setsTwoWrong)

/-- 'brindlewoodlaw3.SetsAlgebra': WHATEVER THE INPUT: true; the input reads as it did. -/
def setsAlgebraSpec : ChangeSpec := { name := "setsAlgebra", fn := fun _ => fun
  | [d] => { results := [.lit (.bool true)], args := [d] }
  | _ => none }
def setsAlgebraRow : OpenClaim := { program := "ytncededjmcmidaa", sum := "e238ca2bb9c1a6b6630a21f128a3a3cc46f68544daaf653b2fa976fee3c8381e", func := "brindlewood/brindlewoodlaw3.SetsAlgebra", spec := "setsAlgebra", unfollowed := true, recurses := true, apart := false }
def SetsAlgebraSaid : Prop := setsAlgebraRow.holds Try.pinned (OpenSpec.ofChange setsAlgebraSpec)

/-- ITS FALSE NEIGHBOUR: 'it returns false'. Refute it at one input. -/
def setsAlgebraWrong : ChangeSpec := { name := "setsAlgebra", fn := fun _ => fun
  | [d] => { results := [.lit (.bool false)], args := [d] }
  | _ => none }
def SetsAlgebraWrongFalsely : Prop := setsAlgebraRow.holds Try.pinned (OpenSpec.ofChange setsAlgebraWrong)

/-- 'brindlewoodlaw3.DictsObjects': WHATEVER THE INPUT: true; the input reads as it did. -/
def dictsObjectsSpec : ChangeSpec := { name := "dictsObjects", fn := fun _ => fun
  | [d] => { results := [.lit (.bool true)], args := [d] }
  | _ => none }
def dictsObjectsRow : OpenClaim := { program := "ytncededjmcmidaa", sum := "e238ca2bb9c1a6b6630a21f128a3a3cc46f68544daaf653b2fa976fee3c8381e", func := "brindlewood/brindlewoodlaw3.DictsObjects", spec := "dictsObjects", unfollowed := true, recurses := true, apart := false }
def DictsObjectsSaid : Prop := dictsObjectsRow.holds Try.pinned (OpenSpec.ofChange dictsObjectsSpec)

/-- ITS FALSE NEIGHBOUR: 'it returns false'. Refute it at one input. -/
def dictsObjectsWrong : ChangeSpec := { name := "dictsObjects", fn := fun _ => fun
  | [d] => { results := [.lit (.bool false)], args := [d] }
  | _ => none }
def DictsObjectsWrongFalsely : Prop := dictsObjectsRow.holds Try.pinned (OpenSpec.ofChange dictsObjectsWrong)

/- THE SECOND FORM. 'bulk': how many values and letters a reading holds, each counted each time it is reached (what is shared counts as often as it is met; a slice's spare places count too). A statement '..UptoSaid' is the law's where the arguments, and the package variables that the reading takes, are together of bulk at most 1048576: NARROWER than '..Said'. Prove '..Said' where nothing that the law and all that it calls make is longer than what came in: it says more and counts as full. Else prove '..UptoSaid'. A law counts once. -/
mutual
def uptoBulk {H : Type} : DataW H → Nat
  | .lit (.string bytes) => bytes.length + 1
  | .lit _ => 1
  | .nil => 1
  | .ptr d => uptoBulk d + 1
  | .slice elems spare => uptoBulkAll elems + uptoBulkAll spare + 1
  | .agg parts => uptoBulkAll parts + 1
  | .iface _ d => uptoBulk d + 1
  | .map entries => uptoBulkEntries entries + 1
  | .held _ => 1
def uptoBulkAll {H : Type} : List (DataW H) → Nat
  | [] => 0
  | d :: r => uptoBulk d + uptoBulkAll r
def uptoBulkEntries {H : Type} : List (Lit × DataW H) → Nat
  | [] => 0
  | x :: r => uptoBulkEntry x + uptoBulkEntries r
def uptoBulkEntry {H : Type} : Lit × DataW H → Nat
  | (.string bytes, d) => bytes.length + uptoBulk d + 1
  | (_, d) => uptoBulk d + 1
 end
def uptoSmall : (H : Type) → List (DataW H) → Bool := fun _ ds => decide (uptoBulkAll ds ≤ 1048576)
def OpenSpec.upto (s : _root_.Go.ChangeSpec) : _root_.Go.OpenSpec := { _root_.Go.OpenSpec.ofChange s with cond := some uptoSmall }

/-- 'brindlewoodlaw3.HashingCodes', WHERE WHAT IT READS IS OF BULK AT MOST 1048576: true; the input reads as it did. -/
def hashingCodesUptoRow : OpenClaim := { program := "ytncededjmcmidaa", sum := "e238ca2bb9c1a6b6630a21f128a3a3cc46f68544daaf653b2fa976fee3c8381e", func := "brindlewood/brindlewoodlaw3.HashingCodes", spec := "hashingCodes", recurses := true, apart := false, narrowed := true }
def HashingCodesUptoSaid : Prop := hashingCodesUptoRow.holds Try.pinned (OpenSpec.upto hashingCodesSpec)

/-- 'brindlewoodlaw3.HashingApart', WHERE WHAT IT READS IS OF BULK AT MOST 1048576: true; the input reads as it did. -/
def hashingApartUptoRow : OpenClaim := { program := "ytncededjmcmidaa", sum := "e238ca2bb9c1a6b6630a21f128a3a3cc46f68544daaf653b2fa976fee3c8381e", func := "brindlewood/brindlewoodlaw3.HashingApart", spec := "hashingApart", recurses := true, apart := false, narrowed := true }
def HashingApartUptoSaid : Prop := hashingApartUptoRow.holds Try.pinned (OpenSpec.upto hashingApartSpec)

/-- 'brindlewoodlaw3.SetsOne', WHERE WHAT IT READS IS OF BULK AT MOST 1048576: true; the input reads as it did. -/
def setsOneUptoRow : OpenClaim := { program := "ytncededjmcmidaa", sum := "e238ca2bb9c1a6b6630a21f128a3a3cc46f68544daaf653b2fa976fee3c8381e", func := "brindlewood/brindlewoodlaw3.SetsOne", spec := "setsOne", recurses := true, apart := false, narrowed := true }
def SetsOneUptoSaid : Prop := setsOneUptoRow.holds Try.pinned (OpenSpec.upto setsOneSpec)

/-- 'brindlewoodlaw3.DictsMerge', WHERE WHAT IT READS IS OF BULK AT MOST 1048576: true; the input reads as it did. -/
def dictsMergeUptoRow : OpenClaim := { program := "ytncededjmcmidaa", sum := "e238ca2bb9c1a6b6630a21f128a3a3cc46f68544daaf653b2fa976fee3c8381e", func := "brindlewood/brindlewoodlaw3.DictsMerge", spec := "dictsMerge", unfollowed := true, recurses := true, apart := false, narrowed := true }
def DictsMergeUptoSaid : Prop := dictsMergeUptoRow.holds Try.pinned (OpenSpec.upto dictsMergeSpec)

/-- 'brindlewoodlaw3.SetsTwo', WHERE WHAT IT READS IS OF BULK AT MOST 1048576: true; the input reads as it did. -/
def setsTwoUptoRow : OpenClaim := { program := "ytncededjmcmidaa", sum := "e238ca2bb9c1a6b6630a21f128a3a3cc46f68544daaf653b2fa976fee3c8381e", func := "brindlewood/brindlewoodlaw3.SetsTwo", spec := "setsTwo", unfollowed := true, recurses := true, apart := false, narrowed := true }
def SetsTwoUptoSaid : Prop := setsTwoUptoRow.holds Try.pinned (OpenSpec.upto setsTwoSpec)

/-- 'brindlewoodlaw3.SetsAlgebra', WHERE WHAT IT READS IS OF BULK AT MOST 1048576: true; the input reads as it did. -/
def setsAlgebraUptoRow : OpenClaim := { program := "ytncededjmcmidaa", sum := "e238ca2bb9c1a6b6630a21f128a3a3cc46f68544daaf653b2fa976fee3c8381e", func := "brindlewood/brindlewoodlaw3.SetsAlgebra", spec := "setsAlgebra", unfollowed := true, recurses := true, apart := false, narrowed := true }
def SetsAlgebraUptoSaid : Prop := setsAlgebraUptoRow.holds Try.pinned (OpenSpec.upto setsAlgebraSpec)

/-- 'brindlewoodlaw3.DictsObjects', WHERE WHAT IT READS IS OF BULK AT MOST 1048576: true; the input reads as it did. -/
def dictsObjectsUptoRow : OpenClaim := { program := "ytncededjmcmidaa", sum := "e238ca2bb9c1a6b6630a21f128a3a3cc46f68544daaf653b2fa976fee3c8381e", func := "brindlewood/brindlewoodlaw3.DictsObjects", spec := "dictsObjects", unfollowed := true, recurses := true, apart := false, narrowed := true }
def DictsObjectsUptoSaid : Prop := dictsObjectsUptoRow.holds Try.pinned (OpenSpec.upto dictsObjectsSpec)

end Rows
end Go.Proofs.Ytncededjmcmidaa
