/-
  No cell of these rows narrows 'for every input' (looked for: loops, veiled, ifaces, maps, wideKeys, modest, calm, conditions, laid).
  DERIVED. THE GIVEN ROWS OF THIS SEAT. 15 by the template 'for every input the law returns true; each argument reads behind the call as it read before'; 0 by the template 'total and deterministic' (their statements: YtneecniebhhhlaaTotals.lean).
  GIVEN WITH THE SEED: the statements are not yours to turn. If you find one false, say at which input.
  Laid BY PROGRAM, IN A SANDBOX (cutbox-rows.mjs): the forced cells as the released guide's own fill.sh prints them over the translation e7bc7f82f9be6db7… (all of the seat's roots in one cut). By AI agents, Wed Nov 11 2026. No macro, syntax, notation, axiom, sorry.
-/
import Derived.Test.YtneecniebhhhlaaChecked
import GoSem.Claim
import GoSem.ClaimJoined
import GoSem.ClaimMapViews
import Derived.JoinedTies
import Derived.KernelRfl
namespace Go.Proofs.Ytneecniebhhhlaa
/- THE CELL 'sum', in the pinned program and in every row, IS THE sha256 OF THE DUMP (.gsa) THAT YtneecniebhhhlaaProg.lean LOADS. Nothing in Lean hashes anything: it is a label: what it is worth is what the hold of that sum in a sandbox is worth. -/
noncomputable def Try.pinned : Pinned := { name := "ytneecniebhhhlaa", sum := "e7bc7f82f9be6db73d6cadcf42d4fcf03f28f5d50bfc888e39c9dafbece689ee", checked := Try.checked }
namespace Rows
def none {H : Type} : Left H := { results := [], args := [] }

/-- 'brindlewoodlaw3.SlicingResolves': WHATEVER THE INPUT: true; the input reads as it did. -/
def slicingResolvesSpec : ChangeSpec := { name := "slicingResolves", fn := fun _ => fun
  | [d1, d2, d3] => { results := [.lit (.bool true)], args := [d1, d2, d3] }
  | _ => none }
def slicingResolvesRow : OpenClaim := { program := "ytneecniebhhhlaa", sum := "e7bc7f82f9be6db73d6cadcf42d4fcf03f28f5d50bfc888e39c9dafbece689ee", func := "brindlewood/brindlewoodlaw3.SlicingResolves", spec := "slicingResolves", apart := false }
def SlicingResolvesSaid : Prop := slicingResolvesRow.holds Try.pinned (OpenSpec.ofChange slicingResolvesSpec)

/-- ITS FALSE NEIGHBOUR: 'it returns false'. Refute it at one input. -/
def slicingResolvesWrong : ChangeSpec := { name := "slicingResolves", fn := fun _ => fun
  | [d1, d2, d3] => { results := [.lit (.bool false)], args := [d1, d2, d3] }
  | _ => none }
def SlicingResolvesWrongFalsely : Prop := slicingResolvesRow.holds Try.pinned (OpenSpec.ofChange slicingResolvesWrong)

/-- 'brindlewoodlaw3.SlicingReversed': WHATEVER THE INPUT: true; the input reads as it did. -/
def slicingReversedSpec : ChangeSpec := { name := "slicingReversed", fn := fun _ => fun
  | [d1, d2, d3] => { results := [.lit (.bool true)], args := [d1, d2, d3] }
  | _ => none }
def slicingReversedRow : OpenClaim := { program := "ytneecniebhhhlaa", sum := "e7bc7f82f9be6db73d6cadcf42d4fcf03f28f5d50bfc888e39c9dafbece689ee", func := "brindlewood/brindlewoodlaw3.SlicingReversed", spec := "slicingReversed", apart := false }
def SlicingReversedSaid : Prop := slicingReversedRow.holds Try.pinned (OpenSpec.ofChange slicingReversedSpec)

/-- ITS FALSE NEIGHBOUR: 'it returns false'. Refute it at one input. -/
def slicingReversedWrong : ChangeSpec := { name := "slicingReversed", fn := fun _ => fun
  | [d1, d2, d3] => { results := [.lit (.bool false)], args := [d1, d2, d3] }
  | _ => none }
def SlicingReversedWrongFalsely : Prop := slicingReversedRow.holds Try.pinned (OpenSpec.ofChange slicingReversedWrong)

/-- 'brindlewoodlaw3.SlicingTakes': WHATEVER THE INPUT: true; the input reads as it did. -/
def slicingTakesSpec : ChangeSpec := { name := "slicingTakes", fn := fun _ => fun
  | [d1, d2, d3, d4] => { results := [.lit (.bool true)], args := [d1, d2, d3, d4] }
  | _ => none }
def slicingTakesRow : OpenClaim := { program := "ytneecniebhhhlaa", sum := "e7bc7f82f9be6db73d6cadcf42d4fcf03f28f5d50bfc888e39c9dafbece689ee", func := "brindlewood/brindlewoodlaw3.SlicingTakes", spec := "slicingTakes", apart := false }
def SlicingTakesSaid : Prop := slicingTakesRow.holds Try.pinned (OpenSpec.ofChange slicingTakesSpec)

/-- ITS FALSE NEIGHBOUR: 'it returns false'. Refute it at one input. -/
def slicingTakesWrong : ChangeSpec := { name := "slicingTakes", fn := fun _ => fun
  | [d1, d2, d3, d4] => { results := [.lit (.bool false)], args := [d1, d2, d3, d4] }
  | _ => none }
def SlicingTakesWrongFalsely : Prop := slicingTakesRow.holds Try.pinned (OpenSpec.ofChange slicingTakesWrong)

/-- 'brindlewoodlaw3.SlicingBack': WHATEVER THE INPUT: true; the input reads as it did. -/
def slicingBackSpec : ChangeSpec := { name := "slicingBack", fn := fun _ => fun
  | [d1, d2] => { results := [.lit (.bool true)], args := [d1, d2] }
  | _ => none }
def slicingBackRow : OpenClaim := { program := "ytneecniebhhhlaa", sum := "e7bc7f82f9be6db73d6cadcf42d4fcf03f28f5d50bfc888e39c9dafbece689ee", func := "brindlewood/brindlewoodlaw3.SlicingBack", spec := "slicingBack", apart := false }
def SlicingBackSaid : Prop := slicingBackRow.holds Try.pinned (OpenSpec.ofChange slicingBackSpec)

/-- ITS FALSE NEIGHBOUR: 'it returns false'. Refute it at one input. -/
def slicingBackWrong : ChangeSpec := { name := "slicingBack", fn := fun _ => fun
  | [d1, d2] => { results := [.lit (.bool false)], args := [d1, d2] }
  | _ => none }
def SlicingBackWrongFalsely : Prop := slicingBackRow.holds Try.pinned (OpenSpec.ofChange slicingBackWrong)

/-- 'brindlewoodlaw3.IntegerDivides': WHATEVER THE INPUT: true; the input reads as it did. -/
def integerDividesSpec : ChangeSpec := { name := "integerDivides", fn := fun _ => fun
  | [d1, d2] => { results := [.lit (.bool true)], args := [d1, d2] }
  | _ => none }
def integerDividesRow : OpenClaim := { program := "ytneecniebhhhlaa", sum := "e7bc7f82f9be6db73d6cadcf42d4fcf03f28f5d50bfc888e39c9dafbece689ee", func := "brindlewood/brindlewoodlaw3.IntegerDivides", spec := "integerDivides", named := ["math/bits.overflowError"], apart := false }
def IntegerDividesSaid : Prop := integerDividesRow.holds Try.pinned (OpenSpec.ofChange integerDividesSpec)

/-- ITS FALSE NEIGHBOUR: 'it returns false'. Refute it at one input. -/
def integerDividesWrong : ChangeSpec := { name := "integerDivides", fn := fun _ => fun
  | [d1, d2] => { results := [.lit (.bool false)], args := [d1, d2] }
  | _ => none }
def IntegerDividesWrongFalsely : Prop := integerDividesRow.holds Try.pinned (OpenSpec.ofChange integerDividesWrong)

/-- 'brindlewoodlaw3.IntegerTexts': WHATEVER THE INPUT: true; the input reads as it did. -/
def integerTextsSpec : ChangeSpec := { name := "integerTexts", fn := fun _ => fun
  | [d1, d2, d3] => { results := [.lit (.bool true)], args := [d1, d2, d3] }
  | _ => none }
def integerTextsRow : OpenClaim := { program := "ytneecniebhhhlaa", sum := "e7bc7f82f9be6db73d6cadcf42d4fcf03f28f5d50bfc888e39c9dafbece689ee", func := "brindlewood/brindlewoodlaw3.IntegerTexts", spec := "integerTexts", named := ["math/bits.overflowError"], apart := false }
def IntegerTextsSaid : Prop := integerTextsRow.holds Try.pinned (OpenSpec.ofChange integerTextsSpec)

/-- ITS FALSE NEIGHBOUR: 'it returns false'. Refute it at one input. -/
def integerTextsWrong : ChangeSpec := { name := "integerTexts", fn := fun _ => fun
  | [d1, d2, d3] => { results := [.lit (.bool false)], args := [d1, d2, d3] }
  | _ => none }
def IntegerTextsWrongFalsely : Prop := integerTextsRow.holds Try.pinned (OpenSpec.ofChange integerTextsWrong)

/-- 'brindlewoodlaw3.IntegerValues': WHATEVER THE INPUT: true; the input reads as it did. -/
def integerValuesSpec : ChangeSpec := { name := "integerValues", fn := fun _ => fun
  | [d1, d2, d3] => { results := [.lit (.bool true)], args := [d1, d2, d3] }
  | _ => none }
def integerValuesRow : OpenClaim := { program := "ytneecniebhhhlaa", sum := "e7bc7f82f9be6db73d6cadcf42d4fcf03f28f5d50bfc888e39c9dafbece689ee", func := "brindlewood/brindlewoodlaw3.IntegerValues", spec := "integerValues", named := ["math/bits.overflowError"], apart := false }
def IntegerValuesSaid : Prop := integerValuesRow.holds Try.pinned (OpenSpec.ofChange integerValuesSpec)

/-- ITS FALSE NEIGHBOUR: 'it returns false'. Refute it at one input. -/
def integerValuesWrong : ChangeSpec := { name := "integerValues", fn := fun _ => fun
  | [d1, d2, d3] => { results := [.lit (.bool false)], args := [d1, d2, d3] }
  | _ => none }
def IntegerValuesWrongFalsely : Prop := integerValuesRow.holds Try.pinned (OpenSpec.ofChange integerValuesWrong)

/-- 'brindlewoodlaw3.IntegerPowers': WHATEVER THE INPUT: true; the input reads as it did. -/
def integerPowersSpec : ChangeSpec := { name := "integerPowers", fn := fun _ => fun
  | [d1, d2, d3, d4] => { results := [.lit (.bool true)], args := [d1, d2, d3, d4] }
  | _ => none }
def integerPowersRow : OpenClaim := { program := "ytneecniebhhhlaa", sum := "e7bc7f82f9be6db73d6cadcf42d4fcf03f28f5d50bfc888e39c9dafbece689ee", func := "brindlewood/brindlewoodlaw3.IntegerPowers", spec := "integerPowers", named := ["math/bits.overflowError"], apart := false }
def IntegerPowersSaid : Prop := integerPowersRow.holds Try.pinned (OpenSpec.ofChange integerPowersSpec)

/-- ITS FALSE NEIGHBOUR: 'it returns false'. Refute it at one input. -/
def integerPowersWrong : ChangeSpec := { name := "integerPowers", fn := fun _ => fun
  | [d1, d2, d3, d4] => { results := [.lit (.bool false)], args := [d1, d2, d3, d4] }
  | _ => none }
def IntegerPowersWrongFalsely : Prop := integerPowersRow.holds Try.pinned (OpenSpec.ofChange integerPowersWrong)

/-- 'brindlewoodlaw3.IntegerBits': WHATEVER THE INPUT: true; the input reads as it did. -/
def integerBitsSpec : ChangeSpec := { name := "integerBits", fn := fun _ => fun
  | [d1, d2, d3] => { results := [.lit (.bool true)], args := [d1, d2, d3] }
  | _ => none }
def integerBitsRow : OpenClaim := { program := "ytneecniebhhhlaa", sum := "e7bc7f82f9be6db73d6cadcf42d4fcf03f28f5d50bfc888e39c9dafbece689ee", func := "brindlewood/brindlewoodlaw3.IntegerBits", spec := "integerBits", unfollowed := true, recurses := true, named := ["math/bits.overflowError"], apart := false }
def IntegerBitsSaid : Prop := integerBitsRow.holds Try.pinned (OpenSpec.ofChange integerBitsSpec)

/-- ITS FALSE NEIGHBOUR: 'it returns false'. Refute it at one input. -/
def integerBitsWrong : ChangeSpec := { name := "integerBits", fn := fun _ => fun
  | [d1, d2, d3] => { results := [.lit (.bool false)], args := [d1, d2, d3] }
  | _ => none }
def IntegerBitsWrongFalsely : Prop := integerBitsRow.holds Try.pinned (OpenSpec.ofChange integerBitsWrong)

/-- 'brindlewoodlaw3.IntegerPowersMultiply': WHATEVER THE INPUT: true; the input reads as it did. -/
def integerPowersMultiplySpec : ChangeSpec := { name := "integerPowersMultiply", fn := fun _ => fun
  | [d1, d2, d3, d4] => { results := [.lit (.bool true)], args := [d1, d2, d3, d4] }
  | _ => none }
def integerPowersMultiplyRow : OpenClaim := { program := "ytneecniebhhhlaa", sum := "e7bc7f82f9be6db73d6cadcf42d4fcf03f28f5d50bfc888e39c9dafbece689ee", func := "brindlewood/brindlewoodlaw3.IntegerPowersMultiply", spec := "integerPowersMultiply", named := ["math/bits.overflowError"], apart := false }
def IntegerPowersMultiplySaid : Prop := integerPowersMultiplyRow.holds Try.pinned (OpenSpec.ofChange integerPowersMultiplySpec)

/-- ITS FALSE NEIGHBOUR: 'it returns false'. Refute it at one input. -/
def integerPowersMultiplyWrong : ChangeSpec := { name := "integerPowersMultiply", fn := fun _ => fun
  | [d1, d2, d3, d4] => { results := [.lit (.bool false)], args := [d1, d2, d3, d4] }
  | _ => none }
def IntegerPowersMultiplyWrongFalsely : Prop := integerPowersMultiplyRow.holds Try.pinned (OpenSpec.ofChange integerPowersMultiplyWrong)

/-- 'brindlewoodlaw3.RangesMeet': WHATEVER THE INPUT: true; the input reads as it did. -/
def rangesMeetSpec : ChangeSpec := { name := "rangesMeet", fn := fun _ => fun
  | [d1, d2] => { results := [.lit (.bool true)], args := [d1, d2] }
  | _ => none }
def rangesMeetRow : OpenClaim := { program := "ytneecniebhhhlaa", sum := "e7bc7f82f9be6db73d6cadcf42d4fcf03f28f5d50bfc888e39c9dafbece689ee", func := "brindlewood/brindlewoodlaw3.RangesMeet", spec := "rangesMeet", recurses := true, named := ["math/bits.overflowError"], apart := false }
def RangesMeetSaid : Prop := rangesMeetRow.holds Try.pinned (OpenSpec.ofChange rangesMeetSpec)

/-- ITS FALSE NEIGHBOUR: 'it returns false'. Refute it at one input. -/
def rangesMeetWrong : ChangeSpec := { name := "rangesMeet", fn := fun _ => fun
  | [d1, d2] => { results := [.lit (.bool false)], args := [d1, d2] }
  | _ => none }
def RangesMeetWrongFalsely : Prop := rangesMeetRow.holds Try.pinned (OpenSpec.ofChange rangesMeetWrong)

/-- 'brindlewoodlaw3.RangesBoth': WHATEVER THE INPUT: true; the input reads as it did. -/
def rangesBothSpec : ChangeSpec := { name := "rangesBoth", fn := fun _ => fun
  | [d1, d2, d3] => { results := [.lit (.bool true)], args := [d1, d2, d3] }
  | _ => none }
def rangesBothRow : OpenClaim := { program := "ytneecniebhhhlaa", sum := "e7bc7f82f9be6db73d6cadcf42d4fcf03f28f5d50bfc888e39c9dafbece689ee", func := "brindlewood/brindlewoodlaw3.RangesBoth", spec := "rangesBoth", named := ["math/bits.overflowError"], apart := false }
def RangesBothSaid : Prop := rangesBothRow.holds Try.pinned (OpenSpec.ofChange rangesBothSpec)

/-- ITS FALSE NEIGHBOUR: 'it returns false'. Refute it at one input. -/
def rangesBothWrong : ChangeSpec := { name := "rangesBoth", fn := fun _ => fun
  | [d1, d2, d3] => { results := [.lit (.bool false)], args := [d1, d2, d3] }
  | _ => none }
def RangesBothWrongFalsely : Prop := rangesBothRow.holds Try.pinned (OpenSpec.ofChange rangesBothWrong)

/-- 'brindlewoodlaw3.RangesForms': WHATEVER THE INPUT: true; the input reads as it did. -/
def rangesFormsSpec : ChangeSpec := { name := "rangesForms", fn := fun _ => fun
  | [d1, d2] => { results := [.lit (.bool true)], args := [d1, d2] }
  | _ => none }
def rangesFormsRow : OpenClaim := { program := "ytneecniebhhhlaa", sum := "e7bc7f82f9be6db73d6cadcf42d4fcf03f28f5d50bfc888e39c9dafbece689ee", func := "brindlewood/brindlewoodlaw3.RangesForms", spec := "rangesForms", named := ["math/bits.overflowError"], apart := false }
def RangesFormsSaid : Prop := rangesFormsRow.holds Try.pinned (OpenSpec.ofChange rangesFormsSpec)

/-- ITS FALSE NEIGHBOUR: 'it returns false'. Refute it at one input. -/
def rangesFormsWrong : ChangeSpec := { name := "rangesForms", fn := fun _ => fun
  | [d1, d2] => { results := [.lit (.bool false)], args := [d1, d2] }
  | _ => none }
def RangesFormsWrongFalsely : Prop := rangesFormsRow.holds Try.pinned (OpenSpec.ofChange rangesFormsWrong)

/-- 'brindlewoodlaw3.RangesBack': WHATEVER THE INPUT: true; the input reads as it did. -/
def rangesBackSpec : ChangeSpec := { name := "rangesBack", fn := fun _ => fun
  | [d1, d2] => { results := [.lit (.bool true)], args := [d1, d2] }
  | _ => none }
def rangesBackRow : OpenClaim := { program := "ytneecniebhhhlaa", sum := "e7bc7f82f9be6db73d6cadcf42d4fcf03f28f5d50bfc888e39c9dafbece689ee", func := "brindlewood/brindlewoodlaw3.RangesBack", spec := "rangesBack", named := ["math/bits.overflowError"], apart := false }
def RangesBackSaid : Prop := rangesBackRow.holds Try.pinned (OpenSpec.ofChange rangesBackSpec)

/-- ITS FALSE NEIGHBOUR: 'it returns false'. Refute it at one input. -/
def rangesBackWrong : ChangeSpec := { name := "rangesBack", fn := fun _ => fun
  | [d1, d2] => { results := [.lit (.bool false)], args := [d1, d2] }
  | _ => none }
def RangesBackWrongFalsely : Prop := rangesBackRow.holds Try.pinned (OpenSpec.ofChange rangesBackWrong)

/-- 'brindlewoodlaw3.RangesElements': WHATEVER THE INPUT: true; the input reads as it did. -/
def rangesElementsSpec : ChangeSpec := { name := "rangesElements", fn := fun _ => fun
  | [d1, d2, d3, d4] => { results := [.lit (.bool true)], args := [d1, d2, d3, d4] }
  | _ => none }
def rangesElementsRow : OpenClaim := { program := "ytneecniebhhhlaa", sum := "e7bc7f82f9be6db73d6cadcf42d4fcf03f28f5d50bfc888e39c9dafbece689ee", func := "brindlewood/brindlewoodlaw3.RangesElements", spec := "rangesElements", named := ["math/bits.overflowError"], apart := false }
def RangesElementsSaid : Prop := rangesElementsRow.holds Try.pinned (OpenSpec.ofChange rangesElementsSpec)

/-- ITS FALSE NEIGHBOUR: 'it returns false'. Refute it at one input. -/
def rangesElementsWrong : ChangeSpec := { name := "rangesElements", fn := fun _ => fun
  | [d1, d2, d3, d4] => { results := [.lit (.bool false)], args := [d1, d2, d3, d4] }
  | _ => none }
def RangesElementsWrongFalsely : Prop := rangesElementsRow.holds Try.pinned (OpenSpec.ofChange rangesElementsWrong)

/- THE SECOND FORM. 'bulk': how many values and letters a reading holds, each counted each time it is reached (what is shared counts as often as it is met; a slice's spare places count too). A statement '..UptoSaid' is the law's where the arguments, and the package variables that the reading takes, are together of bulk at most 1048576: NARROWER than '..Said'. Prove '..Said' where nothing that the law and all that it calls make is longer than what came in: it says more and counts as full. Else prove '..UptoSaid'. A law counts once. -/
mutual
def uptoBulk {H : Type} : DataW H → Nat
  | .lit (.string bytes) => bytes.length + 1
  | .lit _ => 1
  | .nil => 1
  | .ptr d => uptoBulk d + 1
  | .slice elems spare => uptoBulkAll elems + uptoBulkAll spare + 1
  | .agg parts => uptoBulkAll parts + 1
  | .iface _ d => uptoBulk d + 1
  | .map entries => uptoBulkEntries entries + 1
  | .held _ => 1
def uptoBulkAll {H : Type} : List (DataW H) → Nat
  | [] => 0
  | d :: r => uptoBulk d + uptoBulkAll r
def uptoBulkEntries {H : Type} : List (Lit × DataW H) → Nat
  | [] => 0
  | x :: r => uptoBulkEntry x + uptoBulkEntries r
def uptoBulkEntry {H : Type} : Lit × DataW H → Nat
  | (.string bytes, d) => bytes.length + uptoBulk d + 1
  | (_, d) => uptoBulk d + 1
 end
def uptoSmall : (H : Type) → List (DataW H) → Bool := fun _ ds => decide (uptoBulkAll ds ≤ 1048576)
def OpenSpec.upto (s : _root_.Go.ChangeSpec) : _root_.Go.OpenSpec := { _root_.Go.OpenSpec.ofChange s with cond := some uptoSmall }

/-- 'brindlewoodlaw3.SlicingResolves', WHERE WHAT IT READS IS OF BULK AT MOST 1048576: true; the input reads as it did. -/
def slicingResolvesUptoRow : OpenClaim := { program := "ytneecniebhhhlaa", sum := "e7bc7f82f9be6db73d6cadcf42d4fcf03f28f5d50bfc888e39c9dafbece689ee", func := "brindlewood/brindlewoodlaw3.SlicingResolves", spec := "slicingResolves", apart := false, narrowed := true }
def SlicingResolvesUptoSaid : Prop := slicingResolvesUptoRow.holds Try.pinned (OpenSpec.upto slicingResolvesSpec)

/-- 'brindlewoodlaw3.SlicingReversed', WHERE WHAT IT READS IS OF BULK AT MOST 1048576: true; the input reads as it did. -/
def slicingReversedUptoRow : OpenClaim := { program := "ytneecniebhhhlaa", sum := "e7bc7f82f9be6db73d6cadcf42d4fcf03f28f5d50bfc888e39c9dafbece689ee", func := "brindlewood/brindlewoodlaw3.SlicingReversed", spec := "slicingReversed", apart := false, narrowed := true }
def SlicingReversedUptoSaid : Prop := slicingReversedUptoRow.holds Try.pinned (OpenSpec.upto slicingReversedSpec)

/-- 'brindlewoodlaw3.SlicingTakes', WHERE WHAT IT READS IS OF BULK AT MOST 1048576: true; the input reads as it did. -/
def slicingTakesUptoRow : OpenClaim := { program := "ytneecniebhhhlaa", sum := "e7bc7f82f9be6db73d6cadcf42d4fcf03f28f5d50bfc888e39c9dafbece689ee", func := "brindlewood/brindlewoodlaw3.SlicingTakes", spec := "slicingTakes", apart := false, narrowed := true }
def SlicingTakesUptoSaid : Prop := slicingTakesUptoRow.holds Try.pinned (OpenSpec.upto slicingTakesSpec)

/-- 'brindlewoodlaw3.SlicingBack', WHERE WHAT IT READS IS OF BULK AT MOST 1048576: true; the input reads as it did. -/
def slicingBackUptoRow : OpenClaim := { program := "ytneecniebhhhlaa", sum := "e7bc7f82f9be6db73d6cadcf42d4fcf03f28f5d50bfc888e39c9dafbece689ee", func := "brindlewood/brindlewoodlaw3.SlicingBack", spec := "slicingBack", apart := false, narrowed := true }
def SlicingBackUptoSaid : Prop := slicingBackUptoRow.holds Try.pinned (OpenSpec.upto slicingBackSpec)

/-- 'brindlewoodlaw3.IntegerDivides', WHERE WHAT IT READS IS OF BULK AT MOST 1048576: true; the input reads as it did. -/
def integerDividesUptoRow : OpenClaim := { program := "ytneecniebhhhlaa", sum := "e7bc7f82f9be6db73d6cadcf42d4fcf03f28f5d50bfc888e39c9dafbece689ee", func := "brindlewood/brindlewoodlaw3.IntegerDivides", spec := "integerDivides", named := ["math/bits.overflowError"], apart := false, narrowed := true }
def IntegerDividesUptoSaid : Prop := integerDividesUptoRow.holds Try.pinned (OpenSpec.upto integerDividesSpec)

/-- 'brindlewoodlaw3.IntegerTexts', WHERE WHAT IT READS IS OF BULK AT MOST 1048576: true; the input reads as it did. -/
def integerTextsUptoRow : OpenClaim := { program := "ytneecniebhhhlaa", sum := "e7bc7f82f9be6db73d6cadcf42d4fcf03f28f5d50bfc888e39c9dafbece689ee", func := "brindlewood/brindlewoodlaw3.IntegerTexts", spec := "integerTexts", named := ["math/bits.overflowError"], apart := false, narrowed := true }
def IntegerTextsUptoSaid : Prop := integerTextsUptoRow.holds Try.pinned (OpenSpec.upto integerTextsSpec)

/-- 'brindlewoodlaw3.IntegerValues', WHERE WHAT IT READS IS OF BULK AT MOST 1048576: true; the input reads as it did. -/
def integerValuesUptoRow : OpenClaim := { program := "ytneecniebhhhlaa", sum := "e7bc7f82f9be6db73d6cadcf42d4fcf03f28f5d50bfc888e39c9dafbece689ee", func := "brindlewood/brindlewoodlaw3.IntegerValues", spec := "integerValues", named := ["math/bits.overflowError"], apart := false, narrowed := true }
def IntegerValuesUptoSaid : Prop := integerValuesUptoRow.holds Try.pinned (OpenSpec.upto integerValuesSpec)

/-- 'brindlewoodlaw3.IntegerPowers', WHERE WHAT IT READS IS OF BULK AT MOST 1048576: true; the input reads as it did. -/
def integerPowersUptoRow : OpenClaim := { program := "ytneecniebhhhlaa", sum := "e7bc7f82f9be6db73d6cadcf42d4fcf03f28f5d50bfc888e39c9dafbece689ee", func := "brindlewood/brindlewoodlaw3.IntegerPowers", spec := "integerPowers", named := ["math/bits.overflowError"], apart := false, narrowed := true }
def IntegerPowersUptoSaid : Prop := integerPowersUptoRow.holds Try.pinned (OpenSpec.upto integerPowersSpec)

/-- 'brindlewoodlaw3.IntegerBits', WHERE WHAT IT READS IS OF BULK AT MOST 1048576: true; the input reads as it did. -/
def integerBitsUptoRow : OpenClaim := { program := "ytneecniebhhhlaa", sum := "e7bc7f82f9be6db73d6cadcf42d4fcf03f28f5d50bfc888e39c9dafbece689ee", func := "brindlewood/brindlewoodlaw3.IntegerBits", spec := "integerBits", unfollowed := true, recurses := true, named := ["math/bits.overflowError"], apart := false, narrowed := true }
def IntegerBitsUptoSaid : Prop := integerBitsUptoRow.holds Try.pinned (OpenSpec.upto integerBitsSpec)

/-- 'brindlewoodlaw3.IntegerPowersMultiply', WHERE WHAT IT READS IS OF BULK AT MOST 1048576: true; the input reads as it did. -/
def integerPowersMultiplyUptoRow : OpenClaim := { program := "ytneecniebhhhlaa", sum := "e7bc7f82f9be6db73d6cadcf42d4fcf03f28f5d50bfc888e39c9dafbece689ee", func := "brindlewood/brindlewoodlaw3.IntegerPowersMultiply", spec := "integerPowersMultiply", named := ["math/bits.overflowError"], apart := false, narrowed := true }
def IntegerPowersMultiplyUptoSaid : Prop := integerPowersMultiplyUptoRow.holds Try.pinned (OpenSpec.upto integerPowersMultiplySpec)

/-- 'brindlewoodlaw3.RangesMeet', WHERE WHAT IT READS IS OF BULK AT MOST 1048576: true; the input reads as it did. -/
def rangesMeetUptoRow : OpenClaim := { program := "ytneecniebhhhlaa", sum := "e7bc7f82f9be6db73d6cadcf42d4fcf03f28f5d50bfc888e39c9dafbece689ee", func := "brindlewood/brindlewoodlaw3.RangesMeet", spec := "rangesMeet", recurses := true, named := ["math/bits.overflowError"], apart := false, narrowed := true }
def RangesMeetUptoSaid : Prop := rangesMeetUptoRow.holds Try.pinned (OpenSpec.upto rangesMeetSpec)

/-- 'brindlewoodlaw3.RangesBoth', WHERE WHAT IT READS IS OF BULK AT MOST 1048576: true; the input reads as it did. -/
def rangesBothUptoRow : OpenClaim := { program := "ytneecniebhhhlaa", sum := "e7bc7f82f9be6db73d6cadcf42d4fcf03f28f5d50bfc888e39c9dafbece689ee", func := "brindlewood/brindlewoodlaw3.RangesBoth", spec := "rangesBoth", named := ["math/bits.overflowError"], apart := false, narrowed := true }
def RangesBothUptoSaid : Prop := rangesBothUptoRow.holds Try.pinned (OpenSpec.upto rangesBothSpec)

/-- 'brindlewoodlaw3.RangesForms', WHERE WHAT IT READS IS OF BULK AT MOST 1048576: true; the input reads as it did. -/
def rangesFormsUptoRow : OpenClaim := { program := "ytneecniebhhhlaa", sum := "e7bc7f82f9be6db73d6cadcf42d4fcf03f28f5d50bfc888e39c9dafbece689ee", func := "brindlewood/brindlewoodlaw3.RangesForms", spec := "rangesForms", named := ["math/bits.overflowError"], apart := false, narrowed := true }
def RangesFormsUptoSaid : Prop := rangesFormsUptoRow.holds Try.pinned (OpenSpec.upto rangesFormsSpec)

/-- 'brindlewoodlaw3.RangesBack', WHERE WHAT IT READS IS OF BULK AT MOST 1048576: true; the input reads as it did. -/
def rangesBackUptoRow : OpenClaim := { program := "ytneecniebhhhlaa", sum := "e7bc7f82f9be6db73d6cadcf42d4fcf03f28f5d50bfc888e39c9dafbece689ee", func := "brindlewood/brindlewoodlaw3.RangesBack", spec := "rangesBack", named := ["math/bits.overflowError"], apart := false, narrowed := true }
def RangesBackUptoSaid : Prop := rangesBackUptoRow.holds Try.pinned (OpenSpec.upto rangesBackSpec)

/-- 'brindlewoodlaw3.RangesElements', WHERE WHAT IT READS IS OF BULK AT MOST 1048576: true; the input reads as it did. -/
def rangesElementsUptoRow : OpenClaim := { program := "ytneecniebhhhlaa", sum := "e7bc7f82f9be6db73d6cadcf42d4fcf03f28f5d50bfc888e39c9dafbece689ee", func := "brindlewood/brindlewoodlaw3.RangesElements", spec := "rangesElements", named := ["math/bits.overflowError"], apart := false, narrowed := true }
def RangesElementsUptoSaid : Prop := rangesElementsUptoRow.holds Try.pinned (OpenSpec.upto rangesElementsSpec)

end Rows
end Go.Proofs.Ytneecniebhhhlaa
