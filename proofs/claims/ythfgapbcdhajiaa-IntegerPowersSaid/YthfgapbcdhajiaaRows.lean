/-
  No cell of these rows narrows 'for every input' (looked for: loops, veiled, ifaces, maps, wideKeys, modest, calm, conditions, laid).
  DERIVED. THE GIVEN ROWS OF THIS SEAT. 10 by the template 'for every input the law returns true; each argument reads behind the call as it read before'; 0 by the template 'total and deterministic' (their statements: YthfgapbcdhajiaaTotals.lean).
  GIVEN WITH THE SEED: the statements are not yours to turn. If you find one false, say at which input.
  Laid BY PROGRAM, IN A SANDBOX (cutbox-rows.mjs): the forced cells as the released guide's own fill.sh prints them over the translation 5f76e3677a58f1a2… (all of the seat's roots in one cut). By AI agents, Wed Nov 11 2026. No macro, syntax, notation, axiom, sorry.
-/
import Derived.Test.YthfgapbcdhajiaaChecked
import GoSem.Claim
import GoSem.ClaimJoined
import GoSem.ClaimMapViews
import Derived.JoinedTies
import Derived.KernelRfl
namespace Go.Proofs.Ythfgapbcdhajiaa
/- THE CELL 'sum', in the pinned program and in every row, IS THE sha256 OF THE DUMP (.gsa) THAT YthfgapbcdhajiaaProg.lean LOADS. Nothing in Lean hashes anything: it is a label: what it is worth is what the hold of that sum in a sandbox is worth. -/
noncomputable def Try.pinned : Pinned := { name := "ythfgapbcdhajiaa", sum := "5f76e3677a58f1a2f177478a268861584ba51fdeefacc5d6d8a0d9534486657b", checked := Try.checked }
namespace Rows
def none {H : Type} : Left H := { results := [], args := [] }

/-- 'brindlewoodlaw3.IntegerDivisors': WHATEVER THE INPUT: true; the input reads as it did. -/
def integerDivisorsSpec : ChangeSpec := { name := "integerDivisors", fn := fun _ => fun
  | [d1, d2] => { results := [.lit (.bool true)], args := [d1, d2] }
  | _ => none }
def integerDivisorsRow : OpenClaim := { program := "ythfgapbcdhajiaa", sum := "5f76e3677a58f1a2f177478a268861584ba51fdeefacc5d6d8a0d9534486657b", func := "brindlewood/brindlewoodlaw3.IntegerDivisors", spec := "integerDivisors", named := ["math/bits.overflowError"], apart := false }
def IntegerDivisorsSaid : Prop := integerDivisorsRow.holds Try.pinned (OpenSpec.ofChange integerDivisorsSpec)

/-- ITS FALSE NEIGHBOUR: 'it returns false'. Refute it at one input. -/
def integerDivisorsWrong : ChangeSpec := { name := "integerDivisors", fn := fun _ => fun
  | [d1, d2] => { results := [.lit (.bool false)], args := [d1, d2] }
  | _ => none }
def IntegerDivisorsWrongFalsely : Prop := integerDivisorsRow.holds Try.pinned (OpenSpec.ofChange integerDivisorsWrong)

/-- 'brindlewoodlaw3.IntegerDivides': WHATEVER THE INPUT: true; the input reads as it did. -/
def integerDividesSpec : ChangeSpec := { name := "integerDivides", fn := fun _ => fun
  | [d1, d2] => { results := [.lit (.bool true)], args := [d1, d2] }
  | _ => none }
def integerDividesRow : OpenClaim := { program := "ythfgapbcdhajiaa", sum := "5f76e3677a58f1a2f177478a268861584ba51fdeefacc5d6d8a0d9534486657b", func := "brindlewood/brindlewoodlaw3.IntegerDivides", spec := "integerDivides", named := ["math/bits.overflowError"], apart := false }
def IntegerDividesSaid : Prop := integerDividesRow.holds Try.pinned (OpenSpec.ofChange integerDividesSpec)

/-- ITS FALSE NEIGHBOUR: 'it returns false'. Refute it at one input. -/
def integerDividesWrong : ChangeSpec := { name := "integerDivides", fn := fun _ => fun
  | [d1, d2] => { results := [.lit (.bool false)], args := [d1, d2] }
  | _ => none }
def IntegerDividesWrongFalsely : Prop := integerDividesRow.holds Try.pinned (OpenSpec.ofChange integerDividesWrong)

/-- 'brindlewoodlaw3.IntegerArithmetic': WHATEVER THE INPUT: true; the input reads as it did. -/
def integerArithmeticSpec : ChangeSpec := { name := "integerArithmetic", fn := fun _ => fun
  | [d1, d2] => { results := [.lit (.bool true)], args := [d1, d2] }
  | _ => none }
def integerArithmeticRow : OpenClaim := { program := "ythfgapbcdhajiaa", sum := "5f76e3677a58f1a2f177478a268861584ba51fdeefacc5d6d8a0d9534486657b", func := "brindlewood/brindlewoodlaw3.IntegerArithmetic", spec := "integerArithmetic", named := ["math/bits.overflowError"], apart := false }
def IntegerArithmeticSaid : Prop := integerArithmeticRow.holds Try.pinned (OpenSpec.ofChange integerArithmeticSpec)

/-- ITS FALSE NEIGHBOUR: 'it returns false'. Refute it at one input. -/
def integerArithmeticWrong : ChangeSpec := { name := "integerArithmetic", fn := fun _ => fun
  | [d1, d2] => { results := [.lit (.bool false)], args := [d1, d2] }
  | _ => none }
def IntegerArithmeticWrongFalsely : Prop := integerArithmeticRow.holds Try.pinned (OpenSpec.ofChange integerArithmeticWrong)

/-- 'brindlewoodlaw3.IntegerTexts': WHATEVER THE INPUT: true; the input reads as it did. -/
def integerTextsSpec : ChangeSpec := { name := "integerTexts", fn := fun _ => fun
  | [d1, d2, d3] => { results := [.lit (.bool true)], args := [d1, d2, d3] }
  | _ => none }
def integerTextsRow : OpenClaim := { program := "ythfgapbcdhajiaa", sum := "5f76e3677a58f1a2f177478a268861584ba51fdeefacc5d6d8a0d9534486657b", func := "brindlewood/brindlewoodlaw3.IntegerTexts", spec := "integerTexts", named := ["math/bits.overflowError"], apart := false }
def IntegerTextsSaid : Prop := integerTextsRow.holds Try.pinned (OpenSpec.ofChange integerTextsSpec)

/-- ITS FALSE NEIGHBOUR: 'it returns false'. Refute it at one input. -/
def integerTextsWrong : ChangeSpec := { name := "integerTexts", fn := fun _ => fun
  | [d1, d2, d3] => { results := [.lit (.bool false)], args := [d1, d2, d3] }
  | _ => none }
def IntegerTextsWrongFalsely : Prop := integerTextsRow.holds Try.pinned (OpenSpec.ofChange integerTextsWrong)

/-- 'brindlewoodlaw3.IntegerValues': WHATEVER THE INPUT: true; the input reads as it did. -/
def integerValuesSpec : ChangeSpec := { name := "integerValues", fn := fun _ => fun
  | [d1, d2, d3] => { results := [.lit (.bool true)], args := [d1, d2, d3] }
  | _ => none }
def integerValuesRow : OpenClaim := { program := "ythfgapbcdhajiaa", sum := "5f76e3677a58f1a2f177478a268861584ba51fdeefacc5d6d8a0d9534486657b", func := "brindlewood/brindlewoodlaw3.IntegerValues", spec := "integerValues", named := ["math/bits.overflowError"], apart := false }
def IntegerValuesSaid : Prop := integerValuesRow.holds Try.pinned (OpenSpec.ofChange integerValuesSpec)

/-- ITS FALSE NEIGHBOUR: 'it returns false'. Refute it at one input. -/
def integerValuesWrong : ChangeSpec := { name := "integerValues", fn := fun _ => fun
  | [d1, d2, d3] => { results := [.lit (.bool false)], args := [d1, d2, d3] }
  | _ => none }
def IntegerValuesWrongFalsely : Prop := integerValuesRow.holds Try.pinned (OpenSpec.ofChange integerValuesWrong)

/-- 'brindlewoodlaw3.IntegerRing': WHATEVER THE INPUT: true; the input reads as it did. -/
def integerRingSpec : ChangeSpec := { name := "integerRing", fn := fun _ => fun
  | [d1, d2, d3] => { results := [.lit (.bool true)], args := [d1, d2, d3] }
  | _ => none }
def integerRingRow : OpenClaim := { program := "ythfgapbcdhajiaa", sum := "5f76e3677a58f1a2f177478a268861584ba51fdeefacc5d6d8a0d9534486657b", func := "brindlewood/brindlewoodlaw3.IntegerRing", spec := "integerRing", named := ["math/bits.overflowError"], apart := false }
def IntegerRingSaid : Prop := integerRingRow.holds Try.pinned (OpenSpec.ofChange integerRingSpec)

/-- ITS FALSE NEIGHBOUR: 'it returns false'. Refute it at one input. -/
def integerRingWrong : ChangeSpec := { name := "integerRing", fn := fun _ => fun
  | [d1, d2, d3] => { results := [.lit (.bool false)], args := [d1, d2, d3] }
  | _ => none }
def IntegerRingWrongFalsely : Prop := integerRingRow.holds Try.pinned (OpenSpec.ofChange integerRingWrong)

/-- 'brindlewoodlaw3.IntegerPowers': WHATEVER THE INPUT: true; the input reads as it did. -/
def integerPowersSpec : ChangeSpec := { name := "integerPowers", fn := fun _ => fun
  | [d1, d2, d3, d4] => { results := [.lit (.bool true)], args := [d1, d2, d3, d4] }
  | _ => none }
def integerPowersRow : OpenClaim := { program := "ythfgapbcdhajiaa", sum := "5f76e3677a58f1a2f177478a268861584ba51fdeefacc5d6d8a0d9534486657b", func := "brindlewood/brindlewoodlaw3.IntegerPowers", spec := "integerPowers", named := ["math/bits.overflowError"], apart := false }
def IntegerPowersSaid : Prop := integerPowersRow.holds Try.pinned (OpenSpec.ofChange integerPowersSpec)

/-- ITS FALSE NEIGHBOUR: 'it returns false'. Refute it at one input. -/
def integerPowersWrong : ChangeSpec := { name := "integerPowers", fn := fun _ => fun
  | [d1, d2, d3, d4] => { results := [.lit (.bool false)], args := [d1, d2, d3, d4] }
  | _ => none }
def IntegerPowersWrongFalsely : Prop := integerPowersRow.holds Try.pinned (OpenSpec.ofChange integerPowersWrong)

/-- 'brindlewoodlaw3.IntegerBits': WHATEVER THE INPUT: true; the input reads as it did. -/
def integerBitsSpec : ChangeSpec := { name := "integerBits", fn := fun _ => fun
  | [d1, d2, d3] => { results := [.lit (.bool true)], args := [d1, d2, d3] }
  | _ => none }
def integerBitsRow : OpenClaim := { program := "ythfgapbcdhajiaa", sum := "5f76e3677a58f1a2f177478a268861584ba51fdeefacc5d6d8a0d9534486657b", func := "brindlewood/brindlewoodlaw3.IntegerBits", spec := "integerBits", unfollowed := true, recurses := true, named := ["math/bits.overflowError"], apart := false }
def IntegerBitsSaid : Prop := integerBitsRow.holds Try.pinned (OpenSpec.ofChange integerBitsSpec)

/-- ITS FALSE NEIGHBOUR: 'it returns false'. Refute it at one input. -/
def integerBitsWrong : ChangeSpec := { name := "integerBits", fn := fun _ => fun
  | [d1, d2, d3] => { results := [.lit (.bool false)], args := [d1, d2, d3] }
  | _ => none }
def IntegerBitsWrongFalsely : Prop := integerBitsRow.holds Try.pinned (OpenSpec.ofChange integerBitsWrong)

/-- 'brindlewoodlaw3.IntegerPowersMultiply': WHATEVER THE INPUT: true; the input reads as it did. -/
def integerPowersMultiplySpec : ChangeSpec := { name := "integerPowersMultiply", fn := fun _ => fun
  | [d1, d2, d3, d4] => { results := [.lit (.bool true)], args := [d1, d2, d3, d4] }
  | _ => none }
def integerPowersMultiplyRow : OpenClaim := { program := "ythfgapbcdhajiaa", sum := "5f76e3677a58f1a2f177478a268861584ba51fdeefacc5d6d8a0d9534486657b", func := "brindlewood/brindlewoodlaw3.IntegerPowersMultiply", spec := "integerPowersMultiply", named := ["math/bits.overflowError"], apart := false }
def IntegerPowersMultiplySaid : Prop := integerPowersMultiplyRow.holds Try.pinned (OpenSpec.ofChange integerPowersMultiplySpec)

/-- ITS FALSE NEIGHBOUR: 'it returns false'. Refute it at one input. -/
def integerPowersMultiplyWrong : ChangeSpec := { name := "integerPowersMultiply", fn := fun _ => fun
  | [d1, d2, d3, d4] => { results := [.lit (.bool false)], args := [d1, d2, d3, d4] }
  | _ => none }
def IntegerPowersMultiplyWrongFalsely : Prop := integerPowersMultiplyRow.holds Try.pinned (OpenSpec.ofChange integerPowersMultiplyWrong)

/-- 'brindlewoodlaw3.IntegerBitSums': WHATEVER THE INPUT: true; the input reads as it did. -/
def integerBitSumsSpec : ChangeSpec := { name := "integerBitSums", fn := fun _ => fun
  | [d1, d2] => { results := [.lit (.bool true)], args := [d1, d2] }
  | _ => none }
def integerBitSumsRow : OpenClaim := { program := "ythfgapbcdhajiaa", sum := "5f76e3677a58f1a2f177478a268861584ba51fdeefacc5d6d8a0d9534486657b", func := "brindlewood/brindlewoodlaw3.IntegerBitSums", spec := "integerBitSums", unfollowed := true, recurses := true, named := ["math/bits.overflowError"], apart := false }
def IntegerBitSumsSaid : Prop := integerBitSumsRow.holds Try.pinned (OpenSpec.ofChange integerBitSumsSpec)

/-- ITS FALSE NEIGHBOUR: 'it returns false'. Refute it at one input. -/
def integerBitSumsWrong : ChangeSpec := { name := "integerBitSums", fn := fun _ => fun
  | [d1, d2] => { results := [.lit (.bool false)], args := [d1, d2] }
  | _ => none }
def IntegerBitSumsWrongFalsely : Prop := integerBitSumsRow.holds Try.pinned (OpenSpec.ofChange integerBitSumsWrong)

/- THE SECOND FORM. 'bulk': how many values and letters a reading holds, each counted each time it is reached (what is shared counts as often as it is met; a slice's spare places count too). A statement '..UptoSaid' is the law's where the arguments, and the package variables that the reading takes, are together of bulk at most 1048576: NARROWER than '..Said'. Prove '..Said' where nothing that the law and all that it calls make is longer than what came in: it says more and counts as full. Else prove '..UptoSaid'. A law counts once. -/
mutual
def uptoBulk {H : Type} : DataW H → Nat
  | .lit (.string bytes) => bytes.length + 1
  | .lit _ => 1
  | .nil => 1
  | .ptr d => uptoBulk d + 1
  | .slice elems spare => uptoBulkAll elems + uptoBulkAll spare + 1
  | .agg parts => uptoBulkAll parts + 1
  | .iface _ d => uptoBulk d + 1
  | .map entries => uptoBulkEntries entries + 1
  | .held _ => 1
def uptoBulkAll {H : Type} : List (DataW H) → Nat
  | [] => 0
  | d :: r => uptoBulk d + uptoBulkAll r
def uptoBulkEntries {H : Type} : List (Lit × DataW H) → Nat
  | [] => 0
  | x :: r => uptoBulkEntry x + uptoBulkEntries r
def uptoBulkEntry {H : Type} : Lit × DataW H → Nat
  | (.string bytes, d) => bytes.length + uptoBulk d + 1
  | (_, d) => uptoBulk d + 1
 end
def uptoSmall : (H : Type) → List (DataW H) → Bool := fun _ ds => decide (uptoBulkAll ds ≤ 1048576)
def OpenSpec.upto (s : _root_.Go.ChangeSpec) : _root_.Go.OpenSpec := { _root_.Go.OpenSpec.ofChange s with cond := some uptoSmall }

/-- 'brindlewoodlaw3.IntegerDivisors', WHERE WHAT IT READS IS OF BULK AT MOST 1048576: true; the input reads as it did. -/
def integerDivisorsUptoRow : OpenClaim := { program := "ythfgapbcdhajiaa", sum := "5f76e3677a58f1a2f177478a268861584ba51fdeefacc5d6d8a0d9534486657b", func := "brindlewood/brindlewoodlaw3.IntegerDivisors", spec := "integerDivisors", named := ["math/bits.overflowError"], apart := false, narrowed := true }
def IntegerDivisorsUptoSaid : Prop := integerDivisorsUptoRow.holds Try.pinned (OpenSpec.upto integerDivisorsSpec)

/-- 'brindlewoodlaw3.IntegerDivides', WHERE WHAT IT READS IS OF BULK AT MOST 1048576: true; the input reads as it did. -/
def integerDividesUptoRow : OpenClaim := { program := "ythfgapbcdhajiaa", sum := "5f76e3677a58f1a2f177478a268861584ba51fdeefacc5d6d8a0d9534486657b", func := "brindlewood/brindlewoodlaw3.IntegerDivides", spec := "integerDivides", named := ["math/bits.overflowError"], apart := false, narrowed := true }
def IntegerDividesUptoSaid : Prop := integerDividesUptoRow.holds Try.pinned (OpenSpec.upto integerDividesSpec)

/-- 'brindlewoodlaw3.IntegerArithmetic', WHERE WHAT IT READS IS OF BULK AT MOST 1048576: true; the input reads as it did. -/
def integerArithmeticUptoRow : OpenClaim := { program := "ythfgapbcdhajiaa", sum := "5f76e3677a58f1a2f177478a268861584ba51fdeefacc5d6d8a0d9534486657b", func := "brindlewood/brindlewoodlaw3.IntegerArithmetic", spec := "integerArithmetic", named := ["math/bits.overflowError"], apart := false, narrowed := true }
def IntegerArithmeticUptoSaid : Prop := integerArithmeticUptoRow.holds Try.pinned (OpenSpec.upto integerArithmeticSpec)

/-- 'brindlewoodlaw3.IntegerTexts', WHERE WHAT IT READS IS OF BULK AT MOST 1048576: true; the input reads as it did. -/
def integerTextsUptoRow : OpenClaim := { program := "ythfgapbcdhajiaa", sum := "5f76e3677a58f1a2f177478a268861584ba51fdeefacc5d6d8a0d9534486657b", func := "brindlewood/brindlewoodlaw3.IntegerTexts", spec := "integerTexts", named := ["math/bits.overflowError"], apart := false, narrowed := true }
def IntegerTextsUptoSaid : Prop := integerTextsUptoRow.holds Try.pinned (OpenSpec.upto integerTextsSpec)

/-- 'brindlewoodlaw3.IntegerValues', WHERE WHAT IT READS IS OF BULK AT MOST 1048576: true; the input reads as it did. -/
def integerValuesUptoRow : OpenClaim := { program := "ythfgapbcdhajiaa", sum := "5f76e3677a58f1a2f177478a268861584ba51fdeefacc5d6d8a0d9534486657b", func := "brindlewood/brindlewoodlaw3.IntegerValues", spec := "integerValues", named := ["math/bits.overflowError"], apart := false, narrowed := true }
def IntegerValuesUptoSaid : Prop := integerValuesUptoRow.holds Try.pinned (OpenSpec.upto integerValuesSpec)

/-- 'brindlewoodlaw3.IntegerRing', WHERE WHAT IT READS IS OF BULK AT MOST 1048576: true; the input reads as it did. -/
def integerRingUptoRow : OpenClaim := { program := "ythfgapbcdhajiaa", sum := "5f76e3677a58f1a2f177478a268861584ba51fdeefacc5d6d8a0d9534486657b", func := "brindlewood/brindlewoodlaw3.IntegerRing", spec := "integerRing", named := ["math/bits.overflowError"], apart := false, narrowed := true }
def IntegerRingUptoSaid : Prop := integerRingUptoRow.holds Try.pinned (OpenSpec.upto integerRingSpec)

/-- 'brindlewoodlaw3.IntegerPowers', WHERE WHAT IT READS IS OF BULK AT MOST 1048576: true; the input reads as it did. -/
def integerPowersUptoRow : OpenClaim := { program := "ythfgapbcdhajiaa", sum := "5f76e3677a58f1a2f177478a268861584ba51fdeefacc5d6d8a0d9534486657b", func := "brindlewood/brindlewoodlaw3.IntegerPowers", spec := "integerPowers", named := ["math/bits.overflowError"], apart := false, narrowed := true }
def IntegerPowersUptoSaid : Prop := integerPowersUptoRow.holds Try.pinned (OpenSpec.upto integerPowersSpec)

/-- 'brindlewoodlaw3.IntegerBits', WHERE WHAT IT READS IS OF BULK AT MOST 1048576: true; the input reads as it did. -/
def integerBitsUptoRow : OpenClaim := { program := "ythfgapbcdhajiaa", sum := "5f76e3677a58f1a2f177478a268861584ba51fdeefacc5d6d8a0d9534486657b", func := "brindlewood/brindlewoodlaw3.IntegerBits", spec := "integerBits", unfollowed := true, recurses := true, named := ["math/bits.overflowError"], apart := false, narrowed := true }
def IntegerBitsUptoSaid : Prop := integerBitsUptoRow.holds Try.pinned (OpenSpec.upto integerBitsSpec)

/-- 'brindlewoodlaw3.IntegerPowersMultiply', WHERE WHAT IT READS IS OF BULK AT MOST 1048576: true; the input reads as it did. -/
def integerPowersMultiplyUptoRow : OpenClaim := { program := "ythfgapbcdhajiaa", sum := "5f76e3677a58f1a2f177478a268861584ba51fdeefacc5d6d8a0d9534486657b", func := "brindlewood/brindlewoodlaw3.IntegerPowersMultiply", spec := "integerPowersMultiply", named := ["math/bits.overflowError"], apart := false, narrowed := true }
def IntegerPowersMultiplyUptoSaid : Prop := integerPowersMultiplyUptoRow.holds Try.pinned (OpenSpec.upto integerPowersMultiplySpec)

/-- 'brindlewoodlaw3.IntegerBitSums', WHERE WHAT IT READS IS OF BULK AT MOST 1048576: true; the input reads as it did. -/
def integerBitSumsUptoRow : OpenClaim := { program := "ythfgapbcdhajiaa", sum := "5f76e3677a58f1a2f177478a268861584ba51fdeefacc5d6d8a0d9534486657b", func := "brindlewood/brindlewoodlaw3.IntegerBitSums", spec := "integerBitSums", unfollowed := true, recurses := true, named := ["math/bits.overflowError"], apart := false, narrowed := true }
def IntegerBitSumsUptoSaid : Prop := integerBitSumsUptoRow.holds Try.pinned (OpenSpec.upto integerBitSumsSpec)

end Rows
end Go.Proofs.Ythfgapbcdhajiaa
