/-
  No cell of these rows narrows 'for every input' (looked for: loops, veiled, ifaces, maps, wideKeys, modest, calm, conditions, laid).
  DERIVED. THE GIVEN ROWS OF THIS SEAT. 7 by the template 'for every input the law returns true; each argument reads behind the call as it read before'; 0 by the template 'total and deterministic' (their statements: YtlefdhkjbbdijaaTotals.lean).
  GIVEN WITH THE SEED: the statements are not yours to turn. If you find one false, say at which input.
  Laid BY PROGRAM, IN A SANDBOX (cutbox-rows.mjs): the forced cells as the released guide's own fill.sh prints them over the translation d526665e185477b8… (all of the seat's roots in one cut). By AI agents, Wed Nov 11 2026. No macro, syntax, notation, axiom, sorry.
-/
import Derived.Test.YtlefdhkjbbdijaaChecked
import GoSem.Claim
import GoSem.ClaimJoined
import GoSem.ClaimMapViews
import Derived.JoinedTies
import Derived.KernelRfl
namespace Go.Proofs.Ytlefdhkjbbdijaa
/- THE CELL 'sum', in the pinned program and in every row, IS THE sha256 OF THE DUMP (.gsa) THAT YtlefdhkjbbdijaaProg.lean LOADS. Nothing in Lean hashes anything: it is a label: what it is worth is what the hold of that sum in a sandbox is worth. -/
noncomputable def Try.pinned : Pinned := { name := "ytlefdhkjbbdijaa", sum := "d526665e185477b81de7bfcb53d078e5b72c7bc284d5ebdff5ca0fe9ec5ed43c", checked := Try.checked }
namespace Rows
def none {H : Type} : Left H := { results := [], args := [] }

/-- 'brindlewoodlaw3.RationalNearer': WHATEVER THE INPUT: true; the input reads as it did. -/
def rationalNearerSpec : ChangeSpec := { name := "rationalNearer", fn := fun _ => fun
  | [d1, d2, d3] => { results := [.lit (.bool true)], args := [d1, d2, d3] }
  | _ => none }
def rationalNearerRow : OpenClaim := { program := "ytlefdhkjbbdijaa", sum := "d526665e185477b81de7bfcb53d078e5b72c7bc284d5ebdff5ca0fe9ec5ed43c", func := "brindlewood/brindlewoodlaw3.RationalNearer", spec := "rationalNearer", unfollowed := true, recurses := true, named := ["math/bits.overflowError"], apart := false }
def RationalNearerSaid : Prop := rationalNearerRow.holds Try.pinned (OpenSpec.ofChange rationalNearerSpec)

/-- ITS FALSE NEIGHBOUR: 'it returns false'. Refute it at one input. -/
def rationalNearerWrong : ChangeSpec := { name := "rationalNearer", fn := fun _ => fun
  | [d1, d2, d3] => { results := [.lit (.bool false)], args := [d1, d2, d3] }
  | _ => none }
def RationalNearerWrongFalsely : Prop := rationalNearerRow.holds Try.pinned (OpenSpec.ofChange rationalNearerWrong)

/-- 'brindlewoodlaw3.RationalRounds': WHATEVER THE INPUT: true; the input reads as it did. -/
def rationalRoundsSpec : ChangeSpec := { name := "rationalRounds", fn := fun _ => fun
  | [d] => { results := [.lit (.bool true)], args := [d] }
  | _ => none }
def rationalRoundsRow : OpenClaim := { program := "ytlefdhkjbbdijaa", sum := "d526665e185477b81de7bfcb53d078e5b72c7bc284d5ebdff5ca0fe9ec5ed43c", func := "brindlewood/brindlewoodlaw3.RationalRounds", spec := "rationalRounds", unfollowed := true, recurses := true, named := ["math/bits.overflowError"], apart := false }
def RationalRoundsSaid : Prop := rationalRoundsRow.holds Try.pinned (OpenSpec.ofChange rationalRoundsSpec)

/-- ITS FALSE NEIGHBOUR: 'it returns false'. Refute it at one input. -/
def rationalRoundsWrong : ChangeSpec := { name := "rationalRounds", fn := fun _ => fun
  | [d] => { results := [.lit (.bool false)], args := [d] }
  | _ => none }
def RationalRoundsWrongFalsely : Prop := rationalRoundsRow.holds Try.pinned (OpenSpec.ofChange rationalRoundsWrong)

/-- 'brindlewoodlaw3.RationalArithmetic': WHATEVER THE INPUT: true; the input reads as it did. -/
def rationalArithmeticSpec : ChangeSpec := { name := "rationalArithmetic", fn := fun _ => fun
  | [d1, d2] => { results := [.lit (.bool true)], args := [d1, d2] }
  | _ => none }
def rationalArithmeticRow : OpenClaim := { program := "ytlefdhkjbbdijaa", sum := "d526665e185477b81de7bfcb53d078e5b72c7bc284d5ebdff5ca0fe9ec5ed43c", func := "brindlewood/brindlewoodlaw3.RationalArithmetic", spec := "rationalArithmetic", unfollowed := true, recurses := true, named := ["math/bits.overflowError"], apart := false }
def RationalArithmeticSaid : Prop := rationalArithmeticRow.holds Try.pinned (OpenSpec.ofChange rationalArithmeticSpec)

/-- ITS FALSE NEIGHBOUR: 'it returns false'. Refute it at one input. -/
def rationalArithmeticWrong : ChangeSpec := { name := "rationalArithmetic", fn := fun _ => fun
  | [d1, d2] => { results := [.lit (.bool false)], args := [d1, d2] }
  | _ => none }
def RationalArithmeticWrongFalsely : Prop := rationalArithmeticRow.holds Try.pinned (OpenSpec.ofChange rationalArithmeticWrong)

/-- 'brindlewoodlaw3.RationalField': WHATEVER THE INPUT: true; the input reads as it did. -/
def rationalFieldSpec : ChangeSpec := { name := "rationalField", fn := fun _ => fun
  | [d1, d2, d3] => { results := [.lit (.bool true)], args := [d1, d2, d3] }
  | _ => none }
def rationalFieldRow : OpenClaim := { program := "ytlefdhkjbbdijaa", sum := "d526665e185477b81de7bfcb53d078e5b72c7bc284d5ebdff5ca0fe9ec5ed43c", func := "brindlewood/brindlewoodlaw3.RationalField", spec := "rationalField", unfollowed := true, recurses := true, named := ["math/bits.overflowError"], apart := false }
def RationalFieldSaid : Prop := rationalFieldRow.holds Try.pinned (OpenSpec.ofChange rationalFieldSpec)

/-- ITS FALSE NEIGHBOUR: 'it returns false'. Refute it at one input. -/
def rationalFieldWrong : ChangeSpec := { name := "rationalField", fn := fun _ => fun
  | [d1, d2, d3] => { results := [.lit (.bool false)], args := [d1, d2, d3] }
  | _ => none }
def RationalFieldWrongFalsely : Prop := rationalFieldRow.holds Try.pinned (OpenSpec.ofChange rationalFieldWrong)

/-- 'brindlewoodlaw3.RationalTermsBack': WHATEVER THE INPUT: true; the input reads as it did. -/
def rationalTermsBackSpec : ChangeSpec := { name := "rationalTermsBack", fn := fun _ => fun
  | [d] => { results := [.lit (.bool true)], args := [d] }
  | _ => none }
def rationalTermsBackRow : OpenClaim := { program := "ytlefdhkjbbdijaa", sum := "d526665e185477b81de7bfcb53d078e5b72c7bc284d5ebdff5ca0fe9ec5ed43c", func := "brindlewood/brindlewoodlaw3.RationalTermsBack", spec := "rationalTermsBack", unfollowed := true, recurses := true, named := ["math/bits.overflowError"], apart := false }
def RationalTermsBackSaid : Prop := rationalTermsBackRow.holds Try.pinned (OpenSpec.ofChange rationalTermsBackSpec)

/-- ITS FALSE NEIGHBOUR: 'it returns false'. Refute it at one input. -/
def rationalTermsBackWrong : ChangeSpec := { name := "rationalTermsBack", fn := fun _ => fun
  | [d] => { results := [.lit (.bool false)], args := [d] }
  | _ => none }
def RationalTermsBackWrongFalsely : Prop := rationalTermsBackRow.holds Try.pinned (OpenSpec.ofChange rationalTermsBackWrong)

/-- 'brindlewoodlaw3.RationalMakes': WHATEVER THE INPUT: true; the input reads as it did. -/
def rationalMakesSpec : ChangeSpec := { name := "rationalMakes", fn := fun _ => fun
  | [d1, d2, d3, d4] => { results := [.lit (.bool true)], args := [d1, d2, d3, d4] }
  | _ => none }
def rationalMakesRow : OpenClaim := { program := "ytlefdhkjbbdijaa", sum := "d526665e185477b81de7bfcb53d078e5b72c7bc284d5ebdff5ca0fe9ec5ed43c", func := "brindlewood/brindlewoodlaw3.RationalMakes", spec := "rationalMakes", unfollowed := true, recurses := true, named := ["math/bits.overflowError"], apart := false }
def RationalMakesSaid : Prop := rationalMakesRow.holds Try.pinned (OpenSpec.ofChange rationalMakesSpec)

/-- ITS FALSE NEIGHBOUR: 'it returns false'. Refute it at one input. -/
def rationalMakesWrong : ChangeSpec := { name := "rationalMakes", fn := fun _ => fun
  | [d1, d2, d3, d4] => { results := [.lit (.bool false)], args := [d1, d2, d3, d4] }
  | _ => none }
def RationalMakesWrongFalsely : Prop := rationalMakesRow.holds Try.pinned (OpenSpec.ofChange rationalMakesWrong)

/-- 'brindlewoodlaw3.SlicingTakes': WHATEVER THE INPUT: true; the input reads as it did. -/
def slicingTakesSpec : ChangeSpec := { name := "slicingTakes", fn := fun _ => fun
  | [d1, d2, d3, d4] => { results := [.lit (.bool true)], args := [d1, d2, d3, d4] }
  | _ => none }
def slicingTakesRow : OpenClaim := { program := "ytlefdhkjbbdijaa", sum := "d526665e185477b81de7bfcb53d078e5b72c7bc284d5ebdff5ca0fe9ec5ed43c", func := "brindlewood/brindlewoodlaw3.SlicingTakes", spec := "slicingTakes", apart := false }
def SlicingTakesSaid : Prop := slicingTakesRow.holds Try.pinned (OpenSpec.ofChange slicingTakesSpec)

/-- ITS FALSE NEIGHBOUR: 'it returns false'. Refute it at one input. -/
def slicingTakesWrong : ChangeSpec := { name := "slicingTakes", fn := fun _ => fun
  | [d1, d2, d3, d4] => { results := [.lit (.bool false)], args := [d1, d2, d3, d4] }
  | _ => none }
def SlicingTakesWrongFalsely : Prop := slicingTakesRow.holds Try.pinned (OpenSpec.ofChange slicingTakesWrong)

/- THE SECOND FORM. 'bulk': how many values and letters a reading holds, each counted each time it is reached (what is shared counts as often as it is met; a slice's spare places count too). A statement '..UptoSaid' is the law's where the arguments, and the package variables that the reading takes, are together of bulk at most 1048576: NARROWER than '..Said'. Prove '..Said' where nothing that the law and all that it calls make is longer than what came in: it says more and counts as full. Else prove '..UptoSaid'. A law counts once. -/
mutual
def uptoBulk {H : Type} : DataW H → Nat
  | .lit (.string bytes) => bytes.length + 1
  | .lit _ => 1
  | .nil => 1
  | .ptr d => uptoBulk d + 1
  | .slice elems spare => uptoBulkAll elems + uptoBulkAll spare + 1
  | .agg parts => uptoBulkAll parts + 1
  | .iface _ d => uptoBulk d + 1
  | .map entries => uptoBulkEntries entries + 1
  | .held _ => 1
def uptoBulkAll {H : Type} : List (DataW H) → Nat
  | [] => 0
  | d :: r => uptoBulk d + uptoBulkAll r
def uptoBulkEntries {H : Type} : List (Lit × DataW H) → Nat
  | [] => 0
  | x :: r => uptoBulkEntry x + uptoBulkEntries r
def uptoBulkEntry {H : Type} : Lit × DataW H → Nat
  | (.string bytes, d) => bytes.length + uptoBulk d + 1
  | (_, d) => uptoBulk d + 1
 end
def uptoSmall : (H : Type) → List (DataW H) → Bool := fun _ ds => decide (uptoBulkAll ds ≤ 1048576)
def OpenSpec.upto (s : _root_.Go.ChangeSpec) : _root_.Go.OpenSpec := { _root_.Go.OpenSpec.ofChange s with cond := some uptoSmall }

/-- 'brindlewoodlaw3.RationalNearer', WHERE WHAT IT READS IS OF BULK AT MOST 1048576: true; the input reads as it did. -/
def rationalNearerUptoRow : OpenClaim := { program := "ytlefdhkjbbdijaa", sum := "d526665e185477b81de7bfcb53d078e5b72c7bc284d5ebdff5ca0fe9ec5ed43c", func := "brindlewood/brindlewoodlaw3.RationalNearer", spec := "rationalNearer", unfollowed := true, recurses := true, named := ["math/bits.overflowError"], apart := false, narrowed := true }
def RationalNearerUptoSaid : Prop := rationalNearerUptoRow.holds Try.pinned (OpenSpec.upto rationalNearerSpec)

/-- 'brindlewoodlaw3.RationalRounds', WHERE WHAT IT READS IS OF BULK AT MOST 1048576: true; the input reads as it did. -/
def rationalRoundsUptoRow : OpenClaim := { program := "ytlefdhkjbbdijaa", sum := "d526665e185477b81de7bfcb53d078e5b72c7bc284d5ebdff5ca0fe9ec5ed43c", func := "brindlewood/brindlewoodlaw3.RationalRounds", spec := "rationalRounds", unfollowed := true, recurses := true, named := ["math/bits.overflowError"], apart := false, narrowed := true }
def RationalRoundsUptoSaid : Prop := rationalRoundsUptoRow.holds Try.pinned (OpenSpec.upto rationalRoundsSpec)

/-- 'brindlewoodlaw3.RationalArithmetic', WHERE WHAT IT READS IS OF BULK AT MOST 1048576: true; the input reads as it did. -/
def rationalArithmeticUptoRow : OpenClaim := { program := "ytlefdhkjbbdijaa", sum := "d526665e185477b81de7bfcb53d078e5b72c7bc284d5ebdff5ca0fe9ec5ed43c", func := "brindlewood/brindlewoodlaw3.RationalArithmetic", spec := "rationalArithmetic", unfollowed := true, recurses := true, named := ["math/bits.overflowError"], apart := false, narrowed := true }
def RationalArithmeticUptoSaid : Prop := rationalArithmeticUptoRow.holds Try.pinned (OpenSpec.upto rationalArithmeticSpec)

/-- 'brindlewoodlaw3.RationalField', WHERE WHAT IT READS IS OF BULK AT MOST 1048576: true; the input reads as it did. -/
def rationalFieldUptoRow : OpenClaim := { program := "ytlefdhkjbbdijaa", sum := "d526665e185477b81de7bfcb53d078e5b72c7bc284d5ebdff5ca0fe9ec5ed43c", func := "brindlewood/brindlewoodlaw3.RationalField", spec := "rationalField", unfollowed := true, recurses := true, named := ["math/bits.overflowError"], apart := false, narrowed := true }
def RationalFieldUptoSaid : Prop := rationalFieldUptoRow.holds Try.pinned (OpenSpec.upto rationalFieldSpec)

/-- 'brindlewoodlaw3.RationalTermsBack', WHERE WHAT IT READS IS OF BULK AT MOST 1048576: true; the input reads as it did. -/
def rationalTermsBackUptoRow : OpenClaim := { program := "ytlefdhkjbbdijaa", sum := "d526665e185477b81de7bfcb53d078e5b72c7bc284d5ebdff5ca0fe9ec5ed43c", func := "brindlewood/brindlewoodlaw3.RationalTermsBack", spec := "rationalTermsBack", unfollowed := true, recurses := true, named := ["math/bits.overflowError"], apart := false, narrowed := true }
def RationalTermsBackUptoSaid : Prop := rationalTermsBackUptoRow.holds Try.pinned (OpenSpec.upto rationalTermsBackSpec)

/-- 'brindlewoodlaw3.RationalMakes', WHERE WHAT IT READS IS OF BULK AT MOST 1048576: true; the input reads as it did. -/
def rationalMakesUptoRow : OpenClaim := { program := "ytlefdhkjbbdijaa", sum := "d526665e185477b81de7bfcb53d078e5b72c7bc284d5ebdff5ca0fe9ec5ed43c", func := "brindlewood/brindlewoodlaw3.RationalMakes", spec := "rationalMakes", unfollowed := true, recurses := true, named := ["math/bits.overflowError"], apart := false, narrowed := true }
def RationalMakesUptoSaid : Prop := rationalMakesUptoRow.holds Try.pinned (OpenSpec.upto rationalMakesSpec)

/-- 'brindlewoodlaw3.SlicingTakes', WHERE WHAT IT READS IS OF BULK AT MOST 1048576: true; the input reads as it did. -/
def slicingTakesUptoRow : OpenClaim := { program := "ytlefdhkjbbdijaa", sum := "d526665e185477b81de7bfcb53d078e5b72c7bc284d5ebdff5ca0fe9ec5ed43c", func := "brindlewood/brindlewoodlaw3.SlicingTakes", spec := "slicingTakes", apart := false, narrowed := true }
def SlicingTakesUptoSaid : Prop := slicingTakesUptoRow.holds Try.pinned (OpenSpec.upto slicingTakesSpec)

end Rows
end Go.Proofs.Ytlefdhkjbbdijaa
