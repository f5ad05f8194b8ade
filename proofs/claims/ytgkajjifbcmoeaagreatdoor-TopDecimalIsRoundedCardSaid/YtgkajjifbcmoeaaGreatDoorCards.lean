/-
  DERIVED. GIVEN WITH THE SEED: THE CARDS: each row of YtgkajjifbcmoeaaGreatDoorRows.lean that lists a variable, with what it lists TIED to the program's text (the seventh form; the later family's looks); each row that meets fmt, with fmt's text TOLD by the authors' own Lean function (tested against real Go, not proved from fmt's source: count such statements apart). THE CARD IS WHAT COUNTS. Prove the row's statement (the work); the ties are given (YtgkajjifbcmoeaaGreatDoorTie.lean); close each card by the builder's one call (the guide's Derived/Test/ToyasCard.lean, 'card_holds'). Laid BY PROGRAM, IN A SANDBOX (cutbox-door.mjs). By AI agents, Wed Nov 11 2026. No macro, syntax, notation, axiom, sorry.
-/
import Derived.Test.YtgkajjifbcmoeaaGreatDoorRows
import GoSem.ClaimSeven
namespace Go.Proofs.YtgkajjifbcmoeaaGreatDoor
namespace Rows

/-- THE TIED CARD OF 'brindlewoodtop.TopDecimalIsRounded'. -/
def topDecimalIsRoundedCard : Claim7 := { stood := { row := topDecimalIsRoundedRow, standIns := [], harness := (true, "afc3de3aeb34276c6ae94581d9a1b648a764c3f31e00bec987c2114ebf9f1cef"), looks := true }, kinds := [], alts := [], laidByText := true, laidKinds := [.data, .data, .data], laidTests := true, laidLooks := .later }
def TopDecimalIsRoundedCardSaid : Prop := Claim7.holds Tryz.pinned (.plain (OpenSpec.ofChange topDecimalIsRoundedSpec)) topDecimalIsRoundedCard

/-- THE TIED CARD OF 'brindlewoodlaw3.DecimalTexts'. -/
def decimalTextsCard : Claim7 := { stood := { row := decimalTextsRow, standIns := [], harness := (true, "afc3de3aeb34276c6ae94581d9a1b648a764c3f31e00bec987c2114ebf9f1cef"), looks := true }, kinds := [], alts := [], laidByText := true, laidKinds := [.data, .data, .data, .data, .sentinel, .sentinel, .pinned], laidTests := true, laidLooks := .later }
def DecimalTextsCardSaid : Prop := Claim7.holds Tryz.pinned (.plain (OpenSpec.ofChange decimalTextsSpec)) decimalTextsCard

/-- THE TIED CARD OF 'brindlewoodlaw3.DecimalQuotients'. -/
def decimalQuotientsCard : Claim7 := { stood := { row := decimalQuotientsRow, standIns := [], harness := (true, "afc3de3aeb34276c6ae94581d9a1b648a764c3f31e00bec987c2114ebf9f1cef"), looks := true }, kinds := [], alts := [], laidByText := true, laidKinds := [.data, .data, .data, .data, .sentinel, .sentinel, .pinned], laidTests := true, laidLooks := .later }
def DecimalQuotientsCardSaid : Prop := Claim7.holds Tryz.pinned (.plain (OpenSpec.ofChange decimalQuotientsSpec)) decimalQuotientsCard

/-- THE TIED CARD OF 'brindlewoodlaw3.DecimalRounds'. -/
def decimalRoundsCard : Claim7 := { stood := { row := decimalRoundsRow, standIns := [], harness := (true, "afc3de3aeb34276c6ae94581d9a1b648a764c3f31e00bec987c2114ebf9f1cef"), looks := true }, kinds := [], alts := [], laidByText := true, laidKinds := [.data, .data, .data, .data, .sentinel, .sentinel, .pinned], laidTests := true, laidLooks := .later }
def DecimalRoundsCardSaid : Prop := Claim7.holds Tryz.pinned (.plain (OpenSpec.ofChange decimalRoundsSpec)) decimalRoundsCard

/-- THE TIED CARD OF 'brindlewoodlaw3.DecimalOrdered'. -/
def decimalOrderedCard : Claim7 := { stood := { row := decimalOrderedRow, standIns := [], harness := (true, "afc3de3aeb34276c6ae94581d9a1b648a764c3f31e00bec987c2114ebf9f1cef"), looks := true }, kinds := [], alts := [], laidByText := true, laidKinds := [.data, .data, .data, .data, .sentinel, .sentinel, .pinned], laidTests := true, laidLooks := .later }
def DecimalOrderedCardSaid : Prop := Claim7.holds Tryz.pinned (.plain (OpenSpec.ofChange decimalOrderedSpec)) decimalOrderedCard

/-- THE TIED CARD OF 'brindlewoodlaw3.DecimalMirror'. -/
def decimalMirrorCard : Claim7 := { stood := { row := decimalMirrorRow, standIns := [], harness := (true, "afc3de3aeb34276c6ae94581d9a1b648a764c3f31e00bec987c2114ebf9f1cef"), looks := true }, kinds := [], alts := [], laidByText := true, laidKinds := [.data, .data, .data, .data, .sentinel, .sentinel, .pinned], laidTests := true, laidLooks := .later }
def DecimalMirrorCardSaid : Prop := Claim7.holds Tryz.pinned (.plain (OpenSpec.ofChange decimalMirrorSpec)) decimalMirrorCard

/-- THE TIED CARD OF 'brindlewoodlaw3.DecimalRoots'. -/
def decimalRootsCard : Claim7 := { stood := { row := decimalRootsRow, standIns := [], harness := (true, "afc3de3aeb34276c6ae94581d9a1b648a764c3f31e00bec987c2114ebf9f1cef"), looks := true }, kinds := [], alts := [], laidByText := true, laidKinds := [.data, .data, .data, .data, .sentinel, .sentinel, .pinned], laidTests := true, laidLooks := .later }
def DecimalRootsCardSaid : Prop := Claim7.holds Tryz.pinned (.plain (OpenSpec.ofChange decimalRootsSpec)) decimalRootsCard

/-- THE TIED CARD OF 'brindlewoodlaw3.DecimalDirected'. -/
def decimalDirectedCard : Claim7 := { stood := { row := decimalDirectedRow, standIns := [], harness := (true, "afc3de3aeb34276c6ae94581d9a1b648a764c3f31e00bec987c2114ebf9f1cef"), looks := true }, kinds := [], alts := [], laidByText := true, laidKinds := [.data, .data, .data, .data, .sentinel, .sentinel, .pinned], laidTests := true, laidLooks := .later }
def DecimalDirectedCardSaid : Prop := Claim7.holds Tryz.pinned (.plain (OpenSpec.ofChange decimalDirectedSpec)) decimalDirectedCard

/-- THE TIED CARD OF 'brindlewoodlaw3.DecimalSums'. -/
def decimalSumsCard : Claim7 := { stood := { row := decimalSumsRow, standIns := [], harness := (true, "afc3de3aeb34276c6ae94581d9a1b648a764c3f31e00bec987c2114ebf9f1cef"), looks := true }, kinds := [], alts := [], laidByText := true, laidKinds := [.data, .data, .data, .data, .sentinel, .sentinel, .pinned], laidTests := true, laidLooks := .later }
def DecimalSumsCardSaid : Prop := Claim7.holds Tryz.pinned (.plain (OpenSpec.ofChange decimalSumsSpec)) decimalSumsCard

/-- THE TIED CARD OF 'brindlewoodlaw3.DecimalRatios'. -/
def decimalRatiosCard : Claim7 := { stood := { row := decimalRatiosRow, standIns := [], harness := (true, "afc3de3aeb34276c6ae94581d9a1b648a764c3f31e00bec987c2114ebf9f1cef"), looks := true }, kinds := [], alts := [], laidByText := true, laidKinds := [.data, .data, .data, .data, .sentinel, .sentinel, .pinned], laidTests := true, laidLooks := .later }
def DecimalRatiosCardSaid : Prop := Claim7.holds Tryz.pinned (.plain (OpenSpec.ofChange decimalRatiosSpec)) decimalRatiosCard

/-- THE TIED CARD OF 'brindlewoodlaw3.DecimalRestBack'. -/
def decimalRestBackCard : Claim7 := { stood := { row := decimalRestBackRow, standIns := [], harness := (true, "afc3de3aeb34276c6ae94581d9a1b648a764c3f31e00bec987c2114ebf9f1cef"), looks := true }, kinds := [], alts := [], laidByText := true, laidKinds := [.data, .data, .data, .data, .sentinel, .sentinel, .pinned], laidTests := true, laidLooks := .later }
def DecimalRestBackCardSaid : Prop := Claim7.holds Tryz.pinned (.plain (OpenSpec.ofChange decimalRestBackSpec)) decimalRestBackCard

/-- THE SECOND FORM's CARD OF 'brindlewoodtop.TopDecimalIsRounded'. -/
def topDecimalIsRoundedUptoCard : Claim7 := { stood := { row := topDecimalIsRoundedUptoRow, standIns := [], harness := (true, "afc3de3aeb34276c6ae94581d9a1b648a764c3f31e00bec987c2114ebf9f1cef"), looks := true }, kinds := [], alts := [], laidByText := true, laidKinds := [.data, .data, .data], laidTests := true, laidLooks := .later }
def TopDecimalIsRoundedUptoCardSaid : Prop := Claim7.holds Tryz.pinned (.plain (OpenSpec.upto topDecimalIsRoundedSpec)) topDecimalIsRoundedUptoCard

/-- THE SECOND FORM's CARD OF 'brindlewoodlaw3.DecimalTexts'. -/
def decimalTextsUptoCard : Claim7 := { stood := { row := decimalTextsUptoRow, standIns := [], harness := (true, "afc3de3aeb34276c6ae94581d9a1b648a764c3f31e00bec987c2114ebf9f1cef"), looks := true }, kinds := [], alts := [], laidByText := true, laidKinds := [.data, .data, .data, .data, .sentinel, .sentinel, .pinned], laidTests := true, laidLooks := .later }
def DecimalTextsUptoCardSaid : Prop := Claim7.holds Tryz.pinned (.plain (OpenSpec.upto decimalTextsSpec)) decimalTextsUptoCard

/-- THE SECOND FORM's CARD OF 'brindlewoodlaw3.DecimalQuotients'. -/
def decimalQuotientsUptoCard : Claim7 := { stood := { row := decimalQuotientsUptoRow, standIns := [], harness := (true, "afc3de3aeb34276c6ae94581d9a1b648a764c3f31e00bec987c2114ebf9f1cef"), looks := true }, kinds := [], alts := [], laidByText := true, laidKinds := [.data, .data, .data, .data, .sentinel, .sentinel, .pinned], laidTests := true, laidLooks := .later }
def DecimalQuotientsUptoCardSaid : Prop := Claim7.holds Tryz.pinned (.plain (OpenSpec.upto decimalQuotientsSpec)) decimalQuotientsUptoCard

/-- THE SECOND FORM's CARD OF 'brindlewoodlaw3.DecimalRounds'. -/
def decimalRoundsUptoCard : Claim7 := { stood := { row := decimalRoundsUptoRow, standIns := [], harness := (true, "afc3de3aeb34276c6ae94581d9a1b648a764c3f31e00bec987c2114ebf9f1cef"), looks := true }, kinds := [], alts := [], laidByText := true, laidKinds := [.data, .data, .data, .data, .sentinel, .sentinel, .pinned], laidTests := true, laidLooks := .later }
def DecimalRoundsUptoCardSaid : Prop := Claim7.holds Tryz.pinned (.plain (OpenSpec.upto decimalRoundsSpec)) decimalRoundsUptoCard

/-- THE SECOND FORM's CARD OF 'brindlewoodlaw3.DecimalOrdered'. -/
def decimalOrderedUptoCard : Claim7 := { stood := { row := decimalOrderedUptoRow, standIns := [], harness := (true, "afc3de3aeb34276c6ae94581d9a1b648a764c3f31e00bec987c2114ebf9f1cef"), looks := true }, kinds := [], alts := [], laidByText := true, laidKinds := [.data, .data, .data, .data, .sentinel, .sentinel, .pinned], laidTests := true, laidLooks := .later }
def DecimalOrderedUptoCardSaid : Prop := Claim7.holds Tryz.pinned (.plain (OpenSpec.upto decimalOrderedSpec)) decimalOrderedUptoCard

/-- THE SECOND FORM's CARD OF 'brindlewoodlaw3.DecimalMirror'. -/
def decimalMirrorUptoCard : Claim7 := { stood := { row := decimalMirrorUptoRow, standIns := [], harness := (true, "afc3de3aeb34276c6ae94581d9a1b648a764c3f31e00bec987c2114ebf9f1cef"), looks := true }, kinds := [], alts := [], laidByText := true, laidKinds := [.data, .data, .data, .data, .sentinel, .sentinel, .pinned], laidTests := true, laidLooks := .later }
def DecimalMirrorUptoCardSaid : Prop := Claim7.holds Tryz.pinned (.plain (OpenSpec.upto decimalMirrorSpec)) decimalMirrorUptoCard

/-- THE SECOND FORM's CARD OF 'brindlewoodlaw3.DecimalRoots'. -/
def decimalRootsUptoCard : Claim7 := { stood := { row := decimalRootsUptoRow, standIns := [], harness := (true, "afc3de3aeb34276c6ae94581d9a1b648a764c3f31e00bec987c2114ebf9f1cef"), looks := true }, kinds := [], alts := [], laidByText := true, laidKinds := [.data, .data, .data, .data, .sentinel, .sentinel, .pinned], laidTests := true, laidLooks := .later }
def DecimalRootsUptoCardSaid : Prop := Claim7.holds Tryz.pinned (.plain (OpenSpec.upto decimalRootsSpec)) decimalRootsUptoCard

/-- THE SECOND FORM's CARD OF 'brindlewoodlaw3.DecimalDirected'. -/
def decimalDirectedUptoCard : Claim7 := { stood := { row := decimalDirectedUptoRow, standIns := [], harness := (true, "afc3de3aeb34276c6ae94581d9a1b648a764c3f31e00bec987c2114ebf9f1cef"), looks := true }, kinds := [], alts := [], laidByText := true, laidKinds := [.data, .data, .data, .data, .sentinel, .sentinel, .pinned], laidTests := true, laidLooks := .later }
def DecimalDirectedUptoCardSaid : Prop := Claim7.holds Tryz.pinned (.plain (OpenSpec.upto decimalDirectedSpec)) decimalDirectedUptoCard

/-- THE SECOND FORM's CARD OF 'brindlewoodlaw3.DecimalSums'. -/
def decimalSumsUptoCard : Claim7 := { stood := { row := decimalSumsUptoRow, standIns := [], harness := (true, "afc3de3aeb34276c6ae94581d9a1b648a764c3f31e00bec987c2114ebf9f1cef"), looks := true }, kinds := [], alts := [], laidByText := true, laidKinds := [.data, .data, .data, .data, .sentinel, .sentinel, .pinned], laidTests := true, laidLooks := .later }
def DecimalSumsUptoCardSaid : Prop := Claim7.holds Tryz.pinned (.plain (OpenSpec.upto decimalSumsSpec)) decimalSumsUptoCard

/-- THE SECOND FORM's CARD OF 'brindlewoodlaw3.DecimalRatios'. -/
def decimalRatiosUptoCard : Claim7 := { stood := { row := decimalRatiosUptoRow, standIns := [], harness := (true, "afc3de3aeb34276c6ae94581d9a1b648a764c3f31e00bec987c2114ebf9f1cef"), looks := true }, kinds := [], alts := [], laidByText := true, laidKinds := [.data, .data, .data, .data, .sentinel, .sentinel, .pinned], laidTests := true, laidLooks := .later }
def DecimalRatiosUptoCardSaid : Prop := Claim7.holds Tryz.pinned (.plain (OpenSpec.upto decimalRatiosSpec)) decimalRatiosUptoCard

/-- THE SECOND FORM's CARD OF 'brindlewoodlaw3.DecimalRestBack'. -/
def decimalRestBackUptoCard : Claim7 := { stood := { row := decimalRestBackUptoRow, standIns := [], harness := (true, "afc3de3aeb34276c6ae94581d9a1b648a764c3f31e00bec987c2114ebf9f1cef"), looks := true }, kinds := [], alts := [], laidByText := true, laidKinds := [.data, .data, .data, .data, .sentinel, .sentinel, .pinned], laidTests := true, laidLooks := .later }
def DecimalRestBackUptoCardSaid : Prop := Claim7.holds Tryz.pinned (.plain (OpenSpec.upto decimalRestBackSpec)) decimalRestBackUptoCard
end Rows
end Go.Proofs.YtgkajjifbcmoeaaGreatDoor
