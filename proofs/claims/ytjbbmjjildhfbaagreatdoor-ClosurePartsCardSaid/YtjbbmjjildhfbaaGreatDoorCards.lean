/-
  DERIVED. GIVEN WITH THE SEED: THE CARDS: each row of YtjbbmjjildhfbaaGreatDoorRows.lean that lists a variable, with what it lists TIED to the program's text (the seventh form; the later family's looks); each row that meets fmt, with fmt's text TOLD by the authors' own Lean function (tested against real Go, not proved from fmt's source: count such statements apart). THE CARD IS WHAT COUNTS. Prove the row's statement (the work); the ties are given (YtjbbmjjildhfbaaGreatDoorTie.lean); close each card by the builder's one call (the guide's Derived/Test/ToyasCard.lean, 'card_holds'). Laid BY PROGRAM, IN A SANDBOX (cutbox-door.mjs). By AI agents, Wed Nov 11 2026. No macro, syntax, notation, axiom, sorry.
-/
import Derived.Test.YtjbbmjjildhfbaaGreatDoorRows
import GoSem.ClaimSeven
namespace Go.Proofs.YtjbbmjjildhfbaaGreatDoor
namespace Rows

/-- THE TIED CARD OF 'dioramalaw31.ClosureWithout'. -/
def closureWithoutCard : Claim7 := { stood := { row := closureWithoutRow, standIns := [], harness := (true, "a80c9f2314abe9980edc2a684aa1e253350e764bbe96d478c4a505985b249a57"), looks := true }, kinds := [], alts := [], laidByText := true, laidKinds := [.data, .data, .data, .widerDeep, .funcs], laidTests := true, laidLooks := .later }
def ClosureWithoutCardSaid : Prop := Claim7.holds Tryz.pinned (.plain (OpenSpec.ofChange closureWithoutSpec)) closureWithoutCard

/-- THE TIED CARD OF 'dioramalaw31.ClosureGreatest'. -/
def closureGreatestCard : Claim7 := { stood := { row := closureGreatestRow, standIns := [], harness := (true, "a80c9f2314abe9980edc2a684aa1e253350e764bbe96d478c4a505985b249a57"), looks := true }, kinds := [], alts := [], laidByText := true, laidKinds := [.data, .data, .data, .widerDeep, .funcs], laidTests := true, laidLooks := .later }
def ClosureGreatestCardSaid : Prop := Claim7.holds Tryz.pinned (.plain (OpenSpec.ofChange closureGreatestSpec)) closureGreatestCard

/-- THE TIED CARD OF 'dioramalaw31.ClosureUnion'. -/
def closureUnionCard : Claim7 := { stood := { row := closureUnionRow, standIns := [], harness := (true, "a80c9f2314abe9980edc2a684aa1e253350e764bbe96d478c4a505985b249a57"), looks := true }, kinds := [], alts := [], laidByText := true, laidKinds := [.data, .data, .data, .widerDeep, .funcs], laidTests := true, laidLooks := .later }
def ClosureUnionCardSaid : Prop := Claim7.holds Tryz.pinned (.plain (OpenSpec.ofChange closureUnionSpec)) closureUnionCard

/-- THE TIED CARD OF 'dioramalaw31.ClosureValid'. -/
def closureValidCard : Claim7 := { stood := { row := closureValidRow, standIns := [], harness := (true, "a80c9f2314abe9980edc2a684aa1e253350e764bbe96d478c4a505985b249a57"), looks := true }, kinds := [], alts := [], laidByText := true, laidKinds := [.data, .data, .data, .widerDeep, .funcs], laidTests := true, laidLooks := .later }
def ClosureValidCardSaid : Prop := Claim7.holds Tryz.pinned (.plain (OpenSpec.ofChange closureValidSpec)) closureValidCard

/-- THE TIED CARD OF 'dioramalaw31.ClosureWorlds'. -/
def closureWorldsCard : Claim7 := { stood := { row := closureWorldsRow, standIns := [], harness := (true, "a80c9f2314abe9980edc2a684aa1e253350e764bbe96d478c4a505985b249a57"), looks := true }, kinds := [], alts := [], laidByText := true, laidKinds := [.data, .data, .data, .widerDeep, .funcs], laidTests := true, laidLooks := .later }
def ClosureWorldsCardSaid : Prop := Claim7.holds Tryz.pinned (.plain (OpenSpec.ofChange closureWorldsSpec)) closureWorldsCard

/-- THE TIED CARD OF 'dioramalaw31.ClosureParts'. -/
def closurePartsCard : Claim7 := { stood := { row := closurePartsRow, standIns := [], harness := (true, "a80c9f2314abe9980edc2a684aa1e253350e764bbe96d478c4a505985b249a57"), looks := true }, kinds := [], alts := [], laidByText := true, laidKinds := [.data, .data, .data, .widerDeep, .funcs], laidTests := true, laidLooks := .later }
def ClosurePartsCardSaid : Prop := Claim7.holds Tryz.pinned (.plain (OpenSpec.ofChange closurePartsSpec)) closurePartsCard

/-- THE SECOND FORM's CARD OF 'dioramalaw31.ClosureWithout'. -/
def closureWithoutUptoCard : Claim7 := { stood := { row := closureWithoutUptoRow, standIns := [], harness := (true, "a80c9f2314abe9980edc2a684aa1e253350e764bbe96d478c4a505985b249a57"), looks := true }, kinds := [], alts := [], laidByText := true, laidKinds := [.data, .data, .data, .widerDeep, .funcs], laidTests := true, laidLooks := .later }
def ClosureWithoutUptoCardSaid : Prop := Claim7.holds Tryz.pinned (.plain (OpenSpec.upto closureWithoutSpec)) closureWithoutUptoCard

/-- THE SECOND FORM's CARD OF 'dioramalaw31.ClosureGreatest'. -/
def closureGreatestUptoCard : Claim7 := { stood := { row := closureGreatestUptoRow, standIns := [], harness := (true, "a80c9f2314abe9980edc2a684aa1e253350e764bbe96d478c4a505985b249a57"), looks := true }, kinds := [], alts := [], laidByText := true, laidKinds := [.data, .data, .data, .widerDeep, .funcs], laidTests := true, laidLooks := .later }
def ClosureGreatestUptoCardSaid : Prop := Claim7.holds Tryz.pinned (.plain (OpenSpec.upto closureGreatestSpec)) closureGreatestUptoCard

/-- THE SECOND FORM's CARD OF 'dioramalaw31.ClosureUnion'. -/
def closureUnionUptoCard : Claim7 := { stood := { row := closureUnionUptoRow, standIns := [], harness := (true, "a80c9f2314abe9980edc2a684aa1e253350e764bbe96d478c4a505985b249a57"), looks := true }, kinds := [], alts := [], laidByText := true, laidKinds := [.data, .data, .data, .widerDeep, .funcs], laidTests := true, laidLooks := .later }
def ClosureUnionUptoCardSaid : Prop := Claim7.holds Tryz.pinned (.plain (OpenSpec.upto closureUnionSpec)) closureUnionUptoCard

/-- THE SECOND FORM's CARD OF 'dioramalaw31.ClosureValid'. -/
def closureValidUptoCard : Claim7 := { stood := { row := closureValidUptoRow, standIns := [], harness := (true, "a80c9f2314abe9980edc2a684aa1e253350e764bbe96d478c4a505985b249a57"), looks := true }, kinds := [], alts := [], laidByText := true, laidKinds := [.data, .data, .data, .widerDeep, .funcs], laidTests := true, laidLooks := .later }
def ClosureValidUptoCardSaid : Prop := Claim7.holds Tryz.pinned (.plain (OpenSpec.upto closureValidSpec)) closureValidUptoCard

/-- THE SECOND FORM's CARD OF 'dioramalaw31.ClosureWorlds'. -/
def closureWorldsUptoCard : Claim7 := { stood := { row := closureWorldsUptoRow, standIns := [], harness := (true, "a80c9f2314abe9980edc2a684aa1e253350e764bbe96d478c4a505985b249a57"), looks := true }, kinds := [], alts := [], laidByText := true, laidKinds := [.data, .data, .data, .widerDeep, .funcs], laidTests := true, laidLooks := .later }
def ClosureWorldsUptoCardSaid : Prop := Claim7.holds Tryz.pinned (.plain (OpenSpec.upto closureWorldsSpec)) closureWorldsUptoCard

/-- THE SECOND FORM's CARD OF 'dioramalaw31.ClosureParts'. -/
def closurePartsUptoCard : Claim7 := { stood := { row := closurePartsUptoRow, standIns := [], harness := (true, "a80c9f2314abe9980edc2a684aa1e253350e764bbe96d478c4a505985b249a57"), looks := true }, kinds := [], alts := [], laidByText := true, laidKinds := [.data, .data, .data, .widerDeep, .funcs], laidTests := true, laidLooks := .later }
def ClosurePartsUptoCardSaid : Prop := Claim7.holds Tryz.pinned (.plain (OpenSpec.upto closurePartsSpec)) closurePartsUptoCard
end Rows
end Go.Proofs.YtjbbmjjildhfbaaGreatDoor
