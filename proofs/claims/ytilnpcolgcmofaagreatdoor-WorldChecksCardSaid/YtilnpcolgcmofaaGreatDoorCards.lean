/-
  DERIVED. GIVEN WITH THE SEED: THE CARDS: each row of YtilnpcolgcmofaaGreatDoorRows.lean that lists a variable, with what it lists TIED to the program's text (the seventh form; the later family's looks); each row that meets fmt, with fmt's text TOLD by the authors' own Lean function (tested against real Go, not proved from fmt's source: count such statements apart). THE CARD IS WHAT COUNTS. Prove the row's statement (the work); the ties are given (YtilnpcolgcmofaaGreatDoorTie.lean); close each card by the builder's one call (the guide's Derived/Test/ToyasCard.lean, 'card_holds'). Laid BY PROGRAM, IN A SANDBOX (cutbox-door.mjs). By AI agents, Wed Nov 11 2026. No macro, syntax, notation, axiom, sorry.
-/
import Derived.Test.YtilnpcolgcmofaaGreatDoorRows
import GoSem.ClaimSeven
namespace Go.Proofs.YtilnpcolgcmofaaGreatDoor
namespace Rows

/-- THE TIED CARD OF 'dioramalaw20.WorldChecks'. -/
def worldChecksCard : Claim7 := { stood := { row := worldChecksRow, standIns := [], harness := (true, "0861047b4efdae081b57c064a9ec474e1e17a031b895305c24d2eefc40d0af66"), looks := true }, kinds := [], alts := [], laidByText := true, laidKinds := [.data, .data, .data, .data, .widerDeep, .funcs], laidTests := true, laidLooks := .later }
def WorldChecksCardSaid : Prop := Claim7.holds Tryz.pinned (.plain (OpenSpec.ofChange worldChecksSpec)) worldChecksCard

/-- THE TIED CARD OF 'dioramalaw30.TrialRuns'. -/
def trialRunsCard : Claim7 := { stood := { row := trialRunsRow, standIns := [], harness := (true, "0861047b4efdae081b57c064a9ec474e1e17a031b895305c24d2eefc40d0af66"), looks := true }, kinds := [], alts := [], laidByText := true, laidKinds := [.data, .data, .data, .data, .widerDeep, .funcs], laidTests := true, laidLooks := .later }
def TrialRunsCardSaid : Prop := Claim7.holds Tryz.pinned (.plain (OpenSpec.ofChange trialRunsSpec)) trialRunsCard

/-- THE TIED CARD OF 'dioramalaw30.TrialRead'. -/
def trialReadCard : Claim7 := { stood := { row := trialReadRow, standIns := [], harness := (true, "0861047b4efdae081b57c064a9ec474e1e17a031b895305c24d2eefc40d0af66"), looks := true }, kinds := [], alts := [], laidByText := true, laidKinds := [.data, .data, .data, .data, .widerDeep, .funcs], laidTests := true, laidLooks := .later }
def TrialReadCardSaid : Prop := Claim7.holds Tryz.pinned (.plain (OpenSpec.ofChange trialReadSpec)) trialReadCard

/-- THE TIED CARD OF 'dioramalaw30.TrialSteps'. -/
def trialStepsCard : Claim7 := { stood := { row := trialStepsRow, standIns := [], harness := (true, "0861047b4efdae081b57c064a9ec474e1e17a031b895305c24d2eefc40d0af66"), looks := true }, kinds := [], alts := [], laidByText := true, laidKinds := [.data, .data, .data, .data, .widerDeep, .funcs], laidTests := true, laidLooks := .later }
def TrialStepsCardSaid : Prop := Claim7.holds Tryz.pinned (.plain (OpenSpec.ofChange trialStepsSpec)) trialStepsCard

/-- THE SECOND FORM's CARD OF 'dioramalaw20.WorldChecks'. -/
def worldChecksUptoCard : Claim7 := { stood := { row := worldChecksUptoRow, standIns := [], harness := (true, "0861047b4efdae081b57c064a9ec474e1e17a031b895305c24d2eefc40d0af66"), looks := true }, kinds := [], alts := [], laidByText := true, laidKinds := [.data, .data, .data, .data, .widerDeep, .funcs], laidTests := true, laidLooks := .later }
def WorldChecksUptoCardSaid : Prop := Claim7.holds Tryz.pinned (.plain (OpenSpec.upto worldChecksSpec)) worldChecksUptoCard

/-- THE SECOND FORM's CARD OF 'dioramalaw30.TrialRuns'. -/
def trialRunsUptoCard : Claim7 := { stood := { row := trialRunsUptoRow, standIns := [], harness := (true, "0861047b4efdae081b57c064a9ec474e1e17a031b895305c24d2eefc40d0af66"), looks := true }, kinds := [], alts := [], laidByText := true, laidKinds := [.data, .data, .data, .data, .widerDeep, .funcs], laidTests := true, laidLooks := .later }
def TrialRunsUptoCardSaid : Prop := Claim7.holds Tryz.pinned (.plain (OpenSpec.upto trialRunsSpec)) trialRunsUptoCard

/-- THE SECOND FORM's CARD OF 'dioramalaw30.TrialRead'. -/
def trialReadUptoCard : Claim7 := { stood := { row := trialReadUptoRow, standIns := [], harness := (true, "0861047b4efdae081b57c064a9ec474e1e17a031b895305c24d2eefc40d0af66"), looks := true }, kinds := [], alts := [], laidByText := true, laidKinds := [.data, .data, .data, .data, .widerDeep, .funcs], laidTests := true, laidLooks := .later }
def TrialReadUptoCardSaid : Prop := Claim7.holds Tryz.pinned (.plain (OpenSpec.upto trialReadSpec)) trialReadUptoCard

/-- THE SECOND FORM's CARD OF 'dioramalaw30.TrialSteps'. -/
def trialStepsUptoCard : Claim7 := { stood := { row := trialStepsUptoRow, standIns := [], harness := (true, "0861047b4efdae081b57c064a9ec474e1e17a031b895305c24d2eefc40d0af66"), looks := true }, kinds := [], alts := [], laidByText := true, laidKinds := [.data, .data, .data, .data, .widerDeep, .funcs], laidTests := true, laidLooks := .later }
def TrialStepsUptoCardSaid : Prop := Claim7.holds Tryz.pinned (.plain (OpenSpec.upto trialStepsSpec)) trialStepsUptoCard
end Rows
end Go.Proofs.YtilnpcolgcmofaaGreatDoor
