/-
  DERIVED. GIVEN WITH THE SEED: THE CARDS: each row of YtlcfiilejnnlnaaGreatDoorRows.lean that lists a variable, with what it lists TIED to the program's text (the seventh form; the later family's looks); each row that meets fmt, with fmt's text TOLD by the authors' own Lean function (tested against real Go, not proved from fmt's source: count such statements apart). THE CARD IS WHAT COUNTS. Prove the row's statement (the work); the ties are given (YtlcfiilejnnlnaaGreatDoorTie.lean); close each card by the builder's one call (the guide's Derived/Test/ToyasCard.lean, 'card_holds'). Laid BY PROGRAM, IN A SANDBOX (cutbox-door.mjs). By AI agents, Wed Nov 11 2026. No macro, syntax, notation, axiom, sorry.
-/
import Derived.Test.YtlcfiilejnnlnaaGreatDoorRows
import GoSem.ClaimSeven
namespace Go.Proofs.YtlcfiilejnnlnaaGreatDoor
namespace Rows

/-- THE TIED CARD OF 'dioramalaw20.WorldBytes'. -/
def worldBytesCard : Claim7 := { stood := { row := worldBytesRow, standIns := [], harness := (true, "cd156c99cba57cfbf69da6f90c34a4f9c92a8533fefb2755bf28e1b4ec9929cd"), looks := true }, kinds := [], alts := [], laidByText := true, laidKinds := [.data, .data, .data, .data, .data, .widerDeep, .funcs], laidTests := true, laidLooks := .later }
def WorldBytesCardSaid : Prop := Claim7.holds Tryz.pinned (.plain (OpenSpec.ofChange worldBytesSpec)) worldBytesCard

/-- THE TIED CARD OF 'dioramalaw20.WorldOrder'. -/
def worldOrderCard : Claim7 := { stood := { row := worldOrderRow, standIns := [], harness := (true, "cd156c99cba57cfbf69da6f90c34a4f9c92a8533fefb2755bf28e1b4ec9929cd"), looks := true }, kinds := [], alts := [], laidByText := true, laidKinds := [.data, .data, .data, .widerDeep, .funcs], laidTests := true, laidLooks := .later }
def WorldOrderCardSaid : Prop := Claim7.holds Tryz.pinned (.plain (OpenSpec.ofChange worldOrderSpec)) worldOrderCard

/-- THE TIED CARD OF 'dioramalaw20.WorldAnswers'. -/
def worldAnswersCard : Claim7 := { stood := { row := worldAnswersRow, standIns := [], harness := (true, "cd156c99cba57cfbf69da6f90c34a4f9c92a8533fefb2755bf28e1b4ec9929cd"), looks := true }, kinds := [], alts := [], laidByText := true, laidKinds := [.data, .data, .data, .widerDeep, .funcs], laidTests := true, laidLooks := .later }
def WorldAnswersCardSaid : Prop := Claim7.holds Tryz.pinned (.plain (OpenSpec.ofChange worldAnswersSpec)) worldAnswersCard

/-- THE SECOND FORM's CARD OF 'dioramalaw20.WorldBytes'. -/
def worldBytesUptoCard : Claim7 := { stood := { row := worldBytesUptoRow, standIns := [], harness := (true, "cd156c99cba57cfbf69da6f90c34a4f9c92a8533fefb2755bf28e1b4ec9929cd"), looks := true }, kinds := [], alts := [], laidByText := true, laidKinds := [.data, .data, .data, .data, .data, .widerDeep, .funcs], laidTests := true, laidLooks := .later }
def WorldBytesUptoCardSaid : Prop := Claim7.holds Tryz.pinned (.plain (OpenSpec.upto worldBytesSpec)) worldBytesUptoCard

/-- THE SECOND FORM's CARD OF 'dioramalaw20.WorldOrder'. -/
def worldOrderUptoCard : Claim7 := { stood := { row := worldOrderUptoRow, standIns := [], harness := (true, "cd156c99cba57cfbf69da6f90c34a4f9c92a8533fefb2755bf28e1b4ec9929cd"), looks := true }, kinds := [], alts := [], laidByText := true, laidKinds := [.data, .data, .data, .widerDeep, .funcs], laidTests := true, laidLooks := .later }
def WorldOrderUptoCardSaid : Prop := Claim7.holds Tryz.pinned (.plain (OpenSpec.upto worldOrderSpec)) worldOrderUptoCard

/-- THE SECOND FORM's CARD OF 'dioramalaw20.WorldAnswers'. -/
def worldAnswersUptoCard : Claim7 := { stood := { row := worldAnswersUptoRow, standIns := [], harness := (true, "cd156c99cba57cfbf69da6f90c34a4f9c92a8533fefb2755bf28e1b4ec9929cd"), looks := true }, kinds := [], alts := [], laidByText := true, laidKinds := [.data, .data, .data, .widerDeep, .funcs], laidTests := true, laidLooks := .later }
def WorldAnswersUptoCardSaid : Prop := Claim7.holds Tryz.pinned (.plain (OpenSpec.upto worldAnswersSpec)) worldAnswersUptoCard
end Rows
end Go.Proofs.YtlcfiilejnnlnaaGreatDoor
