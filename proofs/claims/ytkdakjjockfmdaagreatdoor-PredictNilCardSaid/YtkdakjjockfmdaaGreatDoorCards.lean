/-
  DERIVED. GIVEN WITH THE SEED: THE CARDS: each row of YtkdakjjockfmdaaGreatDoorRows.lean that lists a variable, with what it lists TIED to the program's text (the seventh form; the later family's looks); each row that meets fmt, with fmt's text TOLD by the authors' own Lean function (tested against real Go, not proved from fmt's source: count such statements apart). THE CARD IS WHAT COUNTS. Prove the row's statement (the work); the ties are given (YtkdakjjockfmdaaGreatDoorTie.lean); close each card by the builder's one call (the guide's Derived/Test/ToyasCard.lean, 'card_holds'). Laid BY PROGRAM, IN A SANDBOX (cutbox-door.mjs). By AI agents, Wed Nov 11 2026. No macro, syntax, notation, axiom, sorry.
-/
import Derived.Test.YtkdakjjockfmdaaGreatDoorRows
import GoSem.ClaimSeven
namespace Go.Proofs.YtkdakjjockfmdaaGreatDoor
namespace Rows

/-- THE TIED CARD OF 'wayfarerlaw25.PredictOnly'. -/
def predictOnlyCard : Claim7 := { stood := { row := predictOnlyRow, standIns := [], harness := (true, "065e557a9fadaca96ac6b26725b2ecd65b19b4f7d4513adbb70c0a69c58d0977"), looks := false }, kinds := [], alts := [], laidByText := true, laidKinds := [.data, .data, .data], laidTests := true, laidLooks := .later }
def PredictOnlyCardSaid : Prop := Claim7.holds Tryz.pinned (.plain (OpenSpec.ofChange predictOnlySpec)) predictOnlyCard

/-- THE TIED CARD OF 'wayfarerlaw25.PredictNil'. -/
def predictNilCard : Claim7 := { stood := { row := predictNilRow, standIns := [], harness := (true, "065e557a9fadaca96ac6b26725b2ecd65b19b4f7d4513adbb70c0a69c58d0977"), looks := false }, kinds := [], alts := [], laidByText := true, laidKinds := [.data, .data, .data], laidTests := true, laidLooks := .later }
def PredictNilCardSaid : Prop := Claim7.holds Tryz.pinned (.plain (OpenSpec.ofChange predictNilSpec)) predictNilCard

/-- THE SECOND FORM's CARD OF 'wayfarerlaw25.PredictOnly'. -/
def predictOnlyUptoCard : Claim7 := { stood := { row := predictOnlyUptoRow, standIns := [], harness := (true, "065e557a9fadaca96ac6b26725b2ecd65b19b4f7d4513adbb70c0a69c58d0977"), looks := false }, kinds := [], alts := [], laidByText := true, laidKinds := [.data, .data, .data], laidTests := true, laidLooks := .later }
def PredictOnlyUptoCardSaid : Prop := Claim7.holds Tryz.pinned (.plain (OpenSpec.upto predictOnlySpec)) predictOnlyUptoCard

/-- THE SECOND FORM's CARD OF 'wayfarerlaw25.PredictNil'. -/
def predictNilUptoCard : Claim7 := { stood := { row := predictNilUptoRow, standIns := [], harness := (true, "065e557a9fadaca96ac6b26725b2ecd65b19b4f7d4513adbb70c0a69c58d0977"), looks := false }, kinds := [], alts := [], laidByText := true, laidKinds := [.data, .data, .data], laidTests := true, laidLooks := .later }
def PredictNilUptoCardSaid : Prop := Claim7.holds Tryz.pinned (.plain (OpenSpec.upto predictNilSpec)) predictNilUptoCard
end Rows
end Go.Proofs.YtkdakjjockfmdaaGreatDoor
