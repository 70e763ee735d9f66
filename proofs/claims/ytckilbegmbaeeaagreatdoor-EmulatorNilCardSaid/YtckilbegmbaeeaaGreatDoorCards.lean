/-
  DERIVED. GIVEN WITH THE SEED: THE CARDS: each row of YtckilbegmbaeeaaGreatDoorRows.lean that lists a variable, with what it lists TIED to the program's text (the seventh form; the later family's looks); each row that meets fmt, with fmt's text TOLD by the authors' own Lean function (tested against real Go, not proved from fmt's source: count such statements apart). THE CARD IS WHAT COUNTS. Prove the row's statement (the work); the ties are given (YtckilbegmbaeeaaGreatDoorTie.lean); close each card by the builder's one call (the guide's Derived/Test/ToyasCard.lean, 'card_holds'). Laid BY PROGRAM, IN A SANDBOX (cutbox-door.mjs). By AI agents, Wed Nov 11 2026. No macro, syntax, notation, axiom, sorry.
-/
import Derived.Test.YtckilbegmbaeeaaGreatDoorRows
import GoSem.ClaimSeven
namespace Go.Proofs.YtckilbegmbaeeaaGreatDoor
namespace Rows

/-- THE TIED CARD OF 'wayfarerlaw17.EmulatorStays'. -/
def emulatorStaysCard : Claim7 := { stood := { row := emulatorStaysRow, standIns := [], harness := (true, "eb02453dedfe87b461f6fe1fa3b69c8d0ff12b30938e8f8fd39f038b37338e78"), looks := false }, kinds := [], alts := [], laidByText := true, laidKinds := [.data, .data, .data], laidTests := true, laidLooks := .later }
def EmulatorStaysCardSaid : Prop := Claim7.holds Tryz.pinned (.plain (OpenSpec.ofChange emulatorStaysSpec)) emulatorStaysCard

/-- THE TIED CARD OF 'wayfarerlaw17.EmulatorFresh'. -/
def emulatorFreshCard : Claim7 := { stood := { row := emulatorFreshRow, standIns := [], harness := (true, "eb02453dedfe87b461f6fe1fa3b69c8d0ff12b30938e8f8fd39f038b37338e78"), looks := false }, kinds := [], alts := [], laidByText := true, laidKinds := [.data, .data, .data], laidTests := true, laidLooks := .later }
def EmulatorFreshCardSaid : Prop := Claim7.holds Tryz.pinned (.plain (OpenSpec.ofChange emulatorFreshSpec)) emulatorFreshCard

/-- THE TIED CARD OF 'wayfarerlaw17.EmulatorDoes'. -/
def emulatorDoesCard : Claim7 := { stood := { row := emulatorDoesRow, standIns := [], harness := (true, "eb02453dedfe87b461f6fe1fa3b69c8d0ff12b30938e8f8fd39f038b37338e78"), looks := false }, kinds := [], alts := [], laidByText := true, laidKinds := [.data, .data, .data], laidTests := true, laidLooks := .later }
def EmulatorDoesCardSaid : Prop := Claim7.holds Tryz.pinned (.plain (OpenSpec.ofChange emulatorDoesSpec)) emulatorDoesCard

/-- THE TIED CARD OF 'wayfarerlaw17.EmulatorWrites'. -/
def emulatorWritesCard : Claim7 := { stood := { row := emulatorWritesRow, standIns := [], harness := (true, "eb02453dedfe87b461f6fe1fa3b69c8d0ff12b30938e8f8fd39f038b37338e78"), looks := false }, kinds := [], alts := [], laidByText := true, laidKinds := [.data, .data, .data], laidTests := true, laidLooks := .later }
def EmulatorWritesCardSaid : Prop := Claim7.holds Tryz.pinned (.plain (OpenSpec.ofChange emulatorWritesSpec)) emulatorWritesCard

/-- THE TIED CARD OF 'wayfarerlaw17.EmulatorNil'. -/
def emulatorNilCard : Claim7 := { stood := { row := emulatorNilRow, standIns := [], harness := (true, "eb02453dedfe87b461f6fe1fa3b69c8d0ff12b30938e8f8fd39f038b37338e78"), looks := false }, kinds := [], alts := [], laidByText := true, laidKinds := [.data, .data, .data], laidTests := true, laidLooks := .later }
def EmulatorNilCardSaid : Prop := Claim7.holds Tryz.pinned (.plain (OpenSpec.ofChange emulatorNilSpec)) emulatorNilCard

/-- THE SECOND FORM's CARD OF 'wayfarerlaw17.EmulatorStays'. -/
def emulatorStaysUptoCard : Claim7 := { stood := { row := emulatorStaysUptoRow, standIns := [], harness := (true, "eb02453dedfe87b461f6fe1fa3b69c8d0ff12b30938e8f8fd39f038b37338e78"), looks := false }, kinds := [], alts := [], laidByText := true, laidKinds := [.data, .data, .data], laidTests := true, laidLooks := .later }
def EmulatorStaysUptoCardSaid : Prop := Claim7.holds Tryz.pinned (.plain (OpenSpec.upto emulatorStaysSpec)) emulatorStaysUptoCard

/-- THE SECOND FORM's CARD OF 'wayfarerlaw17.EmulatorFresh'. -/
def emulatorFreshUptoCard : Claim7 := { stood := { row := emulatorFreshUptoRow, standIns := [], harness := (true, "eb02453dedfe87b461f6fe1fa3b69c8d0ff12b30938e8f8fd39f038b37338e78"), looks := false }, kinds := [], alts := [], laidByText := true, laidKinds := [.data, .data, .data], laidTests := true, laidLooks := .later }
def EmulatorFreshUptoCardSaid : Prop := Claim7.holds Tryz.pinned (.plain (OpenSpec.upto emulatorFreshSpec)) emulatorFreshUptoCard

/-- THE SECOND FORM's CARD OF 'wayfarerlaw17.EmulatorDoes'. -/
def emulatorDoesUptoCard : Claim7 := { stood := { row := emulatorDoesUptoRow, standIns := [], harness := (true, "eb02453dedfe87b461f6fe1fa3b69c8d0ff12b30938e8f8fd39f038b37338e78"), looks := false }, kinds := [], alts := [], laidByText := true, laidKinds := [.data, .data, .data], laidTests := true, laidLooks := .later }
def EmulatorDoesUptoCardSaid : Prop := Claim7.holds Tryz.pinned (.plain (OpenSpec.upto emulatorDoesSpec)) emulatorDoesUptoCard

/-- THE SECOND FORM's CARD OF 'wayfarerlaw17.EmulatorWrites'. -/
def emulatorWritesUptoCard : Claim7 := { stood := { row := emulatorWritesUptoRow, standIns := [], harness := (true, "eb02453dedfe87b461f6fe1fa3b69c8d0ff12b30938e8f8fd39f038b37338e78"), looks := false }, kinds := [], alts := [], laidByText := true, laidKinds := [.data, .data, .data], laidTests := true, laidLooks := .later }
def EmulatorWritesUptoCardSaid : Prop := Claim7.holds Tryz.pinned (.plain (OpenSpec.upto emulatorWritesSpec)) emulatorWritesUptoCard

/-- THE SECOND FORM's CARD OF 'wayfarerlaw17.EmulatorNil'. -/
def emulatorNilUptoCard : Claim7 := { stood := { row := emulatorNilUptoRow, standIns := [], harness := (true, "eb02453dedfe87b461f6fe1fa3b69c8d0ff12b30938e8f8fd39f038b37338e78"), looks := false }, kinds := [], alts := [], laidByText := true, laidKinds := [.data, .data, .data], laidTests := true, laidLooks := .later }
def EmulatorNilUptoCardSaid : Prop := Claim7.holds Tryz.pinned (.plain (OpenSpec.upto emulatorNilSpec)) emulatorNilUptoCard
end Rows
end Go.Proofs.YtckilbegmbaeeaaGreatDoor
