/-
  DERIVED. GIVEN WITH THE SEED: THE CARDS: each row of YtejcbkhhnibnaaaGreatDoorRows.lean that lists a variable, with what it lists TIED to the program's text (the seventh form; the later family's looks); each row that meets fmt, with fmt's text TOLD by the authors' own Lean function (tested against real Go, not proved from fmt's source: count such statements apart). THE CARD IS WHAT COUNTS. Prove the row's statement (the work); the ties are given (YtejcbkhhnibnaaaGreatDoorTie.lean); close each card by the builder's one call (the guide's Derived/Test/ToyasCard.lean, 'card_holds'). Laid BY PROGRAM, IN A SANDBOX (cutbox-door.mjs). By AI agents, Wed Nov 11 2026. No macro, syntax, notation, axiom, sorry.
-/
import Derived.Test.YtejcbkhhnibnaaaGreatDoorRows
import GoSem.ClaimSeven
namespace Go.Proofs.YtejcbkhhnibnaaaGreatDoor
namespace Rows

/-- THE TIED CARD OF 'dovetaillaw11.MarkerNames'. -/
def markerNamesCard : Claim7 := { stood := { row := markerNamesRow, standIns := [], harness := (true, "de4d9cffccdfa7228dcc851f78102e7be18fd6faac5fbaa3e60775221cd81539"), looks := true }, kinds := [], alts := [], laidByText := true, laidKinds := [.data, .pinned], laidTests := true, laidLooks := .later }
def MarkerNamesCardSaid : Prop := Claim7.holds Tryz.pinned (.plain (OpenSpec.ofChange markerNamesSpec)) markerNamesCard

/-- THE TIED CARD OF 'dovetaillaw11.MarkerParts'. -/
def markerPartsCard : Claim7 := { stood := { row := markerPartsRow, standIns := [], harness := (true, "de4d9cffccdfa7228dcc851f78102e7be18fd6faac5fbaa3e60775221cd81539"), looks := true }, kinds := [], alts := [], laidByText := true, laidKinds := [.data, .pinned], laidTests := true, laidLooks := .later }
def MarkerPartsCardSaid : Prop := Claim7.holds Tryz.pinned (.plain (OpenSpec.ofChange markerPartsSpec)) markerPartsCard

/-- THE TIED CARD OF 'dovetaillaw11.MarkerHolds'. -/
def markerHoldsCard : Claim7 := { stood := { row := markerHoldsRow, standIns := [], harness := (true, "de4d9cffccdfa7228dcc851f78102e7be18fd6faac5fbaa3e60775221cd81539"), looks := true }, kinds := [], alts := [], laidByText := true, laidKinds := [.data, .pinned], laidTests := true, laidLooks := .later }
def MarkerHoldsCardSaid : Prop := Claim7.holds Tryz.pinned (.plain (OpenSpec.ofChange markerHoldsSpec)) markerHoldsCard

/-- THE TIED CARD OF 'dovetaillaw11.MarkerBack'. -/
def markerBackCard : Claim7 := { stood := { row := markerBackRow, standIns := [], harness := (true, "de4d9cffccdfa7228dcc851f78102e7be18fd6faac5fbaa3e60775221cd81539"), looks := true }, kinds := [], alts := [], laidByText := true, laidKinds := [.data, .pinned], laidTests := true, laidLooks := .later }
def MarkerBackCardSaid : Prop := Claim7.holds Tryz.pinned (.plain (OpenSpec.ofChange markerBackSpec)) markerBackCard

/-- THE SECOND FORM's CARD OF 'dovetaillaw11.MarkerNames'. -/
def markerNamesUptoCard : Claim7 := { stood := { row := markerNamesUptoRow, standIns := [], harness := (true, "de4d9cffccdfa7228dcc851f78102e7be18fd6faac5fbaa3e60775221cd81539"), looks := true }, kinds := [], alts := [], laidByText := true, laidKinds := [.data, .pinned], laidTests := true, laidLooks := .later }
def MarkerNamesUptoCardSaid : Prop := Claim7.holds Tryz.pinned (.plain (OpenSpec.upto markerNamesSpec)) markerNamesUptoCard

/-- THE SECOND FORM's CARD OF 'dovetaillaw11.MarkerParts'. -/
def markerPartsUptoCard : Claim7 := { stood := { row := markerPartsUptoRow, standIns := [], harness := (true, "de4d9cffccdfa7228dcc851f78102e7be18fd6faac5fbaa3e60775221cd81539"), looks := true }, kinds := [], alts := [], laidByText := true, laidKinds := [.data, .pinned], laidTests := true, laidLooks := .later }
def MarkerPartsUptoCardSaid : Prop := Claim7.holds Tryz.pinned (.plain (OpenSpec.upto markerPartsSpec)) markerPartsUptoCard

/-- THE SECOND FORM's CARD OF 'dovetaillaw11.MarkerHolds'. -/
def markerHoldsUptoCard : Claim7 := { stood := { row := markerHoldsUptoRow, standIns := [], harness := (true, "de4d9cffccdfa7228dcc851f78102e7be18fd6faac5fbaa3e60775221cd81539"), looks := true }, kinds := [], alts := [], laidByText := true, laidKinds := [.data, .pinned], laidTests := true, laidLooks := .later }
def MarkerHoldsUptoCardSaid : Prop := Claim7.holds Tryz.pinned (.plain (OpenSpec.upto markerHoldsSpec)) markerHoldsUptoCard

/-- THE SECOND FORM's CARD OF 'dovetaillaw11.MarkerBack'. -/
def markerBackUptoCard : Claim7 := { stood := { row := markerBackUptoRow, standIns := [], harness := (true, "de4d9cffccdfa7228dcc851f78102e7be18fd6faac5fbaa3e60775221cd81539"), looks := true }, kinds := [], alts := [], laidByText := true, laidKinds := [.data, .pinned], laidTests := true, laidLooks := .later }
def MarkerBackUptoCardSaid : Prop := Claim7.holds Tryz.pinned (.plain (OpenSpec.upto markerBackSpec)) markerBackUptoCard
end Rows
end Go.Proofs.YtejcbkhhnibnaaaGreatDoor
