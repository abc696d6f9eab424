/-
  DERIVED. GIVEN WITH THE SEED: THE CARDS: each row of YtalafpigfeiaiaaGreatDoorRows.lean that lists a variable, with what it lists TIED to the program's text (the seventh form; the later family's looks); each row that meets fmt, with fmt's text TOLD by the authors' own Lean function (tested against real Go, not proved from fmt's source: count such statements apart). THE CARD IS WHAT COUNTS. Prove the row's statement (the work); the ties are given (YtalafpigfeiaiaaGreatDoorTie.lean); close each card by the builder's one call (the guide's Derived/Test/ToyasCard.lean, 'card_holds'). Laid BY PROGRAM, IN A SANDBOX (cutbox-door.mjs). By AI agents, Wed Nov 11 2026. No macro, syntax, notation, axiom, sorry.
-/
import Derived.Test.YtalafpigfeiaiaaGreatDoorRows
import GoSem.ClaimSeven
namespace Go.Proofs.YtalafpigfeiaiaaGreatDoor
namespace Rows

/-- THE TIED CARD OF 'lockagelaw16.KeyMade'. -/
def keyMadeCard : Claim7 := { stood := { row := keyMadeRow, standIns := [], harness := (true, "c6c0272bf724c0c5764f7a2bc5b36fbdeaa9ce8d70109fc1435d85057a41957b"), looks := false }, kinds := [], alts := [], laidByText := true, laidKinds := [.data, .pinned], laidTests := true, laidLooks := .later }
def KeyMadeCardSaid : Prop := Claim7.holds Tryz.pinned (.plain (OpenSpec.ofChange keyMadeSpec)) keyMadeCard

/-- THE TIED CARD OF 'lockagelaw16.KeyShared'. -/
def keySharedCard : Claim7 := { stood := { row := keySharedRow, standIns := [], harness := (true, "c6c0272bf724c0c5764f7a2bc5b36fbdeaa9ce8d70109fc1435d85057a41957b"), looks := false }, kinds := [], alts := [], laidByText := true, laidKinds := [.data, .pinned], laidTests := true, laidLooks := .later }
def KeySharedCardSaid : Prop := Claim7.holds Tryz.pinned (.plain (OpenSpec.ofChange keySharedSpec)) keySharedCard

/-- THE TIED CARD OF 'lockagelaw16.KeyFits'. -/
def keyFitsCard : Claim7 := { stood := { row := keyFitsRow, standIns := [], harness := (true, "c6c0272bf724c0c5764f7a2bc5b36fbdeaa9ce8d70109fc1435d85057a41957b"), looks := false }, kinds := [], alts := [], laidByText := true, laidKinds := [.data, .pinned], laidTests := true, laidLooks := .later }
def KeyFitsCardSaid : Prop := Claim7.holds Tryz.pinned (.plain (OpenSpec.ofChange keyFitsSpec)) keyFitsCard

/-- THE TIED CARD OF 'lockagelaw16.KeyValues'. -/
def keyValuesCard : Claim7 := { stood := { row := keyValuesRow, standIns := [], harness := (true, "c6c0272bf724c0c5764f7a2bc5b36fbdeaa9ce8d70109fc1435d85057a41957b"), looks := false }, kinds := [], alts := [], laidByText := true, laidKinds := [.data, .pinned], laidTests := true, laidLooks := .later }
def KeyValuesCardSaid : Prop := Claim7.holds Tryz.pinned (.plain (OpenSpec.ofChange keyValuesSpec)) keyValuesCard

/-- THE TIED CARD OF 'lockagelaw16.KeySame'. -/
def keySameCard : Claim7 := { stood := { row := keySameRow, standIns := [], harness := (true, "c6c0272bf724c0c5764f7a2bc5b36fbdeaa9ce8d70109fc1435d85057a41957b"), looks := false }, kinds := [], alts := [], laidByText := true, laidKinds := [.data, .pinned], laidTests := true, laidLooks := .later }
def KeySameCardSaid : Prop := Claim7.holds Tryz.pinned (.plain (OpenSpec.ofChange keySameSpec)) keySameCard

/-- THE TIED CARD OF 'lockagelaw09.MessageSmall'. -/
def messageSmallCard : Claim7 := { stood := { row := messageSmallRow, standIns := [], harness := (true, "c6c0272bf724c0c5764f7a2bc5b36fbdeaa9ce8d70109fc1435d85057a41957b"), looks := false }, kinds := [], alts := [], laidByText := true, laidKinds := [.data, .data, .data, .data, .pinned], laidTests := true, laidLooks := .later }
def MessageSmallCardSaid : Prop := Claim7.holds Tryz.pinned (.plain (OpenSpec.ofChange messageSmallSpec)) messageSmallCard

/-- THE TIED CARD OF 'lockagelaw09.MessageAny'. -/
def messageAnyCard : Claim7 := { stood := { row := messageAnyRow, standIns := [], harness := (true, "c6c0272bf724c0c5764f7a2bc5b36fbdeaa9ce8d70109fc1435d85057a41957b"), looks := false }, kinds := [], alts := [], laidByText := true, laidKinds := [.data, .data, .data, .data, .pinned], laidTests := true, laidLooks := .later }
def MessageAnyCardSaid : Prop := Claim7.holds Tryz.pinned (.plain (OpenSpec.ofChange messageAnySpec)) messageAnyCard

/-- THE TIED CARD OF 'lockagelaw09.MessageSpoilt'. -/
def messageSpoiltCard : Claim7 := { stood := { row := messageSpoiltRow, standIns := [], harness := (true, "c6c0272bf724c0c5764f7a2bc5b36fbdeaa9ce8d70109fc1435d85057a41957b"), looks := false }, kinds := [], alts := [], laidByText := true, laidKinds := [.data, .data, .data, .data, .pinned], laidTests := true, laidLooks := .later }
def MessageSpoiltCardSaid : Prop := Claim7.holds Tryz.pinned (.plain (OpenSpec.ofChange messageSpoiltSpec)) messageSpoiltCard

/-- THE TIED CARD OF 'lockagelaw09.MessageLong'. -/
def messageLongCard : Claim7 := { stood := { row := messageLongRow, standIns := [], harness := (true, "c6c0272bf724c0c5764f7a2bc5b36fbdeaa9ce8d70109fc1435d85057a41957b"), looks := false }, kinds := [], alts := [], laidByText := true, laidKinds := [.data, .data, .data, .data, .pinned], laidTests := true, laidLooks := .later }
def MessageLongCardSaid : Prop := Claim7.holds Tryz.pinned (.plain (OpenSpec.ofChange messageLongSpec)) messageLongCard

/-- THE TIED CARD OF 'lockagelaw09.MessagePrint'. -/
def messagePrintCard : Claim7 := { stood := { row := messagePrintRow, standIns := [], harness := (true, "c6c0272bf724c0c5764f7a2bc5b36fbdeaa9ce8d70109fc1435d85057a41957b"), looks := false }, kinds := [], alts := [], laidByText := true, laidKinds := [.data, .data, .data, .data, .pinned], laidTests := true, laidLooks := .later }
def MessagePrintCardSaid : Prop := Claim7.holds Tryz.pinned (.plain (OpenSpec.ofChange messagePrintSpec)) messagePrintCard

/-- THE TIED CARD OF 'lockagelaw09.MessageSplit'. -/
def messageSplitCard : Claim7 := { stood := { row := messageSplitRow, standIns := [], harness := (true, "c6c0272bf724c0c5764f7a2bc5b36fbdeaa9ce8d70109fc1435d85057a41957b"), looks := false }, kinds := [], alts := [], laidByText := true, laidKinds := [.data, .data, .data, .data, .pinned], laidTests := true, laidLooks := .later }
def MessageSplitCardSaid : Prop := Claim7.holds Tryz.pinned (.plain (OpenSpec.ofChange messageSplitSpec)) messageSplitCard

/-- THE TIED CARD OF 'lockagelaw09.MessageBack'. -/
def messageBackCard : Claim7 := { stood := { row := messageBackRow, standIns := [], harness := (true, "c6c0272bf724c0c5764f7a2bc5b36fbdeaa9ce8d70109fc1435d85057a41957b"), looks := false }, kinds := [], alts := [], laidByText := true, laidKinds := [.data, .data, .data, .data, .pinned], laidTests := true, laidLooks := .later }
def MessageBackCardSaid : Prop := Claim7.holds Tryz.pinned (.plain (OpenSpec.ofChange messageBackSpec)) messageBackCard

/-- THE SECOND FORM's CARD OF 'lockagelaw16.KeyMade'. -/
def keyMadeUptoCard : Claim7 := { stood := { row := keyMadeUptoRow, standIns := [], harness := (true, "c6c0272bf724c0c5764f7a2bc5b36fbdeaa9ce8d70109fc1435d85057a41957b"), looks := false }, kinds := [], alts := [], laidByText := true, laidKinds := [.data, .pinned], laidTests := true, laidLooks := .later }
def KeyMadeUptoCardSaid : Prop := Claim7.holds Tryz.pinned (.plain (OpenSpec.upto keyMadeSpec)) keyMadeUptoCard

/-- THE SECOND FORM's CARD OF 'lockagelaw16.KeyShared'. -/
def keySharedUptoCard : Claim7 := { stood := { row := keySharedUptoRow, standIns := [], harness := (true, "c6c0272bf724c0c5764f7a2bc5b36fbdeaa9ce8d70109fc1435d85057a41957b"), looks := false }, kinds := [], alts := [], laidByText := true, laidKinds := [.data, .pinned], laidTests := true, laidLooks := .later }
def KeySharedUptoCardSaid : Prop := Claim7.holds Tryz.pinned (.plain (OpenSpec.upto keySharedSpec)) keySharedUptoCard

/-- THE SECOND FORM's CARD OF 'lockagelaw16.KeyFits'. -/
def keyFitsUptoCard : Claim7 := { stood := { row := keyFitsUptoRow, standIns := [], harness := (true, "c6c0272bf724c0c5764f7a2bc5b36fbdeaa9ce8d70109fc1435d85057a41957b"), looks := false }, kinds := [], alts := [], laidByText := true, laidKinds := [.data, .pinned], laidTests := true, laidLooks := .later }
def KeyFitsUptoCardSaid : Prop := Claim7.holds Tryz.pinned (.plain (OpenSpec.upto keyFitsSpec)) keyFitsUptoCard

/-- THE SECOND FORM's CARD OF 'lockagelaw16.KeyValues'. -/
def keyValuesUptoCard : Claim7 := { stood := { row := keyValuesUptoRow, standIns := [], harness := (true, "c6c0272bf724c0c5764f7a2bc5b36fbdeaa9ce8d70109fc1435d85057a41957b"), looks := false }, kinds := [], alts := [], laidByText := true, laidKinds := [.data, .pinned], laidTests := true, laidLooks := .later }
def KeyValuesUptoCardSaid : Prop := Claim7.holds Tryz.pinned (.plain (OpenSpec.upto keyValuesSpec)) keyValuesUptoCard

/-- THE SECOND FORM's CARD OF 'lockagelaw16.KeySame'. -/
def keySameUptoCard : Claim7 := { stood := { row := keySameUptoRow, standIns := [], harness := (true, "c6c0272bf724c0c5764f7a2bc5b36fbdeaa9ce8d70109fc1435d85057a41957b"), looks := false }, kinds := [], alts := [], laidByText := true, laidKinds := [.data, .pinned], laidTests := true, laidLooks := .later }
def KeySameUptoCardSaid : Prop := Claim7.holds Tryz.pinned (.plain (OpenSpec.upto keySameSpec)) keySameUptoCard

/-- THE SECOND FORM's CARD OF 'lockagelaw09.MessageSmall'. -/
def messageSmallUptoCard : Claim7 := { stood := { row := messageSmallUptoRow, standIns := [], harness := (true, "c6c0272bf724c0c5764f7a2bc5b36fbdeaa9ce8d70109fc1435d85057a41957b"), looks := false }, kinds := [], alts := [], laidByText := true, laidKinds := [.data, .data, .data, .data, .pinned], laidTests := true, laidLooks := .later }
def MessageSmallUptoCardSaid : Prop := Claim7.holds Tryz.pinned (.plain (OpenSpec.upto messageSmallSpec)) messageSmallUptoCard

/-- THE SECOND FORM's CARD OF 'lockagelaw09.MessageAny'. -/
def messageAnyUptoCard : Claim7 := { stood := { row := messageAnyUptoRow, standIns := [], harness := (true, "c6c0272bf724c0c5764f7a2bc5b36fbdeaa9ce8d70109fc1435d85057a41957b"), looks := false }, kinds := [], alts := [], laidByText := true, laidKinds := [.data, .data, .data, .data, .pinned], laidTests := true, laidLooks := .later }
def MessageAnyUptoCardSaid : Prop := Claim7.holds Tryz.pinned (.plain (OpenSpec.upto messageAnySpec)) messageAnyUptoCard

/-- THE SECOND FORM's CARD OF 'lockagelaw09.MessageSpoilt'. -/
def messageSpoiltUptoCard : Claim7 := { stood := { row := messageSpoiltUptoRow, standIns := [], harness := (true, "c6c0272bf724c0c5764f7a2bc5b36fbdeaa9ce8d70109fc1435d85057a41957b"), looks := false }, kinds := [], alts := [], laidByText := true, laidKinds := [.data, .data, .data, .data, .pinned], laidTests := true, laidLooks := .later }
def MessageSpoiltUptoCardSaid : Prop := Claim7.holds Tryz.pinned (.plain (OpenSpec.upto messageSpoiltSpec)) messageSpoiltUptoCard

/-- THE SECOND FORM's CARD OF 'lockagelaw09.MessageLong'. -/
def messageLongUptoCard : Claim7 := { stood := { row := messageLongUptoRow, standIns := [], harness := (true, "c6c0272bf724c0c5764f7a2bc5b36fbdeaa9ce8d70109fc1435d85057a41957b"), looks := false }, kinds := [], alts := [], laidByText := true, laidKinds := [.data, .data, .data, .data, .pinned], laidTests := true, laidLooks := .later }
def MessageLongUptoCardSaid : Prop := Claim7.holds Tryz.pinned (.plain (OpenSpec.upto messageLongSpec)) messageLongUptoCard

/-- THE SECOND FORM's CARD OF 'lockagelaw09.MessagePrint'. -/
def messagePrintUptoCard : Claim7 := { stood := { row := messagePrintUptoRow, standIns := [], harness := (true, "c6c0272bf724c0c5764f7a2bc5b36fbdeaa9ce8d70109fc1435d85057a41957b"), looks := false }, kinds := [], alts := [], laidByText := true, laidKinds := [.data, .data, .data, .data, .pinned], laidTests := true, laidLooks := .later }
def MessagePrintUptoCardSaid : Prop := Claim7.holds Tryz.pinned (.plain (OpenSpec.upto messagePrintSpec)) messagePrintUptoCard

/-- THE SECOND FORM's CARD OF 'lockagelaw09.MessageSplit'. -/
def messageSplitUptoCard : Claim7 := { stood := { row := messageSplitUptoRow, standIns := [], harness := (true, "c6c0272bf724c0c5764f7a2bc5b36fbdeaa9ce8d70109fc1435d85057a41957b"), looks := false }, kinds := [], alts := [], laidByText := true, laidKinds := [.data, .data, .data, .data, .pinned], laidTests := true, laidLooks := .later }
def MessageSplitUptoCardSaid : Prop := Claim7.holds Tryz.pinned (.plain (OpenSpec.upto messageSplitSpec)) messageSplitUptoCard

/-- THE SECOND FORM's CARD OF 'lockagelaw09.MessageBack'. -/
def messageBackUptoCard : Claim7 := { stood := { row := messageBackUptoRow, standIns := [], harness := (true, "c6c0272bf724c0c5764f7a2bc5b36fbdeaa9ce8d70109fc1435d85057a41957b"), looks := false }, kinds := [], alts := [], laidByText := true, laidKinds := [.data, .data, .data, .data, .pinned], laidTests := true, laidLooks := .later }
def MessageBackUptoCardSaid : Prop := Claim7.holds Tryz.pinned (.plain (OpenSpec.upto messageBackSpec)) messageBackUptoCard
end Rows
end Go.Proofs.YtalafpigfeiaiaaGreatDoor
