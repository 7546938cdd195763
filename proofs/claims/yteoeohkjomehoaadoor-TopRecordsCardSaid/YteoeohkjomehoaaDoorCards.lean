/-
  DERIVED. GIVEN WITH THE SEED: THE CARDS: each row of YteoeohkjomehoaaDoorRows.lean that lists a variable, with what it lists TIED to the program's text (the seventh form; the later family's looks); each row that meets fmt, with fmt's text TOLD by the authors' own Lean function (tested against real Go, not proved from fmt's source: count such statements apart). THE CARD IS WHAT COUNTS. Prove the row's statement (the work); the ties are given (YteoeohkjomehoaaDoorTie.lean); close each card by the builder's one call (the guide's Derived/Test/ToyasCard.lean, 'card_holds'). Laid BY PROGRAM, IN A SANDBOX (cutbox-door.mjs). By AI agents, Wed Nov 11 2026. No macro, syntax, notation, axiom, sorry.
-/
import Derived.Test.YteoeohkjomehoaaDoorRows
import GoSem.ClaimSeven
namespace Go.Proofs.YteoeohkjomehoaaDoor
namespace Rows

/-- THE TIED CARD OF 'gravertop.TopRecords'. -/
def topRecordsCard : Claim7 := { stood := { row := topRecordsRow, standIns := [], harness := (true, "f606fde8d4b9d50d63338e4d0c8fd12c3c6d5bf740ff7ae9395a3cbe63446d1a"), looks := false }, kinds := [], alts := [], laidByText := true, laidKinds := [.widerDeep, .widerDeep, .widerDeep, .widerDeep, .widerDeep, .widerDeep], laidTests := true, laidLooks := .later }
def TopRecordsCardSaid : Prop := Claim7.holds Tryd.pinned (.plain (OpenSpec.ofChange topRecordsSpec)) topRecordsCard

/-- THE TIED CARD OF 'graverlaw08.SymrecWords'. -/
def symrecWordsCard : Claim7 := { stood := { row := symrecWordsRow, standIns := [], harness := (true, "f606fde8d4b9d50d63338e4d0c8fd12c3c6d5bf740ff7ae9395a3cbe63446d1a"), looks := false }, kinds := [], alts := [], laidByText := true, laidKinds := [.data, .data, .data, .widerDeep, .widerDeep, .widerDeep, .widerDeep], laidTests := true, laidLooks := .later }
def SymrecWordsCardSaid : Prop := Claim7.holds Tryd.pinned (.plain (OpenSpec.ofChange symrecWordsSpec)) symrecWordsCard

/-- THE TIED CARD OF 'graverlaw06.ShdrWords'. -/
def shdrWordsCard : Claim7 := { stood := { row := shdrWordsRow, standIns := [], harness := (true, "f606fde8d4b9d50d63338e4d0c8fd12c3c6d5bf740ff7ae9395a3cbe63446d1a"), looks := false }, kinds := [], alts := [], laidByText := true, laidKinds := [.data, .data, .data, .widerDeep, .data], laidTests := true, laidLooks := .later }
def ShdrWordsCardSaid : Prop := Claim7.holds Tryd.pinned (.plain (OpenSpec.ofChange shdrWordsSpec)) shdrWordsCard

/-- THE TIED CARD OF 'graverlaw14.CheckShapes'. -/
def checkShapesCard : Claim7 := { stood := { row := checkShapesRow, standIns := [], harness := (true, "f606fde8d4b9d50d63338e4d0c8fd12c3c6d5bf740ff7ae9395a3cbe63446d1a"), looks := false }, kinds := [], alts := [], laidByText := true, laidKinds := [.widerDeep, .widerDeep], laidTests := true, laidLooks := .later }
def CheckShapesCardSaid : Prop := Claim7.holds Tryd.pinned (.plain (OpenSpec.ofChange checkShapesSpec)) checkShapesCard

/-- THE TIED CARD OF 'graverlaw14.CheckWrong'. -/
def checkWrongCard : Claim7 := { stood := { row := checkWrongRow, standIns := [], harness := (true, "f606fde8d4b9d50d63338e4d0c8fd12c3c6d5bf740ff7ae9395a3cbe63446d1a"), looks := false }, kinds := [], alts := [], laidByText := true, laidKinds := [.widerDeep, .widerDeep], laidTests := true, laidLooks := .later }
def CheckWrongCardSaid : Prop := Claim7.holds Tryd.pinned (.plain (OpenSpec.ofChange checkWrongSpec)) checkWrongCard

/-- THE TIED CARD OF 'graverlaw14.CheckMany'. -/
def checkManyCard : Claim7 := { stood := { row := checkManyRow, standIns := [], harness := (true, "f606fde8d4b9d50d63338e4d0c8fd12c3c6d5bf740ff7ae9395a3cbe63446d1a"), looks := false }, kinds := [], alts := [], laidByText := true, laidKinds := [.widerDeep, .widerDeep], laidTests := true, laidLooks := .later }
def CheckManyCardSaid : Prop := Claim7.holds Tryd.pinned (.plain (OpenSpec.ofChange checkManySpec)) checkManyCard

/-- THE TIED CARD OF 'graverlaw14.CheckFaults'. -/
def checkFaultsCard : Claim7 := { stood := { row := checkFaultsRow, standIns := [], harness := (true, "f606fde8d4b9d50d63338e4d0c8fd12c3c6d5bf740ff7ae9395a3cbe63446d1a"), looks := false }, kinds := [], alts := [], laidByText := true, laidKinds := [.widerDeep, .widerDeep], laidTests := true, laidLooks := .later }
def CheckFaultsCardSaid : Prop := Claim7.holds Tryd.pinned (.plain (OpenSpec.ofChange checkFaultsSpec)) checkFaultsCard

/-- THE TIED CARD OF 'graverlaw18.RefsKeeps'. -/
def refsKeepsCard : Claim7 := { stood := { row := refsKeepsRow, standIns := [], harness := (true, "f606fde8d4b9d50d63338e4d0c8fd12c3c6d5bf740ff7ae9395a3cbe63446d1a"), looks := false }, kinds := [], alts := [], laidByText := true, laidKinds := [.widerDeep, .widerDeep], laidTests := true, laidLooks := .later }
def RefsKeepsCardSaid : Prop := Claim7.holds Tryd.pinned (.plain (OpenSpec.ofChange refsKeepsSpec)) refsKeepsCard

/-- THE SECOND FORM's CARD OF 'gravertop.TopRecords'. -/
def topRecordsUptoCard : Claim7 := { stood := { row := topRecordsUptoRow, standIns := [], harness := (true, "f606fde8d4b9d50d63338e4d0c8fd12c3c6d5bf740ff7ae9395a3cbe63446d1a"), looks := false }, kinds := [], alts := [], laidByText := true, laidKinds := [.widerDeep, .widerDeep, .widerDeep, .widerDeep, .widerDeep, .widerDeep], laidTests := true, laidLooks := .later }
def TopRecordsUptoCardSaid : Prop := Claim7.holds Tryd.pinned (.plain (OpenSpec.upto topRecordsSpec)) topRecordsUptoCard

/-- THE SECOND FORM's CARD OF 'graverlaw08.SymrecWords'. -/
def symrecWordsUptoCard : Claim7 := { stood := { row := symrecWordsUptoRow, standIns := [], harness := (true, "f606fde8d4b9d50d63338e4d0c8fd12c3c6d5bf740ff7ae9395a3cbe63446d1a"), looks := false }, kinds := [], alts := [], laidByText := true, laidKinds := [.data, .data, .data, .widerDeep, .widerDeep, .widerDeep, .widerDeep], laidTests := true, laidLooks := .later }
def SymrecWordsUptoCardSaid : Prop := Claim7.holds Tryd.pinned (.plain (OpenSpec.upto symrecWordsSpec)) symrecWordsUptoCard

/-- THE SECOND FORM's CARD OF 'graverlaw06.ShdrWords'. -/
def shdrWordsUptoCard : Claim7 := { stood := { row := shdrWordsUptoRow, standIns := [], harness := (true, "f606fde8d4b9d50d63338e4d0c8fd12c3c6d5bf740ff7ae9395a3cbe63446d1a"), looks := false }, kinds := [], alts := [], laidByText := true, laidKinds := [.data, .data, .data, .widerDeep, .data], laidTests := true, laidLooks := .later }
def ShdrWordsUptoCardSaid : Prop := Claim7.holds Tryd.pinned (.plain (OpenSpec.upto shdrWordsSpec)) shdrWordsUptoCard

/-- THE SECOND FORM's CARD OF 'graverlaw14.CheckShapes'. -/
def checkShapesUptoCard : Claim7 := { stood := { row := checkShapesUptoRow, standIns := [], harness := (true, "f606fde8d4b9d50d63338e4d0c8fd12c3c6d5bf740ff7ae9395a3cbe63446d1a"), looks := false }, kinds := [], alts := [], laidByText := true, laidKinds := [.widerDeep, .widerDeep], laidTests := true, laidLooks := .later }
def CheckShapesUptoCardSaid : Prop := Claim7.holds Tryd.pinned (.plain (OpenSpec.upto checkShapesSpec)) checkShapesUptoCard

/-- THE SECOND FORM's CARD OF 'graverlaw14.CheckWrong'. -/
def checkWrongUptoCard : Claim7 := { stood := { row := checkWrongUptoRow, standIns := [], harness := (true, "f606fde8d4b9d50d63338e4d0c8fd12c3c6d5bf740ff7ae9395a3cbe63446d1a"), looks := false }, kinds := [], alts := [], laidByText := true, laidKinds := [.widerDeep, .widerDeep], laidTests := true, laidLooks := .later }
def CheckWrongUptoCardSaid : Prop := Claim7.holds Tryd.pinned (.plain (OpenSpec.upto checkWrongSpec)) checkWrongUptoCard

/-- THE SECOND FORM's CARD OF 'graverlaw14.CheckMany'. -/
def checkManyUptoCard : Claim7 := { stood := { row := checkManyUptoRow, standIns := [], harness := (true, "f606fde8d4b9d50d63338e4d0c8fd12c3c6d5bf740ff7ae9395a3cbe63446d1a"), looks := false }, kinds := [], alts := [], laidByText := true, laidKinds := [.widerDeep, .widerDeep], laidTests := true, laidLooks := .later }
def CheckManyUptoCardSaid : Prop := Claim7.holds Tryd.pinned (.plain (OpenSpec.upto checkManySpec)) checkManyUptoCard

/-- THE SECOND FORM's CARD OF 'graverlaw14.CheckFaults'. -/
def checkFaultsUptoCard : Claim7 := { stood := { row := checkFaultsUptoRow, standIns := [], harness := (true, "f606fde8d4b9d50d63338e4d0c8fd12c3c6d5bf740ff7ae9395a3cbe63446d1a"), looks := false }, kinds := [], alts := [], laidByText := true, laidKinds := [.widerDeep, .widerDeep], laidTests := true, laidLooks := .later }
def CheckFaultsUptoCardSaid : Prop := Claim7.holds Tryd.pinned (.plain (OpenSpec.upto checkFaultsSpec)) checkFaultsUptoCard

/-- THE SECOND FORM's CARD OF 'graverlaw18.RefsKeeps'. -/
def refsKeepsUptoCard : Claim7 := { stood := { row := refsKeepsUptoRow, standIns := [], harness := (true, "f606fde8d4b9d50d63338e4d0c8fd12c3c6d5bf740ff7ae9395a3cbe63446d1a"), looks := false }, kinds := [], alts := [], laidByText := true, laidKinds := [.widerDeep, .widerDeep], laidTests := true, laidLooks := .later }
def RefsKeepsUptoCardSaid : Prop := Claim7.holds Tryd.pinned (.plain (OpenSpec.upto refsKeepsSpec)) refsKeepsUptoCard
end Rows
end Go.Proofs.YteoeohkjomehoaaDoor
