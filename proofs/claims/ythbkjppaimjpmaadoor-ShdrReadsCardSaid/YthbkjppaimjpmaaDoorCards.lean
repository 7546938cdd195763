/-
  DERIVED. GIVEN WITH THE SEED: THE CARDS: each row of YthbkjppaimjpmaaDoorRows.lean that lists a variable, with what it lists TIED to the program's text (the seventh form; the later family's looks); each row that meets fmt, with fmt's text TOLD by the authors' own Lean function (tested against real Go, not proved from fmt's source: count such statements apart). THE CARD IS WHAT COUNTS. Prove the row's statement (the work); the ties are given (YthbkjppaimjpmaaDoorTie.lean); close each card by the builder's one call (the guide's Derived/Test/ToyasCard.lean, 'card_holds'). Laid BY PROGRAM, IN A SANDBOX (cutbox-door.mjs). By AI agents, Wed Nov 11 2026. No macro, syntax, notation, axiom, sorry.
-/
import Derived.Test.YthbkjppaimjpmaaDoorRows
import GoSem.ClaimSeven
namespace Go.Proofs.YthbkjppaimjpmaaDoor
namespace Rows

/-- THE TIED CARD OF 'graverlaw05.EhdrPuts'. -/
def ehdrPutsCard : Claim7 := { stood := { row := ehdrPutsRow, standIns := [], harness := (true, "0463fd2864a1d451f7e933386f0310c6e3c8f698b8389c7c2a2998df82b83749"), looks := false }, kinds := [], alts := [], laidByText := true, laidKinds := [.widerDeep], laidTests := true, laidLooks := .later }
def EhdrPutsCardSaid : Prop := Claim7.holds Tryd.pinned (.plain (OpenSpec.ofChange ehdrPutsSpec)) ehdrPutsCard

/-- THE TIED CARD OF 'graverlaw05.EhdrReads'. -/
def ehdrReadsCard : Claim7 := { stood := { row := ehdrReadsRow, standIns := [], harness := (true, "0463fd2864a1d451f7e933386f0310c6e3c8f698b8389c7c2a2998df82b83749"), looks := false }, kinds := [], alts := [], laidByText := true, laidKinds := [.widerDeep], laidTests := true, laidLooks := .later }
def EhdrReadsCardSaid : Prop := Claim7.holds Tryd.pinned (.plain (OpenSpec.ofChange ehdrReadsSpec)) ehdrReadsCard

/-- THE TIED CARD OF 'graverlaw06.ShdrPuts'. -/
def shdrPutsCard : Claim7 := { stood := { row := shdrPutsRow, standIns := [], harness := (true, "0463fd2864a1d451f7e933386f0310c6e3c8f698b8389c7c2a2998df82b83749"), looks := false }, kinds := [], alts := [], laidByText := true, laidKinds := [.widerDeep], laidTests := true, laidLooks := .later }
def ShdrPutsCardSaid : Prop := Claim7.holds Tryd.pinned (.plain (OpenSpec.ofChange shdrPutsSpec)) shdrPutsCard

/-- THE TIED CARD OF 'graverlaw06.ShdrReads'. -/
def shdrReadsCard : Claim7 := { stood := { row := shdrReadsRow, standIns := [], harness := (true, "0463fd2864a1d451f7e933386f0310c6e3c8f698b8389c7c2a2998df82b83749"), looks := false }, kinds := [], alts := [], laidByText := true, laidKinds := [.widerDeep], laidTests := true, laidLooks := .later }
def ShdrReadsCardSaid : Prop := Claim7.holds Tryd.pinned (.plain (OpenSpec.ofChange shdrReadsSpec)) shdrReadsCard

/-- THE TIED CARD OF 'graverlaw07.PhdrPuts'. -/
def phdrPutsCard : Claim7 := { stood := { row := phdrPutsRow, standIns := [], harness := (true, "0463fd2864a1d451f7e933386f0310c6e3c8f698b8389c7c2a2998df82b83749"), looks := false }, kinds := [], alts := [], laidByText := true, laidKinds := [.widerDeep, .widerDeep], laidTests := true, laidLooks := .later }
def PhdrPutsCardSaid : Prop := Claim7.holds Tryd.pinned (.plain (OpenSpec.ofChange phdrPutsSpec)) phdrPutsCard

/-- THE TIED CARD OF 'graverlaw07.PhdrReads'. -/
def phdrReadsCard : Claim7 := { stood := { row := phdrReadsRow, standIns := [], harness := (true, "0463fd2864a1d451f7e933386f0310c6e3c8f698b8389c7c2a2998df82b83749"), looks := false }, kinds := [], alts := [], laidByText := true, laidKinds := [.widerDeep, .widerDeep], laidTests := true, laidLooks := .later }
def PhdrReadsCardSaid : Prop := Claim7.holds Tryd.pinned (.plain (OpenSpec.ofChange phdrReadsSpec)) phdrReadsCard

/-- THE SECOND FORM's CARD OF 'graverlaw05.EhdrPuts'. -/
def ehdrPutsUptoCard : Claim7 := { stood := { row := ehdrPutsUptoRow, standIns := [], harness := (true, "0463fd2864a1d451f7e933386f0310c6e3c8f698b8389c7c2a2998df82b83749"), looks := false }, kinds := [], alts := [], laidByText := true, laidKinds := [.widerDeep], laidTests := true, laidLooks := .later }
def EhdrPutsUptoCardSaid : Prop := Claim7.holds Tryd.pinned (.plain (OpenSpec.upto ehdrPutsSpec)) ehdrPutsUptoCard

/-- THE SECOND FORM's CARD OF 'graverlaw05.EhdrReads'. -/
def ehdrReadsUptoCard : Claim7 := { stood := { row := ehdrReadsUptoRow, standIns := [], harness := (true, "0463fd2864a1d451f7e933386f0310c6e3c8f698b8389c7c2a2998df82b83749"), looks := false }, kinds := [], alts := [], laidByText := true, laidKinds := [.widerDeep], laidTests := true, laidLooks := .later }
def EhdrReadsUptoCardSaid : Prop := Claim7.holds Tryd.pinned (.plain (OpenSpec.upto ehdrReadsSpec)) ehdrReadsUptoCard

/-- THE SECOND FORM's CARD OF 'graverlaw06.ShdrPuts'. -/
def shdrPutsUptoCard : Claim7 := { stood := { row := shdrPutsUptoRow, standIns := [], harness := (true, "0463fd2864a1d451f7e933386f0310c6e3c8f698b8389c7c2a2998df82b83749"), looks := false }, kinds := [], alts := [], laidByText := true, laidKinds := [.widerDeep], laidTests := true, laidLooks := .later }
def ShdrPutsUptoCardSaid : Prop := Claim7.holds Tryd.pinned (.plain (OpenSpec.upto shdrPutsSpec)) shdrPutsUptoCard

/-- THE SECOND FORM's CARD OF 'graverlaw06.ShdrReads'. -/
def shdrReadsUptoCard : Claim7 := { stood := { row := shdrReadsUptoRow, standIns := [], harness := (true, "0463fd2864a1d451f7e933386f0310c6e3c8f698b8389c7c2a2998df82b83749"), looks := false }, kinds := [], alts := [], laidByText := true, laidKinds := [.widerDeep], laidTests := true, laidLooks := .later }
def ShdrReadsUptoCardSaid : Prop := Claim7.holds Tryd.pinned (.plain (OpenSpec.upto shdrReadsSpec)) shdrReadsUptoCard

/-- THE SECOND FORM's CARD OF 'graverlaw07.PhdrPuts'. -/
def phdrPutsUptoCard : Claim7 := { stood := { row := phdrPutsUptoRow, standIns := [], harness := (true, "0463fd2864a1d451f7e933386f0310c6e3c8f698b8389c7c2a2998df82b83749"), looks := false }, kinds := [], alts := [], laidByText := true, laidKinds := [.widerDeep, .widerDeep], laidTests := true, laidLooks := .later }
def PhdrPutsUptoCardSaid : Prop := Claim7.holds Tryd.pinned (.plain (OpenSpec.upto phdrPutsSpec)) phdrPutsUptoCard

/-- THE SECOND FORM's CARD OF 'graverlaw07.PhdrReads'. -/
def phdrReadsUptoCard : Claim7 := { stood := { row := phdrReadsUptoRow, standIns := [], harness := (true, "0463fd2864a1d451f7e933386f0310c6e3c8f698b8389c7c2a2998df82b83749"), looks := false }, kinds := [], alts := [], laidByText := true, laidKinds := [.widerDeep, .widerDeep], laidTests := true, laidLooks := .later }
def PhdrReadsUptoCardSaid : Prop := Claim7.holds Tryd.pinned (.plain (OpenSpec.upto phdrReadsSpec)) phdrReadsUptoCard
end Rows
end Go.Proofs.YthbkjppaimjpmaaDoor
