/-
  DERIVED. GIVEN WITH THE SEED: THE CARDS: each row of YtceilmhinkkgfaaDoorRows.lean that lists a variable, with what it lists TIED to the program's text (the seventh form; the later family's looks); each row that meets fmt, with fmt's text TOLD by the authors' own Lean function (tested against real Go, not proved from fmt's source: count such statements apart). THE CARD IS WHAT COUNTS. Prove the row's statement (the work); the ties are given (YtceilmhinkkgfaaDoorTie.lean); close each card by the builder's one call (the guide's Derived/Test/ToyasCard.lean, 'card_holds'). Laid BY PROGRAM, IN A SANDBOX (cutbox-door.mjs). By AI agents, Wed Nov 11 2026. No macro, syntax, notation, axiom, sorry.
-/
import Derived.Test.YtceilmhinkkgfaaDoorRows
import GoSem.ClaimSeven
namespace Go.Proofs.YtceilmhinkkgfaaDoor
namespace Rows

/-- THE TIED CARD OF 'graverlaw11.RawParses'. -/
def rawParsesCard : Claim7 := { stood := { row := rawParsesRow, standIns := [], harness := (true, "aa48b8d16cd83265341945fd2f16247eb3a03f8155bfeb6fef841848d44e57ae"), looks := false }, kinds := [], alts := [], laidByText := true, laidKinds := [.widerDeep, .widerDeep, .widerDeep, .widerDeep], laidTests := true, laidLooks := .later }
def RawParsesCardSaid : Prop := Claim7.holds Tryd.pinned (.plain (OpenSpec.ofChange rawParsesSpec)) rawParsesCard

/-- THE TIED CARD OF 'graverlaw11.RawAny'. -/
def rawAnyCard : Claim7 := { stood := { row := rawAnyRow, standIns := [], harness := (true, "aa48b8d16cd83265341945fd2f16247eb3a03f8155bfeb6fef841848d44e57ae"), looks := false }, kinds := [], alts := [], laidByText := true, laidKinds := [.widerDeep, .widerDeep, .widerDeep, .widerDeep], laidTests := true, laidLooks := .later }
def RawAnyCardSaid : Prop := Claim7.holds Tryd.pinned (.plain (OpenSpec.ofChange rawAnySpec)) rawAnyCard

/-- THE TIED CARD OF 'graverlaw11.RawTells'. -/
def rawTellsCard : Claim7 := { stood := { row := rawTellsRow, standIns := [], harness := (true, "aa48b8d16cd83265341945fd2f16247eb3a03f8155bfeb6fef841848d44e57ae"), looks := false }, kinds := [], alts := [], laidByText := true, laidKinds := [.widerDeep, .widerDeep, .widerDeep, .widerDeep], laidTests := true, laidLooks := .later }
def RawTellsCardSaid : Prop := Claim7.holds Tryd.pinned (.plain (OpenSpec.ofChange rawTellsSpec)) rawTellsCard

/-- THE SECOND FORM's CARD OF 'graverlaw11.RawParses'. -/
def rawParsesUptoCard : Claim7 := { stood := { row := rawParsesUptoRow, standIns := [], harness := (true, "aa48b8d16cd83265341945fd2f16247eb3a03f8155bfeb6fef841848d44e57ae"), looks := false }, kinds := [], alts := [], laidByText := true, laidKinds := [.widerDeep, .widerDeep, .widerDeep, .widerDeep], laidTests := true, laidLooks := .later }
def RawParsesUptoCardSaid : Prop := Claim7.holds Tryd.pinned (.plain (OpenSpec.upto rawParsesSpec)) rawParsesUptoCard

/-- THE SECOND FORM's CARD OF 'graverlaw11.RawAny'. -/
def rawAnyUptoCard : Claim7 := { stood := { row := rawAnyUptoRow, standIns := [], harness := (true, "aa48b8d16cd83265341945fd2f16247eb3a03f8155bfeb6fef841848d44e57ae"), looks := false }, kinds := [], alts := [], laidByText := true, laidKinds := [.widerDeep, .widerDeep, .widerDeep, .widerDeep], laidTests := true, laidLooks := .later }
def RawAnyUptoCardSaid : Prop := Claim7.holds Tryd.pinned (.plain (OpenSpec.upto rawAnySpec)) rawAnyUptoCard

/-- THE SECOND FORM's CARD OF 'graverlaw11.RawTells'. -/
def rawTellsUptoCard : Claim7 := { stood := { row := rawTellsUptoRow, standIns := [], harness := (true, "aa48b8d16cd83265341945fd2f16247eb3a03f8155bfeb6fef841848d44e57ae"), looks := false }, kinds := [], alts := [], laidByText := true, laidKinds := [.widerDeep, .widerDeep, .widerDeep, .widerDeep], laidTests := true, laidLooks := .later }
def RawTellsUptoCardSaid : Prop := Claim7.holds Tryd.pinned (.plain (OpenSpec.upto rawTellsSpec)) rawTellsUptoCard
end Rows
end Go.Proofs.YtceilmhinkkgfaaDoor
