/-
  DERIVED. GIVEN WITH THE SEED: THE CARDS: each row of YtjmjebbjfjgbeaaDoorRows.lean that lists a variable, with what it lists TIED to the program's text (the seventh form; the later family's looks); each row that meets fmt, with fmt's text TOLD by the authors' own Lean function (tested against real Go, not proved from fmt's source: count such statements apart). THE CARD IS WHAT COUNTS. Prove the row's statement (the work); the ties are given (YtjmjebbjfjgbeaaDoorTie.lean); close each card by the builder's one call (the guide's Derived/Test/ToyasCard.lean, 'card_holds'). Laid BY PROGRAM, IN A SANDBOX (cutbox-door.mjs). By AI agents, Wed Nov 11 2026. No macro, syntax, notation, axiom, sorry.
-/
import Derived.Test.YtjmjebbjfjgbeaaDoorRows
import GoSem.ClaimSeven
namespace Go.Proofs.YtjmjebbjfjgbeaaDoor
namespace Rows

/-- THE TIED CARD OF 'graverlaw08.SymrecPuts'. -/
def symrecPutsCard : Claim7 := { stood := { row := symrecPutsRow, standIns := [], harness := (true, "eb631af6a29171be39e988ea051faf6e32308279761bdfeca523d38c4786c01b"), looks := false }, kinds := [], alts := [], laidByText := true, laidKinds := [.widerDeep, .widerDeep], laidTests := true, laidLooks := .later }
def SymrecPutsCardSaid : Prop := Claim7.holds Tryd.pinned (.plain (OpenSpec.ofChange symrecPutsSpec)) symrecPutsCard

/-- THE TIED CARD OF 'graverlaw08.SymrecReads'. -/
def symrecReadsCard : Claim7 := { stood := { row := symrecReadsRow, standIns := [], harness := (true, "eb631af6a29171be39e988ea051faf6e32308279761bdfeca523d38c4786c01b"), looks := false }, kinds := [], alts := [], laidByText := true, laidKinds := [.widerDeep, .widerDeep], laidTests := true, laidLooks := .later }
def SymrecReadsCardSaid : Prop := Claim7.holds Tryd.pinned (.plain (OpenSpec.ofChange symrecReadsSpec)) symrecReadsCard

/-- THE TIED CARD OF 'graverlaw08.SymrecInfos'. -/
def symrecInfosCard : Claim7 := { stood := { row := symrecInfosRow, standIns := [], harness := (true, "eb631af6a29171be39e988ea051faf6e32308279761bdfeca523d38c4786c01b"), looks := false }, kinds := [], alts := [], laidByText := true, laidKinds := [.widerDeep, .widerDeep], laidTests := true, laidLooks := .later }
def SymrecInfosCardSaid : Prop := Claim7.holds Tryd.pinned (.plain (OpenSpec.ofChange symrecInfosSpec)) symrecInfosCard

/-- THE TIED CARD OF 'gravertop.TopTables'. -/
def topTablesCard : Claim7 := { stood := { row := topTablesRow, standIns := [], harness := (true, "eb631af6a29171be39e988ea051faf6e32308279761bdfeca523d38c4786c01b"), looks := false }, kinds := [], alts := [], laidByText := true, laidKinds := [.widerDeep], laidTests := true, laidLooks := .later }
def TopTablesCardSaid : Prop := Claim7.holds Tryd.pinned (.plain (OpenSpec.ofChange topTablesSpec)) topTablesCard

/-- THE TIED CARD OF 'graverlaw05.EhdrChecks'. -/
def ehdrChecksCard : Claim7 := { stood := { row := ehdrChecksRow, standIns := [], harness := (true, "eb631af6a29171be39e988ea051faf6e32308279761bdfeca523d38c4786c01b"), looks := false }, kinds := [], alts := [], laidByText := true, laidKinds := [.widerDeep], laidTests := true, laidLooks := .later }
def EhdrChecksCardSaid : Prop := Claim7.holds Tryd.pinned (.plain (OpenSpec.ofChange ehdrChecksSpec)) ehdrChecksCard

/-- THE TIED CARD OF 'graverlaw05.EhdrWords'. -/
def ehdrWordsCard : Claim7 := { stood := { row := ehdrWordsRow, standIns := [], harness := (true, "eb631af6a29171be39e988ea051faf6e32308279761bdfeca523d38c4786c01b"), looks := false }, kinds := [], alts := [], laidByText := true, laidKinds := [.data, .data, .data, .widerDeep, .data, .data], laidTests := true, laidLooks := .later }
def EhdrWordsCardSaid : Prop := Claim7.holds Tryd.pinned (.plain (OpenSpec.ofChange ehdrWordsSpec)) ehdrWordsCard

/-- THE TIED CARD OF 'graverlaw07.PhdrWords'. -/
def phdrWordsCard : Claim7 := { stood := { row := phdrWordsRow, standIns := [], harness := (true, "eb631af6a29171be39e988ea051faf6e32308279761bdfeca523d38c4786c01b"), looks := false }, kinds := [], alts := [], laidByText := true, laidKinds := [.data, .data, .data, .widerDeep, .widerDeep, .data], laidTests := true, laidLooks := .later }
def PhdrWordsCardSaid : Prop := Claim7.holds Tryd.pinned (.plain (OpenSpec.ofChange phdrWordsSpec)) phdrWordsCard

/-- THE SECOND FORM's CARD OF 'graverlaw08.SymrecPuts'. -/
def symrecPutsUptoCard : Claim7 := { stood := { row := symrecPutsUptoRow, standIns := [], harness := (true, "eb631af6a29171be39e988ea051faf6e32308279761bdfeca523d38c4786c01b"), looks := false }, kinds := [], alts := [], laidByText := true, laidKinds := [.widerDeep, .widerDeep], laidTests := true, laidLooks := .later }
def SymrecPutsUptoCardSaid : Prop := Claim7.holds Tryd.pinned (.plain (OpenSpec.upto symrecPutsSpec)) symrecPutsUptoCard

/-- THE SECOND FORM's CARD OF 'graverlaw08.SymrecReads'. -/
def symrecReadsUptoCard : Claim7 := { stood := { row := symrecReadsUptoRow, standIns := [], harness := (true, "eb631af6a29171be39e988ea051faf6e32308279761bdfeca523d38c4786c01b"), looks := false }, kinds := [], alts := [], laidByText := true, laidKinds := [.widerDeep, .widerDeep], laidTests := true, laidLooks := .later }
def SymrecReadsUptoCardSaid : Prop := Claim7.holds Tryd.pinned (.plain (OpenSpec.upto symrecReadsSpec)) symrecReadsUptoCard

/-- THE SECOND FORM's CARD OF 'graverlaw08.SymrecInfos'. -/
def symrecInfosUptoCard : Claim7 := { stood := { row := symrecInfosUptoRow, standIns := [], harness := (true, "eb631af6a29171be39e988ea051faf6e32308279761bdfeca523d38c4786c01b"), looks := false }, kinds := [], alts := [], laidByText := true, laidKinds := [.widerDeep, .widerDeep], laidTests := true, laidLooks := .later }
def SymrecInfosUptoCardSaid : Prop := Claim7.holds Tryd.pinned (.plain (OpenSpec.upto symrecInfosSpec)) symrecInfosUptoCard

/-- THE SECOND FORM's CARD OF 'gravertop.TopTables'. -/
def topTablesUptoCard : Claim7 := { stood := { row := topTablesUptoRow, standIns := [], harness := (true, "eb631af6a29171be39e988ea051faf6e32308279761bdfeca523d38c4786c01b"), looks := false }, kinds := [], alts := [], laidByText := true, laidKinds := [.widerDeep], laidTests := true, laidLooks := .later }
def TopTablesUptoCardSaid : Prop := Claim7.holds Tryd.pinned (.plain (OpenSpec.upto topTablesSpec)) topTablesUptoCard

/-- THE SECOND FORM's CARD OF 'graverlaw05.EhdrChecks'. -/
def ehdrChecksUptoCard : Claim7 := { stood := { row := ehdrChecksUptoRow, standIns := [], harness := (true, "eb631af6a29171be39e988ea051faf6e32308279761bdfeca523d38c4786c01b"), looks := false }, kinds := [], alts := [], laidByText := true, laidKinds := [.widerDeep], laidTests := true, laidLooks := .later }
def EhdrChecksUptoCardSaid : Prop := Claim7.holds Tryd.pinned (.plain (OpenSpec.upto ehdrChecksSpec)) ehdrChecksUptoCard

/-- THE SECOND FORM's CARD OF 'graverlaw05.EhdrWords'. -/
def ehdrWordsUptoCard : Claim7 := { stood := { row := ehdrWordsUptoRow, standIns := [], harness := (true, "eb631af6a29171be39e988ea051faf6e32308279761bdfeca523d38c4786c01b"), looks := false }, kinds := [], alts := [], laidByText := true, laidKinds := [.data, .data, .data, .widerDeep, .data, .data], laidTests := true, laidLooks := .later }
def EhdrWordsUptoCardSaid : Prop := Claim7.holds Tryd.pinned (.plain (OpenSpec.upto ehdrWordsSpec)) ehdrWordsUptoCard

/-- THE SECOND FORM's CARD OF 'graverlaw07.PhdrWords'. -/
def phdrWordsUptoCard : Claim7 := { stood := { row := phdrWordsUptoRow, standIns := [], harness := (true, "eb631af6a29171be39e988ea051faf6e32308279761bdfeca523d38c4786c01b"), looks := false }, kinds := [], alts := [], laidByText := true, laidKinds := [.data, .data, .data, .widerDeep, .widerDeep, .data], laidTests := true, laidLooks := .later }
def PhdrWordsUptoCardSaid : Prop := Claim7.holds Tryd.pinned (.plain (OpenSpec.upto phdrWordsSpec)) phdrWordsUptoCard
end Rows
end Go.Proofs.YtjmjebbjfjgbeaaDoor
