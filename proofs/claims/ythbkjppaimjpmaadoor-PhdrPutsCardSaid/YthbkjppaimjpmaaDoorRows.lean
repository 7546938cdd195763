/-
  NARROWER THAN 'FOR EVERY INPUT', by the rows' own cells (each row's printed sentence says how): EhdrPuts: laid · EhdrReads: laid · ShdrPuts: laid · ShdrReads: laid · PhdrPuts: laid · PhdrReads: laid.
  DERIVED. THE GIVEN ROWS OF THIS SEAT. 6 by the template 'for every input the law returns true; each argument reads behind the call as it read before'; 0 by the template 'total and deterministic' (their statements: YthbkjppaimjpmaaDoorTotals.lean).
  GIVEN WITH THE SEED: the statements are not yours to turn. If you find one false, say at which input.
  Laid BY PROGRAM, IN A SANDBOX (cutbox-rows.mjs): the forced cells as the released guide's own fill.sh prints them over the translation 8556e1de4c0df903… (all of the seat's roots in one cut). By AI agents, Wed Nov 11 2026. No macro, syntax, notation, axiom, sorry.
-/
import Derived.Test.YthbkjppaimjpmaaDoorChecked
import GoSem.Claim
import GoSem.ClaimJoined
import GoSem.ClaimMapViews
import Derived.JoinedTies
import Derived.KernelRfl
namespace Go.Proofs.YthbkjppaimjpmaaDoor
/- THE CELL 'sum', in the pinned program and in every row, IS THE sha256 OF THE DUMP (.gsa) THAT YthbkjppaimjpmaaDoorProg.lean LOADS. Nothing in Lean hashes anything: it is a label: what it is worth is what the hold of that sum in a sandbox is worth. -/
noncomputable def Tryd.pinned : Pinned := { name := "ythbkjppaimjpmaadoor", sum := "8556e1de4c0df9035845195507d22288c3755fb3f652fa24c64c5743eb8e2134", checked := Tryd.checked }
namespace Rows
def none {H : Type} : Left H := { results := [], args := [] }

/- WHAT THE LISTED PACKAGE-LEVEL VARIABLES READ AS WHEN THE CALL BEGINS. Each datum BY PROGRAM (the guide's laid-datum.mjs) off the statement by which the dump's own 'gosem.cut.vars' lays the variable. In a bare row this is a premise. The card (YthbkjppaimjpmaaDoorCards.lean) ties it to the program's text. -/
def laid_graver_ehdr_sizes {H : Type} : DataW H := .agg [.lit (.int .i64 2), .lit (.int .i64 2), .lit (.int .i64 4), .lit (.int .i64 0), .lit (.int .i64 0), .lit (.int .i64 0), .lit (.int .i64 4), .lit (.int .i64 2), .lit (.int .i64 2), .lit (.int .i64 2), .lit (.int .i64 2), .lit (.int .i64 2), .lit (.int .i64 2)]
def laid_graver_shdr_sizes {H : Type} : DataW H := .agg [.lit (.int .i64 4), .lit (.int .i64 4), .lit (.int .i64 0), .lit (.int .i64 0), .lit (.int .i64 0), .lit (.int .i64 0), .lit (.int .i64 4), .lit (.int .i64 4), .lit (.int .i64 0), .lit (.int .i64 0)]
def laid_graver_phdr_wideSizes {H : Type} : DataW H := .agg [.lit (.int .i64 4), .lit (.int .i64 4), .lit (.int .i64 0), .lit (.int .i64 0), .lit (.int .i64 0), .lit (.int .i64 0), .lit (.int .i64 0), .lit (.int .i64 0)]
def laid_graver_phdr_narrowSizes {H : Type} : DataW H := .agg [.lit (.int .i64 4), .lit (.int .i64 0), .lit (.int .i64 0), .lit (.int .i64 0), .lit (.int .i64 0), .lit (.int .i64 0), .lit (.int .i64 4), .lit (.int .i64 0)]

/-- 'graverlaw05.EhdrPuts': WHATEVER THE INPUT: true; the input reads as it did. -/
def ehdrPutsSpec : ChangeSpec := { name := "ehdrPuts", fn := fun _ => fun
  | [d1, d2, d3] => { results := [.lit (.bool true)], args := [d1, d2, d3] }
  | _ => none }
def ehdrPutsRow : OpenClaim := { program := "ythbkjppaimjpmaadoor", sum := "8556e1de4c0df9035845195507d22288c3755fb3f652fa24c64c5743eb8e2134", func := "graver/graverlaw05.EhdrPuts", spec := "ehdrPuts", inPlace := ["internal/abi.NoEscape"], named := ["graver/ehdr.sizes"], apart := false, laid := [("graver/ehdr.sizes", laid_graver_ehdr_sizes)] }
def EhdrPutsSaid : Prop := ehdrPutsRow.holds Tryd.pinned (OpenSpec.ofChange ehdrPutsSpec)

/-- ITS FALSE NEIGHBOUR: 'it returns false'. Refute it at one input. -/
def ehdrPutsWrong : ChangeSpec := { name := "ehdrPuts", fn := fun _ => fun
  | [d1, d2, d3] => { results := [.lit (.bool false)], args := [d1, d2, d3] }
  | _ => none }
def EhdrPutsWrongFalsely : Prop := ehdrPutsRow.holds Tryd.pinned (OpenSpec.ofChange ehdrPutsWrong)

/-- 'graverlaw05.EhdrReads': WHATEVER THE INPUT: true; the input reads as it did. -/
def ehdrReadsSpec : ChangeSpec := { name := "ehdrReads", fn := fun _ => fun
  | [d1, d2] => { results := [.lit (.bool true)], args := [d1, d2] }
  | _ => none }
def ehdrReadsRow : OpenClaim := { program := "ythbkjppaimjpmaadoor", sum := "8556e1de4c0df9035845195507d22288c3755fb3f652fa24c64c5743eb8e2134", func := "graver/graverlaw05.EhdrReads", spec := "ehdrReads", inPlace := ["internal/abi.NoEscape"], named := ["graver/ehdr.sizes"], apart := false, laid := [("graver/ehdr.sizes", laid_graver_ehdr_sizes)] }
def EhdrReadsSaid : Prop := ehdrReadsRow.holds Tryd.pinned (OpenSpec.ofChange ehdrReadsSpec)

/-- ITS FALSE NEIGHBOUR: 'it returns false'. Refute it at one input. -/
def ehdrReadsWrong : ChangeSpec := { name := "ehdrReads", fn := fun _ => fun
  | [d1, d2] => { results := [.lit (.bool false)], args := [d1, d2] }
  | _ => none }
def EhdrReadsWrongFalsely : Prop := ehdrReadsRow.holds Tryd.pinned (OpenSpec.ofChange ehdrReadsWrong)

/-- 'graverlaw06.ShdrPuts': WHATEVER THE INPUT: true; the input reads as it did. -/
def shdrPutsSpec : ChangeSpec := { name := "shdrPuts", fn := fun _ => fun
  | [d1, d2, d3] => { results := [.lit (.bool true)], args := [d1, d2, d3] }
  | _ => none }
def shdrPutsRow : OpenClaim := { program := "ythbkjppaimjpmaadoor", sum := "8556e1de4c0df9035845195507d22288c3755fb3f652fa24c64c5743eb8e2134", func := "graver/graverlaw06.ShdrPuts", spec := "shdrPuts", inPlace := ["internal/abi.NoEscape"], named := ["graver/shdr.sizes"], apart := false, laid := [("graver/shdr.sizes", laid_graver_shdr_sizes)] }
def ShdrPutsSaid : Prop := shdrPutsRow.holds Tryd.pinned (OpenSpec.ofChange shdrPutsSpec)

/-- ITS FALSE NEIGHBOUR: 'it returns false'. Refute it at one input. -/
def shdrPutsWrong : ChangeSpec := { name := "shdrPuts", fn := fun _ => fun
  | [d1, d2, d3] => { results := [.lit (.bool false)], args := [d1, d2, d3] }
  | _ => none }
def ShdrPutsWrongFalsely : Prop := shdrPutsRow.holds Tryd.pinned (OpenSpec.ofChange shdrPutsWrong)

/-- 'graverlaw06.ShdrReads': WHATEVER THE INPUT: true; the input reads as it did. -/
def shdrReadsSpec : ChangeSpec := { name := "shdrReads", fn := fun _ => fun
  | [d1, d2] => { results := [.lit (.bool true)], args := [d1, d2] }
  | _ => none }
def shdrReadsRow : OpenClaim := { program := "ythbkjppaimjpmaadoor", sum := "8556e1de4c0df9035845195507d22288c3755fb3f652fa24c64c5743eb8e2134", func := "graver/graverlaw06.ShdrReads", spec := "shdrReads", inPlace := ["internal/abi.NoEscape"], named := ["graver/shdr.sizes"], apart := false, laid := [("graver/shdr.sizes", laid_graver_shdr_sizes)] }
def ShdrReadsSaid : Prop := shdrReadsRow.holds Tryd.pinned (OpenSpec.ofChange shdrReadsSpec)

/-- ITS FALSE NEIGHBOUR: 'it returns false'. Refute it at one input. -/
def shdrReadsWrong : ChangeSpec := { name := "shdrReads", fn := fun _ => fun
  | [d1, d2] => { results := [.lit (.bool false)], args := [d1, d2] }
  | _ => none }
def ShdrReadsWrongFalsely : Prop := shdrReadsRow.holds Tryd.pinned (OpenSpec.ofChange shdrReadsWrong)

/-- 'graverlaw07.PhdrPuts': WHATEVER THE INPUT: true; the input reads as it did. -/
def phdrPutsSpec : ChangeSpec := { name := "phdrPuts", fn := fun _ => fun
  | [d1, d2, d3] => { results := [.lit (.bool true)], args := [d1, d2, d3] }
  | _ => none }
def phdrPutsRow : OpenClaim := { program := "ythbkjppaimjpmaadoor", sum := "8556e1de4c0df9035845195507d22288c3755fb3f652fa24c64c5743eb8e2134", func := "graver/graverlaw07.PhdrPuts", spec := "phdrPuts", inPlace := ["internal/abi.NoEscape"], named := ["graver/phdr.wideSizes", "graver/phdr.narrowSizes"], apart := false, laid := [("graver/phdr.wideSizes", laid_graver_phdr_wideSizes), ("graver/phdr.narrowSizes", laid_graver_phdr_narrowSizes)] }
def PhdrPutsSaid : Prop := phdrPutsRow.holds Tryd.pinned (OpenSpec.ofChange phdrPutsSpec)

/-- ITS FALSE NEIGHBOUR: 'it returns false'. Refute it at one input. -/
def phdrPutsWrong : ChangeSpec := { name := "phdrPuts", fn := fun _ => fun
  | [d1, d2, d3] => { results := [.lit (.bool false)], args := [d1, d2, d3] }
  | _ => none }
def PhdrPutsWrongFalsely : Prop := phdrPutsRow.holds Tryd.pinned (OpenSpec.ofChange phdrPutsWrong)

/-- 'graverlaw07.PhdrReads': WHATEVER THE INPUT: true; the input reads as it did. -/
def phdrReadsSpec : ChangeSpec := { name := "phdrReads", fn := fun _ => fun
  | [d1, d2] => { results := [.lit (.bool true)], args := [d1, d2] }
  | _ => none }
def phdrReadsRow : OpenClaim := { program := "ythbkjppaimjpmaadoor", sum := "8556e1de4c0df9035845195507d22288c3755fb3f652fa24c64c5743eb8e2134", func := "graver/graverlaw07.PhdrReads", spec := "phdrReads", inPlace := ["internal/abi.NoEscape"], named := ["graver/phdr.wideSizes", "graver/phdr.narrowSizes"], apart := false, laid := [("graver/phdr.wideSizes", laid_graver_phdr_wideSizes), ("graver/phdr.narrowSizes", laid_graver_phdr_narrowSizes)] }
def PhdrReadsSaid : Prop := phdrReadsRow.holds Tryd.pinned (OpenSpec.ofChange phdrReadsSpec)

/-- ITS FALSE NEIGHBOUR: 'it returns false'. Refute it at one input. -/
def phdrReadsWrong : ChangeSpec := { name := "phdrReads", fn := fun _ => fun
  | [d1, d2] => { results := [.lit (.bool false)], args := [d1, d2] }
  | _ => none }
def PhdrReadsWrongFalsely : Prop := phdrReadsRow.holds Tryd.pinned (OpenSpec.ofChange phdrReadsWrong)

/- THE SECOND FORM. 'bulk': how many values and letters a reading holds, each counted each time it is reached (what is shared counts as often as it is met; a slice's spare places count too). A statement '..UptoSaid' is the law's where the arguments, and the package variables that the reading takes, are together of bulk at most 1048576: NARROWER than '..Said'. Prove '..Said' where nothing that the law and all that it calls make is longer than what came in: it says more and counts as full. Else prove '..UptoSaid'. A law counts once. -/
mutual
def uptoBulk {H : Type} : DataW H → Nat
  | .lit (.string bytes) => bytes.length + 1
  | .lit _ => 1
  | .nil => 1
  | .ptr d => uptoBulk d + 1
  | .slice elems spare => uptoBulkAll elems + uptoBulkAll spare + 1
  | .agg parts => uptoBulkAll parts + 1
  | .iface _ d => uptoBulk d + 1
  | .map entries => uptoBulkEntries entries + 1
  | .held _ => 1
def uptoBulkAll {H : Type} : List (DataW H) → Nat
  | [] => 0
  | d :: r => uptoBulk d + uptoBulkAll r
def uptoBulkEntries {H : Type} : List (Lit × DataW H) → Nat
  | [] => 0
  | x :: r => uptoBulkEntry x + uptoBulkEntries r
def uptoBulkEntry {H : Type} : Lit × DataW H → Nat
  | (.string bytes, d) => bytes.length + uptoBulk d + 1
  | (_, d) => uptoBulk d + 1
 end
def uptoSmall : (H : Type) → List (DataW H) → Bool := fun _ ds => decide (uptoBulkAll ds ≤ 1048576)
def OpenSpec.upto (s : _root_.Go.ChangeSpec) : _root_.Go.OpenSpec := { _root_.Go.OpenSpec.ofChange s with cond := some uptoSmall }

/-- 'graverlaw05.EhdrPuts', WHERE WHAT IT READS IS OF BULK AT MOST 1048576: true; the input reads as it did. -/
def ehdrPutsUptoRow : OpenClaim := { program := "ythbkjppaimjpmaadoor", sum := "8556e1de4c0df9035845195507d22288c3755fb3f652fa24c64c5743eb8e2134", func := "graver/graverlaw05.EhdrPuts", spec := "ehdrPuts", inPlace := ["internal/abi.NoEscape"], named := ["graver/ehdr.sizes"], apart := false, laid := [("graver/ehdr.sizes", laid_graver_ehdr_sizes)], narrowed := true }
def EhdrPutsUptoSaid : Prop := ehdrPutsUptoRow.holds Tryd.pinned (OpenSpec.upto ehdrPutsSpec)

/-- 'graverlaw05.EhdrReads', WHERE WHAT IT READS IS OF BULK AT MOST 1048576: true; the input reads as it did. -/
def ehdrReadsUptoRow : OpenClaim := { program := "ythbkjppaimjpmaadoor", sum := "8556e1de4c0df9035845195507d22288c3755fb3f652fa24c64c5743eb8e2134", func := "graver/graverlaw05.EhdrReads", spec := "ehdrReads", inPlace := ["internal/abi.NoEscape"], named := ["graver/ehdr.sizes"], apart := false, laid := [("graver/ehdr.sizes", laid_graver_ehdr_sizes)], narrowed := true }
def EhdrReadsUptoSaid : Prop := ehdrReadsUptoRow.holds Tryd.pinned (OpenSpec.upto ehdrReadsSpec)

/-- 'graverlaw06.ShdrPuts', WHERE WHAT IT READS IS OF BULK AT MOST 1048576: true; the input reads as it did. -/
def shdrPutsUptoRow : OpenClaim := { program := "ythbkjppaimjpmaadoor", sum := "8556e1de4c0df9035845195507d22288c3755fb3f652fa24c64c5743eb8e2134", func := "graver/graverlaw06.ShdrPuts", spec := "shdrPuts", inPlace := ["internal/abi.NoEscape"], named := ["graver/shdr.sizes"], apart := false, laid := [("graver/shdr.sizes", laid_graver_shdr_sizes)], narrowed := true }
def ShdrPutsUptoSaid : Prop := shdrPutsUptoRow.holds Tryd.pinned (OpenSpec.upto shdrPutsSpec)

/-- 'graverlaw06.ShdrReads', WHERE WHAT IT READS IS OF BULK AT MOST 1048576: true; the input reads as it did. -/
def shdrReadsUptoRow : OpenClaim := { program := "ythbkjppaimjpmaadoor", sum := "8556e1de4c0df9035845195507d22288c3755fb3f652fa24c64c5743eb8e2134", func := "graver/graverlaw06.ShdrReads", spec := "shdrReads", inPlace := ["internal/abi.NoEscape"], named := ["graver/shdr.sizes"], apart := false, laid := [("graver/shdr.sizes", laid_graver_shdr_sizes)], narrowed := true }
def ShdrReadsUptoSaid : Prop := shdrReadsUptoRow.holds Tryd.pinned (OpenSpec.upto shdrReadsSpec)

/-- 'graverlaw07.PhdrPuts', WHERE WHAT IT READS IS OF BULK AT MOST 1048576: true; the input reads as it did. -/
def phdrPutsUptoRow : OpenClaim := { program := "ythbkjppaimjpmaadoor", sum := "8556e1de4c0df9035845195507d22288c3755fb3f652fa24c64c5743eb8e2134", func := "graver/graverlaw07.PhdrPuts", spec := "phdrPuts", inPlace := ["internal/abi.NoEscape"], named := ["graver/phdr.wideSizes", "graver/phdr.narrowSizes"], apart := false, laid := [("graver/phdr.wideSizes", laid_graver_phdr_wideSizes), ("graver/phdr.narrowSizes", laid_graver_phdr_narrowSizes)], narrowed := true }
def PhdrPutsUptoSaid : Prop := phdrPutsUptoRow.holds Tryd.pinned (OpenSpec.upto phdrPutsSpec)

/-- 'graverlaw07.PhdrReads', WHERE WHAT IT READS IS OF BULK AT MOST 1048576: true; the input reads as it did. -/
def phdrReadsUptoRow : OpenClaim := { program := "ythbkjppaimjpmaadoor", sum := "8556e1de4c0df9035845195507d22288c3755fb3f652fa24c64c5743eb8e2134", func := "graver/graverlaw07.PhdrReads", spec := "phdrReads", inPlace := ["internal/abi.NoEscape"], named := ["graver/phdr.wideSizes", "graver/phdr.narrowSizes"], apart := false, laid := [("graver/phdr.wideSizes", laid_graver_phdr_wideSizes), ("graver/phdr.narrowSizes", laid_graver_phdr_narrowSizes)], narrowed := true }
def PhdrReadsUptoSaid : Prop := phdrReadsUptoRow.holds Tryd.pinned (OpenSpec.upto phdrReadsSpec)

end Rows
end Go.Proofs.YthbkjppaimjpmaaDoor
