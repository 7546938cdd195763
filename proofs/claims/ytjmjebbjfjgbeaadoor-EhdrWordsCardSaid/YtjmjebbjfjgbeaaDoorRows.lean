/-
  NARROWER THAN 'FOR EVERY INPUT', by the rows' own cells (each row's printed sentence says how): SymrecPuts: laid · SymrecReads: laid · SymrecInfos: laid · TopTables: laid · EhdrChecks: laid · EhdrWords: laid · PhdrWords: laid.
  DERIVED. THE GIVEN ROWS OF THIS SEAT. 7 by the template 'for every input the law returns true; each argument reads behind the call as it read before'; 0 by the template 'total and deterministic' (their statements: YtjmjebbjfjgbeaaDoorTotals.lean).
  GIVEN WITH THE SEED: the statements are not yours to turn. If you find one false, say at which input.
  Laid BY PROGRAM, IN A SANDBOX (cutbox-rows.mjs): the forced cells as the released guide's own fill.sh prints them over the translation a70e9d978c313f52… (all of the seat's roots in one cut). By AI agents, Wed Nov 11 2026. No macro, syntax, notation, axiom, sorry.
-/
import Derived.Test.YtjmjebbjfjgbeaaDoorChecked
import GoSem.Claim
import GoSem.ClaimJoined
import GoSem.ClaimMapViews
import Derived.JoinedTies
import Derived.KernelRfl
namespace Go.Proofs.YtjmjebbjfjgbeaaDoor
/- THE CELL 'sum', in the pinned program and in every row, IS THE sha256 OF THE DUMP (.gsa) THAT YtjmjebbjfjgbeaaDoorProg.lean LOADS. Nothing in Lean hashes anything: it is a label: what it is worth is what the hold of that sum in a sandbox is worth. -/
noncomputable def Tryd.pinned : Pinned := { name := "ytjmjebbjfjgbeaadoor", sum := "a70e9d978c313f52392cff10f4510a84af4339bc34c83e60283eaf7a54b7461e", checked := Tryd.checked }
namespace Rows
def none {H : Type} : Left H := { results := [], args := [] }

/- WHAT THE LISTED PACKAGE-LEVEL VARIABLES READ AS WHEN THE CALL BEGINS. Each datum BY PROGRAM (the guide's laid-datum.mjs) off the statement by which the dump's own 'gosem.cut.vars' lays the variable. In a bare row this is a premise. The card (YtjmjebbjfjgbeaaDoorCards.lean) ties it to the program's text. -/
def laid_graver_symrec_wideSizes {H : Type} : DataW H := .agg [.lit (.int .i64 4), .lit (.int .i64 1), .lit (.int .i64 1), .lit (.int .i64 2), .lit (.int .i64 0), .lit (.int .i64 0)]
def laid_graver_symrec_narrowSizes {H : Type} : DataW H := .agg [.lit (.int .i64 4), .lit (.int .i64 0), .lit (.int .i64 0), .lit (.int .i64 1), .lit (.int .i64 1), .lit (.int .i64 2)]
def laid_graver_shdr_sizes {H : Type} : DataW H := .agg [.lit (.int .i64 4), .lit (.int .i64 4), .lit (.int .i64 0), .lit (.int .i64 0), .lit (.int .i64 0), .lit (.int .i64 0), .lit (.int .i64 4), .lit (.int .i64 4), .lit (.int .i64 0), .lit (.int .i64 0)]
def laid_graver_ehdr_sizes {H : Type} : DataW H := .agg [.lit (.int .i64 2), .lit (.int .i64 2), .lit (.int .i64 4), .lit (.int .i64 0), .lit (.int .i64 0), .lit (.int .i64 0), .lit (.int .i64 4), .lit (.int .i64 2), .lit (.int .i64 2), .lit (.int .i64 2), .lit (.int .i64 2), .lit (.int .i64 2), .lit (.int .i64 2)]
def laid_math_bits_deBruijn32tab {H : Type} : DataW H := .agg [.lit (.int .u8 0), .lit (.int .u8 1), .lit (.int .u8 28), .lit (.int .u8 2), .lit (.int .u8 29), .lit (.int .u8 14), .lit (.int .u8 24), .lit (.int .u8 3), .lit (.int .u8 30), .lit (.int .u8 22), .lit (.int .u8 20), .lit (.int .u8 15), .lit (.int .u8 25), .lit (.int .u8 17), .lit (.int .u8 4), .lit (.int .u8 8), .lit (.int .u8 31), .lit (.int .u8 27), .lit (.int .u8 13), .lit (.int .u8 23), .lit (.int .u8 21), .lit (.int .u8 19), .lit (.int .u8 16), .lit (.int .u8 7), .lit (.int .u8 26), .lit (.int .u8 12), .lit (.int .u8 18), .lit (.int .u8 6), .lit (.int .u8 11), .lit (.int .u8 5), .lit (.int .u8 10), .lit (.int .u8 9)]
def laid_math_bits_deBruijn64tab {H : Type} : DataW H := .agg [.lit (.int .u8 0), .lit (.int .u8 1), .lit (.int .u8 56), .lit (.int .u8 2), .lit (.int .u8 57), .lit (.int .u8 49), .lit (.int .u8 28), .lit (.int .u8 3), .lit (.int .u8 61), .lit (.int .u8 58), .lit (.int .u8 42), .lit (.int .u8 50), .lit (.int .u8 38), .lit (.int .u8 29), .lit (.int .u8 17), .lit (.int .u8 4), .lit (.int .u8 62), .lit (.int .u8 47), .lit (.int .u8 59), .lit (.int .u8 36), .lit (.int .u8 45), .lit (.int .u8 43), .lit (.int .u8 51), .lit (.int .u8 22), .lit (.int .u8 53), .lit (.int .u8 39), .lit (.int .u8 33), .lit (.int .u8 30), .lit (.int .u8 24), .lit (.int .u8 18), .lit (.int .u8 12), .lit (.int .u8 5), .lit (.int .u8 63), .lit (.int .u8 55), .lit (.int .u8 48), .lit (.int .u8 27), .lit (.int .u8 60), .lit (.int .u8 41), .lit (.int .u8 37), .lit (.int .u8 16), .lit (.int .u8 46), .lit (.int .u8 35), .lit (.int .u8 44), .lit (.int .u8 21), .lit (.int .u8 52), .lit (.int .u8 32), .lit (.int .u8 23), .lit (.int .u8 11), .lit (.int .u8 54), .lit (.int .u8 26), .lit (.int .u8 40), .lit (.int .u8 15), .lit (.int .u8 34), .lit (.int .u8 20), .lit (.int .u8 31), .lit (.int .u8 10), .lit (.int .u8 25), .lit (.int .u8 14), .lit (.int .u8 19), .lit (.int .u8 9), .lit (.int .u8 13), .lit (.int .u8 8), .lit (.int .u8 7), .lit (.int .u8 6)]
def laid_internal_strconv_uint64pow10 {H : Type} : DataW H := .agg [.lit (.int .u64 1), .lit (.int .u64 10), .lit (.int .u64 100), .lit (.int .u64 1000), .lit (.int .u64 10000), .lit (.int .u64 100000), .lit (.int .u64 1000000), .lit (.int .u64 10000000), .lit (.int .u64 100000000), .lit (.int .u64 1000000000), .lit (.int .u64 10000000000), .lit (.int .u64 100000000000), .lit (.int .u64 1000000000000), .lit (.int .u64 10000000000000), .lit (.int .u64 100000000000000), .lit (.int .u64 1000000000000000), .lit (.int .u64 10000000000000000), .lit (.int .u64 100000000000000000), .lit (.int .u64 1000000000000000000), .lit (.int .u64 10000000000000000000)]
def laid_graver_ehdr_types {H : Type} : DataW H := .agg [.lit (.string [78, 79, 78, 69]), .lit (.string [82, 69, 76]), .lit (.string [69, 88, 69, 67]), .lit (.string [68, 89, 78]), .lit (.string [67, 79, 82, 69])]
def laid_graver_ehdr_machines {H : Type} : DataW H := .agg [.agg [.lit (.int .u64 0), .lit (.string [110, 111, 110, 101])], .agg [.lit (.int .u64 3), .lit (.string [51, 56, 54])], .agg [.lit (.int .u64 8), .lit (.string [77, 73, 80, 83])], .agg [.lit (.int .u64 20), .lit (.string [80, 111, 119, 101, 114, 80, 67])], .agg [.lit (.int .u64 21), .lit (.string [80, 111, 119, 101, 114, 80, 67, 54, 52])], .agg [.lit (.int .u64 22), .lit (.string [83, 51, 57, 48])], .agg [.lit (.int .u64 40), .lit (.string [65, 82, 77])], .agg [.lit (.int .u64 62), .lit (.string [88, 56, 54, 45, 54, 52])], .agg [.lit (.int .u64 183), .lit (.string [65, 65, 114, 99, 104, 54, 52])], .agg [.lit (.int .u64 243), .lit (.string [82, 73, 83, 67, 45, 86])], .agg [.lit (.int .u64 258), .lit (.string [76, 111, 111, 110, 103, 65, 114, 99, 104])]]
def laid_graver_phdr_wideSizes {H : Type} : DataW H := .agg [.lit (.int .i64 4), .lit (.int .i64 4), .lit (.int .i64 0), .lit (.int .i64 0), .lit (.int .i64 0), .lit (.int .i64 0), .lit (.int .i64 0), .lit (.int .i64 0)]
def laid_graver_phdr_narrowSizes {H : Type} : DataW H := .agg [.lit (.int .i64 4), .lit (.int .i64 0), .lit (.int .i64 0), .lit (.int .i64 0), .lit (.int .i64 0), .lit (.int .i64 0), .lit (.int .i64 4), .lit (.int .i64 0)]
def laid_graver_phdr_names {H : Type} : DataW H := .agg [.lit (.string [78, 85, 76, 76]), .lit (.string [76, 79, 65, 68]), .lit (.string [68, 89, 78, 65, 77, 73, 67]), .lit (.string [73, 78, 84, 69, 82, 80]), .lit (.string [78, 79, 84, 69]), .lit (.string [83, 72, 76, 73, 66]), .lit (.string [80, 72, 68, 82]), .lit (.string [84, 76, 83])]

/-- 'graverlaw08.SymrecPuts': WHATEVER THE INPUT: true; the input reads as it did. -/
def symrecPutsSpec : ChangeSpec := { name := "symrecPuts", fn := fun _ => fun
  | [d1, d2, d3] => { results := [.lit (.bool true)], args := [d1, d2, d3] }
  | _ => none }
def symrecPutsRow : OpenClaim := { program := "ytjmjebbjfjgbeaadoor", sum := "a70e9d978c313f52392cff10f4510a84af4339bc34c83e60283eaf7a54b7461e", func := "graver/graverlaw08.SymrecPuts", spec := "symrecPuts", inPlace := ["internal/abi.NoEscape"], named := ["graver/symrec.wideSizes", "graver/symrec.narrowSizes"], apart := false, laid := [("graver/symrec.wideSizes", laid_graver_symrec_wideSizes), ("graver/symrec.narrowSizes", laid_graver_symrec_narrowSizes)] }
def SymrecPutsSaid : Prop := symrecPutsRow.holds Tryd.pinned (OpenSpec.ofChange symrecPutsSpec)

/-- ITS FALSE NEIGHBOUR: 'it returns false'. Refute it at one input. -/
def symrecPutsWrong : ChangeSpec := { name := "symrecPuts", fn := fun _ => fun
  | [d1, d2, d3] => { results := [.lit (.bool false)], args := [d1, d2, d3] }
  | _ => none }
def SymrecPutsWrongFalsely : Prop := symrecPutsRow.holds Tryd.pinned (OpenSpec.ofChange symrecPutsWrong)

/-- 'graverlaw08.SymrecReads': WHATEVER THE INPUT: true; the input reads as it did. -/
def symrecReadsSpec : ChangeSpec := { name := "symrecReads", fn := fun _ => fun
  | [d1, d2] => { results := [.lit (.bool true)], args := [d1, d2] }
  | _ => none }
def symrecReadsRow : OpenClaim := { program := "ytjmjebbjfjgbeaadoor", sum := "a70e9d978c313f52392cff10f4510a84af4339bc34c83e60283eaf7a54b7461e", func := "graver/graverlaw08.SymrecReads", spec := "symrecReads", inPlace := ["internal/abi.NoEscape"], named := ["graver/symrec.wideSizes", "graver/symrec.narrowSizes"], apart := false, laid := [("graver/symrec.wideSizes", laid_graver_symrec_wideSizes), ("graver/symrec.narrowSizes", laid_graver_symrec_narrowSizes)] }
def SymrecReadsSaid : Prop := symrecReadsRow.holds Tryd.pinned (OpenSpec.ofChange symrecReadsSpec)

/-- ITS FALSE NEIGHBOUR: 'it returns false'. Refute it at one input. -/
def symrecReadsWrong : ChangeSpec := { name := "symrecReads", fn := fun _ => fun
  | [d1, d2] => { results := [.lit (.bool false)], args := [d1, d2] }
  | _ => none }
def SymrecReadsWrongFalsely : Prop := symrecReadsRow.holds Tryd.pinned (OpenSpec.ofChange symrecReadsWrong)

/-- 'graverlaw08.SymrecInfos': WHATEVER THE INPUT: true; the input reads as it did. -/
def symrecInfosSpec : ChangeSpec := { name := "symrecInfos", fn := fun _ => fun
  | [d1, d2, d3] => { results := [.lit (.bool true)], args := [d1, d2, d3] }
  | _ => none }
def symrecInfosRow : OpenClaim := { program := "ytjmjebbjfjgbeaadoor", sum := "a70e9d978c313f52392cff10f4510a84af4339bc34c83e60283eaf7a54b7461e", func := "graver/graverlaw08.SymrecInfos", spec := "symrecInfos", inPlace := ["internal/abi.NoEscape"], named := ["graver/symrec.wideSizes", "graver/symrec.narrowSizes"], apart := false, laid := [("graver/symrec.wideSizes", laid_graver_symrec_wideSizes), ("graver/symrec.narrowSizes", laid_graver_symrec_narrowSizes)] }
def SymrecInfosSaid : Prop := symrecInfosRow.holds Tryd.pinned (OpenSpec.ofChange symrecInfosSpec)

/-- ITS FALSE NEIGHBOUR: 'it returns false'. Refute it at one input. -/
def symrecInfosWrong : ChangeSpec := { name := "symrecInfos", fn := fun _ => fun
  | [d1, d2, d3] => { results := [.lit (.bool false)], args := [d1, d2, d3] }
  | _ => none }
def SymrecInfosWrongFalsely : Prop := symrecInfosRow.holds Tryd.pinned (OpenSpec.ofChange symrecInfosWrong)

/-- 'gravertop.TopTables': WHATEVER THE INPUT: true; the input reads as it did. -/
def topTablesSpec : ChangeSpec := { name := "topTables", fn := fun _ => fun
  | [d1, d2] => { results := [.lit (.bool true)], args := [d1, d2] }
  | _ => none }
def topTablesRow : OpenClaim := { program := "ytjmjebbjfjgbeaadoor", sum := "a70e9d978c313f52392cff10f4510a84af4339bc34c83e60283eaf7a54b7461e", func := "graver/gravertop.TopTables", spec := "topTables", inPlace := ["internal/abi.NoEscape", "internal/bytealg.IndexByteString", "internal/bytealg.IndexString"], unfollowed := true, recurses := true, named := ["graver/shdr.sizes", "internal/bytealg.MaxLen"], apart := false, laid := [("graver/shdr.sizes", laid_graver_shdr_sizes)] }
def TopTablesSaid : Prop := topTablesRow.holds Tryd.pinned (OpenSpec.ofChange topTablesSpec)

/-- ITS FALSE NEIGHBOUR: 'it returns false'. Refute it at one input. -/
def topTablesWrong : ChangeSpec := { name := "topTables", fn := fun _ => fun
  | [d1, d2] => { results := [.lit (.bool false)], args := [d1, d2] }
  | _ => none }
def TopTablesWrongFalsely : Prop := topTablesRow.holds Tryd.pinned (OpenSpec.ofChange topTablesWrong)

/-- 'graverlaw05.EhdrChecks': WHATEVER THE INPUT: true; the input reads as it did. -/
def ehdrChecksSpec : ChangeSpec := { name := "ehdrChecks", fn := fun _ => fun
  | [d1, d2, d3] => { results := [.lit (.bool true)], args := [d1, d2, d3] }
  | _ => none }
def ehdrChecksRow : OpenClaim := { program := "ytjmjebbjfjgbeaadoor", sum := "a70e9d978c313f52392cff10f4510a84af4339bc34c83e60283eaf7a54b7461e", func := "graver/graverlaw05.EhdrChecks", spec := "ehdrChecks", inPlace := ["internal/abi.NoEscape"], named := ["graver/ehdr.sizes"], apart := false, laid := [("graver/ehdr.sizes", laid_graver_ehdr_sizes)] }
def EhdrChecksSaid : Prop := ehdrChecksRow.holds Tryd.pinned (OpenSpec.ofChange ehdrChecksSpec)

/-- ITS FALSE NEIGHBOUR: 'it returns false'. Refute it at one input. -/
def ehdrChecksWrong : ChangeSpec := { name := "ehdrChecks", fn := fun _ => fun
  | [d1, d2, d3] => { results := [.lit (.bool false)], args := [d1, d2, d3] }
  | _ => none }
def EhdrChecksWrongFalsely : Prop := ehdrChecksRow.holds Tryd.pinned (OpenSpec.ofChange ehdrChecksWrong)

/-- 'graverlaw05.EhdrWords': WHATEVER THE INPUT: true; the input reads as it did. -/
def ehdrWordsSpec : ChangeSpec := { name := "ehdrWords", fn := fun _ => fun
  | [d1, d2] => { results := [.lit (.bool true)], args := [d1, d2] }
  | _ => none }
def ehdrWordsRow : OpenClaim := { program := "ytjmjebbjfjgbeaadoor", sum := "a70e9d978c313f52392cff10f4510a84af4339bc34c83e60283eaf7a54b7461e", func := "graver/graverlaw05.EhdrWords", spec := "ehdrWords", inPlace := ["internal/abi.NoEscape"], named := ["graver/ehdr.sizes", "graver/ehdr.types", "internal/strconv.uint64pow10", "math/bits.deBruijn32tab", "math/bits.deBruijn64tab", "graver/ehdr.machines"], apart := false, laid := [("math/bits.deBruijn32tab", laid_math_bits_deBruijn32tab), ("math/bits.deBruijn64tab", laid_math_bits_deBruijn64tab), ("internal/strconv.uint64pow10", laid_internal_strconv_uint64pow10), ("graver/ehdr.sizes", laid_graver_ehdr_sizes), ("graver/ehdr.types", laid_graver_ehdr_types), ("graver/ehdr.machines", laid_graver_ehdr_machines)] }
def EhdrWordsSaid : Prop := ehdrWordsRow.holds Tryd.pinned (OpenSpec.ofChange ehdrWordsSpec)

/-- ITS FALSE NEIGHBOUR: 'it returns false'. Refute it at one input. -/
def ehdrWordsWrong : ChangeSpec := { name := "ehdrWords", fn := fun _ => fun
  | [d1, d2] => { results := [.lit (.bool false)], args := [d1, d2] }
  | _ => none }
def EhdrWordsWrongFalsely : Prop := ehdrWordsRow.holds Tryd.pinned (OpenSpec.ofChange ehdrWordsWrong)

/-- 'graverlaw07.PhdrWords': WHATEVER THE INPUT: true; the input reads as it did. -/
def phdrWordsSpec : ChangeSpec := { name := "phdrWords", fn := fun _ => fun
  | [d1, d2] => { results := [.lit (.bool true)], args := [d1, d2] }
  | _ => none }
def phdrWordsRow : OpenClaim := { program := "ytjmjebbjfjgbeaadoor", sum := "a70e9d978c313f52392cff10f4510a84af4339bc34c83e60283eaf7a54b7461e", func := "graver/graverlaw07.PhdrWords", spec := "phdrWords", inPlace := ["internal/abi.NoEscape"], named := ["graver/phdr.wideSizes", "graver/phdr.narrowSizes", "graver/phdr.names", "internal/strconv.uint64pow10", "math/bits.deBruijn32tab", "math/bits.deBruijn64tab"], apart := false, laid := [("math/bits.deBruijn32tab", laid_math_bits_deBruijn32tab), ("math/bits.deBruijn64tab", laid_math_bits_deBruijn64tab), ("internal/strconv.uint64pow10", laid_internal_strconv_uint64pow10), ("graver/phdr.wideSizes", laid_graver_phdr_wideSizes), ("graver/phdr.narrowSizes", laid_graver_phdr_narrowSizes), ("graver/phdr.names", laid_graver_phdr_names)] }
def PhdrWordsSaid : Prop := phdrWordsRow.holds Tryd.pinned (OpenSpec.ofChange phdrWordsSpec)

/-- ITS FALSE NEIGHBOUR: 'it returns false'. Refute it at one input. -/
def phdrWordsWrong : ChangeSpec := { name := "phdrWords", fn := fun _ => fun
  | [d1, d2] => { results := [.lit (.bool false)], args := [d1, d2] }
  | _ => none }
def PhdrWordsWrongFalsely : Prop := phdrWordsRow.holds Tryd.pinned (OpenSpec.ofChange phdrWordsWrong)

/- THE SECOND FORM. 'bulk': how many values and letters a reading holds, each counted each time it is reached (what is shared counts as often as it is met; a slice's spare places count too). A statement '..UptoSaid' is the law's where the arguments, and the package variables that the reading takes, are together of bulk at most 1048576: NARROWER than '..Said'. Prove '..Said' where nothing that the law and all that it calls make is longer than what came in: it says more and counts as full. Else prove '..UptoSaid'. A law counts once. -/
mutual
def uptoBulk {H : Type} : DataW H → Nat
  | .lit (.string bytes) => bytes.length + 1
  | .lit _ => 1
  | .nil => 1
  | .ptr d => uptoBulk d + 1
  | .slice elems spare => uptoBulkAll elems + uptoBulkAll spare + 1
  | .agg parts => uptoBulkAll parts + 1
  | .iface _ d => uptoBulk d + 1
  | .map entries => uptoBulkEntries entries + 1
  | .held _ => 1
def uptoBulkAll {H : Type} : List (DataW H) → Nat
  | [] => 0
  | d :: r => uptoBulk d + uptoBulkAll r
def uptoBulkEntries {H : Type} : List (Lit × DataW H) → Nat
  | [] => 0
  | x :: r => uptoBulkEntry x + uptoBulkEntries r
def uptoBulkEntry {H : Type} : Lit × DataW H → Nat
  | (.string bytes, d) => bytes.length + uptoBulk d + 1
  | (_, d) => uptoBulk d + 1
 end
def uptoSmall : (H : Type) → List (DataW H) → Bool := fun _ ds => decide (uptoBulkAll ds ≤ 1048576)
def OpenSpec.upto (s : _root_.Go.ChangeSpec) : _root_.Go.OpenSpec := { _root_.Go.OpenSpec.ofChange s with cond := some uptoSmall }

/-- 'graverlaw08.SymrecPuts', WHERE WHAT IT READS IS OF BULK AT MOST 1048576: true; the input reads as it did. -/
def symrecPutsUptoRow : OpenClaim := { program := "ytjmjebbjfjgbeaadoor", sum := "a70e9d978c313f52392cff10f4510a84af4339bc34c83e60283eaf7a54b7461e", func := "graver/graverlaw08.SymrecPuts", spec := "symrecPuts", inPlace := ["internal/abi.NoEscape"], named := ["graver/symrec.wideSizes", "graver/symrec.narrowSizes"], apart := false, laid := [("graver/symrec.wideSizes", laid_graver_symrec_wideSizes), ("graver/symrec.narrowSizes", laid_graver_symrec_narrowSizes)], narrowed := true }
def SymrecPutsUptoSaid : Prop := symrecPutsUptoRow.holds Tryd.pinned (OpenSpec.upto symrecPutsSpec)

/-- 'graverlaw08.SymrecReads', WHERE WHAT IT READS IS OF BULK AT MOST 1048576: true; the input reads as it did. -/
def symrecReadsUptoRow : OpenClaim := { program := "ytjmjebbjfjgbeaadoor", sum := "a70e9d978c313f52392cff10f4510a84af4339bc34c83e60283eaf7a54b7461e", func := "graver/graverlaw08.SymrecReads", spec := "symrecReads", inPlace := ["internal/abi.NoEscape"], named := ["graver/symrec.wideSizes", "graver/symrec.narrowSizes"], apart := false, laid := [("graver/symrec.wideSizes", laid_graver_symrec_wideSizes), ("graver/symrec.narrowSizes", laid_graver_symrec_narrowSizes)], narrowed := true }
def SymrecReadsUptoSaid : Prop := symrecReadsUptoRow.holds Tryd.pinned (OpenSpec.upto symrecReadsSpec)

/-- 'graverlaw08.SymrecInfos', WHERE WHAT IT READS IS OF BULK AT MOST 1048576: true; the input reads as it did. -/
def symrecInfosUptoRow : OpenClaim := { program := "ytjmjebbjfjgbeaadoor", sum := "a70e9d978c313f52392cff10f4510a84af4339bc34c83e60283eaf7a54b7461e", func := "graver/graverlaw08.SymrecInfos", spec := "symrecInfos", inPlace := ["internal/abi.NoEscape"], named := ["graver/symrec.wideSizes", "graver/symrec.narrowSizes"], apart := false, laid := [("graver/symrec.wideSizes", laid_graver_symrec_wideSizes), ("graver/symrec.narrowSizes", laid_graver_symrec_narrowSizes)], narrowed := true }
def SymrecInfosUptoSaid : Prop := symrecInfosUptoRow.holds Tryd.pinned (OpenSpec.upto symrecInfosSpec)

/-- 'gravertop.TopTables', WHERE WHAT IT READS IS OF BULK AT MOST 1048576: true; the input reads as it did. -/
def topTablesUptoRow : OpenClaim := { program := "ytjmjebbjfjgbeaadoor", sum := "a70e9d978c313f52392cff10f4510a84af4339bc34c83e60283eaf7a54b7461e", func := "graver/gravertop.TopTables", spec := "topTables", inPlace := ["internal/abi.NoEscape", "internal/bytealg.IndexByteString", "internal/bytealg.IndexString"], unfollowed := true, recurses := true, named := ["graver/shdr.sizes", "internal/bytealg.MaxLen"], apart := false, laid := [("graver/shdr.sizes", laid_graver_shdr_sizes)], narrowed := true }
def TopTablesUptoSaid : Prop := topTablesUptoRow.holds Tryd.pinned (OpenSpec.upto topTablesSpec)

/-- 'graverlaw05.EhdrChecks', WHERE WHAT IT READS IS OF BULK AT MOST 1048576: true; the input reads as it did. -/
def ehdrChecksUptoRow : OpenClaim := { program := "ytjmjebbjfjgbeaadoor", sum := "a70e9d978c313f52392cff10f4510a84af4339bc34c83e60283eaf7a54b7461e", func := "graver/graverlaw05.EhdrChecks", spec := "ehdrChecks", inPlace := ["internal/abi.NoEscape"], named := ["graver/ehdr.sizes"], apart := false, laid := [("graver/ehdr.sizes", laid_graver_ehdr_sizes)], narrowed := true }
def EhdrChecksUptoSaid : Prop := ehdrChecksUptoRow.holds Tryd.pinned (OpenSpec.upto ehdrChecksSpec)

/-- 'graverlaw05.EhdrWords', WHERE WHAT IT READS IS OF BULK AT MOST 1048576: true; the input reads as it did. -/
def ehdrWordsUptoRow : OpenClaim := { program := "ytjmjebbjfjgbeaadoor", sum := "a70e9d978c313f52392cff10f4510a84af4339bc34c83e60283eaf7a54b7461e", func := "graver/graverlaw05.EhdrWords", spec := "ehdrWords", inPlace := ["internal/abi.NoEscape"], named := ["graver/ehdr.sizes", "graver/ehdr.types", "internal/strconv.uint64pow10", "math/bits.deBruijn32tab", "math/bits.deBruijn64tab", "graver/ehdr.machines"], apart := false, laid := [("math/bits.deBruijn32tab", laid_math_bits_deBruijn32tab), ("math/bits.deBruijn64tab", laid_math_bits_deBruijn64tab), ("internal/strconv.uint64pow10", laid_internal_strconv_uint64pow10), ("graver/ehdr.sizes", laid_graver_ehdr_sizes), ("graver/ehdr.types", laid_graver_ehdr_types), ("graver/ehdr.machines", laid_graver_ehdr_machines)], narrowed := true }
def EhdrWordsUptoSaid : Prop := ehdrWordsUptoRow.holds Tryd.pinned (OpenSpec.upto ehdrWordsSpec)

/-- 'graverlaw07.PhdrWords', WHERE WHAT IT READS IS OF BULK AT MOST 1048576: true; the input reads as it did. -/
def phdrWordsUptoRow : OpenClaim := { program := "ytjmjebbjfjgbeaadoor", sum := "a70e9d978c313f52392cff10f4510a84af4339bc34c83e60283eaf7a54b7461e", func := "graver/graverlaw07.PhdrWords", spec := "phdrWords", inPlace := ["internal/abi.NoEscape"], named := ["graver/phdr.wideSizes", "graver/phdr.narrowSizes", "graver/phdr.names", "internal/strconv.uint64pow10", "math/bits.deBruijn32tab", "math/bits.deBruijn64tab"], apart := false, laid := [("math/bits.deBruijn32tab", laid_math_bits_deBruijn32tab), ("math/bits.deBruijn64tab", laid_math_bits_deBruijn64tab), ("internal/strconv.uint64pow10", laid_internal_strconv_uint64pow10), ("graver/phdr.wideSizes", laid_graver_phdr_wideSizes), ("graver/phdr.narrowSizes", laid_graver_phdr_narrowSizes), ("graver/phdr.names", laid_graver_phdr_names)], narrowed := true }
def PhdrWordsUptoSaid : Prop := phdrWordsUptoRow.holds Tryd.pinned (OpenSpec.upto phdrWordsSpec)

end Rows
end Go.Proofs.YtjmjebbjfjgbeaaDoor
