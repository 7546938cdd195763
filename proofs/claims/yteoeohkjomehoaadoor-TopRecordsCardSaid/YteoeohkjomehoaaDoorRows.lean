/-
  NARROWER THAN 'FOR EVERY INPUT', by the rows' own cells (each row's printed sentence says how): TopRecords: laid · SymrecWords: laid · ShdrWords: laid · CheckShapes: laid · CheckWrong: laid · CheckMany: laid · CheckFaults: laid · RefsKeeps: laid.
  DERIVED. THE GIVEN ROWS OF THIS SEAT. 8 by the template 'for every input the law returns true; each argument reads behind the call as it read before'; 0 by the template 'total and deterministic' (their statements: YteoeohkjomehoaaDoorTotals.lean).
  GIVEN WITH THE SEED: the statements are not yours to turn. If you find one false, say at which input.
  Laid BY PROGRAM, IN A SANDBOX (cutbox-rows.mjs): the forced cells as the released guide's own fill.sh prints them over the translation c929a8a72671766a… (all of the seat's roots in one cut). By AI agents, Wed Nov 11 2026. No macro, syntax, notation, axiom, sorry.
-/
import Derived.Test.YteoeohkjomehoaaDoorChecked
import GoSem.Claim
import GoSem.ClaimJoined
import GoSem.ClaimMapViews
import Derived.JoinedTies
import Derived.KernelRfl
namespace Go.Proofs.YteoeohkjomehoaaDoor
/- THE CELL 'sum', in the pinned program and in every row, IS THE sha256 OF THE DUMP (.gsa) THAT YteoeohkjomehoaaDoorProg.lean LOADS. Nothing in Lean hashes anything: it is a label: what it is worth is what the hold of that sum in a sandbox is worth. -/
noncomputable def Tryd.pinned : Pinned := { name := "yteoeohkjomehoaadoor", sum := "c929a8a72671766a1999e4e027a812d0af9ac0fade12f3a8433d0cf3f8fe6ee4", checked := Tryd.checked }
namespace Rows
def none {H : Type} : Left H := { results := [], args := [] }

/- WHAT THE LISTED PACKAGE-LEVEL VARIABLES READ AS WHEN THE CALL BEGINS. Each datum BY PROGRAM (the guide's laid-datum.mjs) off the statement by which the dump's own 'gosem.cut.vars' lays the variable. In a bare row this is a premise. The card (YteoeohkjomehoaaDoorCards.lean) ties it to the program's text. -/
def laid_graver_ehdr_sizes {H : Type} : DataW H := .agg [.lit (.int .i64 2), .lit (.int .i64 2), .lit (.int .i64 4), .lit (.int .i64 0), .lit (.int .i64 0), .lit (.int .i64 0), .lit (.int .i64 4), .lit (.int .i64 2), .lit (.int .i64 2), .lit (.int .i64 2), .lit (.int .i64 2), .lit (.int .i64 2), .lit (.int .i64 2)]
def laid_graver_phdr_wideSizes {H : Type} : DataW H := .agg [.lit (.int .i64 4), .lit (.int .i64 4), .lit (.int .i64 0), .lit (.int .i64 0), .lit (.int .i64 0), .lit (.int .i64 0), .lit (.int .i64 0), .lit (.int .i64 0)]
def laid_graver_phdr_narrowSizes {H : Type} : DataW H := .agg [.lit (.int .i64 4), .lit (.int .i64 0), .lit (.int .i64 0), .lit (.int .i64 0), .lit (.int .i64 0), .lit (.int .i64 0), .lit (.int .i64 4), .lit (.int .i64 0)]
def laid_graver_shdr_sizes {H : Type} : DataW H := .agg [.lit (.int .i64 4), .lit (.int .i64 4), .lit (.int .i64 0), .lit (.int .i64 0), .lit (.int .i64 0), .lit (.int .i64 0), .lit (.int .i64 4), .lit (.int .i64 4), .lit (.int .i64 0), .lit (.int .i64 0)]
def laid_graver_symrec_wideSizes {H : Type} : DataW H := .agg [.lit (.int .i64 4), .lit (.int .i64 1), .lit (.int .i64 1), .lit (.int .i64 2), .lit (.int .i64 0), .lit (.int .i64 0)]
def laid_graver_symrec_narrowSizes {H : Type} : DataW H := .agg [.lit (.int .i64 4), .lit (.int .i64 0), .lit (.int .i64 0), .lit (.int .i64 1), .lit (.int .i64 1), .lit (.int .i64 2)]
def laid_math_bits_deBruijn32tab {H : Type} : DataW H := .agg [.lit (.int .u8 0), .lit (.int .u8 1), .lit (.int .u8 28), .lit (.int .u8 2), .lit (.int .u8 29), .lit (.int .u8 14), .lit (.int .u8 24), .lit (.int .u8 3), .lit (.int .u8 30), .lit (.int .u8 22), .lit (.int .u8 20), .lit (.int .u8 15), .lit (.int .u8 25), .lit (.int .u8 17), .lit (.int .u8 4), .lit (.int .u8 8), .lit (.int .u8 31), .lit (.int .u8 27), .lit (.int .u8 13), .lit (.int .u8 23), .lit (.int .u8 21), .lit (.int .u8 19), .lit (.int .u8 16), .lit (.int .u8 7), .lit (.int .u8 26), .lit (.int .u8 12), .lit (.int .u8 18), .lit (.int .u8 6), .lit (.int .u8 11), .lit (.int .u8 5), .lit (.int .u8 10), .lit (.int .u8 9)]
def laid_math_bits_deBruijn64tab {H : Type} : DataW H := .agg [.lit (.int .u8 0), .lit (.int .u8 1), .lit (.int .u8 56), .lit (.int .u8 2), .lit (.int .u8 57), .lit (.int .u8 49), .lit (.int .u8 28), .lit (.int .u8 3), .lit (.int .u8 61), .lit (.int .u8 58), .lit (.int .u8 42), .lit (.int .u8 50), .lit (.int .u8 38), .lit (.int .u8 29), .lit (.int .u8 17), .lit (.int .u8 4), .lit (.int .u8 62), .lit (.int .u8 47), .lit (.int .u8 59), .lit (.int .u8 36), .lit (.int .u8 45), .lit (.int .u8 43), .lit (.int .u8 51), .lit (.int .u8 22), .lit (.int .u8 53), .lit (.int .u8 39), .lit (.int .u8 33), .lit (.int .u8 30), .lit (.int .u8 24), .lit (.int .u8 18), .lit (.int .u8 12), .lit (.int .u8 5), .lit (.int .u8 63), .lit (.int .u8 55), .lit (.int .u8 48), .lit (.int .u8 27), .lit (.int .u8 60), .lit (.int .u8 41), .lit (.int .u8 37), .lit (.int .u8 16), .lit (.int .u8 46), .lit (.int .u8 35), .lit (.int .u8 44), .lit (.int .u8 21), .lit (.int .u8 52), .lit (.int .u8 32), .lit (.int .u8 23), .lit (.int .u8 11), .lit (.int .u8 54), .lit (.int .u8 26), .lit (.int .u8 40), .lit (.int .u8 15), .lit (.int .u8 34), .lit (.int .u8 20), .lit (.int .u8 31), .lit (.int .u8 10), .lit (.int .u8 25), .lit (.int .u8 14), .lit (.int .u8 19), .lit (.int .u8 9), .lit (.int .u8 13), .lit (.int .u8 8), .lit (.int .u8 7), .lit (.int .u8 6)]
def laid_internal_strconv_uint64pow10 {H : Type} : DataW H := .agg [.lit (.int .u64 1), .lit (.int .u64 10), .lit (.int .u64 100), .lit (.int .u64 1000), .lit (.int .u64 10000), .lit (.int .u64 100000), .lit (.int .u64 1000000), .lit (.int .u64 10000000), .lit (.int .u64 100000000), .lit (.int .u64 1000000000), .lit (.int .u64 10000000000), .lit (.int .u64 100000000000), .lit (.int .u64 1000000000000), .lit (.int .u64 10000000000000), .lit (.int .u64 100000000000000), .lit (.int .u64 1000000000000000), .lit (.int .u64 10000000000000000), .lit (.int .u64 100000000000000000), .lit (.int .u64 1000000000000000000), .lit (.int .u64 10000000000000000000)]
def laid_graver_symrec_bindings {H : Type} : DataW H := .agg [.lit (.string [76, 79, 67, 65, 76]), .lit (.string [71, 76, 79, 66, 65, 76]), .lit (.string [87, 69, 65, 75])]
def laid_graver_symrec_kinds {H : Type} : DataW H := .agg [.lit (.string [78, 79, 84, 89, 80, 69]), .lit (.string [79, 66, 74, 69, 67, 84]), .lit (.string [70, 85, 78, 67]), .lit (.string [83, 69, 67, 84, 73, 79, 78]), .lit (.string [70, 73, 76, 69]), .lit (.string [67, 79, 77, 77, 79, 78]), .lit (.string [84, 76, 83])]
def laid_graver_shdr_names {H : Type} : DataW H := .agg [.lit (.string [78, 85, 76, 76]), .lit (.string [80, 82, 79, 71, 66, 73, 84, 83]), .lit (.string [83, 89, 77, 84, 65, 66]), .lit (.string [83, 84, 82, 84, 65, 66]), .lit (.string [82, 69, 76, 65]), .lit (.string [72, 65, 83, 72]), .lit (.string [68, 89, 78, 65, 77, 73, 67]), .lit (.string [78, 79, 84, 69]), .lit (.string [78, 79, 66, 73, 84, 83]), .lit (.string [82, 69, 76]), .lit (.string [83, 72, 76, 73, 66]), .lit (.string [68, 89, 78, 83, 89, 77]), .lit (.string []), .lit (.string []), .lit (.string [73, 78, 73, 84, 95, 65, 82, 82, 65, 89]), .lit (.string [70, 73, 78, 73, 95, 65, 82, 82, 65, 89]), .lit (.string [80, 82, 69, 73, 78, 73, 84, 95, 65, 82, 82, 65, 89]), .lit (.string [71, 82, 79, 85, 80]), .lit (.string [83, 89, 77, 84, 65, 66, 95, 83, 72, 78, 68, 88])]

/-- 'gravertop.TopRecords': WHATEVER THE INPUT: true; the input reads as it did. -/
def topRecordsSpec : ChangeSpec := { name := "topRecords", fn := fun _ => fun
  | [d1, d2] => { results := [.lit (.bool true)], args := [d1, d2] }
  | _ => none }
def topRecordsRow : OpenClaim := { program := "yteoeohkjomehoaadoor", sum := "c929a8a72671766a1999e4e027a812d0af9ac0fade12f3a8433d0cf3f8fe6ee4", func := "graver/gravertop.TopRecords", spec := "topRecords", inPlace := ["internal/abi.NoEscape", "internal/bytealg.MakeNoZero"], named := ["graver/shdr.sizes", "graver/ehdr.sizes", "graver/phdr.wideSizes", "graver/phdr.narrowSizes", "graver/symrec.wideSizes", "graver/symrec.narrowSizes"], apart := false, laid := [("graver/ehdr.sizes", laid_graver_ehdr_sizes), ("graver/phdr.wideSizes", laid_graver_phdr_wideSizes), ("graver/phdr.narrowSizes", laid_graver_phdr_narrowSizes), ("graver/shdr.sizes", laid_graver_shdr_sizes), ("graver/symrec.wideSizes", laid_graver_symrec_wideSizes), ("graver/symrec.narrowSizes", laid_graver_symrec_narrowSizes)] }
def TopRecordsSaid : Prop := topRecordsRow.holds Tryd.pinned (OpenSpec.ofChange topRecordsSpec)

/-- ITS FALSE NEIGHBOUR: 'it returns false'. Refute it at one input. -/
def topRecordsWrong : ChangeSpec := { name := "topRecords", fn := fun _ => fun
  | [d1, d2] => { results := [.lit (.bool false)], args := [d1, d2] }
  | _ => none }
def TopRecordsWrongFalsely : Prop := topRecordsRow.holds Tryd.pinned (OpenSpec.ofChange topRecordsWrong)

/-- 'graverlaw08.SymrecWords': WHATEVER THE INPUT: true; the input reads as it did. -/
def symrecWordsSpec : ChangeSpec := { name := "symrecWords", fn := fun _ => fun
  | [d1, d2] => { results := [.lit (.bool true)], args := [d1, d2] }
  | _ => none }
def symrecWordsRow : OpenClaim := { program := "yteoeohkjomehoaadoor", sum := "c929a8a72671766a1999e4e027a812d0af9ac0fade12f3a8433d0cf3f8fe6ee4", func := "graver/graverlaw08.SymrecWords", spec := "symrecWords", inPlace := ["internal/abi.NoEscape"], named := ["graver/symrec.wideSizes", "graver/symrec.narrowSizes", "graver/symrec.bindings", "internal/strconv.uint64pow10", "math/bits.deBruijn32tab", "math/bits.deBruijn64tab", "graver/symrec.kinds"], apart := false, laid := [("math/bits.deBruijn32tab", laid_math_bits_deBruijn32tab), ("math/bits.deBruijn64tab", laid_math_bits_deBruijn64tab), ("internal/strconv.uint64pow10", laid_internal_strconv_uint64pow10), ("graver/symrec.wideSizes", laid_graver_symrec_wideSizes), ("graver/symrec.narrowSizes", laid_graver_symrec_narrowSizes), ("graver/symrec.bindings", laid_graver_symrec_bindings), ("graver/symrec.kinds", laid_graver_symrec_kinds)] }
def SymrecWordsSaid : Prop := symrecWordsRow.holds Tryd.pinned (OpenSpec.ofChange symrecWordsSpec)

/-- ITS FALSE NEIGHBOUR: 'it returns false'. Refute it at one input. -/
def symrecWordsWrong : ChangeSpec := { name := "symrecWords", fn := fun _ => fun
  | [d1, d2] => { results := [.lit (.bool false)], args := [d1, d2] }
  | _ => none }
def SymrecWordsWrongFalsely : Prop := symrecWordsRow.holds Tryd.pinned (OpenSpec.ofChange symrecWordsWrong)

/-- 'graverlaw06.ShdrWords': WHATEVER THE INPUT: true; the input reads as it did. -/
def shdrWordsSpec : ChangeSpec := { name := "shdrWords", fn := fun _ => fun
  | [d1, d2] => { results := [.lit (.bool true)], args := [d1, d2] }
  | _ => none }
def shdrWordsRow : OpenClaim := { program := "yteoeohkjomehoaadoor", sum := "c929a8a72671766a1999e4e027a812d0af9ac0fade12f3a8433d0cf3f8fe6ee4", func := "graver/graverlaw06.ShdrWords", spec := "shdrWords", inPlace := ["internal/abi.NoEscape"], named := ["graver/shdr.sizes", "graver/shdr.names", "internal/strconv.uint64pow10", "math/bits.deBruijn32tab", "math/bits.deBruijn64tab"], apart := false, laid := [("math/bits.deBruijn32tab", laid_math_bits_deBruijn32tab), ("math/bits.deBruijn64tab", laid_math_bits_deBruijn64tab), ("internal/strconv.uint64pow10", laid_internal_strconv_uint64pow10), ("graver/shdr.sizes", laid_graver_shdr_sizes), ("graver/shdr.names", laid_graver_shdr_names)] }
def ShdrWordsSaid : Prop := shdrWordsRow.holds Tryd.pinned (OpenSpec.ofChange shdrWordsSpec)

/-- ITS FALSE NEIGHBOUR: 'it returns false'. Refute it at one input. -/
def shdrWordsWrong : ChangeSpec := { name := "shdrWords", fn := fun _ => fun
  | [d1, d2] => { results := [.lit (.bool false)], args := [d1, d2] }
  | _ => none }
def ShdrWordsWrongFalsely : Prop := shdrWordsRow.holds Tryd.pinned (OpenSpec.ofChange shdrWordsWrong)

/-- 'graverlaw14.CheckShapes': WHATEVER THE INPUT: true; the input reads as it did. -/
def checkShapesSpec : ChangeSpec := { name := "checkShapes", fn := fun _ => fun
  | [d1, d2, d3] => { results := [.lit (.bool true)], args := [d1, d2, d3] }
  | _ => none }
def checkShapesRow : OpenClaim := { program := "yteoeohkjomehoaadoor", sum := "c929a8a72671766a1999e4e027a812d0af9ac0fade12f3a8433d0cf3f8fe6ee4", func := "graver/graverlaw14.CheckShapes", spec := "checkShapes", inPlace := ["internal/bytealg.IndexByteString", "internal/bytealg.IndexString"], unfollowed := true, recurses := true, named := ["internal/bytealg.MaxLen", "graver/symrec.wideSizes", "graver/symrec.narrowSizes"], apart := false, laid := [("graver/symrec.wideSizes", laid_graver_symrec_wideSizes), ("graver/symrec.narrowSizes", laid_graver_symrec_narrowSizes)] }
def CheckShapesSaid : Prop := checkShapesRow.holds Tryd.pinned (OpenSpec.ofChange checkShapesSpec)

/-- ITS FALSE NEIGHBOUR: 'it returns false'. Refute it at one input. -/
def checkShapesWrong : ChangeSpec := { name := "checkShapes", fn := fun _ => fun
  | [d1, d2, d3] => { results := [.lit (.bool false)], args := [d1, d2, d3] }
  | _ => none }
def CheckShapesWrongFalsely : Prop := checkShapesRow.holds Tryd.pinned (OpenSpec.ofChange checkShapesWrong)

/-- 'graverlaw14.CheckWrong': WHATEVER THE INPUT: true; the input reads as it did. -/
def checkWrongSpec : ChangeSpec := { name := "checkWrong", fn := fun _ => fun
  | [d1, d2] => { results := [.lit (.bool true)], args := [d1, d2] }
  | _ => none }
def checkWrongRow : OpenClaim := { program := "yteoeohkjomehoaadoor", sum := "c929a8a72671766a1999e4e027a812d0af9ac0fade12f3a8433d0cf3f8fe6ee4", func := "graver/graverlaw14.CheckWrong", spec := "checkWrong", inPlace := ["internal/bytealg.IndexByteString", "internal/bytealg.IndexString"], unfollowed := true, recurses := true, named := ["internal/bytealg.MaxLen", "graver/symrec.wideSizes", "graver/symrec.narrowSizes"], apart := false, laid := [("graver/symrec.wideSizes", laid_graver_symrec_wideSizes), ("graver/symrec.narrowSizes", laid_graver_symrec_narrowSizes)] }
def CheckWrongSaid : Prop := checkWrongRow.holds Tryd.pinned (OpenSpec.ofChange checkWrongSpec)

/-- ITS FALSE NEIGHBOUR: 'it returns false'. Refute it at one input. -/
def checkWrongWrong : ChangeSpec := { name := "checkWrong", fn := fun _ => fun
  | [d1, d2] => { results := [.lit (.bool false)], args := [d1, d2] }
  | _ => none }
def CheckWrongWrongFalsely : Prop := checkWrongRow.holds Tryd.pinned (OpenSpec.ofChange checkWrongWrong)

/-- 'graverlaw14.CheckMany': WHATEVER THE INPUT: true; the input reads as it did. -/
def checkManySpec : ChangeSpec := { name := "checkMany", fn := fun _ => fun
  | [d1, d2] => { results := [.lit (.bool true)], args := [d1, d2] }
  | _ => none }
def checkManyRow : OpenClaim := { program := "yteoeohkjomehoaadoor", sum := "c929a8a72671766a1999e4e027a812d0af9ac0fade12f3a8433d0cf3f8fe6ee4", func := "graver/graverlaw14.CheckMany", spec := "checkMany", inPlace := ["internal/bytealg.IndexByteString", "internal/bytealg.IndexString"], unfollowed := true, recurses := true, named := ["internal/bytealg.MaxLen", "graver/symrec.wideSizes", "graver/symrec.narrowSizes"], apart := false, laid := [("graver/symrec.wideSizes", laid_graver_symrec_wideSizes), ("graver/symrec.narrowSizes", laid_graver_symrec_narrowSizes)] }
def CheckManySaid : Prop := checkManyRow.holds Tryd.pinned (OpenSpec.ofChange checkManySpec)

/-- ITS FALSE NEIGHBOUR: 'it returns false'. Refute it at one input. -/
def checkManyWrong : ChangeSpec := { name := "checkMany", fn := fun _ => fun
  | [d1, d2] => { results := [.lit (.bool false)], args := [d1, d2] }
  | _ => none }
def CheckManyWrongFalsely : Prop := checkManyRow.holds Tryd.pinned (OpenSpec.ofChange checkManyWrong)

/-- 'graverlaw14.CheckFaults': WHATEVER THE INPUT: true; the input reads as it did. -/
def checkFaultsSpec : ChangeSpec := { name := "checkFaults", fn := fun _ => fun
  | [d1, d2] => { results := [.lit (.bool true)], args := [d1, d2] }
  | _ => none }
def checkFaultsRow : OpenClaim := { program := "yteoeohkjomehoaadoor", sum := "c929a8a72671766a1999e4e027a812d0af9ac0fade12f3a8433d0cf3f8fe6ee4", func := "graver/graverlaw14.CheckFaults", spec := "checkFaults", inPlace := ["internal/bytealg.IndexByteString", "internal/bytealg.IndexString"], unfollowed := true, recurses := true, named := ["internal/bytealg.MaxLen", "graver/symrec.wideSizes", "graver/symrec.narrowSizes"], apart := false, laid := [("graver/symrec.wideSizes", laid_graver_symrec_wideSizes), ("graver/symrec.narrowSizes", laid_graver_symrec_narrowSizes)] }
def CheckFaultsSaid : Prop := checkFaultsRow.holds Tryd.pinned (OpenSpec.ofChange checkFaultsSpec)

/-- ITS FALSE NEIGHBOUR: 'it returns false'. Refute it at one input. -/
def checkFaultsWrong : ChangeSpec := { name := "checkFaults", fn := fun _ => fun
  | [d1, d2] => { results := [.lit (.bool false)], args := [d1, d2] }
  | _ => none }
def CheckFaultsWrongFalsely : Prop := checkFaultsRow.holds Tryd.pinned (OpenSpec.ofChange checkFaultsWrong)

/-- 'graverlaw18.RefsKeeps': WHATEVER THE INPUT: true; the input reads as it did. -/
def refsKeepsSpec : ChangeSpec := { name := "refsKeeps", fn := fun _ => fun
  | [d1, d2] => { results := [.lit (.bool true)], args := [d1, d2] }
  | _ => none }
def refsKeepsRow : OpenClaim := { program := "yteoeohkjomehoaadoor", sum := "c929a8a72671766a1999e4e027a812d0af9ac0fade12f3a8433d0cf3f8fe6ee4", func := "graver/graverlaw18.RefsKeeps", spec := "refsKeeps", inPlace := ["internal/bytealg.IndexByteString", "internal/bytealg.IndexString"], unfollowed := true, recurses := true, named := ["internal/bytealg.MaxLen", "graver/symrec.wideSizes", "graver/symrec.narrowSizes"], apart := false, laid := [("graver/symrec.wideSizes", laid_graver_symrec_wideSizes), ("graver/symrec.narrowSizes", laid_graver_symrec_narrowSizes)] }
def RefsKeepsSaid : Prop := refsKeepsRow.holds Tryd.pinned (OpenSpec.ofChange refsKeepsSpec)

/-- ITS FALSE NEIGHBOUR: 'it returns false'. Refute it at one input. -/
def refsKeepsWrong : ChangeSpec := { name := "refsKeeps", fn := fun _ => fun
  | [d1, d2] => { results := [.lit (.bool false)], args := [d1, d2] }
  | _ => none }
def RefsKeepsWrongFalsely : Prop := refsKeepsRow.holds Tryd.pinned (OpenSpec.ofChange refsKeepsWrong)

/- THE SECOND FORM. 'bulk': how many values and letters a reading holds, each counted each time it is reached (what is shared counts as often as it is met; a slice's spare places count too). A statement '..UptoSaid' is the law's where the arguments, and the package variables that the reading takes, are together of bulk at most 1048576: NARROWER than '..Said'. Prove '..Said' where nothing that the law and all that it calls make is longer than what came in: it says more and counts as full. Else prove '..UptoSaid'. A law counts once. -/
mutual
def uptoBulk {H : Type} : DataW H → Nat
  | .lit (.string bytes) => bytes.length + 1
  | .lit _ => 1
  | .nil => 1
  | .ptr d => uptoBulk d + 1
  | .slice elems spare => uptoBulkAll elems + uptoBulkAll spare + 1
  | .agg parts => uptoBulkAll parts + 1
  | .iface _ d => uptoBulk d + 1
  | .map entries => uptoBulkEntries entries + 1
  | .held _ => 1
def uptoBulkAll {H : Type} : List (DataW H) → Nat
  | [] => 0
  | d :: r => uptoBulk d + uptoBulkAll r
def uptoBulkEntries {H : Type} : List (Lit × DataW H) → Nat
  | [] => 0
  | x :: r => uptoBulkEntry x + uptoBulkEntries r
def uptoBulkEntry {H : Type} : Lit × DataW H → Nat
  | (.string bytes, d) => bytes.length + uptoBulk d + 1
  | (_, d) => uptoBulk d + 1
 end
def uptoSmall : (H : Type) → List (DataW H) → Bool := fun _ ds => decide (uptoBulkAll ds ≤ 1048576)
def OpenSpec.upto (s : _root_.Go.ChangeSpec) : _root_.Go.OpenSpec := { _root_.Go.OpenSpec.ofChange s with cond := some uptoSmall }

/-- 'gravertop.TopRecords', WHERE WHAT IT READS IS OF BULK AT MOST 1048576: true; the input reads as it did. -/
def topRecordsUptoRow : OpenClaim := { program := "yteoeohkjomehoaadoor", sum := "c929a8a72671766a1999e4e027a812d0af9ac0fade12f3a8433d0cf3f8fe6ee4", func := "graver/gravertop.TopRecords", spec := "topRecords", inPlace := ["internal/abi.NoEscape", "internal/bytealg.MakeNoZero"], named := ["graver/shdr.sizes", "graver/ehdr.sizes", "graver/phdr.wideSizes", "graver/phdr.narrowSizes", "graver/symrec.wideSizes", "graver/symrec.narrowSizes"], apart := false, laid := [("graver/ehdr.sizes", laid_graver_ehdr_sizes), ("graver/phdr.wideSizes", laid_graver_phdr_wideSizes), ("graver/phdr.narrowSizes", laid_graver_phdr_narrowSizes), ("graver/shdr.sizes", laid_graver_shdr_sizes), ("graver/symrec.wideSizes", laid_graver_symrec_wideSizes), ("graver/symrec.narrowSizes", laid_graver_symrec_narrowSizes)], narrowed := true }
def TopRecordsUptoSaid : Prop := topRecordsUptoRow.holds Tryd.pinned (OpenSpec.upto topRecordsSpec)

/-- 'graverlaw08.SymrecWords', WHERE WHAT IT READS IS OF BULK AT MOST 1048576: true; the input reads as it did. -/
def symrecWordsUptoRow : OpenClaim := { program := "yteoeohkjomehoaadoor", sum := "c929a8a72671766a1999e4e027a812d0af9ac0fade12f3a8433d0cf3f8fe6ee4", func := "graver/graverlaw08.SymrecWords", spec := "symrecWords", inPlace := ["internal/abi.NoEscape"], named := ["graver/symrec.wideSizes", "graver/symrec.narrowSizes", "graver/symrec.bindings", "internal/strconv.uint64pow10", "math/bits.deBruijn32tab", "math/bits.deBruijn64tab", "graver/symrec.kinds"], apart := false, laid := [("math/bits.deBruijn32tab", laid_math_bits_deBruijn32tab), ("math/bits.deBruijn64tab", laid_math_bits_deBruijn64tab), ("internal/strconv.uint64pow10", laid_internal_strconv_uint64pow10), ("graver/symrec.wideSizes", laid_graver_symrec_wideSizes), ("graver/symrec.narrowSizes", laid_graver_symrec_narrowSizes), ("graver/symrec.bindings", laid_graver_symrec_bindings), ("graver/symrec.kinds", laid_graver_symrec_kinds)], narrowed := true }
def SymrecWordsUptoSaid : Prop := symrecWordsUptoRow.holds Tryd.pinned (OpenSpec.upto symrecWordsSpec)

/-- 'graverlaw06.ShdrWords', WHERE WHAT IT READS IS OF BULK AT MOST 1048576: true; the input reads as it did. -/
def shdrWordsUptoRow : OpenClaim := { program := "yteoeohkjomehoaadoor", sum := "c929a8a72671766a1999e4e027a812d0af9ac0fade12f3a8433d0cf3f8fe6ee4", func := "graver/graverlaw06.ShdrWords", spec := "shdrWords", inPlace := ["internal/abi.NoEscape"], named := ["graver/shdr.sizes", "graver/shdr.names", "internal/strconv.uint64pow10", "math/bits.deBruijn32tab", "math/bits.deBruijn64tab"], apart := false, laid := [("math/bits.deBruijn32tab", laid_math_bits_deBruijn32tab), ("math/bits.deBruijn64tab", laid_math_bits_deBruijn64tab), ("internal/strconv.uint64pow10", laid_internal_strconv_uint64pow10), ("graver/shdr.sizes", laid_graver_shdr_sizes), ("graver/shdr.names", laid_graver_shdr_names)], narrowed := true }
def ShdrWordsUptoSaid : Prop := shdrWordsUptoRow.holds Tryd.pinned (OpenSpec.upto shdrWordsSpec)

/-- 'graverlaw14.CheckShapes', WHERE WHAT IT READS IS OF BULK AT MOST 1048576: true; the input reads as it did. -/
def checkShapesUptoRow : OpenClaim := { program := "yteoeohkjomehoaadoor", sum := "c929a8a72671766a1999e4e027a812d0af9ac0fade12f3a8433d0cf3f8fe6ee4", func := "graver/graverlaw14.CheckShapes", spec := "checkShapes", inPlace := ["internal/bytealg.IndexByteString", "internal/bytealg.IndexString"], unfollowed := true, recurses := true, named := ["internal/bytealg.MaxLen", "graver/symrec.wideSizes", "graver/symrec.narrowSizes"], apart := false, laid := [("graver/symrec.wideSizes", laid_graver_symrec_wideSizes), ("graver/symrec.narrowSizes", laid_graver_symrec_narrowSizes)], narrowed := true }
def CheckShapesUptoSaid : Prop := checkShapesUptoRow.holds Tryd.pinned (OpenSpec.upto checkShapesSpec)

/-- 'graverlaw14.CheckWrong', WHERE WHAT IT READS IS OF BULK AT MOST 1048576: true; the input reads as it did. -/
def checkWrongUptoRow : OpenClaim := { program := "yteoeohkjomehoaadoor", sum := "c929a8a72671766a1999e4e027a812d0af9ac0fade12f3a8433d0cf3f8fe6ee4", func := "graver/graverlaw14.CheckWrong", spec := "checkWrong", inPlace := ["internal/bytealg.IndexByteString", "internal/bytealg.IndexString"], unfollowed := true, recurses := true, named := ["internal/bytealg.MaxLen", "graver/symrec.wideSizes", "graver/symrec.narrowSizes"], apart := false, laid := [("graver/symrec.wideSizes", laid_graver_symrec_wideSizes), ("graver/symrec.narrowSizes", laid_graver_symrec_narrowSizes)], narrowed := true }
def CheckWrongUptoSaid : Prop := checkWrongUptoRow.holds Tryd.pinned (OpenSpec.upto checkWrongSpec)

/-- 'graverlaw14.CheckMany', WHERE WHAT IT READS IS OF BULK AT MOST 1048576: true; the input reads as it did. -/
def checkManyUptoRow : OpenClaim := { program := "yteoeohkjomehoaadoor", sum := "c929a8a72671766a1999e4e027a812d0af9ac0fade12f3a8433d0cf3f8fe6ee4", func := "graver/graverlaw14.CheckMany", spec := "checkMany", inPlace := ["internal/bytealg.IndexByteString", "internal/bytealg.IndexString"], unfollowed := true, recurses := true, named := ["internal/bytealg.MaxLen", "graver/symrec.wideSizes", "graver/symrec.narrowSizes"], apart := false, laid := [("graver/symrec.wideSizes", laid_graver_symrec_wideSizes), ("graver/symrec.narrowSizes", laid_graver_symrec_narrowSizes)], narrowed := true }
def CheckManyUptoSaid : Prop := checkManyUptoRow.holds Tryd.pinned (OpenSpec.upto checkManySpec)

/-- 'graverlaw14.CheckFaults', WHERE WHAT IT READS IS OF BULK AT MOST 1048576: true; the input reads as it did. -/
def checkFaultsUptoRow : OpenClaim := { program := "yteoeohkjomehoaadoor", sum := "c929a8a72671766a1999e4e027a812d0af9ac0fade12f3a8433d0cf3f8fe6ee4", func := "graver/graverlaw14.CheckFaults", spec := "checkFaults", inPlace := ["internal/bytealg.IndexByteString", "internal/bytealg.IndexString"], unfollowed := true, recurses := true, named := ["internal/bytealg.MaxLen", "graver/symrec.wideSizes", "graver/symrec.narrowSizes"], apart := false, laid := [("graver/symrec.wideSizes", laid_graver_symrec_wideSizes), ("graver/symrec.narrowSizes", laid_graver_symrec_narrowSizes)], narrowed := true }
def CheckFaultsUptoSaid : Prop := checkFaultsUptoRow.holds Tryd.pinned (OpenSpec.upto checkFaultsSpec)

/-- 'graverlaw18.RefsKeeps', WHERE WHAT IT READS IS OF BULK AT MOST 1048576: true; the input reads as it did. -/
def refsKeepsUptoRow : OpenClaim := { program := "yteoeohkjomehoaadoor", sum := "c929a8a72671766a1999e4e027a812d0af9ac0fade12f3a8433d0cf3f8fe6ee4", func := "graver/graverlaw18.RefsKeeps", spec := "refsKeeps", inPlace := ["internal/bytealg.IndexByteString", "internal/bytealg.IndexString"], unfollowed := true, recurses := true, named := ["internal/bytealg.MaxLen", "graver/symrec.wideSizes", "graver/symrec.narrowSizes"], apart := false, laid := [("graver/symrec.wideSizes", laid_graver_symrec_wideSizes), ("graver/symrec.narrowSizes", laid_graver_symrec_narrowSizes)], narrowed := true }
def RefsKeepsUptoSaid : Prop := refsKeepsUptoRow.holds Tryd.pinned (OpenSpec.upto refsKeepsSpec)

end Rows
end Go.Proofs.YteoeohkjomehoaaDoor
