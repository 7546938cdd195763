/-
  NARROWER THAN 'FOR EVERY INPUT', by the rows' own cells (each row's printed sentence says how): RawParses: laid · RawAny: laid · RawTells: laid.
  DERIVED. THE GIVEN ROWS OF THIS SEAT. 3 by the template 'for every input the law returns true; each argument reads behind the call as it read before'; 0 by the template 'total and deterministic' (their statements: YtceilmhinkkgfaaDoorTotals.lean).
  GIVEN WITH THE SEED: the statements are not yours to turn. If you find one false, say at which input.
  Laid BY PROGRAM, IN A SANDBOX (cutbox-rows.mjs): the forced cells as the released guide's own fill.sh prints them over the translation 83c43e0823162f6f… (all of the seat's roots in one cut). By AI agents, Wed Nov 11 2026. No macro, syntax, notation, axiom, sorry.
-/
import Derived.Test.YtceilmhinkkgfaaDoorChecked
import GoSem.Claim
import GoSem.ClaimJoined
import GoSem.ClaimMapViews
import Derived.JoinedTies
import Derived.KernelRfl
namespace Go.Proofs.YtceilmhinkkgfaaDoor
/- THE CELL 'sum', in the pinned program and in every row, IS THE sha256 OF THE DUMP (.gsa) THAT YtceilmhinkkgfaaDoorProg.lean LOADS. Nothing in Lean hashes anything: it is a label: what it is worth is what the hold of that sum in a sandbox is worth. -/
noncomputable def Tryd.pinned : Pinned := { name := "ytceilmhinkkgfaadoor", sum := "83c43e0823162f6fe68570c94b5a548fd828a06f2830ab716ccf6537fb50c8b6", checked := Tryd.checked }
namespace Rows
def none {H : Type} : Left H := { results := [], args := [] }

/- WHAT THE LISTED PACKAGE-LEVEL VARIABLES READ AS WHEN THE CALL BEGINS. Each datum BY PROGRAM (the guide's laid-datum.mjs) off the statement by which the dump's own 'gosem.cut.vars' lays the variable. In a bare row this is a premise. The card (YtceilmhinkkgfaaDoorCards.lean) ties it to the program's text. -/
def laid_graver_ehdr_sizes {H : Type} : DataW H := .agg [.lit (.int .i64 2), .lit (.int .i64 2), .lit (.int .i64 4), .lit (.int .i64 0), .lit (.int .i64 0), .lit (.int .i64 0), .lit (.int .i64 4), .lit (.int .i64 2), .lit (.int .i64 2), .lit (.int .i64 2), .lit (.int .i64 2), .lit (.int .i64 2), .lit (.int .i64 2)]
def laid_graver_phdr_wideSizes {H : Type} : DataW H := .agg [.lit (.int .i64 4), .lit (.int .i64 4), .lit (.int .i64 0), .lit (.int .i64 0), .lit (.int .i64 0), .lit (.int .i64 0), .lit (.int .i64 0), .lit (.int .i64 0)]
def laid_graver_phdr_narrowSizes {H : Type} : DataW H := .agg [.lit (.int .i64 4), .lit (.int .i64 0), .lit (.int .i64 0), .lit (.int .i64 0), .lit (.int .i64 0), .lit (.int .i64 0), .lit (.int .i64 4), .lit (.int .i64 0)]
def laid_graver_shdr_sizes {H : Type} : DataW H := .agg [.lit (.int .i64 4), .lit (.int .i64 4), .lit (.int .i64 0), .lit (.int .i64 0), .lit (.int .i64 0), .lit (.int .i64 0), .lit (.int .i64 4), .lit (.int .i64 4), .lit (.int .i64 0), .lit (.int .i64 0)]

/-- 'graverlaw11.RawParses': WHATEVER THE INPUT: true; the input reads as it did. -/
def rawParsesSpec : ChangeSpec := { name := "rawParses", fn := fun _ => fun
  | [d1, d2, d3] => { results := [.lit (.bool true)], args := [d1, d2, d3] }
  | _ => none }
def rawParsesRow : OpenClaim := { program := "ytceilmhinkkgfaadoor", sum := "83c43e0823162f6fe68570c94b5a548fd828a06f2830ab716ccf6537fb50c8b6", func := "graver/graverlaw11.RawParses", spec := "rawParses", inPlace := ["internal/abi.NoEscape", "internal/bytealg.MakeNoZero", "math/bits.Add64"], unfollowed := true, recurses := true, named := ["graver/ehdr.sizes", "graver/shdr.sizes", "graver/phdr.wideSizes", "graver/phdr.narrowSizes"], apart := false, laid := [("graver/ehdr.sizes", laid_graver_ehdr_sizes), ("graver/phdr.wideSizes", laid_graver_phdr_wideSizes), ("graver/phdr.narrowSizes", laid_graver_phdr_narrowSizes), ("graver/shdr.sizes", laid_graver_shdr_sizes)] }
def RawParsesSaid : Prop := rawParsesRow.holds Tryd.pinned (OpenSpec.ofChange rawParsesSpec)

/-- ITS FALSE NEIGHBOUR: 'it returns false'. Refute it at one input. -/
def rawParsesWrong : ChangeSpec := { name := "rawParses", fn := fun _ => fun
  | [d1, d2, d3] => { results := [.lit (.bool false)], args := [d1, d2, d3] }
  | _ => none }
def RawParsesWrongFalsely : Prop := rawParsesRow.holds Tryd.pinned (OpenSpec.ofChange rawParsesWrong)

/-- 'graverlaw11.RawAny': WHATEVER THE INPUT: true; the input reads as it did. -/
def rawAnySpec : ChangeSpec := { name := "rawAny", fn := fun _ => fun
  | [d1, d2] => { results := [.lit (.bool true)], args := [d1, d2] }
  | _ => none }
def rawAnyRow : OpenClaim := { program := "ytceilmhinkkgfaadoor", sum := "83c43e0823162f6fe68570c94b5a548fd828a06f2830ab716ccf6537fb50c8b6", func := "graver/graverlaw11.RawAny", spec := "rawAny", inPlace := ["internal/abi.NoEscape", "internal/bytealg.MakeNoZero", "math/bits.Add64"], unfollowed := true, recurses := true, named := ["graver/ehdr.sizes", "graver/shdr.sizes", "graver/phdr.wideSizes", "graver/phdr.narrowSizes"], apart := false, laid := [("graver/ehdr.sizes", laid_graver_ehdr_sizes), ("graver/phdr.wideSizes", laid_graver_phdr_wideSizes), ("graver/phdr.narrowSizes", laid_graver_phdr_narrowSizes), ("graver/shdr.sizes", laid_graver_shdr_sizes)] }
def RawAnySaid : Prop := rawAnyRow.holds Tryd.pinned (OpenSpec.ofChange rawAnySpec)

/-- ITS FALSE NEIGHBOUR: 'it returns false'. Refute it at one input. -/
def rawAnyWrong : ChangeSpec := { name := "rawAny", fn := fun _ => fun
  | [d1, d2] => { results := [.lit (.bool false)], args := [d1, d2] }
  | _ => none }
def RawAnyWrongFalsely : Prop := rawAnyRow.holds Tryd.pinned (OpenSpec.ofChange rawAnyWrong)

/-- 'graverlaw11.RawTells': WHATEVER THE INPUT: true; the input reads as it did. -/
def rawTellsSpec : ChangeSpec := { name := "rawTells", fn := fun _ => fun
  | [d1, d2, d3] => { results := [.lit (.bool true)], args := [d1, d2, d3] }
  | _ => none }
def rawTellsRow : OpenClaim := { program := "ytceilmhinkkgfaadoor", sum := "83c43e0823162f6fe68570c94b5a548fd828a06f2830ab716ccf6537fb50c8b6", func := "graver/graverlaw11.RawTells", spec := "rawTells", inPlace := ["internal/abi.NoEscape", "internal/bytealg.MakeNoZero", "math/bits.Add64"], unfollowed := true, recurses := true, named := ["graver/ehdr.sizes", "graver/shdr.sizes", "graver/phdr.wideSizes", "graver/phdr.narrowSizes"], apart := false, laid := [("graver/ehdr.sizes", laid_graver_ehdr_sizes), ("graver/phdr.wideSizes", laid_graver_phdr_wideSizes), ("graver/phdr.narrowSizes", laid_graver_phdr_narrowSizes), ("graver/shdr.sizes", laid_graver_shdr_sizes)] }
def RawTellsSaid : Prop := rawTellsRow.holds Tryd.pinned (OpenSpec.ofChange rawTellsSpec)

/-- ITS FALSE NEIGHBOUR: 'it returns false'. Refute it at one input. -/
def rawTellsWrong : ChangeSpec := { name := "rawTells", fn := fun _ => fun
  | [d1, d2, d3] => { results := [.lit (.bool false)], args := [d1, d2, d3] }
  | _ => none }
def RawTellsWrongFalsely : Prop := rawTellsRow.holds Tryd.pinned (OpenSpec.ofChange rawTellsWrong)

/- THE SECOND FORM. 'bulk': how many values and letters a reading holds, each counted each time it is reached (what is shared counts as often as it is met; a slice's spare places count too). A statement '..UptoSaid' is the law's where the arguments, and the package variables that the reading takes, are together of bulk at most 1048576: NARROWER than '..Said'. Prove '..Said' where nothing that the law and all that it calls make is longer than what came in: it says more and counts as full. Else prove '..UptoSaid'. A law counts once. -/
mutual
def uptoBulk {H : Type} : DataW H → Nat
  | .lit (.string bytes) => bytes.length + 1
  | .lit _ => 1
  | .nil => 1
  | .ptr d => uptoBulk d + 1
  | .slice elems spare => uptoBulkAll elems + uptoBulkAll spare + 1
  | .agg parts => uptoBulkAll parts + 1
  | .iface _ d => uptoBulk d + 1
  | .map entries => uptoBulkEntries entries + 1
  | .held _ => 1
def uptoBulkAll {H : Type} : List (DataW H) → Nat
  | [] => 0
  | d :: r => uptoBulk d + uptoBulkAll r
def uptoBulkEntries {H : Type} : List (Lit × DataW H) → Nat
  | [] => 0
  | x :: r => uptoBulkEntry x + uptoBulkEntries r
def uptoBulkEntry {H : Type} : Lit × DataW H → Nat
  | (.string bytes, d) => bytes.length + uptoBulk d + 1
  | (_, d) => uptoBulk d + 1
 end
def uptoSmall : (H : Type) → List (DataW H) → Bool := fun _ ds => decide (uptoBulkAll ds ≤ 1048576)
def OpenSpec.upto (s : _root_.Go.ChangeSpec) : _root_.Go.OpenSpec := { _root_.Go.OpenSpec.ofChange s with cond := some uptoSmall }

/-- 'graverlaw11.RawParses', WHERE WHAT IT READS IS OF BULK AT MOST 1048576: true; the input reads as it did. -/
def rawParsesUptoRow : OpenClaim := { program := "ytceilmhinkkgfaadoor", sum := "83c43e0823162f6fe68570c94b5a548fd828a06f2830ab716ccf6537fb50c8b6", func := "graver/graverlaw11.RawParses", spec := "rawParses", inPlace := ["internal/abi.NoEscape", "internal/bytealg.MakeNoZero", "math/bits.Add64"], unfollowed := true, recurses := true, named := ["graver/ehdr.sizes", "graver/shdr.sizes", "graver/phdr.wideSizes", "graver/phdr.narrowSizes"], apart := false, laid := [("graver/ehdr.sizes", laid_graver_ehdr_sizes), ("graver/phdr.wideSizes", laid_graver_phdr_wideSizes), ("graver/phdr.narrowSizes", laid_graver_phdr_narrowSizes), ("graver/shdr.sizes", laid_graver_shdr_sizes)], narrowed := true }
def RawParsesUptoSaid : Prop := rawParsesUptoRow.holds Tryd.pinned (OpenSpec.upto rawParsesSpec)

/-- 'graverlaw11.RawAny', WHERE WHAT IT READS IS OF BULK AT MOST 1048576: true; the input reads as it did. -/
def rawAnyUptoRow : OpenClaim := { program := "ytceilmhinkkgfaadoor", sum := "83c43e0823162f6fe68570c94b5a548fd828a06f2830ab716ccf6537fb50c8b6", func := "graver/graverlaw11.RawAny", spec := "rawAny", inPlace := ["internal/abi.NoEscape", "internal/bytealg.MakeNoZero", "math/bits.Add64"], unfollowed := true, recurses := true, named := ["graver/ehdr.sizes", "graver/shdr.sizes", "graver/phdr.wideSizes", "graver/phdr.narrowSizes"], apart := false, laid := [("graver/ehdr.sizes", laid_graver_ehdr_sizes), ("graver/phdr.wideSizes", laid_graver_phdr_wideSizes), ("graver/phdr.narrowSizes", laid_graver_phdr_narrowSizes), ("graver/shdr.sizes", laid_graver_shdr_sizes)], narrowed := true }
def RawAnyUptoSaid : Prop := rawAnyUptoRow.holds Tryd.pinned (OpenSpec.upto rawAnySpec)

/-- 'graverlaw11.RawTells', WHERE WHAT IT READS IS OF BULK AT MOST 1048576: true; the input reads as it did. -/
def rawTellsUptoRow : OpenClaim := { program := "ytceilmhinkkgfaadoor", sum := "83c43e0823162f6fe68570c94b5a548fd828a06f2830ab716ccf6537fb50c8b6", func := "graver/graverlaw11.RawTells", spec := "rawTells", inPlace := ["internal/abi.NoEscape", "internal/bytealg.MakeNoZero", "math/bits.Add64"], unfollowed := true, recurses := true, named := ["graver/ehdr.sizes", "graver/shdr.sizes", "graver/phdr.wideSizes", "graver/phdr.narrowSizes"], apart := false, laid := [("graver/ehdr.sizes", laid_graver_ehdr_sizes), ("graver/phdr.wideSizes", laid_graver_phdr_wideSizes), ("graver/phdr.narrowSizes", laid_graver_phdr_narrowSizes), ("graver/shdr.sizes", laid_graver_shdr_sizes)], narrowed := true }
def RawTellsUptoSaid : Prop := rawTellsUptoRow.holds Tryd.pinned (OpenSpec.upto rawTellsSpec)

end Rows
end Go.Proofs.YtceilmhinkkgfaaDoor
