/-
  DERIVED. GIVEN WITH THE SEED: THE PROGRAM's TIES (one call each: nine closed facts by the kernel) AND EACH ROW's TIE, after the 31st guide's Derived/Test/Toyas{Tie, Card}.lean. No idea stands in it: it is a product of the set-up. Laid BY PROGRAM, IN A SANDBOX (cutbox-door.mjs). By AI agents, Wed Nov 11 2026. No macro, syntax, notation, axiom, sorry.
-/
import Derived.Test.YteoeohkjomehoaaDoorRows
import Derived.LaidByTextLater
import Derived.SevenTiedAt
import Derived.LaidSub
import Derived.LaidOnce
namespace Go.Proofs.YteoeohkjomehoaaDoor
open Go
set_option maxRecDepth 100000
theorem seatTie1 : Tryd.prog.laidByTextLater [("math/bits.deBruijn32tab", Rows.laid_math_bits_deBruijn32tab), ("math/bits.deBruijn64tab", Rows.laid_math_bits_deBruijn64tab), ("internal/strconv.uint64pow10", Rows.laid_internal_strconv_uint64pow10), ("graver/ehdr.sizes", Rows.laid_graver_ehdr_sizes), ("graver/phdr.wideSizes", Rows.laid_graver_phdr_wideSizes), ("graver/phdr.narrowSizes", Rows.laid_graver_phdr_narrowSizes), ("graver/shdr.sizes", Rows.laid_graver_shdr_sizes), ("graver/shdr.names", Rows.laid_graver_shdr_names), ("graver/symrec.wideSizes", Rows.laid_graver_symrec_wideSizes), ("graver/symrec.narrowSizes", Rows.laid_graver_symrec_narrowSizes), ("graver/symrec.bindings", Rows.laid_graver_symrec_bindings), ("graver/symrec.kinds", Rows.laid_graver_symrec_kinds)] [.data, .data, .data, .widerDeep, .widerDeep, .widerDeep, .widerDeep, .data, .widerDeep, .widerDeep, .widerDeep, .widerDeep] true :=
  Program.laidByTextLater_by_one 69 8 65 (by kernel_rfl) (by kernel_rfl) (by kernel_rfl) (by kernel_rfl) (by kernel_rfl) (by kernel_rfl) (fun _ _ => by kernel_rfl)
theorem noOwnUnsafe : Tryd.pinned.checked.prog.headLifts.contains "ownunsafe" = false := by kernel_rfl
theorem tie : Tryd.prog.laidByTextLater [("graver/ehdr.sizes", Rows.laid_graver_ehdr_sizes), ("graver/phdr.wideSizes", Rows.laid_graver_phdr_wideSizes), ("graver/phdr.narrowSizes", Rows.laid_graver_phdr_narrowSizes), ("graver/shdr.sizes", Rows.laid_graver_shdr_sizes), ("graver/symrec.wideSizes", Rows.laid_graver_symrec_wideSizes), ("graver/symrec.narrowSizes", Rows.laid_graver_symrec_narrowSizes)] [.widerDeep, .widerDeep, .widerDeep, .widerDeep, .widerDeep, .widerDeep] true :=
  Program.laidByTextLater.sub seatTie1 ["graver/ehdr.sizes", "graver/phdr.wideSizes", "graver/phdr.narrowSizes", "graver/shdr.sizes", "graver/symrec.wideSizes", "graver/symrec.narrowSizes"] (by kernel_rfl) (by kernel_rfl)
theorem topRecords_row_tie : Rows.topRecordsRow.laidByTextAt .later Tryd.pinned [.widerDeep, .widerDeep, .widerDeep, .widerDeep, .widerDeep, .widerDeep] true :=
  OpenClaim.laidByTextAt_later rfl rfl tie noOwnUnsafe
theorem tie2 : Tryd.prog.laidByTextLater [("math/bits.deBruijn32tab", Rows.laid_math_bits_deBruijn32tab), ("math/bits.deBruijn64tab", Rows.laid_math_bits_deBruijn64tab), ("internal/strconv.uint64pow10", Rows.laid_internal_strconv_uint64pow10), ("graver/symrec.wideSizes", Rows.laid_graver_symrec_wideSizes), ("graver/symrec.narrowSizes", Rows.laid_graver_symrec_narrowSizes), ("graver/symrec.bindings", Rows.laid_graver_symrec_bindings), ("graver/symrec.kinds", Rows.laid_graver_symrec_kinds)] [.data, .data, .data, .widerDeep, .widerDeep, .widerDeep, .widerDeep] true :=
  Program.laidByTextLater.sub seatTie1 ["math/bits.deBruijn32tab", "math/bits.deBruijn64tab", "internal/strconv.uint64pow10", "graver/symrec.wideSizes", "graver/symrec.narrowSizes", "graver/symrec.bindings", "graver/symrec.kinds"] (by kernel_rfl) (by kernel_rfl)
theorem symrecWords_row_tie : Rows.symrecWordsRow.laidByTextAt .later Tryd.pinned [.data, .data, .data, .widerDeep, .widerDeep, .widerDeep, .widerDeep] true :=
  OpenClaim.laidByTextAt_later rfl rfl tie2 noOwnUnsafe
theorem tie3 : Tryd.prog.laidByTextLater [("math/bits.deBruijn32tab", Rows.laid_math_bits_deBruijn32tab), ("math/bits.deBruijn64tab", Rows.laid_math_bits_deBruijn64tab), ("internal/strconv.uint64pow10", Rows.laid_internal_strconv_uint64pow10), ("graver/shdr.sizes", Rows.laid_graver_shdr_sizes), ("graver/shdr.names", Rows.laid_graver_shdr_names)] [.data, .data, .data, .widerDeep, .data] true :=
  Program.laidByTextLater.sub seatTie1 ["math/bits.deBruijn32tab", "math/bits.deBruijn64tab", "internal/strconv.uint64pow10", "graver/shdr.sizes", "graver/shdr.names"] (by kernel_rfl) (by kernel_rfl)
theorem shdrWords_row_tie : Rows.shdrWordsRow.laidByTextAt .later Tryd.pinned [.data, .data, .data, .widerDeep, .data] true :=
  OpenClaim.laidByTextAt_later rfl rfl tie3 noOwnUnsafe
theorem tie4 : Tryd.prog.laidByTextLater [("graver/symrec.wideSizes", Rows.laid_graver_symrec_wideSizes), ("graver/symrec.narrowSizes", Rows.laid_graver_symrec_narrowSizes)] [.widerDeep, .widerDeep] true :=
  Program.laidByTextLater.sub seatTie1 ["graver/symrec.wideSizes", "graver/symrec.narrowSizes"] (by kernel_rfl) (by kernel_rfl)
theorem checkShapes_row_tie : Rows.checkShapesRow.laidByTextAt .later Tryd.pinned [.widerDeep, .widerDeep] true :=
  OpenClaim.laidByTextAt_later rfl rfl tie4 noOwnUnsafe
theorem checkWrong_row_tie : Rows.checkWrongRow.laidByTextAt .later Tryd.pinned [.widerDeep, .widerDeep] true :=
  OpenClaim.laidByTextAt_later rfl rfl tie4 noOwnUnsafe
theorem checkMany_row_tie : Rows.checkManyRow.laidByTextAt .later Tryd.pinned [.widerDeep, .widerDeep] true :=
  OpenClaim.laidByTextAt_later rfl rfl tie4 noOwnUnsafe
theorem checkFaults_row_tie : Rows.checkFaultsRow.laidByTextAt .later Tryd.pinned [.widerDeep, .widerDeep] true :=
  OpenClaim.laidByTextAt_later rfl rfl tie4 noOwnUnsafe
theorem refsKeeps_row_tie : Rows.refsKeepsRow.laidByTextAt .later Tryd.pinned [.widerDeep, .widerDeep] true :=
  OpenClaim.laidByTextAt_later rfl rfl tie4 noOwnUnsafe
theorem topRecordsUpto_row_tie : Rows.topRecordsUptoRow.laidByTextAt .later Tryd.pinned [.widerDeep, .widerDeep, .widerDeep, .widerDeep, .widerDeep, .widerDeep] true :=
  OpenClaim.laidByTextAt_later rfl rfl tie noOwnUnsafe
theorem symrecWordsUpto_row_tie : Rows.symrecWordsUptoRow.laidByTextAt .later Tryd.pinned [.data, .data, .data, .widerDeep, .widerDeep, .widerDeep, .widerDeep] true :=
  OpenClaim.laidByTextAt_later rfl rfl tie2 noOwnUnsafe
theorem shdrWordsUpto_row_tie : Rows.shdrWordsUptoRow.laidByTextAt .later Tryd.pinned [.data, .data, .data, .widerDeep, .data] true :=
  OpenClaim.laidByTextAt_later rfl rfl tie3 noOwnUnsafe
theorem checkShapesUpto_row_tie : Rows.checkShapesUptoRow.laidByTextAt .later Tryd.pinned [.widerDeep, .widerDeep] true :=
  OpenClaim.laidByTextAt_later rfl rfl tie4 noOwnUnsafe
theorem checkWrongUpto_row_tie : Rows.checkWrongUptoRow.laidByTextAt .later Tryd.pinned [.widerDeep, .widerDeep] true :=
  OpenClaim.laidByTextAt_later rfl rfl tie4 noOwnUnsafe
theorem checkManyUpto_row_tie : Rows.checkManyUptoRow.laidByTextAt .later Tryd.pinned [.widerDeep, .widerDeep] true :=
  OpenClaim.laidByTextAt_later rfl rfl tie4 noOwnUnsafe
theorem checkFaultsUpto_row_tie : Rows.checkFaultsUptoRow.laidByTextAt .later Tryd.pinned [.widerDeep, .widerDeep] true :=
  OpenClaim.laidByTextAt_later rfl rfl tie4 noOwnUnsafe
theorem refsKeepsUpto_row_tie : Rows.refsKeepsUptoRow.laidByTextAt .later Tryd.pinned [.widerDeep, .widerDeep] true :=
  OpenClaim.laidByTextAt_later rfl rfl tie4 noOwnUnsafe
end Go.Proofs.YteoeohkjomehoaaDoor
