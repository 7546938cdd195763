/-
  DERIVED. GIVEN WITH THE SEED: THE PROGRAM's TIES (one call each: nine closed facts by the kernel) AND EACH ROW's TIE, after the 31st guide's Derived/Test/Toyas{Tie, Card}.lean. No idea stands in it: it is a product of the set-up. Laid BY PROGRAM, IN A SANDBOX (cutbox-door.mjs). By AI agents, Wed Nov 11 2026. No macro, syntax, notation, axiom, sorry.
-/
import Derived.Test.YtjmjebbjfjgbeaaDoorRows
import Derived.LaidByTextLater
import Derived.SevenTiedAt
import Derived.LaidSub
import Derived.LaidOnce
namespace Go.Proofs.YtjmjebbjfjgbeaaDoor
open Go
set_option maxRecDepth 100000
theorem seatTie1 : Tryd.prog.laidByTextLater [("math/bits.deBruijn32tab", Rows.laid_math_bits_deBruijn32tab), ("math/bits.deBruijn64tab", Rows.laid_math_bits_deBruijn64tab), ("internal/strconv.uint64pow10", Rows.laid_internal_strconv_uint64pow10), ("graver/ehdr.sizes", Rows.laid_graver_ehdr_sizes), ("graver/ehdr.types", Rows.laid_graver_ehdr_types), ("graver/ehdr.machines", Rows.laid_graver_ehdr_machines), ("graver/phdr.wideSizes", Rows.laid_graver_phdr_wideSizes), ("graver/phdr.narrowSizes", Rows.laid_graver_phdr_narrowSizes), ("graver/phdr.names", Rows.laid_graver_phdr_names), ("graver/shdr.sizes", Rows.laid_graver_shdr_sizes), ("graver/symrec.wideSizes", Rows.laid_graver_symrec_wideSizes), ("graver/symrec.narrowSizes", Rows.laid_graver_symrec_narrowSizes)] [.data, .data, .data, .widerDeep, .data, .data, .widerDeep, .widerDeep, .data, .widerDeep, .widerDeep, .widerDeep] true :=
  Program.laidByTextLater_by_one 80 8 65 (by kernel_rfl) (by kernel_rfl) (by kernel_rfl) (by kernel_rfl) (by kernel_rfl) (by kernel_rfl) (fun _ _ => by kernel_rfl)
theorem noOwnUnsafe : Tryd.pinned.checked.prog.headLifts.contains "ownunsafe" = false := by kernel_rfl
theorem tie : Tryd.prog.laidByTextLater [("graver/symrec.wideSizes", Rows.laid_graver_symrec_wideSizes), ("graver/symrec.narrowSizes", Rows.laid_graver_symrec_narrowSizes)] [.widerDeep, .widerDeep] true :=
  Program.laidByTextLater.sub seatTie1 ["graver/symrec.wideSizes", "graver/symrec.narrowSizes"] (by kernel_rfl) (by kernel_rfl)
theorem symrecPuts_row_tie : Rows.symrecPutsRow.laidByTextAt .later Tryd.pinned [.widerDeep, .widerDeep] true :=
  OpenClaim.laidByTextAt_later rfl rfl tie noOwnUnsafe
theorem symrecReads_row_tie : Rows.symrecReadsRow.laidByTextAt .later Tryd.pinned [.widerDeep, .widerDeep] true :=
  OpenClaim.laidByTextAt_later rfl rfl tie noOwnUnsafe
theorem symrecInfos_row_tie : Rows.symrecInfosRow.laidByTextAt .later Tryd.pinned [.widerDeep, .widerDeep] true :=
  OpenClaim.laidByTextAt_later rfl rfl tie noOwnUnsafe
theorem tie2 : Tryd.prog.laidByTextLater [("graver/shdr.sizes", Rows.laid_graver_shdr_sizes)] [.widerDeep] true :=
  Program.laidByTextLater.sub seatTie1 ["graver/shdr.sizes"] (by kernel_rfl) (by kernel_rfl)
theorem topTables_row_tie : Rows.topTablesRow.laidByTextAt .later Tryd.pinned [.widerDeep] true :=
  OpenClaim.laidByTextAt_later rfl rfl tie2 noOwnUnsafe
theorem tie3 : Tryd.prog.laidByTextLater [("graver/ehdr.sizes", Rows.laid_graver_ehdr_sizes)] [.widerDeep] true :=
  Program.laidByTextLater.sub seatTie1 ["graver/ehdr.sizes"] (by kernel_rfl) (by kernel_rfl)
theorem ehdrChecks_row_tie : Rows.ehdrChecksRow.laidByTextAt .later Tryd.pinned [.widerDeep] true :=
  OpenClaim.laidByTextAt_later rfl rfl tie3 noOwnUnsafe
theorem tie4 : Tryd.prog.laidByTextLater [("math/bits.deBruijn32tab", Rows.laid_math_bits_deBruijn32tab), ("math/bits.deBruijn64tab", Rows.laid_math_bits_deBruijn64tab), ("internal/strconv.uint64pow10", Rows.laid_internal_strconv_uint64pow10), ("graver/ehdr.sizes", Rows.laid_graver_ehdr_sizes), ("graver/ehdr.types", Rows.laid_graver_ehdr_types), ("graver/ehdr.machines", Rows.laid_graver_ehdr_machines)] [.data, .data, .data, .widerDeep, .data, .data] true :=
  Program.laidByTextLater.sub seatTie1 ["math/bits.deBruijn32tab", "math/bits.deBruijn64tab", "internal/strconv.uint64pow10", "graver/ehdr.sizes", "graver/ehdr.types", "graver/ehdr.machines"] (by kernel_rfl) (by kernel_rfl)
theorem ehdrWords_row_tie : Rows.ehdrWordsRow.laidByTextAt .later Tryd.pinned [.data, .data, .data, .widerDeep, .data, .data] true :=
  OpenClaim.laidByTextAt_later rfl rfl tie4 noOwnUnsafe
theorem tie5 : Tryd.prog.laidByTextLater [("math/bits.deBruijn32tab", Rows.laid_math_bits_deBruijn32tab), ("math/bits.deBruijn64tab", Rows.laid_math_bits_deBruijn64tab), ("internal/strconv.uint64pow10", Rows.laid_internal_strconv_uint64pow10), ("graver/phdr.wideSizes", Rows.laid_graver_phdr_wideSizes), ("graver/phdr.narrowSizes", Rows.laid_graver_phdr_narrowSizes), ("graver/phdr.names", Rows.laid_graver_phdr_names)] [.data, .data, .data, .widerDeep, .widerDeep, .data] true :=
  Program.laidByTextLater.sub seatTie1 ["math/bits.deBruijn32tab", "math/bits.deBruijn64tab", "internal/strconv.uint64pow10", "graver/phdr.wideSizes", "graver/phdr.narrowSizes", "graver/phdr.names"] (by kernel_rfl) (by kernel_rfl)
theorem phdrWords_row_tie : Rows.phdrWordsRow.laidByTextAt .later Tryd.pinned [.data, .data, .data, .widerDeep, .widerDeep, .data] true :=
  OpenClaim.laidByTextAt_later rfl rfl tie5 noOwnUnsafe
theorem symrecPutsUpto_row_tie : Rows.symrecPutsUptoRow.laidByTextAt .later Tryd.pinned [.widerDeep, .widerDeep] true :=
  OpenClaim.laidByTextAt_later rfl rfl tie noOwnUnsafe
theorem symrecReadsUpto_row_tie : Rows.symrecReadsUptoRow.laidByTextAt .later Tryd.pinned [.widerDeep, .widerDeep] true :=
  OpenClaim.laidByTextAt_later rfl rfl tie noOwnUnsafe
theorem symrecInfosUpto_row_tie : Rows.symrecInfosUptoRow.laidByTextAt .later Tryd.pinned [.widerDeep, .widerDeep] true :=
  OpenClaim.laidByTextAt_later rfl rfl tie noOwnUnsafe
theorem topTablesUpto_row_tie : Rows.topTablesUptoRow.laidByTextAt .later Tryd.pinned [.widerDeep] true :=
  OpenClaim.laidByTextAt_later rfl rfl tie2 noOwnUnsafe
theorem ehdrChecksUpto_row_tie : Rows.ehdrChecksUptoRow.laidByTextAt .later Tryd.pinned [.widerDeep] true :=
  OpenClaim.laidByTextAt_later rfl rfl tie3 noOwnUnsafe
theorem ehdrWordsUpto_row_tie : Rows.ehdrWordsUptoRow.laidByTextAt .later Tryd.pinned [.data, .data, .data, .widerDeep, .data, .data] true :=
  OpenClaim.laidByTextAt_later rfl rfl tie4 noOwnUnsafe
theorem phdrWordsUpto_row_tie : Rows.phdrWordsUptoRow.laidByTextAt .later Tryd.pinned [.data, .data, .data, .widerDeep, .widerDeep, .data] true :=
  OpenClaim.laidByTextAt_later rfl rfl tie5 noOwnUnsafe
end Go.Proofs.YtjmjebbjfjgbeaaDoor
