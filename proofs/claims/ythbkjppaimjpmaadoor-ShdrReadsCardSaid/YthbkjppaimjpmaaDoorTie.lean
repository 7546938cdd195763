/-
  DERIVED. GIVEN WITH THE SEED: THE PROGRAM's TIES (one call each: nine closed facts by the kernel) AND EACH ROW's TIE, after the 31st guide's Derived/Test/Toyas{Tie, Card}.lean. No idea stands in it: it is a product of the set-up. Laid BY PROGRAM, IN A SANDBOX (cutbox-door.mjs). By AI agents, Wed Nov 11 2026. No macro, syntax, notation, axiom, sorry.
-/
import Derived.Test.YthbkjppaimjpmaaDoorRows
import Derived.LaidByTextLater
import Derived.SevenTiedAt
import Derived.LaidSub
import Derived.LaidOnce
namespace Go.Proofs.YthbkjppaimjpmaaDoor
open Go
set_option maxRecDepth 100000
theorem seatTie1 : Tryd.prog.laidByTextLater [("graver/ehdr.sizes", Rows.laid_graver_ehdr_sizes), ("graver/phdr.wideSizes", Rows.laid_graver_phdr_wideSizes), ("graver/phdr.narrowSizes", Rows.laid_graver_phdr_narrowSizes), ("graver/shdr.sizes", Rows.laid_graver_shdr_sizes)] [.widerDeep, .widerDeep, .widerDeep, .widerDeep] true :=
  Program.laidByTextLater_by_one 29 8 14 (by kernel_rfl) (by kernel_rfl) (by kernel_rfl) (by kernel_rfl) (by kernel_rfl) (by kernel_rfl) (fun _ _ => by kernel_rfl)
theorem noOwnUnsafe : Tryd.pinned.checked.prog.headLifts.contains "ownunsafe" = false := by kernel_rfl
theorem tie : Tryd.prog.laidByTextLater [("graver/ehdr.sizes", Rows.laid_graver_ehdr_sizes)] [.widerDeep] true :=
  Program.laidByTextLater.sub seatTie1 ["graver/ehdr.sizes"] (by kernel_rfl) (by kernel_rfl)
theorem ehdrPuts_row_tie : Rows.ehdrPutsRow.laidByTextAt .later Tryd.pinned [.widerDeep] true :=
  OpenClaim.laidByTextAt_later rfl rfl tie noOwnUnsafe
theorem ehdrReads_row_tie : Rows.ehdrReadsRow.laidByTextAt .later Tryd.pinned [.widerDeep] true :=
  OpenClaim.laidByTextAt_later rfl rfl tie noOwnUnsafe
theorem tie2 : Tryd.prog.laidByTextLater [("graver/shdr.sizes", Rows.laid_graver_shdr_sizes)] [.widerDeep] true :=
  Program.laidByTextLater.sub seatTie1 ["graver/shdr.sizes"] (by kernel_rfl) (by kernel_rfl)
theorem shdrPuts_row_tie : Rows.shdrPutsRow.laidByTextAt .later Tryd.pinned [.widerDeep] true :=
  OpenClaim.laidByTextAt_later rfl rfl tie2 noOwnUnsafe
theorem shdrReads_row_tie : Rows.shdrReadsRow.laidByTextAt .later Tryd.pinned [.widerDeep] true :=
  OpenClaim.laidByTextAt_later rfl rfl tie2 noOwnUnsafe
theorem tie3 : Tryd.prog.laidByTextLater [("graver/phdr.wideSizes", Rows.laid_graver_phdr_wideSizes), ("graver/phdr.narrowSizes", Rows.laid_graver_phdr_narrowSizes)] [.widerDeep, .widerDeep] true :=
  Program.laidByTextLater.sub seatTie1 ["graver/phdr.wideSizes", "graver/phdr.narrowSizes"] (by kernel_rfl) (by kernel_rfl)
theorem phdrPuts_row_tie : Rows.phdrPutsRow.laidByTextAt .later Tryd.pinned [.widerDeep, .widerDeep] true :=
  OpenClaim.laidByTextAt_later rfl rfl tie3 noOwnUnsafe
theorem phdrReads_row_tie : Rows.phdrReadsRow.laidByTextAt .later Tryd.pinned [.widerDeep, .widerDeep] true :=
  OpenClaim.laidByTextAt_later rfl rfl tie3 noOwnUnsafe
theorem ehdrPutsUpto_row_tie : Rows.ehdrPutsUptoRow.laidByTextAt .later Tryd.pinned [.widerDeep] true :=
  OpenClaim.laidByTextAt_later rfl rfl tie noOwnUnsafe
theorem ehdrReadsUpto_row_tie : Rows.ehdrReadsUptoRow.laidByTextAt .later Tryd.pinned [.widerDeep] true :=
  OpenClaim.laidByTextAt_later rfl rfl tie noOwnUnsafe
theorem shdrPutsUpto_row_tie : Rows.shdrPutsUptoRow.laidByTextAt .later Tryd.pinned [.widerDeep] true :=
  OpenClaim.laidByTextAt_later rfl rfl tie2 noOwnUnsafe
theorem shdrReadsUpto_row_tie : Rows.shdrReadsUptoRow.laidByTextAt .later Tryd.pinned [.widerDeep] true :=
  OpenClaim.laidByTextAt_later rfl rfl tie2 noOwnUnsafe
theorem phdrPutsUpto_row_tie : Rows.phdrPutsUptoRow.laidByTextAt .later Tryd.pinned [.widerDeep, .widerDeep] true :=
  OpenClaim.laidByTextAt_later rfl rfl tie3 noOwnUnsafe
theorem phdrReadsUpto_row_tie : Rows.phdrReadsUptoRow.laidByTextAt .later Tryd.pinned [.widerDeep, .widerDeep] true :=
  OpenClaim.laidByTextAt_later rfl rfl tie3 noOwnUnsafe
end Go.Proofs.YthbkjppaimjpmaaDoor
