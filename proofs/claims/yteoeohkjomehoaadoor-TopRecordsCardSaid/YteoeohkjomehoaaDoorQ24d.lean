/- What Go functions of the program compute, each as a Lean function with the proof that the call returns just that. No condition but those in the statements. -/
import Derived.Test.YteoeohkjomehoaaDoorQ0
import Derived.Test.YteoeohkjomehoaaDoorQ1
import Derived.Test.YteoeohkjomehoaaDoorQ2
import Derived.Test.YteoeohkjomehoaaDoorQ5
import Derived.Test.YteoeohkjomehoaaDoorQ7
import Derived.Test.YteoeohkjomehoaaDoorQ8
import Derived.Test.YteoeohkjomehoaaDoorQ9
import Derived.Test.YteoeohkjomehoaaDoorQ10
import Derived.Test.YteoeohkjomehoaaDoorQ11
import Derived.Test.YteoeohkjomehoaaDoorQ13
import Derived.Test.YteoeohkjomehoaaDoorQ15
import Derived.Test.YteoeohkjomehoaaDoorQ17
import Derived.Test.YteoeohkjomehoaaDoorQ18
import Derived.Test.YteoeohkjomehoaaDoorQ19
import Derived.Test.YteoeohkjomehoaaDoorQ20
import Derived.Test.YteoeohkjomehoaaDoorQ22
import Derived.Test.YteoeohkjomehoaaDoorQ23
import Derived.Test.YteoeohkjomehoaaDoorPts
namespace Go.Proofs.YteoeohkjomehoaaDoor.Q
open Go.RowKit Go.Proofs.YteoeohkjomehoaaDoorW.PrintWords Go.Proofs.YteoeohkjomehoaaDoorW.PrintLast Go.Proofs.YteoeohkjomehoaaDoorW.PrintMore
attribute [local go_sem] max2_int min2_int max_two min_two max_three min_three max_four min_four   -- for this text's walks alone
set_option linter.unusedVariables false
set_option linter.unusedSimpArgs false

attribute [local go_sem high] eqA27
/-! #### gravertop_TopRecords: function 3 -/
mutual
def gravertop_TopRecords.l0 : Nat → List (S39) → ByteArray → Int → Bool → Bool → Option (Bool)
 | 0, _, _, _, _, _ => none
 | k + 1, x1, x6, x9, x254000, x254001 => if x9 < (x1.length : Int) then (gravertop_TopRecords.j1 k x1 x6 x9 (decide (x9 < 12)) x254000 x254001) else (gravertop_TopRecords.j1 k x1 x6 x9 false x254000 x254001)
def gravertop_TopRecords.j1 : Nat → List (S39) → ByteArray → Int → Bool → Bool → Bool → Option (Bool)
 | 0, _, _, _, _, _, _ => none
 | k + 1, x1, x6, x9, x57, x254000, x254001 => if x57 = true then (if 0 ≤ x9 then (if x9 < (x1.length : Int) then (if (Int.tmod x9 4) = 0 then ((shdr_Put.f k x254000 x254001 (IntKind.u64.wrap ((rd_T39 x1 x9).f0)) 0 (IntKind.u64.wrap ((rd_T39 x1 x9).f1)) 0 (IntKind.u64.wrap ((rd_T39 x1 x9).f2)) 0 0 0 (IntKind.u64.wrap ((rd_T39 x1 x9).f0)) 0).bind fun bt273 => (if bt273.2 = true then (if x6.size + bt273.1.size ≤ 9223372036854775807 then (gravertop_TopRecords.l0 k x1 (x6 ++ bt273.1) (wrap64 (x9 + 1)) x254000 x254001) else (none)) else (some false))) else (if (Int.tmod x9 4) = 1 then ((phdr_Put.f k x254000 x254001 (IntKind.u64.wrap ((rd_T39 x1 x9).f0)) (IntKind.u64.wrap ((rd_T39 x1 x9).f1)) 0 (IntKind.u64.wrap ((rd_T39 x1 x9).f2)) 0 0 0 (IntKind.u64.wrap ((rd_T39 x1 x9).f0))).bind fun bt275 => (if bt275.2 = true then (if x6.size + bt275.1.size ≤ 9223372036854775807 then (gravertop_TopRecords.l0 k x1 (x6 ++ bt275.1) (wrap64 (x9 + 1)) x254000 x254001) else (none)) else (some false))) else (if (Int.tmod x9 4) = 2 then ((symrec_Put.f k x254000 x254001 (IntKind.u64.wrap ((rd_T39 x1 x9).f0)) (Go.bits .and .u64 (IntKind.u64.wrap ((rd_T39 x1 x9).f1)) 255) 0 (Go.bits .and .u64 (IntKind.u64.wrap ((rd_T39 x1 x9).f2)) 65535) (IntKind.u64.wrap ((rd_T39 x1 x9).f2)) 0).bind fun bt277 => (if bt277.2 = true then (if x6.size + bt277.1.size ≤ 9223372036854775807 then (gravertop_TopRecords.l0 k x1 (x6 ++ bt277.1) (wrap64 (x9 + 1)) x254000 x254001) else (none)) else (some false))) else ((relrec_Put.f k x254000 x254001 true (IntKind.u64.wrap ((rd_T39 x1 x9).f0)) (Go.bits .and .u64 (IntKind.u64.wrap ((rd_T39 x1 x9).f1)) 65535) (Go.bits .and .u64 (IntKind.u64.wrap ((rd_T39 x1 x9).f2)) 255) (IntKind.u64.wrap ((rd_T39 x1 x9).f1))).bind fun bt279 => (if bt279.2 = true then (if x6.size + bt279.1.size ≤ 9223372036854775807 then (gravertop_TopRecords.l0 k x1 (x6 ++ bt279.1) (wrap64 (x9 + 1)) x254000 x254001) else (none)) else (some false)))))) else (none)) else (none)) else ((class_Read.f x6).bind fun bt281 => (if bt281.2.2.2.2.2 = 0 then (gravertop_TopRecords.j2 k x1 x6 ((!(bt281.1 == x254000)) || (!(bt281.2.1 == x254001))) x254000 x254001) else (gravertop_TopRecords.j2 k x1 x6 true x254000 x254001)))
def gravertop_TopRecords.j2 : Nat → List (S39) → ByteArray → Bool → Bool → Bool → Option (Bool)
 | 0, _, _, _, _, _ => none
 | k + 1, x1, x6, x147, x254000, x254001 => if x147 = true then (some false) else (if 16 ≤ (x6.size : Int) then ((ehdr_Read.f k x254000 x254001 (x6.extract 16 x6.size)).bind fun bt288 => (if bt288.2.2.2.2.2.2.2.2.2.2.2.2.2 = true then ((ehdr_Head_Check.f k bt288.1 bt288.2.1 bt288.2.2.1 bt288.2.2.2.1 bt288.2.2.2.2.1 bt288.2.2.2.2.2.1 bt288.2.2.2.2.2.2.1 bt288.2.2.2.2.2.2.2.1 bt288.2.2.2.2.2.2.2.2.1 bt288.2.2.2.2.2.2.2.2.2.1 bt288.2.2.2.2.2.2.2.2.2.2.1 bt288.2.2.2.2.2.2.2.2.2.2.2.1 bt288.2.2.2.2.2.2.2.2.2.2.2.2.1 x254000 x254001).bind fun t303 => (gravertop_TopRecords.j3 k x1 x6 (t303 != 0) x254000 x254001)) else (gravertop_TopRecords.j3 k x1 x6 true x254000 x254001))) else (none))
def gravertop_TopRecords.j3 : Nat → List (S39) → ByteArray → Bool → Bool → Bool → Option (Bool)
 | 0, _, _, _, _, _ => none
 | k + 1, x1, x6, x162, x254000, x254001 => if x162 = true then (some false) else ((ehdr_Size.f k x254000 x254001).bind fun t304 => (if 0 ≤ (wrap64 (16 + t304)) then (if (wrap64 (16 + t304)) ≤ (x6.size : Int) then (gravertop_TopRecords.l1 k x1 (x6.extract ((wrap64 (16 + t304)) : Int).toNat x6.size) 0 x254000 x254001) else (none)) else (none)))
def gravertop_TopRecords.l1 : Nat → List (S39) → ByteArray → Int → Bool → Bool → Option (Bool)
 | 0, _, _, _, _, _ => none
 | k + 1, x1, x6, x19, x254000, x254001 => if x19 < (x1.length : Int) then (gravertop_TopRecords.j5 k x1 x6 x19 (decide (x19 < 12)) x254000 x254001) else (gravertop_TopRecords.j5 k x1 x6 x19 false x254000 x254001)
def gravertop_TopRecords.j5 : Nat → List (S39) → ByteArray → Int → Bool → Bool → Bool → Option (Bool)
 | 0, _, _, _, _, _, _ => none
 | k + 1, x1, x6, x19, x175, x254000, x254001 => if x175 = true then (if 0 ≤ x19 then (if x19 < (x1.length : Int) then (if (Int.tmod x19 4) = 0 then ((shdr_Read.f k x254000 x254001 x6).bind fun bt308 => ((shdr_Size.f k x254000 x254001).bind fun t320 => (if bt308.1 = (IntKind.u64.wrap ((rd_T39 x1 x19).f0)) then (if bt308.2.2.1 = (IntKind.u64.wrap ((rd_T39 x1 x19).f1)) then (if bt308.2.2.2.2.1 = (IntKind.u64.wrap ((rd_T39 x1 x19).f2)) then (if bt308.2.2.2.2.2.2.2.2.1 = (IntKind.u64.wrap ((rd_T39 x1 x19).f0)) then (if bt308.2.2.2.2.2.1 = 0 then (if 0 ≤ t320 then (if t320 ≤ (x6.size : Int) then (gravertop_TopRecords.l1 k x1 (x6.extract (t320 : Int).toNat x6.size) (wrap64 (x19 + 1)) x254000 x254001) else (none)) else (none)) else (some false)) else (some false)) else (some false)) else (some false)) else (some false)))) else (if (Int.tmod x19 4) = 1 then ((phdr_Read.f k x254000 x254001 x6).bind fun bt321 => ((phdr_Size.f k x254000 x254001).bind fun t331 => (if bt321.1 = (IntKind.u64.wrap ((rd_T39 x1 x19).f0)) then (if bt321.2.1 = (IntKind.u64.wrap ((rd_T39 x1 x19).f1)) then (if bt321.2.2.2.1 = (IntKind.u64.wrap ((rd_T39 x1 x19).f2)) then (if bt321.2.2.2.2.2.2.2.1 = (IntKind.u64.wrap ((rd_T39 x1 x19).f0)) then (if bt321.2.2.2.2.2.2.1 = 0 then (if 0 ≤ t331 then (if t331 ≤ (x6.size : Int) then (gravertop_TopRecords.l1 k x1 (x6.extract (t331 : Int).toNat x6.size) (wrap64 (x19 + 1)) x254000 x254001) else (none)) else (none)) else (some false)) else (some false)) else (some false)) else (some false)) else (some false)))) else (if (Int.tmod x19 4) = 2 then ((symrec_Read.f k x254000 x254001 x6).bind fun bt332 => ((symrec_Size.f k x254000 x254001).bind fun t340 => (if bt332.1 = (IntKind.u64.wrap ((rd_T39 x1 x19).f0)) then (if bt332.2.1 = (Go.bits .and .u64 (IntKind.u64.wrap ((rd_T39 x1 x19).f1)) 255) then (if bt332.2.2.2.1 = (Go.bits .and .u64 (IntKind.u64.wrap ((rd_T39 x1 x19).f2)) 65535) then (if bt332.2.2.2.2.1 = (IntKind.u64.wrap ((rd_T39 x1 x19).f2)) then (if 0 ≤ t340 then (if t340 ≤ (x6.size : Int) then (gravertop_TopRecords.l1 k x1 (x6.extract (t340 : Int).toNat x6.size) (wrap64 (x19 + 1)) x254000 x254001) else (none)) else (none)) else (some false)) else (some false)) else (some false)) else (some false)))) else ((relrec_Read.f k x254000 x254001 true x6).bind fun bt341 => ((relrec_Size.f x254000 x254001 true).bind fun t347 => (if bt341.1 = (IntKind.u64.wrap ((rd_T39 x1 x19).f0)) then (if bt341.2.1 = (Go.bits .and .u64 (IntKind.u64.wrap ((rd_T39 x1 x19).f1)) 65535) then (if bt341.2.2.1 = (Go.bits .and .u64 (IntKind.u64.wrap ((rd_T39 x1 x19).f2)) 255) then (if bt341.2.2.2.1 = (IntKind.u64.wrap ((rd_T39 x1 x19).f1)) then (if 0 ≤ t347 then (if t347 ≤ (x6.size : Int) then (gravertop_TopRecords.l1 k x1 (x6.extract (t347 : Int).toNat x6.size) (wrap64 (x19 + 1)) x254000 x254001) else (none)) else (none)) else (some false)) else (some false)) else (some false)) else (some false))))))) else (none)) else (none)) else (some (x6.toList == ([] : List UInt8)))
end
def gravertop_TopRecords.f (k : Nat) (a0 : Int) (l1 : List (S39)) : Option (Bool) := (gravertop_records.f k).bind fun t250 => (if t250 = true then ((gravertop_formOf.f a0).bind fun bt251 => ((class_Ident_Bytes.f bt251.1 bt251.2 0 0 (⟨#[]⟩ : ByteArray)).bind fun t254 => ((ehdr_Plain.f k bt251.1 bt251.2).bind fun bt255 => ((ehdr_Put.f k bt251.1 bt251.2 bt255.1 bt255.2.1 bt255.2.2.1 bt255.2.2.2.1 bt255.2.2.2.2.1 bt255.2.2.2.2.2.1 bt255.2.2.2.2.2.2.1 bt255.2.2.2.2.2.2.2.1 bt255.2.2.2.2.2.2.2.2.1 bt255.2.2.2.2.2.2.2.2.2.1 bt255.2.2.2.2.2.2.2.2.2.2.1 bt255.2.2.2.2.2.2.2.2.2.2.2.1 bt255.2.2.2.2.2.2.2.2.2.2.2.2).bind fun bt268 => (if t254.size + bt268.1.size ≤ 9223372036854775807 then (gravertop_TopRecords.l0 k l1 (t254 ++ bt268.1) 0 bt251.1 bt251.2) else (none)))))) else (some false))
theorem gravertop_TopRecords.mono_l : ∀ k, (∀ y0 y1 y2 y3 y4, LeO (gravertop_TopRecords.l0 k y0 y1 y2 y3 y4) (gravertop_TopRecords.l0 (k + 1) y0 y1 y2 y3 y4)) ∧ (∀ y0 y1 y2 y3 y4 y5, LeO (gravertop_TopRecords.j1 k y0 y1 y2 y3 y4 y5) (gravertop_TopRecords.j1 (k + 1) y0 y1 y2 y3 y4 y5)) ∧ (∀ y0 y1 y2 y3 y4, LeO (gravertop_TopRecords.j2 k y0 y1 y2 y3 y4) (gravertop_TopRecords.j2 (k + 1) y0 y1 y2 y3 y4)) ∧ (∀ y0 y1 y2 y3 y4, LeO (gravertop_TopRecords.j3 k y0 y1 y2 y3 y4) (gravertop_TopRecords.j3 (k + 1) y0 y1 y2 y3 y4)) ∧ (∀ y0 y1 y2 y3 y4, LeO (gravertop_TopRecords.l1 k y0 y1 y2 y3 y4) (gravertop_TopRecords.l1 (k + 1) y0 y1 y2 y3 y4)) ∧ (∀ y0 y1 y2 y3 y4 y5, LeO (gravertop_TopRecords.j5 k y0 y1 y2 y3 y4 y5) (gravertop_TopRecords.j5 (k + 1) y0 y1 y2 y3 y4 y5))
 | 0 => ⟨fun _ _ _ _ _ r h => by simp [gravertop_TopRecords.l0] at h, fun _ _ _ _ _ _ r h => by simp [gravertop_TopRecords.j1] at h, fun _ _ _ _ _ r h => by simp [gravertop_TopRecords.j2] at h, fun _ _ _ _ _ r h => by simp [gravertop_TopRecords.j3] at h, fun _ _ _ _ _ r h => by simp [gravertop_TopRecords.l1] at h, fun _ _ _ _ _ _ r h => by simp [gravertop_TopRecords.j5] at h⟩
 | k + 1 => by
  (obtain ⟨ih0, ih1, ih2, ih3, ih4, ih5⟩ := gravertop_TopRecords.mono_l k); refine ⟨?_, ?_, ?_, ?_, ?_, ?_⟩
  ·
   intro y0 y1 y2 y3 y4; unfold gravertop_TopRecords.l0
   repeat' first
   | (with_reducible exact ih0 _ _ _ _ _)
   | (with_reducible exact ih1 _ _ _ _ _ _)
   | (with_reducible exact ih2 _ _ _ _ _)
   | (with_reducible exact ih3 _ _ _ _ _)
   | (with_reducible exact ih4 _ _ _ _ _)
   | (with_reducible exact ih5 _ _ _ _ _ _)
   | (with_reducible exact ehdr_Head_Check.mono _ _ _ _ _ _ _ _ _ _ _ _ _ _ _ _)
   | (with_reducible exact ehdr_Plain.mono _ _ _)
   | (with_reducible exact ehdr_Put.mono _ _ _ _ _ _ _ _ _ _ _ _ _ _ _ _)
   | (with_reducible exact ehdr_Read.mono _ _ _ _)
   | (with_reducible exact ehdr_Size.mono _ _ _)
   | (with_reducible exact gravertop_records.mono _)
   | (with_reducible exact phdr_Put.mono _ _ _ _ _ _ _ _ _ _ _)
   | (with_reducible exact phdr_Read.mono _ _ _ _)
   | (with_reducible exact phdr_Size.mono _ _ _)
   | (with_reducible exact relrec_Put.mono _ _ _ _ _ _ _ _)
   | (with_reducible exact relrec_Read.mono _ _ _ _ _)
   | (with_reducible exact shdr_Put.mono _ _ _ _ _ _ _ _ _ _ _ _ _)
   | (with_reducible exact shdr_Read.mono _ _ _ _)
   | (with_reducible exact shdr_Size.mono _ _ _)
   | (with_reducible exact symrec_Put.mono _ _ _ _ _ _ _ _ _)
   | (with_reducible exact symrec_Read.mono _ _ _ _)
   | (with_reducible exact symrec_Size.mono _ _ _)
   | (with_reducible exact LeO.refl _)
   | (with_reducible exact LeO.none _)
   | (with_reducible refine LeO.ite ?_ ?_)
   | (with_reducible refine LeO.bind ?_ (fun _ => ?_))
   | exact ih0 _ _ _ _ _
   | exact ih1 _ _ _ _ _ _
   | exact ih2 _ _ _ _ _
   | exact ih3 _ _ _ _ _
   | exact ih4 _ _ _ _ _
   | exact ih5 _ _ _ _ _ _
   | exact ehdr_Head_Check.mono _ _ _ _ _ _ _ _ _ _ _ _ _ _ _ _
   | exact ehdr_Plain.mono _ _ _
   | exact ehdr_Put.mono _ _ _ _ _ _ _ _ _ _ _ _ _ _ _ _
   | exact ehdr_Read.mono _ _ _ _
   | exact ehdr_Size.mono _ _ _
   | exact gravertop_records.mono _
   | exact phdr_Put.mono _ _ _ _ _ _ _ _ _ _ _
   | exact phdr_Read.mono _ _ _ _
   | exact phdr_Size.mono _ _ _
   | exact relrec_Put.mono _ _ _ _ _ _ _ _
   | exact relrec_Read.mono _ _ _ _ _
   | exact shdr_Put.mono _ _ _ _ _ _ _ _ _ _ _ _ _
   | exact shdr_Read.mono _ _ _ _
   | exact shdr_Size.mono _ _ _
   | exact symrec_Put.mono _ _ _ _ _ _ _ _ _
   | exact symrec_Read.mono _ _ _ _
   | exact symrec_Size.mono _ _ _
   | exact LeO.none _
   | refine LeO.ite ?_ ?_
   | refine LeO.bind ?_ (fun _ => ?_)
  ·
   intro y0 y1 y2 y3 y4 y5; unfold gravertop_TopRecords.j1
   repeat' first
   | (with_reducible exact ih0 _ _ _ _ _)
   | (with_reducible exact ih1 _ _ _ _ _ _)
   | (with_reducible exact ih2 _ _ _ _ _)
   | (with_reducible exact ih3 _ _ _ _ _)
   | (with_reducible exact ih4 _ _ _ _ _)
   | (with_reducible exact ih5 _ _ _ _ _ _)
   | (with_reducible exact ehdr_Head_Check.mono _ _ _ _ _ _ _ _ _ _ _ _ _ _ _ _)
   | (with_reducible exact ehdr_Plain.mono _ _ _)
   | (with_reducible exact ehdr_Put.mono _ _ _ _ _ _ _ _ _ _ _ _ _ _ _ _)
   | (with_reducible exact ehdr_Read.mono _ _ _ _)
   | (with_reducible exact ehdr_Size.mono _ _ _)
   | (with_reducible exact gravertop_records.mono _)
   | (with_reducible exact phdr_Put.mono _ _ _ _ _ _ _ _ _ _ _)
   | (with_reducible exact phdr_Read.mono _ _ _ _)
   | (with_reducible exact phdr_Size.mono _ _ _)
   | (with_reducible exact relrec_Put.mono _ _ _ _ _ _ _ _)
   | (with_reducible exact relrec_Read.mono _ _ _ _ _)
   | (with_reducible exact shdr_Put.mono _ _ _ _ _ _ _ _ _ _ _ _ _)
   | (with_reducible exact shdr_Read.mono _ _ _ _)
   | (with_reducible exact shdr_Size.mono _ _ _)
   | (with_reducible exact symrec_Put.mono _ _ _ _ _ _ _ _ _)
   | (with_reducible exact symrec_Read.mono _ _ _ _)
   | (with_reducible exact symrec_Size.mono _ _ _)
   | (with_reducible exact LeO.refl _)
   | (with_reducible exact LeO.none _)
   | (with_reducible refine LeO.ite ?_ ?_)
   | (with_reducible refine LeO.bind ?_ (fun _ => ?_))
   | exact ih0 _ _ _ _ _
   | exact ih1 _ _ _ _ _ _
   | exact ih2 _ _ _ _ _
   | exact ih3 _ _ _ _ _
   | exact ih4 _ _ _ _ _
   | exact ih5 _ _ _ _ _ _
   | exact ehdr_Head_Check.mono _ _ _ _ _ _ _ _ _ _ _ _ _ _ _ _
   | exact ehdr_Plain.mono _ _ _
   | exact ehdr_Put.mono _ _ _ _ _ _ _ _ _ _ _ _ _ _ _ _
   | exact ehdr_Read.mono _ _ _ _
   | exact ehdr_Size.mono _ _ _
   | exact gravertop_records.mono _
   | exact phdr_Put.mono _ _ _ _ _ _ _ _ _ _ _
   | exact phdr_Read.mono _ _ _ _
   | exact phdr_Size.mono _ _ _
   | exact relrec_Put.mono _ _ _ _ _ _ _ _
   | exact relrec_Read.mono _ _ _ _ _
   | exact shdr_Put.mono _ _ _ _ _ _ _ _ _ _ _ _ _
   | exact shdr_Read.mono _ _ _ _
   | exact shdr_Size.mono _ _ _
   | exact symrec_Put.mono _ _ _ _ _ _ _ _ _
   | exact symrec_Read.mono _ _ _ _
   | exact symrec_Size.mono _ _ _
   | exact LeO.none _
   | refine LeO.ite ?_ ?_
   | refine LeO.bind ?_ (fun _ => ?_)
  ·
   intro y0 y1 y2 y3 y4; unfold gravertop_TopRecords.j2
   repeat' first
   | (with_reducible exact ih0 _ _ _ _ _)
   | (with_reducible exact ih1 _ _ _ _ _ _)
   | (with_reducible exact ih2 _ _ _ _ _)
   | (with_reducible exact ih3 _ _ _ _ _)
   | (with_reducible exact ih4 _ _ _ _ _)
   | (with_reducible exact ih5 _ _ _ _ _ _)
   | (with_reducible exact ehdr_Head_Check.mono _ _ _ _ _ _ _ _ _ _ _ _ _ _ _ _)
   | (with_reducible exact ehdr_Plain.mono _ _ _)
   | (with_reducible exact ehdr_Put.mono _ _ _ _ _ _ _ _ _ _ _ _ _ _ _ _)
   | (with_reducible exact ehdr_Read.mono _ _ _ _)
   | (with_reducible exact ehdr_Size.mono _ _ _)
   | (with_reducible exact gravertop_records.mono _)
   | (with_reducible exact phdr_Put.mono _ _ _ _ _ _ _ _ _ _ _)
   | (with_reducible exact phdr_Read.mono _ _ _ _)
   | (with_reducible exact phdr_Size.mono _ _ _)
   | (with_reducible exact relrec_Put.mono _ _ _ _ _ _ _ _)
   | (with_reducible exact relrec_Read.mono _ _ _ _ _)
   | (with_reducible exact shdr_Put.mono _ _ _ _ _ _ _ _ _ _ _ _ _)
   | (with_reducible exact shdr_Read.mono _ _ _ _)
   | (with_reducible exact shdr_Size.mono _ _ _)
   | (with_reducible exact symrec_Put.mono _ _ _ _ _ _ _ _ _)
   | (with_reducible exact symrec_Read.mono _ _ _ _)
   | (with_reducible exact symrec_Size.mono _ _ _)
   | (with_reducible exact LeO.refl _)
   | (with_reducible exact LeO.none _)
   | (with_reducible refine LeO.ite ?_ ?_)
   | (with_reducible refine LeO.bind ?_ (fun _ => ?_))
   | exact ih0 _ _ _ _ _
   | exact ih1 _ _ _ _ _ _
   | exact ih2 _ _ _ _ _
   | exact ih3 _ _ _ _ _
   | exact ih4 _ _ _ _ _
   | exact ih5 _ _ _ _ _ _
   | exact ehdr_Head_Check.mono _ _ _ _ _ _ _ _ _ _ _ _ _ _ _ _
   | exact ehdr_Plain.mono _ _ _
   | exact ehdr_Put.mono _ _ _ _ _ _ _ _ _ _ _ _ _ _ _ _
   | exact ehdr_Read.mono _ _ _ _
   | exact ehdr_Size.mono _ _ _
   | exact gravertop_records.mono _
   | exact phdr_Put.mono _ _ _ _ _ _ _ _ _ _ _
   | exact phdr_Read.mono _ _ _ _
   | exact phdr_Size.mono _ _ _
   | exact relrec_Put.mono _ _ _ _ _ _ _ _
   | exact relrec_Read.mono _ _ _ _ _
   | exact shdr_Put.mono _ _ _ _ _ _ _ _ _ _ _ _ _
   | exact shdr_Read.mono _ _ _ _
   | exact shdr_Size.mono _ _ _
   | exact symrec_Put.mono _ _ _ _ _ _ _ _ _
   | exact symrec_Read.mono _ _ _ _
   | exact symrec_Size.mono _ _ _
   | exact LeO.none _
   | refine LeO.ite ?_ ?_
   | refine LeO.bind ?_ (fun _ => ?_)
  ·
   intro y0 y1 y2 y3 y4; unfold gravertop_TopRecords.j3
   repeat' first
   | (with_reducible exact ih0 _ _ _ _ _)
   | (with_reducible exact ih1 _ _ _ _ _ _)
   | (with_reducible exact ih2 _ _ _ _ _)
   | (with_reducible exact ih3 _ _ _ _ _)
   | (with_reducible exact ih4 _ _ _ _ _)
   | (with_reducible exact ih5 _ _ _ _ _ _)
   | (with_reducible exact ehdr_Head_Check.mono _ _ _ _ _ _ _ _ _ _ _ _ _ _ _ _)
   | (with_reducible exact ehdr_Plain.mono _ _ _)
   | (with_reducible exact ehdr_Put.mono _ _ _ _ _ _ _ _ _ _ _ _ _ _ _ _)
   | (with_reducible exact ehdr_Read.mono _ _ _ _)
   | (with_reducible exact ehdr_Size.mono _ _ _)
   | (with_reducible exact gravertop_records.mono _)
   | (with_reducible exact phdr_Put.mono _ _ _ _ _ _ _ _ _ _ _)
   | (with_reducible exact phdr_Read.mono _ _ _ _)
   | (with_reducible exact phdr_Size.mono _ _ _)
   | (with_reducible exact relrec_Put.mono _ _ _ _ _ _ _ _)
   | (with_reducible exact relrec_Read.mono _ _ _ _ _)
   | (with_reducible exact shdr_Put.mono _ _ _ _ _ _ _ _ _ _ _ _ _)
   | (with_reducible exact shdr_Read.mono _ _ _ _)
   | (with_reducible exact shdr_Size.mono _ _ _)
   | (with_reducible exact symrec_Put.mono _ _ _ _ _ _ _ _ _)
   | (with_reducible exact symrec_Read.mono _ _ _ _)
   | (with_reducible exact symrec_Size.mono _ _ _)
   | (with_reducible exact LeO.refl _)
   | (with_reducible exact LeO.none _)
   | (with_reducible refine LeO.ite ?_ ?_)
   | (with_reducible refine LeO.bind ?_ (fun _ => ?_))
   | exact ih0 _ _ _ _ _
   | exact ih1 _ _ _ _ _ _
   | exact ih2 _ _ _ _ _
   | exact ih3 _ _ _ _ _
   | exact ih4 _ _ _ _ _
   | exact ih5 _ _ _ _ _ _
   | exact ehdr_Head_Check.mono _ _ _ _ _ _ _ _ _ _ _ _ _ _ _ _
   | exact ehdr_Plain.mono _ _ _
   | exact ehdr_Put.mono _ _ _ _ _ _ _ _ _ _ _ _ _ _ _ _
   | exact ehdr_Read.mono _ _ _ _
   | exact ehdr_Size.mono _ _ _
   | exact gravertop_records.mono _
   | exact phdr_Put.mono _ _ _ _ _ _ _ _ _ _ _
   | exact phdr_Read.mono _ _ _ _
   | exact phdr_Size.mono _ _ _
   | exact relrec_Put.mono _ _ _ _ _ _ _ _
   | exact relrec_Read.mono _ _ _ _ _
   | exact shdr_Put.mono _ _ _ _ _ _ _ _ _ _ _ _ _
   | exact shdr_Read.mono _ _ _ _
   | exact shdr_Size.mono _ _ _
   | exact symrec_Put.mono _ _ _ _ _ _ _ _ _
   | exact symrec_Read.mono _ _ _ _
   | exact symrec_Size.mono _ _ _
   | exact LeO.none _
   | refine LeO.ite ?_ ?_
   | refine LeO.bind ?_ (fun _ => ?_)
  ·
   intro y0 y1 y2 y3 y4; unfold gravertop_TopRecords.l1
   repeat' first
   | (with_reducible exact ih0 _ _ _ _ _)
   | (with_reducible exact ih1 _ _ _ _ _ _)
   | (with_reducible exact ih2 _ _ _ _ _)
   | (with_reducible exact ih3 _ _ _ _ _)
   | (with_reducible exact ih4 _ _ _ _ _)
   | (with_reducible exact ih5 _ _ _ _ _ _)
   | (with_reducible exact ehdr_Head_Check.mono _ _ _ _ _ _ _ _ _ _ _ _ _ _ _ _)
   | (with_reducible exact ehdr_Plain.mono _ _ _)
   | (with_reducible exact ehdr_Put.mono _ _ _ _ _ _ _ _ _ _ _ _ _ _ _ _)
   | (with_reducible exact ehdr_Read.mono _ _ _ _)
   | (with_reducible exact ehdr_Size.mono _ _ _)
   | (with_reducible exact gravertop_records.mono _)
   | (with_reducible exact phdr_Put.mono _ _ _ _ _ _ _ _ _ _ _)
   | (with_reducible exact phdr_Read.mono _ _ _ _)
   | (with_reducible exact phdr_Size.mono _ _ _)
   | (with_reducible exact relrec_Put.mono _ _ _ _ _ _ _ _)
   | (with_reducible exact relrec_Read.mono _ _ _ _ _)
   | (with_reducible exact shdr_Put.mono _ _ _ _ _ _ _ _ _ _ _ _ _)
   | (with_reducible exact shdr_Read.mono _ _ _ _)
   | (with_reducible exact shdr_Size.mono _ _ _)
   | (with_reducible exact symrec_Put.mono _ _ _ _ _ _ _ _ _)
   | (with_reducible exact symrec_Read.mono _ _ _ _)
   | (with_reducible exact symrec_Size.mono _ _ _)
   | (with_reducible exact LeO.refl _)
   | (with_reducible exact LeO.none _)
   | (with_reducible refine LeO.ite ?_ ?_)
   | (with_reducible refine LeO.bind ?_ (fun _ => ?_))
   | exact ih0 _ _ _ _ _
   | exact ih1 _ _ _ _ _ _
   | exact ih2 _ _ _ _ _
   | exact ih3 _ _ _ _ _
   | exact ih4 _ _ _ _ _
   | exact ih5 _ _ _ _ _ _
   | exact ehdr_Head_Check.mono _ _ _ _ _ _ _ _ _ _ _ _ _ _ _ _
   | exact ehdr_Plain.mono _ _ _
   | exact ehdr_Put.mono _ _ _ _ _ _ _ _ _ _ _ _ _ _ _ _
   | exact ehdr_Read.mono _ _ _ _
   | exact ehdr_Size.mono _ _ _
   | exact gravertop_records.mono _
   | exact phdr_Put.mono _ _ _ _ _ _ _ _ _ _ _
   | exact phdr_Read.mono _ _ _ _
   | exact phdr_Size.mono _ _ _
   | exact relrec_Put.mono _ _ _ _ _ _ _ _
   | exact relrec_Read.mono _ _ _ _ _
   | exact shdr_Put.mono _ _ _ _ _ _ _ _ _ _ _ _ _
   | exact shdr_Read.mono _ _ _ _
   | exact shdr_Size.mono _ _ _
   | exact symrec_Put.mono _ _ _ _ _ _ _ _ _
   | exact symrec_Read.mono _ _ _ _
   | exact symrec_Size.mono _ _ _
   | exact LeO.none _
   | refine LeO.ite ?_ ?_
   | refine LeO.bind ?_ (fun _ => ?_)
  ·
   intro y0 y1 y2 y3 y4 y5; unfold gravertop_TopRecords.j5
   repeat' first
   | (with_reducible exact ih0 _ _ _ _ _)
   | (with_reducible exact ih1 _ _ _ _ _ _)
   | (with_reducible exact ih2 _ _ _ _ _)
   | (with_reducible exact ih3 _ _ _ _ _)
   | (with_reducible exact ih4 _ _ _ _ _)
   | (with_reducible exact ih5 _ _ _ _ _ _)
   | (with_reducible exact ehdr_Head_Check.mono _ _ _ _ _ _ _ _ _ _ _ _ _ _ _ _)
   | (with_reducible exact ehdr_Plain.mono _ _ _)
   | (with_reducible exact ehdr_Put.mono _ _ _ _ _ _ _ _ _ _ _ _ _ _ _ _)
   | (with_reducible exact ehdr_Read.mono _ _ _ _)
   | (with_reducible exact ehdr_Size.mono _ _ _)
   | (with_reducible exact gravertop_records.mono _)
   | (with_reducible exact phdr_Put.mono _ _ _ _ _ _ _ _ _ _ _)
   | (with_reducible exact phdr_Read.mono _ _ _ _)
   | (with_reducible exact phdr_Size.mono _ _ _)
   | (with_reducible exact relrec_Put.mono _ _ _ _ _ _ _ _)
   | (with_reducible exact relrec_Read.mono _ _ _ _ _)
   | (with_reducible exact shdr_Put.mono _ _ _ _ _ _ _ _ _ _ _ _ _)
   | (with_reducible exact shdr_Read.mono _ _ _ _)
   | (with_reducible exact shdr_Size.mono _ _ _)
   | (with_reducible exact symrec_Put.mono _ _ _ _ _ _ _ _ _)
   | (with_reducible exact symrec_Read.mono _ _ _ _)
   | (with_reducible exact symrec_Size.mono _ _ _)
   | (with_reducible exact LeO.refl _)
   | (with_reducible exact LeO.none _)
   | (with_reducible refine LeO.ite ?_ ?_)
   | (with_reducible refine LeO.bind ?_ (fun _ => ?_))
   | exact ih0 _ _ _ _ _
   | exact ih1 _ _ _ _ _ _
   | exact ih2 _ _ _ _ _
   | exact ih3 _ _ _ _ _
   | exact ih4 _ _ _ _ _
   | exact ih5 _ _ _ _ _ _
   | exact ehdr_Head_Check.mono _ _ _ _ _ _ _ _ _ _ _ _ _ _ _ _
   | exact ehdr_Plain.mono _ _ _
   | exact ehdr_Put.mono _ _ _ _ _ _ _ _ _ _ _ _ _ _ _ _
   | exact ehdr_Read.mono _ _ _ _
   | exact ehdr_Size.mono _ _ _
   | exact gravertop_records.mono _
   | exact phdr_Put.mono _ _ _ _ _ _ _ _ _ _ _
   | exact phdr_Read.mono _ _ _ _
   | exact phdr_Size.mono _ _ _
   | exact relrec_Put.mono _ _ _ _ _ _ _ _
   | exact relrec_Read.mono _ _ _ _ _
   | exact shdr_Put.mono _ _ _ _ _ _ _ _ _ _ _ _ _
   | exact shdr_Read.mono _ _ _ _
   | exact shdr_Size.mono _ _ _
   | exact symrec_Put.mono _ _ _ _ _ _ _ _ _
   | exact symrec_Read.mono _ _ _ _
   | exact symrec_Size.mono _ _ _
   | exact LeO.none _
   | refine LeO.ite ?_ ?_
   | refine LeO.bind ?_ (fun _ => ?_)
theorem gravertop_TopRecords.mono : ∀ a0 a1 k, LeO (gravertop_TopRecords.f k a0 a1) (gravertop_TopRecords.f (k + 1) a0 a1) := by
 intro a0 a1 k; (obtain ⟨ih0, ih1, ih2, ih3, ih4, ih5⟩ := gravertop_TopRecords.mono_l k); unfold gravertop_TopRecords.f
 repeat' first
  | (with_reducible exact ih0 _ _ _ _ _)
  | (with_reducible exact ih1 _ _ _ _ _ _)
  | (with_reducible exact ih2 _ _ _ _ _)
  | (with_reducible exact ih3 _ _ _ _ _)
  | (with_reducible exact ih4 _ _ _ _ _)
  | (with_reducible exact ih5 _ _ _ _ _ _)
  | (with_reducible exact ehdr_Head_Check.mono _ _ _ _ _ _ _ _ _ _ _ _ _ _ _ _)
  | (with_reducible exact ehdr_Plain.mono _ _ _)
  | (with_reducible exact ehdr_Put.mono _ _ _ _ _ _ _ _ _ _ _ _ _ _ _ _)
  | (with_reducible exact ehdr_Read.mono _ _ _ _)
  | (with_reducible exact ehdr_Size.mono _ _ _)
  | (with_reducible exact gravertop_records.mono _)
  | (with_reducible exact phdr_Put.mono _ _ _ _ _ _ _ _ _ _ _)
  | (with_reducible exact phdr_Read.mono _ _ _ _)
  | (with_reducible exact phdr_Size.mono _ _ _)
  | (with_reducible exact relrec_Put.mono _ _ _ _ _ _ _ _)
  | (with_reducible exact relrec_Read.mono _ _ _ _ _)
  | (with_reducible exact shdr_Put.mono _ _ _ _ _ _ _ _ _ _ _ _ _)
  | (with_reducible exact shdr_Read.mono _ _ _ _)
  | (with_reducible exact shdr_Size.mono _ _ _)
  | (with_reducible exact symrec_Put.mono _ _ _ _ _ _ _ _ _)
  | (with_reducible exact symrec_Read.mono _ _ _ _)
  | (with_reducible exact symrec_Size.mono _ _ _)
  | (with_reducible exact LeO.refl _)
  | (with_reducible exact LeO.none _)
  | (with_reducible refine LeO.ite ?_ ?_)
  | (with_reducible refine LeO.bind ?_ (fun _ => ?_))
  | exact ih0 _ _ _ _ _
  | exact ih1 _ _ _ _ _ _
  | exact ih2 _ _ _ _ _
  | exact ih3 _ _ _ _ _
  | exact ih4 _ _ _ _ _
  | exact ih5 _ _ _ _ _ _
  | exact ehdr_Head_Check.mono _ _ _ _ _ _ _ _ _ _ _ _ _ _ _ _
  | exact ehdr_Plain.mono _ _ _
  | exact ehdr_Put.mono _ _ _ _ _ _ _ _ _ _ _ _ _ _ _ _
  | exact ehdr_Read.mono _ _ _ _
  | exact ehdr_Size.mono _ _ _
  | exact gravertop_records.mono _
  | exact phdr_Put.mono _ _ _ _ _ _ _ _ _ _ _
  | exact phdr_Read.mono _ _ _ _
  | exact phdr_Size.mono _ _ _
  | exact relrec_Put.mono _ _ _ _ _ _ _ _
  | exact relrec_Read.mono _ _ _ _ _
  | exact shdr_Put.mono _ _ _ _ _ _ _ _ _ _ _ _ _
  | exact shdr_Read.mono _ _ _ _
  | exact shdr_Size.mono _ _ _
  | exact symrec_Put.mono _ _ _ _ _ _ _ _ _
  | exact symrec_Read.mono _ _ _ _
  | exact symrec_Size.mono _ _ _
  | exact LeO.none _
  | refine LeO.ite ?_ ?_
  | refine LeO.bind ?_ (fun _ => ?_)
def gravertop_TopRecords.T5 : Bool × List (List Nat × List Nat) := (true, [([], []), ([], []), ([1], [1]), ([0, 2, 2], [0, 2]), ([3], [3]), ([4], [4]), ([4], [4]), ([5, 3, 0, 1, 2, 3, 4, 5], [5]), ([6, 7, 0, 1, 2, 3, 4, 5, 6, 7], [6])])
def gravertop_TopRecords.B5 : List Nat := [0, 0, 2, 7, 15, 31, 31, 63, 255]
theorem gravertop_TopRecords.tab5 : rtab .any (opsOf Tryd.f3 5) = gravertop_TopRecords.T5 := by kernel_rfl
theorem gravertop_TopRecords.bits5 : waitsOk gravertop_TopRecords.T5.2 gravertop_TopRecords.B5 = true := by kernel_rfl
def gravertop_TopRecords.T10 : Bool × List (List Nat × List Nat) := (true, [([], []), ([], []), ([0, 1], [0, 1]), ([2], [2]), ([3], [3]), ([4], [4]), ([], []), ([], []), ([6, 7], [6, 7]), ([8], [8]), ([9], [9]), ([10], [10]), ([], []), ([], []), ([12, 13], [12, 13]), ([14], [14]), ([15], [15]), ([16], [16]), ([5, 0, 1, 2, 3, 4, 5], [5]), ([11, 18, 0, 1, 2, 3, 4, 5, 6, 7, 8, 9, 10, 11, 18], [11]), ([17, 19, 0, 1, 2, 3, 4, 5, 6, 7, 8, 9, 10, 11, 12, 13, 14, 15, 16, 17, 18, 19], [17])])
def gravertop_TopRecords.B10 : List Nat := [0, 0, 3, 7, 15, 31, 0, 0, 192, 448, 960, 1984, 0, 0, 12288, 28672, 61440, 126976, 63, 266239, 1048575]
theorem gravertop_TopRecords.tab10 : rtab .any (opsOf Tryd.f3 10) = gravertop_TopRecords.T10 := by kernel_rfl
theorem gravertop_TopRecords.bits10 : waitsOk gravertop_TopRecords.T10.2 gravertop_TopRecords.B10 = true := by kernel_rfl
def gravertop_TopRecords.T26 : Bool × List (List Nat × List Nat) := (true, [([], []), ([], []), ([1], [1]), ([0, 2], [0, 2]), ([3], [3]), ([4], [4]), ([4], [4]), ([], []), ([7, 5, 3, 0, 1, 2, 3, 4, 5, 7], [5, 7]), ([6, 8, 0, 1, 2, 3, 4, 5, 6, 7, 8], [6])])
def gravertop_TopRecords.B26 : List Nat := [0, 0, 2, 7, 15, 31, 31, 0, 191, 511]
theorem gravertop_TopRecords.tab26 : rtab .any (opsOf Tryd.f3 26) = gravertop_TopRecords.T26 := by kernel_rfl
theorem gravertop_TopRecords.bits26 : waitsOk gravertop_TopRecords.T26.2 gravertop_TopRecords.B26 = true := by kernel_rfl
def gravertop_TopRecords.T33 : Bool × List (List Nat × List Nat) := (true, [([], []), ([], []), ([0, 1], [0, 1]), ([2], [2]), ([3], [3]), ([4], [4]), ([], []), ([], []), ([6, 7], [6, 7]), ([8], [8]), ([9], [9]), ([10], [10]), ([], []), ([], []), ([12, 13], [12, 13]), ([14], [14]), ([15], [15]), ([16], [16]), ([5, 0, 1, 2, 3, 4, 5], [5]), ([11, 18, 0, 1, 2, 3, 4, 5, 6, 7, 8, 9, 10, 11, 18], [11]), ([17, 19, 0, 1, 2, 3, 4, 5, 6, 7, 8, 9, 10, 11, 12, 13, 14, 15, 16, 17, 18, 19], [17])])
def gravertop_TopRecords.B33 : List Nat := [0, 0, 3, 7, 15, 31, 0, 0, 192, 448, 960, 1984, 0, 0, 12288, 28672, 61440, 126976, 63, 266239, 1048575]
theorem gravertop_TopRecords.tab33 : rtab .any (opsOf Tryd.f3 33) = gravertop_TopRecords.T33 := by kernel_rfl
theorem gravertop_TopRecords.bits33 : waitsOk gravertop_TopRecords.T33.2 gravertop_TopRecords.B33 = true := by kernel_rfl
def gravertop_TopRecords.T37 : Bool × List (List Nat × List Nat) := (true, [([], []), ([0], [0]), ([], []), ([2], [2]), ([], []), ([3, 4], [3, 4]), ([5, 1], [5]), ([6], [6]), ([7, 6], [6, 7]), ([6], [6]), ([9, 6], [6, 9]), ([8, 10, 6], [6, 8, 10]), ([6, 11], [6, 11]), ([12, 6], [12]), ([13], [13]), ([14, 13], [13, 14]), ([13], [13]), ([16, 13], [13, 16]), ([15, 17, 13], [13, 15, 17]), ([13, 18], [13, 18]), ([19, 13], [19]), ([20], [20]), ([21, 20], [20, 21]), ([20], [20]), ([22, 23, 20], [20, 22, 23]), ([20, 24], [20, 24]), ([1, 20, 0, 1], [1]), ([25, 26, 0, 1, 2, 3, 4, 5, 6, 7, 8, 9, 10, 11, 12, 13, 14, 15, 16, 17, 18, 19, 20, 21, 22, 23, 24, 25, 26], [25])])
def gravertop_TopRecords.B37 : List Nat := [0, 1, 0, 4, 0, 28, 63, 127, 255, 127, 639, 2047, 4095, 8191, 16383, 32767, 16383, 81919, 262143, 524287, 1048575, 2097151, 4194303, 2097151, 16777215, 33554431, 2097151, 134217727]
theorem gravertop_TopRecords.tab37 : rtab .any (opsOf Tryd.f3 37) = gravertop_TopRecords.T37 := by kernel_rfl
theorem gravertop_TopRecords.bits37 : waitsOk gravertop_TopRecords.T37.2 gravertop_TopRecords.B37 = true := by kernel_rfl
def gravertop_TopRecords.T40 : Bool × List (List Nat × List Nat) := (true, [([], []), ([0], [0]), ([], []), ([2], [2]), ([], []), ([3, 4], [3, 4]), ([5, 1], [5]), ([6], [6]), ([7, 6], [6, 7]), ([6], [6]), ([8, 9, 6], [6, 8, 9]), ([6, 10], [6, 10]), ([11, 6], [11]), ([12], [12]), ([13, 12], [12, 13]), ([12], [12]), ([14, 15, 12], [12, 14, 15]), ([12, 16], [12, 16]), ([17, 12], [17]), ([18], [18]), ([19, 18], [18, 19]), ([18], [18]), ([20, 21, 18], [18, 20, 21]), ([18, 22], [18, 22]), ([23, 18], [23]), ([24], [24]), ([25, 24], [24, 25]), ([26, 24], [24, 26]), ([24, 27], [24, 27]), ([1, 24, 0, 1], [1]), ([28, 29, 0, 1, 2, 3, 4, 5, 6, 7, 8, 9, 10, 11, 12, 13, 14, 15, 16, 17, 18, 19, 20, 21, 22, 23, 24, 25, 26, 27, 28, 29], [28])])
def gravertop_TopRecords.B40 : List Nat := [0, 1, 0, 4, 0, 28, 63, 127, 255, 127, 1023, 2047, 4095, 8191, 16383, 8191, 65535, 131071, 262143, 524287, 1048575, 524287, 4194303, 8388607, 16777215, 33554431, 67108863, 134217727, 268435455, 33554431, 1073741823]
theorem gravertop_TopRecords.tab40 : rtab .any (opsOf Tryd.f3 40) = gravertop_TopRecords.T40 := by kernel_rfl
theorem gravertop_TopRecords.bits40 : waitsOk gravertop_TopRecords.T40.2 gravertop_TopRecords.B40 = true := by kernel_rfl
def gravertop_TopRecords.T43 : Bool × List (List Nat × List Nat) := (true, [([], []), ([0], [0]), ([], []), ([2], [2]), ([], []), ([3, 4], [3, 4]), ([5, 1], [5]), ([6], [6]), ([7, 6], [6, 7]), ([6], [6]), ([8, 9, 6], [6, 8, 9]), ([6, 10], [6, 10]), ([11, 6], [11]), ([12], [12]), ([13, 12], [12, 13]), ([12], [12]), ([14, 15, 12], [12, 14, 15]), ([12, 16], [12, 16]), ([17, 12], [17]), ([18], [18]), ([19, 18], [18, 19]), ([18], [18]), ([20, 21, 18], [18, 20, 21]), ([18, 22], [18, 22]), ([23, 18], [23]), ([24], [24]), ([25, 24], [24, 25]), ([26, 24], [24, 26]), ([24, 27], [24, 27]), ([1, 24, 0, 1], [1]), ([28, 29, 0, 1, 2, 3, 4, 5, 6, 7, 8, 9, 10, 11, 12, 13, 14, 15, 16, 17, 18, 19, 20, 21, 22, 23, 24, 25, 26, 27, 28, 29], [28])])
def gravertop_TopRecords.B43 : List Nat := [0, 1, 0, 4, 0, 28, 63, 127, 255, 127, 1023, 2047, 4095, 8191, 16383, 8191, 65535, 131071, 262143, 524287, 1048575, 524287, 4194303, 8388607, 16777215, 33554431, 67108863, 134217727, 268435455, 33554431, 1073741823]
theorem gravertop_TopRecords.tab43 : rtab .any (opsOf Tryd.f3 43) = gravertop_TopRecords.T43 := by kernel_rfl
theorem gravertop_TopRecords.bits43 : waitsOk gravertop_TopRecords.T43.2 gravertop_TopRecords.B43 = true := by kernel_rfl
def gravertop_TopRecords.T46 : Bool × List (List Nat × List Nat) := (true, [([], []), ([0], [0]), ([], []), ([2], [2]), ([], []), ([3, 4], [3, 4]), ([5, 1], [5]), ([6], [6]), ([7, 6], [6, 7]), ([6], [6]), ([9, 6], [6, 9]), ([8, 10, 6], [6, 8, 10]), ([6, 11], [6, 11]), ([12, 6], [12]), ([13], [13]), ([14, 13], [13, 14]), ([13], [13]), ([16, 13], [13, 16]), ([15, 17, 13], [13, 15, 17]), ([13, 18], [13, 18]), ([19, 13], [19]), ([20], [20]), ([21, 20], [20, 21]), ([20], [20]), ([22, 23, 20], [20, 22, 23]), ([20, 24], [20, 24]), ([1, 20, 0, 1], [1]), ([25, 26, 0, 1, 2, 3, 4, 5, 6, 7, 8, 9, 10, 11, 12, 13, 14, 15, 16, 17, 18, 19, 20, 21, 22, 23, 24, 25, 26], [25])])
def gravertop_TopRecords.B46 : List Nat := [0, 1, 0, 4, 0, 28, 63, 127, 255, 127, 639, 2047, 4095, 8191, 16383, 32767, 16383, 81919, 262143, 524287, 1048575, 2097151, 4194303, 2097151, 16777215, 33554431, 2097151, 134217727]
theorem gravertop_TopRecords.tab46 : rtab .any (opsOf Tryd.f3 46) = gravertop_TopRecords.T46 := by kernel_rfl
theorem gravertop_TopRecords.bits46 : waitsOk gravertop_TopRecords.T46.2 gravertop_TopRecords.B46 = true := by kernel_rfl
/-- THE ONE PURE STATEMENT of gravertop_TopRecords: yours. -/
def gravertop_TopRecords.Pure : Prop := ∀ (a0 : Int) (l1 : List (S39)), (Lit.int .i64 a0).wf = true → l1.length * 12 ≤ 140737488351232 → (∀ x ∈ l1, (Lit.int .u32 x.f0).wf = true ∧ (Lit.int .u32 x.f1).wf = true ∧ (Lit.int .u32 x.f2).wf = true) → ∃ k, gravertop_TopRecords.f k a0 l1 = some true

end Go.Proofs.YteoeohkjomehoaaDoor.Q
