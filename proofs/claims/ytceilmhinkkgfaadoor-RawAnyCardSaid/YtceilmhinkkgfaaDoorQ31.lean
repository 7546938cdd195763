/- Walks. No condition but those in the statements. -/
import Derived.Test.YtceilmhinkkgfaaDoorQ30
set_option linter.unusedVariables false
set_option linter.unusedSimpArgs false
section
namespace Go.Proofs.YtceilmhinkkgfaaDoor.Q
open Go.RowKit Go.Proofs.YtceilmhinkkgfaaDoorW.PrintWords Go.Proofs.YtceilmhinkkgfaaDoorW.PrintLast Go.Proofs.YtceilmhinkkgfaaDoorW.PrintMore
attribute [local go_sem] max2_int min2_int max_two min_two max_three min_three max_four min_four

mutual
def g11Why.j0 : Nat → ByteArray → Bool → Bool → Int → Int → Int → Option (Int)
 | 0, _, _, _, _, _, _ => none
 | k + 1, x0, x4, x5, x6, x7, x8 => if (IntKind.u64.wrap ((x0.size : Int))) < x6 then (some 3) else ((g11Head.f k x0).bind fun bt335 => ((g11Num.f k x4 x0 20 4).bind fun t345 => (if t345 = 1 then (if bt335.2.2.2.1 = x6 then (if bt335.2.1 = 0 then (if bt335.2.2.1 = 0 then (g11Why.j1 k x0 x4 x5 x7 x8 bt335.1 bt335.2.1 bt335.2.2.1 false bt335.2.2.2.1 bt335.2.2.2.2.1 bt335.2.2.2.2.2.1 bt335.2.2.2.2.2.2.1 bt335.2.2.2.2.2.2.2.1 bt335.2.2.2.2.2.2.2.2) else (g11Why.j1 k x0 x4 x5 x7 x8 bt335.1 bt335.2.1 bt335.2.2.1 (bt335.2.2.2.2.2.2.1 != x8) bt335.2.2.2.1 bt335.2.2.2.2.1 bt335.2.2.2.2.2.1 bt335.2.2.2.2.2.2.1 bt335.2.2.2.2.2.2.2.1 bt335.2.2.2.2.2.2.2.2)) else (if bt335.2.2.2.2.1 = x7 then (if bt335.2.2.1 = 0 then (g11Why.j1 k x0 x4 x5 x7 x8 bt335.1 bt335.2.1 bt335.2.2.1 false bt335.2.2.2.1 bt335.2.2.2.2.1 bt335.2.2.2.2.2.1 bt335.2.2.2.2.2.2.1 bt335.2.2.2.2.2.2.2.1 bt335.2.2.2.2.2.2.2.2) else (g11Why.j1 k x0 x4 x5 x7 x8 bt335.1 bt335.2.1 bt335.2.2.1 (bt335.2.2.2.2.2.2.1 != x8) bt335.2.2.2.1 bt335.2.2.2.2.1 bt335.2.2.2.2.2.1 bt335.2.2.2.2.2.2.1 bt335.2.2.2.2.2.2.2.1 bt335.2.2.2.2.2.2.2.2)) else (g11Why.j1 k x0 x4 x5 x7 x8 bt335.1 bt335.2.1 bt335.2.2.1 true bt335.2.2.2.1 bt335.2.2.2.2.1 bt335.2.2.2.2.2.1 bt335.2.2.2.2.2.2.1 bt335.2.2.2.2.2.2.2.1 bt335.2.2.2.2.2.2.2.2))) else (g11Why.j1 k x0 x4 x5 x7 x8 bt335.1 bt335.2.1 bt335.2.2.1 true bt335.2.2.2.1 bt335.2.2.2.2.1 bt335.2.2.2.2.2.1 bt335.2.2.2.2.2.2.1 bt335.2.2.2.2.2.2.2.1 bt335.2.2.2.2.2.2.2.2)) else (some 7))))
def g11Why.j1 : Nat → ByteArray → Bool → Bool → Int → Int → Int → Int → Int → Bool → Int → Int → Int → Int → Int → Int → Option (Int)
 | 0, _, _, _, _, _, _, _, _, _, _, _, _, _, _, _ => none
 | k + 1, x0, x4, x5, x7, x8, x9, x10, x11, x77, x345000, x345001, x345002, x345003, x345004, x345005 => if x77 = true then (some 8) else (if x11 = 0 then (if x345004 = 0 then (if x345005 = 0 then (g11Why.j4 k x0 x4 x5 x7 x8 x9 x10 x11 0 x345000 x345001 x345002 x345003 x345004 x345005) else (some 11)) else (some 10)) else ((g11there.f x0 x11 x8).bind fun t346 => (if t346 = true then (if x345004 = 0 then ((g11Field.f k x4 x9 x0 x11 5).bind fun t347 => (g11Why.j2 k x0 x4 x5 x7 x8 x9 x10 x11 t347 x345000 x345001 x345002 x345003 x345004 x345005)) else (g11Why.j2 k x0 x4 x5 x7 x8 x9 x10 x11 x345004 x345000 x345001 x345002 x345003 x345004 x345005)) else (some 9))))
def g11Why.j4 : Nat → ByteArray → Bool → Bool → Int → Int → Int → Int → Int → Int → Int → Int → Int → Int → Int → Int → Option (Int)
 | 0, _, _, _, _, _, _, _, _, _, _, _, _, _, _, _ => none
 | k + 1, x0, x4, x5, x7, x8, x9, x10, x11, x13, x345000, x345001, x345002, x345003, x345004, x345005 => if x345002 = 65535 then (g11Why.j5 k x0 x4 x5 x7 x8 x9 x10 x11 x13 x345002 (decide (x13 > 0))) else (g11Why.j5 k x0 x4 x5 x7 x8 x9 x10 x11 x13 x345002 false)
def g11Why.j5 : Nat → ByteArray → Bool → Bool → Int → Int → Int → Int → Int → Int → Int → Bool → Option (Int)
 | 0, _, _, _, _, _, _, _, _, _, _, _ => none
 | k + 1, x0, x4, x5, x7, x8, x9, x10, x11, x13, x15, x138 => if x138 = true then ((g11Field.f k x4 x9 x0 x11 7).bind fun t351 => (g11Why.j6 k x0 x4 x5 x7 x8 x9 x10 x11 x13 t351)) else (g11Why.j6 k x0 x4 x5 x7 x8 x9 x10 x11 x13 x15)
def g11Why.j6 : Nat → ByteArray → Bool → Bool → Int → Int → Int → Int → Int → Int → Int → Option (Int)
 | 0, _, _, _, _, _, _, _, _, _, _ => none
 | k + 1, x0, x4, x5, x7, x8, x9, x10, x11, x13, x15 => if x15 > 256 then (g11Why.j7 k x0 x4 x5 x7 x8 x9 x10 x11 x13 x15 true) else (if x15 > 0 then (g11Why.j7 k x0 x4 x5 x7 x8 x9 x10 x11 x13 x15 (x10 == 0)) else (g11Why.j7 k x0 x4 x5 x7 x8 x9 x10 x11 x13 x15 false))
def g11Why.j7 : Nat → ByteArray → Bool → Bool → Int → Int → Int → Int → Int → Int → Int → Bool → Option (Int)
 | 0, _, _, _, _, _, _, _, _, _, _, _ => none
 | k + 1, x0, x4, x5, x7, x8, x9, x10, x11, x13, x15, x153 => if x153 = true then (some 10) else (if x15 > 0 then ((g11there.f x0 x10 (IntKind.u64.wrap (x15 * x7))).bind fun t352 => (g11Why.j8 k x0 x4 x5 x7 x8 x9 x10 x11 x13 x15 (!t352))) else (g11Why.j8 k x0 x4 x5 x7 x8 x9 x10 x11 x13 x15 false))
def g11Why.j8 : Nat → ByteArray → Bool → Bool → Int → Int → Int → Int → Int → Int → Int → Bool → Option (Int)
 | 0, _, _, _, _, _, _, _, _, _, _, _ => none
 | k + 1, x0, x4, x5, x7, x8, x9, x10, x11, x13, x15, x164 => if x164 = true then (some 9) else (g11Why.l0 k x0 x4 x5 x7 x8 x9 x10 x11 x13 x15 0)
def g11Why.l0 : Nat → ByteArray → Bool → Bool → Int → Int → Int → Int → Int → Int → Int → Int → Option (Int)
 | 0, _, _, _, _, _, _, _, _, _, _, _ => none
 | k + 1, x0, x4, x5, x7, x8, x9, x10, x11, x13, x15, x16 => if x16 < x13 then ((g11Field.f k x4 x9 x0 (IntKind.u64.wrap (x11 + (IntKind.u64.wrap (x16 * x8)))) 8).bind fun t353 => ((g11power.f k t353).bind fun t354 => (if t354 = true then ((g11Field.f k x4 x9 x0 (IntKind.u64.wrap (x11 + (IntKind.u64.wrap (x16 * x8)))) 1).bind fun t355 => (if t355 = 0 then (g11Why.l0 k x0 x4 x5 x7 x8 x9 x10 x11 x13 x15 (IntKind.u64.wrap (x16 + 1))) else (if t355 = 8 then (g11Why.l0 k x0 x4 x5 x7 x8 x9 x10 x11 x13 x15 (IntKind.u64.wrap (x16 + 1))) else ((g11Field.f k x4 x9 x0 (IntKind.u64.wrap (x11 + (IntKind.u64.wrap (x16 * x8)))) 4).bind fun t356 => ((g11Field.f k x4 x9 x0 (IntKind.u64.wrap (x11 + (IntKind.u64.wrap (x16 * x8)))) 5).bind fun t357 => ((g11there.f x0 t356 t357).bind fun t358 => (if t358 = true then (g11Why.l0 k x0 x4 x5 x7 x8 x9 x10 x11 x13 x15 (IntKind.u64.wrap (x16 + 1))) else (some 9)))))))) else (some 13)))) else (g11Why.l1 k x0 x4 x5 x7 x10 x15 0)
def g11Why.l1 : Nat → ByteArray → Bool → Bool → Int → Int → Int → Int → Option (Int)
 | 0, _, _, _, _, _, _, _ => none
 | k + 1, x0, x4, x5, x7, x10, x15, x19 => if x19 < x15 then ((g11Num.f k x4 x0 (IntKind.u64.wrap ((IntKind.u64.wrap (x10 + (IntKind.u64.wrap (x19 * x7)))) + 4)) 4).bind fun t359 => ((g11Num.f k x4 x0 (IntKind.u64.wrap ((IntKind.u64.wrap (x10 + (IntKind.u64.wrap (x19 * x7)))) + 16)) 4).bind fun t360 => (if x5 = true then ((g11Num.f k x4 x0 (IntKind.u64.wrap ((IntKind.u64.wrap (x10 + (IntKind.u64.wrap (x19 * x7)))) + 8)) 8).bind fun t361 => ((g11Num.f k x4 x0 (IntKind.u64.wrap ((IntKind.u64.wrap (x10 + (IntKind.u64.wrap (x19 * x7)))) + 32)) 8).bind fun t362 => ((g11there.f x0 t361 t362).bind fun t363 => (if t363 = true then (g11Why.l1 k x0 x4 x5 x7 x10 x15 (IntKind.u64.wrap (x19 + 1))) else (some 9))))) else ((g11there.f x0 t359 t360).bind fun t364 => (if t364 = true then (g11Why.l1 k x0 x4 x5 x7 x10 x15 (IntKind.u64.wrap (x19 + 1))) else (some 9)))))) else (some 0)
def g11Why.j2 : Nat → ByteArray → Bool → Bool → Int → Int → Int → Int → Int → Int → Int → Int → Int → Int → Int → Int → Option (Int)
 | 0, _, _, _, _, _, _, _, _, _, _, _, _, _, _, _ => none
 | k + 1, x0, x4, x5, x7, x8, x9, x10, x11, x13, x345000, x345001, x345002, x345003, x345004, x345005 => if x13 = 0 then (g11Why.j3 k x0 x4 x5 x7 x8 x9 x10 x11 x13 true x345000 x345001 x345002 x345003 x345004 x345005) else (g11Why.j3 k x0 x4 x5 x7 x8 x9 x10 x11 x13 (decide (x13 > 4096)) x345000 x345001 x345002 x345003 x345004 x345005)
def g11Why.j3 : Nat → ByteArray → Bool → Bool → Int → Int → Int → Int → Int → Int → Bool → Int → Int → Int → Int → Int → Int → Option (Int)
 | 0, _, _, _, _, _, _, _, _, _, _, _, _, _, _, _, _ => none
 | k + 1, x0, x4, x5, x7, x8, x9, x10, x11, x13, x105, x345000, x345001, x345002, x345003, x345004, x345005 => if x105 = true then (some 10) else ((g11there.f x0 x11 (IntKind.u64.wrap (x13 * x8))).bind fun t348 => (if t348 = true then ((g11Field.f k x4 x9 x0 x11 1).bind fun t349 => (if t349 = 0 then (if x345005 = 65535 then ((g11Field.f k x4 x9 x0 x11 6).bind fun t350 => (if t350 ≥ x13 then (some 11) else (g11Why.j4 k x0 x4 x5 x7 x8 x9 x10 x11 x13 x345000 x345001 x345002 x345003 x345004 x345005))) else (if x345005 ≥ x13 then (some 11) else (g11Why.j4 k x0 x4 x5 x7 x8 x9 x10 x11 x13 x345000 x345001 x345002 x345003 x345004 x345005))) else (some 27))) else (some 9)))
end
def g11Why.f (k : Nat) (a0 : ByteArray) : Option (Int) := if (a0.size : Int) > 1048576 then (some 2) else ((g04Why.f k a0).bind fun t334 => (if t334 = 0 then (if 5 < (a0.size : Int) then (if 4 < (a0.size : Int) then (if (bt a0 4) = 2 then (g11Why.j0 k a0 ((bt a0 5) == 2) ((bt a0 4) == 2) 64 56 64) else (g11Why.j0 k a0 ((bt a0 5) == 2) ((bt a0 4) == 2) 52 32 40)) else (none)) else (none)) else (some t334)))
theorem g11Why.mono_l : ∀ k, (∀ y0 y1 y2 y3 y4 y5, LeO (g11Why.j0 k y0 y1 y2 y3 y4 y5) (g11Why.j0 (k + 1) y0 y1 y2 y3 y4 y5)) ∧ (∀ y0 y1 y2 y3 y4 y5 y6 y7 y8 y9 y10 y11 y12 y13 y14, LeO (g11Why.j1 k y0 y1 y2 y3 y4 y5 y6 y7 y8 y9 y10 y11 y12 y13 y14) (g11Why.j1 (k + 1) y0 y1 y2 y3 y4 y5 y6 y7 y8 y9 y10 y11 y12 y13 y14)) ∧ (∀ y0 y1 y2 y3 y4 y5 y6 y7 y8 y9 y10 y11 y12 y13 y14, LeO (g11Why.j4 k y0 y1 y2 y3 y4 y5 y6 y7 y8 y9 y10 y11 y12 y13 y14) (g11Why.j4 (k + 1) y0 y1 y2 y3 y4 y5 y6 y7 y8 y9 y10 y11 y12 y13 y14)) ∧ (∀ y0 y1 y2 y3 y4 y5 y6 y7 y8 y9 y10, LeO (g11Why.j5 k y0 y1 y2 y3 y4 y5 y6 y7 y8 y9 y10) (g11Why.j5 (k + 1) y0 y1 y2 y3 y4 y5 y6 y7 y8 y9 y10)) ∧ (∀ y0 y1 y2 y3 y4 y5 y6 y7 y8 y9, LeO (g11Why.j6 k y0 y1 y2 y3 y4 y5 y6 y7 y8 y9) (g11Why.j6 (k + 1) y0 y1 y2 y3 y4 y5 y6 y7 y8 y9)) ∧ (∀ y0 y1 y2 y3 y4 y5 y6 y7 y8 y9 y10, LeO (g11Why.j7 k y0 y1 y2 y3 y4 y5 y6 y7 y8 y9 y10) (g11Why.j7 (k + 1) y0 y1 y2 y3 y4 y5 y6 y7 y8 y9 y10)) ∧ (∀ y0 y1 y2 y3 y4 y5 y6 y7 y8 y9 y10, LeO (g11Why.j8 k y0 y1 y2 y3 y4 y5 y6 y7 y8 y9 y10) (g11Why.j8 (k + 1) y0 y1 y2 y3 y4 y5 y6 y7 y8 y9 y10)) ∧ (∀ y0 y1 y2 y3 y4 y5 y6 y7 y8 y9 y10, LeO (g11Why.l0 k y0 y1 y2 y3 y4 y5 y6 y7 y8 y9 y10) (g11Why.l0 (k + 1) y0 y1 y2 y3 y4 y5 y6 y7 y8 y9 y10)) ∧ (∀ y0 y1 y2 y3 y4 y5 y6, LeO (g11Why.l1 k y0 y1 y2 y3 y4 y5 y6) (g11Why.l1 (k + 1) y0 y1 y2 y3 y4 y5 y6)) ∧ (∀ y0 y1 y2 y3 y4 y5 y6 y7 y8 y9 y10 y11 y12 y13 y14, LeO (g11Why.j2 k y0 y1 y2 y3 y4 y5 y6 y7 y8 y9 y10 y11 y12 y13 y14) (g11Why.j2 (k + 1) y0 y1 y2 y3 y4 y5 y6 y7 y8 y9 y10 y11 y12 y13 y14)) ∧ (∀ y0 y1 y2 y3 y4 y5 y6 y7 y8 y9 y10 y11 y12 y13 y14 y15, LeO (g11Why.j3 k y0 y1 y2 y3 y4 y5 y6 y7 y8 y9 y10 y11 y12 y13 y14 y15) (g11Why.j3 (k + 1) y0 y1 y2 y3 y4 y5 y6 y7 y8 y9 y10 y11 y12 y13 y14 y15))
 | 0 => ⟨fun _ _ _ _ _ _ r h => by simp [g11Why.j0] at h, fun _ _ _ _ _ _ _ _ _ _ _ _ _ _ _ r h => by simp [g11Why.j1] at h, fun _ _ _ _ _ _ _ _ _ _ _ _ _ _ _ r h => by simp [g11Why.j4] at h, fun _ _ _ _ _ _ _ _ _ _ _ r h => by simp [g11Why.j5] at h, fun _ _ _ _ _ _ _ _ _ _ r h => by simp [g11Why.j6] at h, fun _ _ _ _ _ _ _ _ _ _ _ r h => by simp [g11Why.j7] at h, fun _ _ _ _ _ _ _ _ _ _ _ r h => by simp [g11Why.j8] at h, fun _ _ _ _ _ _ _ _ _ _ _ r h => by simp [g11Why.l0] at h, fun _ _ _ _ _ _ _ r h => by simp [g11Why.l1] at h, fun _ _ _ _ _ _ _ _ _ _ _ _ _ _ _ r h => by simp [g11Why.j2] at h, fun _ _ _ _ _ _ _ _ _ _ _ _ _ _ _ _ r h => by simp [g11Why.j3] at h⟩
 | k + 1 => by
  obtain ⟨ih0, ih1, ih2, ih3, ih4, ih5, ih6, ih7, ih8, ih9, ih10⟩ := g11Why.mono_l k; refine ⟨?_, ?_, ?_, ?_, ?_, ?_, ?_, ?_, ?_, ?_, ?_⟩
  ·
   intro y0 y1 y2 y3 y4 y5; unfold g11Why.j0
   repeat' first
   | (with_reducible apply ih0)
   | (with_reducible apply ih1)
   | (with_reducible apply ih2)
   | (with_reducible apply ih3)
   | (with_reducible apply ih4)
   | (with_reducible apply ih5)
   | (with_reducible apply ih6)
   | (with_reducible apply ih7)
   | (with_reducible apply ih8)
   | (with_reducible apply ih9)
   | (with_reducible apply ih10)
   | (with_reducible exact g04Why.mono _ _)
   | (with_reducible exact g11Field.mono _ _ _ _ _ _)
   | (with_reducible exact g11Head.mono _ _)
   | (with_reducible exact g11Num.mono _ _ _ _ _)
   | (with_reducible exact g11power.mono _ _)
   | (with_reducible exact LeO.refl _)
   | (with_reducible exact LeO.none _)
   | (with_reducible refine LeO.ite ?_ ?_)
   | (with_reducible refine LeO.bind ?_ (fun _ => ?_))
   | exact ih0 _ _ _ _ _ _
   | exact ih1 _ _ _ _ _ _ _ _ _ _ _ _ _ _ _
   | exact ih2 _ _ _ _ _ _ _ _ _ _ _ _ _ _ _
   | exact ih3 _ _ _ _ _ _ _ _ _ _ _
   | exact ih4 _ _ _ _ _ _ _ _ _ _
   | exact ih5 _ _ _ _ _ _ _ _ _ _ _
   | exact ih6 _ _ _ _ _ _ _ _ _ _ _
   | exact ih7 _ _ _ _ _ _ _ _ _ _ _
   | exact ih8 _ _ _ _ _ _ _
   | exact ih9 _ _ _ _ _ _ _ _ _ _ _ _ _ _ _
   | exact ih10 _ _ _ _ _ _ _ _ _ _ _ _ _ _ _ _
   | exact g04Why.mono _ _
   | exact g11Field.mono _ _ _ _ _ _
   | exact g11Head.mono _ _
   | exact g11Num.mono _ _ _ _ _
   | exact g11power.mono _ _
   | exact LeO.none _
   | refine LeO.ite ?_ ?_
   | refine LeO.bind ?_ (fun _ => ?_)
  ·
   intro y0 y1 y2 y3 y4 y5 y6 y7 y8 y9 y10 y11 y12 y13 y14; unfold g11Why.j1
   repeat' first
   | (with_reducible apply ih0)
   | (with_reducible apply ih1)
   | (with_reducible apply ih2)
   | (with_reducible apply ih3)
   | (with_reducible apply ih4)
   | (with_reducible apply ih5)
   | (with_reducible apply ih6)
   | (with_reducible apply ih7)
   | (with_reducible apply ih8)
   | (with_reducible apply ih9)
   | (with_reducible apply ih10)
   | (with_reducible exact g04Why.mono _ _)
   | (with_reducible exact g11Field.mono _ _ _ _ _ _)
   | (with_reducible exact g11Head.mono _ _)
   | (with_reducible exact g11Num.mono _ _ _ _ _)
   | (with_reducible exact g11power.mono _ _)
   | (with_reducible exact LeO.refl _)
   | (with_reducible exact LeO.none _)
   | (with_reducible refine LeO.ite ?_ ?_)
   | (with_reducible refine LeO.bind ?_ (fun _ => ?_))
   | exact ih0 _ _ _ _ _ _
   | exact ih1 _ _ _ _ _ _ _ _ _ _ _ _ _ _ _
   | exact ih2 _ _ _ _ _ _ _ _ _ _ _ _ _ _ _
   | exact ih3 _ _ _ _ _ _ _ _ _ _ _
   | exact ih4 _ _ _ _ _ _ _ _ _ _
   | exact ih5 _ _ _ _ _ _ _ _ _ _ _
   | exact ih6 _ _ _ _ _ _ _ _ _ _ _
   | exact ih7 _ _ _ _ _ _ _ _ _ _ _
   | exact ih8 _ _ _ _ _ _ _
   | exact ih9 _ _ _ _ _ _ _ _ _ _ _ _ _ _ _
   | exact ih10 _ _ _ _ _ _ _ _ _ _ _ _ _ _ _ _
   | exact g04Why.mono _ _
   | exact g11Field.mono _ _ _ _ _ _
   | exact g11Head.mono _ _
   | exact g11Num.mono _ _ _ _ _
   | exact g11power.mono _ _
   | exact LeO.none _
   | refine LeO.ite ?_ ?_
   | refine LeO.bind ?_ (fun _ => ?_)
  ·
   intro y0 y1 y2 y3 y4 y5 y6 y7 y8 y9 y10 y11 y12 y13 y14; unfold g11Why.j4
   repeat' first
   | (with_reducible apply ih0)
   | (with_reducible apply ih1)
   | (with_reducible apply ih2)
   | (with_reducible apply ih3)
   | (with_reducible apply ih4)
   | (with_reducible apply ih5)
   | (with_reducible apply ih6)
   | (with_reducible apply ih7)
   | (with_reducible apply ih8)
   | (with_reducible apply ih9)
   | (with_reducible apply ih10)
   | (with_reducible exact g04Why.mono _ _)
   | (with_reducible exact g11Field.mono _ _ _ _ _ _)
   | (with_reducible exact g11Head.mono _ _)
   | (with_reducible exact g11Num.mono _ _ _ _ _)
   | (with_reducible exact g11power.mono _ _)
   | (with_reducible exact LeO.refl _)
   | (with_reducible exact LeO.none _)
   | (with_reducible refine LeO.ite ?_ ?_)
   | (with_reducible refine LeO.bind ?_ (fun _ => ?_))
   | exact ih0 _ _ _ _ _ _
   | exact ih1 _ _ _ _ _ _ _ _ _ _ _ _ _ _ _
   | exact ih2 _ _ _ _ _ _ _ _ _ _ _ _ _ _ _
   | exact ih3 _ _ _ _ _ _ _ _ _ _ _
   | exact ih4 _ _ _ _ _ _ _ _ _ _
   | exact ih5 _ _ _ _ _ _ _ _ _ _ _
   | exact ih6 _ _ _ _ _ _ _ _ _ _ _
   | exact ih7 _ _ _ _ _ _ _ _ _ _ _
   | exact ih8 _ _ _ _ _ _ _
   | exact ih9 _ _ _ _ _ _ _ _ _ _ _ _ _ _ _
   | exact ih10 _ _ _ _ _ _ _ _ _ _ _ _ _ _ _ _
   | exact g04Why.mono _ _
   | exact g11Field.mono _ _ _ _ _ _
   | exact g11Head.mono _ _
   | exact g11Num.mono _ _ _ _ _
   | exact g11power.mono _ _
   | exact LeO.none _
   | refine LeO.ite ?_ ?_
   | refine LeO.bind ?_ (fun _ => ?_)
  ·
   intro y0 y1 y2 y3 y4 y5 y6 y7 y8 y9 y10; unfold g11Why.j5
   repeat' first
   | (with_reducible apply ih0)
   | (with_reducible apply ih1)
   | (with_reducible apply ih2)
   | (with_reducible apply ih3)
   | (with_reducible apply ih4)
   | (with_reducible apply ih5)
   | (with_reducible apply ih6)
   | (with_reducible apply ih7)
   | (with_reducible apply ih8)
   | (with_reducible apply ih9)
   | (with_reducible apply ih10)
   | (with_reducible exact g04Why.mono _ _)
   | (with_reducible exact g11Field.mono _ _ _ _ _ _)
   | (with_reducible exact g11Head.mono _ _)
   | (with_reducible exact g11Num.mono _ _ _ _ _)
   | (with_reducible exact g11power.mono _ _)
   | (with_reducible exact LeO.refl _)
   | (with_reducible exact LeO.none _)
   | (with_reducible refine LeO.ite ?_ ?_)
   | (with_reducible refine LeO.bind ?_ (fun _ => ?_))
   | exact ih0 _ _ _ _ _ _
   | exact ih1 _ _ _ _ _ _ _ _ _ _ _ _ _ _ _
   | exact ih2 _ _ _ _ _ _ _ _ _ _ _ _ _ _ _
   | exact ih3 _ _ _ _ _ _ _ _ _ _ _
   | exact ih4 _ _ _ _ _ _ _ _ _ _
   | exact ih5 _ _ _ _ _ _ _ _ _ _ _
   | exact ih6 _ _ _ _ _ _ _ _ _ _ _
   | exact ih7 _ _ _ _ _ _ _ _ _ _ _
   | exact ih8 _ _ _ _ _ _ _
   | exact ih9 _ _ _ _ _ _ _ _ _ _ _ _ _ _ _
   | exact ih10 _ _ _ _ _ _ _ _ _ _ _ _ _ _ _ _
   | exact g04Why.mono _ _
   | exact g11Field.mono _ _ _ _ _ _
   | exact g11Head.mono _ _
   | exact g11Num.mono _ _ _ _ _
   | exact g11power.mono _ _
   | exact LeO.none _
   | refine LeO.ite ?_ ?_
   | refine LeO.bind ?_ (fun _ => ?_)
  ·
   intro y0 y1 y2 y3 y4 y5 y6 y7 y8 y9; unfold g11Why.j6
   repeat' first
   | (with_reducible apply ih0)
   | (with_reducible apply ih1)
   | (with_reducible apply ih2)
   | (with_reducible apply ih3)
   | (with_reducible apply ih4)
   | (with_reducible apply ih5)
   | (with_reducible apply ih6)
   | (with_reducible apply ih7)
   | (with_reducible apply ih8)
   | (with_reducible apply ih9)
   | (with_reducible apply ih10)
   | (with_reducible exact g04Why.mono _ _)
   | (with_reducible exact g11Field.mono _ _ _ _ _ _)
   | (with_reducible exact g11Head.mono _ _)
   | (with_reducible exact g11Num.mono _ _ _ _ _)
   | (with_reducible exact g11power.mono _ _)
   | (with_reducible exact LeO.refl _)
   | (with_reducible exact LeO.none _)
   | (with_reducible refine LeO.ite ?_ ?_)
   | (with_reducible refine LeO.bind ?_ (fun _ => ?_))
   | exact ih0 _ _ _ _ _ _
   | exact ih1 _ _ _ _ _ _ _ _ _ _ _ _ _ _ _
   | exact ih2 _ _ _ _ _ _ _ _ _ _ _ _ _ _ _
   | exact ih3 _ _ _ _ _ _ _ _ _ _ _
   | exact ih4 _ _ _ _ _ _ _ _ _ _
   | exact ih5 _ _ _ _ _ _ _ _ _ _ _
   | exact ih6 _ _ _ _ _ _ _ _ _ _ _
   | exact ih7 _ _ _ _ _ _ _ _ _ _ _
   | exact ih8 _ _ _ _ _ _ _
   | exact ih9 _ _ _ _ _ _ _ _ _ _ _ _ _ _ _
   | exact ih10 _ _ _ _ _ _ _ _ _ _ _ _ _ _ _ _
   | exact g04Why.mono _ _
   | exact g11Field.mono _ _ _ _ _ _
   | exact g11Head.mono _ _
   | exact g11Num.mono _ _ _ _ _
   | exact g11power.mono _ _
   | exact LeO.none _
   | refine LeO.ite ?_ ?_
   | refine LeO.bind ?_ (fun _ => ?_)
  ·
   intro y0 y1 y2 y3 y4 y5 y6 y7 y8 y9 y10; unfold g11Why.j7
   repeat' first
   | (with_reducible apply ih0)
   | (with_reducible apply ih1)
   | (with_reducible apply ih2)
   | (with_reducible apply ih3)
   | (with_reducible apply ih4)
   | (with_reducible apply ih5)
   | (with_reducible apply ih6)
   | (with_reducible apply ih7)
   | (with_reducible apply ih8)
   | (with_reducible apply ih9)
   | (with_reducible apply ih10)
   | (with_reducible exact g04Why.mono _ _)
   | (with_reducible exact g11Field.mono _ _ _ _ _ _)
   | (with_reducible exact g11Head.mono _ _)
   | (with_reducible exact g11Num.mono _ _ _ _ _)
   | (with_reducible exact g11power.mono _ _)
   | (with_reducible exact LeO.refl _)
   | (with_reducible exact LeO.none _)
   | (with_reducible refine LeO.ite ?_ ?_)
   | (with_reducible refine LeO.bind ?_ (fun _ => ?_))
   | exact ih0 _ _ _ _ _ _
   | exact ih1 _ _ _ _ _ _ _ _ _ _ _ _ _ _ _
   | exact ih2 _ _ _ _ _ _ _ _ _ _ _ _ _ _ _
   | exact ih3 _ _ _ _ _ _ _ _ _ _ _
   | exact ih4 _ _ _ _ _ _ _ _ _ _
   | exact ih5 _ _ _ _ _ _ _ _ _ _ _
   | exact ih6 _ _ _ _ _ _ _ _ _ _ _
   | exact ih7 _ _ _ _ _ _ _ _ _ _ _
   | exact ih8 _ _ _ _ _ _ _
   | exact ih9 _ _ _ _ _ _ _ _ _ _ _ _ _ _ _
   | exact ih10 _ _ _ _ _ _ _ _ _ _ _ _ _ _ _ _
   | exact g04Why.mono _ _
   | exact g11Field.mono _ _ _ _ _ _
   | exact g11Head.mono _ _
   | exact g11Num.mono _ _ _ _ _
   | exact g11power.mono _ _
   | exact LeO.none _
   | refine LeO.ite ?_ ?_
   | refine LeO.bind ?_ (fun _ => ?_)
  ·
   intro y0 y1 y2 y3 y4 y5 y6 y7 y8 y9 y10; unfold g11Why.j8
   repeat' first
   | (with_reducible apply ih0)
   | (with_reducible apply ih1)
   | (with_reducible apply ih2)
   | (with_reducible apply ih3)
   | (with_reducible apply ih4)
   | (with_reducible apply ih5)
   | (with_reducible apply ih6)
   | (with_reducible apply ih7)
   | (with_reducible apply ih8)
   | (with_reducible apply ih9)
   | (with_reducible apply ih10)
   | (with_reducible exact g04Why.mono _ _)
   | (with_reducible exact g11Field.mono _ _ _ _ _ _)
   | (with_reducible exact g11Head.mono _ _)
   | (with_reducible exact g11Num.mono _ _ _ _ _)
   | (with_reducible exact g11power.mono _ _)
   | (with_reducible exact LeO.refl _)
   | (with_reducible exact LeO.none _)
   | (with_reducible refine LeO.ite ?_ ?_)
   | (with_reducible refine LeO.bind ?_ (fun _ => ?_))
   | exact ih0 _ _ _ _ _ _
   | exact ih1 _ _ _ _ _ _ _ _ _ _ _ _ _ _ _
   | exact ih2 _ _ _ _ _ _ _ _ _ _ _ _ _ _ _
   | exact ih3 _ _ _ _ _ _ _ _ _ _ _
   | exact ih4 _ _ _ _ _ _ _ _ _ _
   | exact ih5 _ _ _ _ _ _ _ _ _ _ _
   | exact ih6 _ _ _ _ _ _ _ _ _ _ _
   | exact ih7 _ _ _ _ _ _ _ _ _ _ _
   | exact ih8 _ _ _ _ _ _ _
   | exact ih9 _ _ _ _ _ _ _ _ _ _ _ _ _ _ _
   | exact ih10 _ _ _ _ _ _ _ _ _ _ _ _ _ _ _ _
   | exact g04Why.mono _ _
   | exact g11Field.mono _ _ _ _ _ _
   | exact g11Head.mono _ _
   | exact g11Num.mono _ _ _ _ _
   | exact g11power.mono _ _
   | exact LeO.none _
   | refine LeO.ite ?_ ?_
   | refine LeO.bind ?_ (fun _ => ?_)
  ·
   intro y0 y1 y2 y3 y4 y5 y6 y7 y8 y9 y10; unfold g11Why.l0
   repeat' first
   | (with_reducible apply ih0)
   | (with_reducible apply ih1)
   | (with_reducible apply ih2)
   | (with_reducible apply ih3)
   | (with_reducible apply ih4)
   | (with_reducible apply ih5)
   | (with_reducible apply ih6)
   | (with_reducible apply ih7)
   | (with_reducible apply ih8)
   | (with_reducible apply ih9)
   | (with_reducible apply ih10)
   | (with_reducible exact g04Why.mono _ _)
   | (with_reducible exact g11Field.mono _ _ _ _ _ _)
   | (with_reducible exact g11Head.mono _ _)
   | (with_reducible exact g11Num.mono _ _ _ _ _)
   | (with_reducible exact g11power.mono _ _)
   | (with_reducible exact LeO.refl _)
   | (with_reducible exact LeO.none _)
   | (with_reducible refine LeO.ite ?_ ?_)
   | (with_reducible refine LeO.bind ?_ (fun _ => ?_))
   | exact ih0 _ _ _ _ _ _
   | exact ih1 _ _ _ _ _ _ _ _ _ _ _ _ _ _ _
   | exact ih2 _ _ _ _ _ _ _ _ _ _ _ _ _ _ _
   | exact ih3 _ _ _ _ _ _ _ _ _ _ _
   | exact ih4 _ _ _ _ _ _ _ _ _ _
   | exact ih5 _ _ _ _ _ _ _ _ _ _ _
   | exact ih6 _ _ _ _ _ _ _ _ _ _ _
   | exact ih7 _ _ _ _ _ _ _ _ _ _ _
   | exact ih8 _ _ _ _ _ _ _
   | exact ih9 _ _ _ _ _ _ _ _ _ _ _ _ _ _ _
   | exact ih10 _ _ _ _ _ _ _ _ _ _ _ _ _ _ _ _
   | exact g04Why.mono _ _
   | exact g11Field.mono _ _ _ _ _ _
   | exact g11Head.mono _ _
   | exact g11Num.mono _ _ _ _ _
   | exact g11power.mono _ _
   | exact LeO.none _
   | refine LeO.ite ?_ ?_
   | refine LeO.bind ?_ (fun _ => ?_)
  ·
   intro y0 y1 y2 y3 y4 y5 y6; unfold g11Why.l1
   repeat' first
   | (with_reducible apply ih0)
   | (with_reducible apply ih1)
   | (with_reducible apply ih2)
   | (with_reducible apply ih3)
   | (with_reducible apply ih4)
   | (with_reducible apply ih5)
   | (with_reducible apply ih6)
   | (with_reducible apply ih7)
   | (with_reducible apply ih8)
   | (with_reducible apply ih9)
   | (with_reducible apply ih10)
   | (with_reducible exact g04Why.mono _ _)
   | (with_reducible exact g11Field.mono _ _ _ _ _ _)
   | (with_reducible exact g11Head.mono _ _)
   | (with_reducible exact g11Num.mono _ _ _ _ _)
   | (with_reducible exact g11power.mono _ _)
   | (with_reducible exact LeO.refl _)
   | (with_reducible exact LeO.none _)
   | (with_reducible refine LeO.ite ?_ ?_)
   | (with_reducible refine LeO.bind ?_ (fun _ => ?_))
   | exact ih0 _ _ _ _ _ _
   | exact ih1 _ _ _ _ _ _ _ _ _ _ _ _ _ _ _
   | exact ih2 _ _ _ _ _ _ _ _ _ _ _ _ _ _ _
   | exact ih3 _ _ _ _ _ _ _ _ _ _ _
   | exact ih4 _ _ _ _ _ _ _ _ _ _
   | exact ih5 _ _ _ _ _ _ _ _ _ _ _
   | exact ih6 _ _ _ _ _ _ _ _ _ _ _
   | exact ih7 _ _ _ _ _ _ _ _ _ _ _
   | exact ih8 _ _ _ _ _ _ _
   | exact ih9 _ _ _ _ _ _ _ _ _ _ _ _ _ _ _
   | exact ih10 _ _ _ _ _ _ _ _ _ _ _ _ _ _ _ _
   | exact g04Why.mono _ _
   | exact g11Field.mono _ _ _ _ _ _
   | exact g11Head.mono _ _
   | exact g11Num.mono _ _ _ _ _
   | exact g11power.mono _ _
   | exact LeO.none _
   | refine LeO.ite ?_ ?_
   | refine LeO.bind ?_ (fun _ => ?_)
  ·
   intro y0 y1 y2 y3 y4 y5 y6 y7 y8 y9 y10 y11 y12 y13 y14; unfold g11Why.j2
   repeat' first
   | (with_reducible apply ih0)
   | (with_reducible apply ih1)
   | (with_reducible apply ih2)
   | (with_reducible apply ih3)
   | (with_reducible apply ih4)
   | (with_reducible apply ih5)
   | (with_reducible apply ih6)
   | (with_reducible apply ih7)
   | (with_reducible apply ih8)
   | (with_reducible apply ih9)
   | (with_reducible apply ih10)
   | (with_reducible exact g04Why.mono _ _)
   | (with_reducible exact g11Field.mono _ _ _ _ _ _)
   | (with_reducible exact g11Head.mono _ _)
   | (with_reducible exact g11Num.mono _ _ _ _ _)
   | (with_reducible exact g11power.mono _ _)
   | (with_reducible exact LeO.refl _)
   | (with_reducible exact LeO.none _)
   | (with_reducible refine LeO.ite ?_ ?_)
   | (with_reducible refine LeO.bind ?_ (fun _ => ?_))
   | exact ih0 _ _ _ _ _ _
   | exact ih1 _ _ _ _ _ _ _ _ _ _ _ _ _ _ _
   | exact ih2 _ _ _ _ _ _ _ _ _ _ _ _ _ _ _
   | exact ih3 _ _ _ _ _ _ _ _ _ _ _
   | exact ih4 _ _ _ _ _ _ _ _ _ _
   | exact ih5 _ _ _ _ _ _ _ _ _ _ _
   | exact ih6 _ _ _ _ _ _ _ _ _ _ _
   | exact ih7 _ _ _ _ _ _ _ _ _ _ _
   | exact ih8 _ _ _ _ _ _ _
   | exact ih9 _ _ _ _ _ _ _ _ _ _ _ _ _ _ _
   | exact ih10 _ _ _ _ _ _ _ _ _ _ _ _ _ _ _ _
   | exact g04Why.mono _ _
   | exact g11Field.mono _ _ _ _ _ _
   | exact g11Head.mono _ _
   | exact g11Num.mono _ _ _ _ _
   | exact g11power.mono _ _
   | exact LeO.none _
   | refine LeO.ite ?_ ?_
   | refine LeO.bind ?_ (fun _ => ?_)
  ·
   intro y0 y1 y2 y3 y4 y5 y6 y7 y8 y9 y10 y11 y12 y13 y14 y15; unfold g11Why.j3
   repeat' first
   | (with_reducible apply ih0)
   | (with_reducible apply ih1)
   | (with_reducible apply ih2)
   | (with_reducible apply ih3)
   | (with_reducible apply ih4)
   | (with_reducible apply ih5)
   | (with_reducible apply ih6)
   | (with_reducible apply ih7)
   | (with_reducible apply ih8)
   | (with_reducible apply ih9)
   | (with_reducible apply ih10)
   | (with_reducible exact g04Why.mono _ _)
   | (with_reducible exact g11Field.mono _ _ _ _ _ _)
   | (with_reducible exact g11Head.mono _ _)
   | (with_reducible exact g11Num.mono _ _ _ _ _)
   | (with_reducible exact g11power.mono _ _)
   | (with_reducible exact LeO.refl _)
   | (with_reducible exact LeO.none _)
   | (with_reducible refine LeO.ite ?_ ?_)
   | (with_reducible refine LeO.bind ?_ (fun _ => ?_))
   | exact ih0 _ _ _ _ _ _
   | exact ih1 _ _ _ _ _ _ _ _ _ _ _ _ _ _ _
   | exact ih2 _ _ _ _ _ _ _ _ _ _ _ _ _ _ _
   | exact ih3 _ _ _ _ _ _ _ _ _ _ _
   | exact ih4 _ _ _ _ _ _ _ _ _ _
   | exact ih5 _ _ _ _ _ _ _ _ _ _ _
   | exact ih6 _ _ _ _ _ _ _ _ _ _ _
   | exact ih7 _ _ _ _ _ _ _ _ _ _ _
   | exact ih8 _ _ _ _ _ _ _
   | exact ih9 _ _ _ _ _ _ _ _ _ _ _ _ _ _ _
   | exact ih10 _ _ _ _ _ _ _ _ _ _ _ _ _ _ _ _
   | exact g04Why.mono _ _
   | exact g11Field.mono _ _ _ _ _ _
   | exact g11Head.mono _ _
   | exact g11Num.mono _ _ _ _ _
   | exact g11power.mono _ _
   | exact LeO.none _
   | refine LeO.ite ?_ ?_
   | refine LeO.bind ?_ (fun _ => ?_)
theorem g11Why.mono : ∀ a0 k, LeO (g11Why.f k a0) (g11Why.f (k + 1) a0) := by
 intro a0 k; obtain ⟨ih0, ih1, ih2, ih3, ih4, ih5, ih6, ih7, ih8, ih9, ih10⟩ := g11Why.mono_l k; unfold g11Why.f
 repeat' first
  | (with_reducible apply ih0)
  | (with_reducible apply ih1)
  | (with_reducible apply ih2)
  | (with_reducible apply ih3)
  | (with_reducible apply ih4)
  | (with_reducible apply ih5)
  | (with_reducible apply ih6)
  | (with_reducible apply ih7)
  | (with_reducible apply ih8)
  | (with_reducible apply ih9)
  | (with_reducible apply ih10)
  | (with_reducible exact g04Why.mono _ _)
  | (with_reducible exact g11Field.mono _ _ _ _ _ _)
  | (with_reducible exact g11Head.mono _ _)
  | (with_reducible exact g11Num.mono _ _ _ _ _)
  | (with_reducible exact g11power.mono _ _)
  | (with_reducible exact LeO.refl _)
  | (with_reducible exact LeO.none _)
  | (with_reducible refine LeO.ite ?_ ?_)
  | (with_reducible refine LeO.bind ?_ (fun _ => ?_))
  | exact ih0 _ _ _ _ _ _
  | exact ih1 _ _ _ _ _ _ _ _ _ _ _ _ _ _ _
  | exact ih2 _ _ _ _ _ _ _ _ _ _ _ _ _ _ _
  | exact ih3 _ _ _ _ _ _ _ _ _ _ _
  | exact ih4 _ _ _ _ _ _ _ _ _ _
  | exact ih5 _ _ _ _ _ _ _ _ _ _ _
  | exact ih6 _ _ _ _ _ _ _ _ _ _ _
  | exact ih7 _ _ _ _ _ _ _ _ _ _ _
  | exact ih8 _ _ _ _ _ _ _
  | exact ih9 _ _ _ _ _ _ _ _ _ _ _ _ _ _ _
  | exact ih10 _ _ _ _ _ _ _ _ _ _ _ _ _ _ _ _
  | exact g04Why.mono _ _
  | exact g11Field.mono _ _ _ _ _ _
  | exact g11Head.mono _ _
  | exact g11Num.mono _ _ _ _ _
  | exact g11power.mono _ _
  | exact LeO.none _
  | refine LeO.ite ?_ ?_
  | refine LeO.bind ?_ (fun _ => ?_)

end Go.Proofs.YtceilmhinkkgfaaDoor.Q
end
section
namespace Go.Proofs.YtceilmhinkkgfaaDoor.Q
open Go.RowKit Go.Proofs.YtceilmhinkkgfaaDoorW.PrintWords Go.Proofs.YtceilmhinkkgfaaDoorW.PrintLast Go.Proofs.YtceilmhinkkgfaaDoorW.PrintMore
attribute [local go_sem] max2_int min2_int max_two min_two max_three min_three max_four min_four

theorem bkX {W : World} {g : Nat} {o : Obj} (h : W.heap[g]? = some o := by ((with_reducible repeat (first | apply blk_drewN | apply blk_drew | apply blk_alloc)); exact Aside0.out (by with_reducible assumption))) : W.heap[g]? = some o := h
set_option maxHeartbeats 80000000 in
set_option maxRecDepth 100000 in
theorem g11Why.calls (k : Nat) (a0 : ByteArray) (r : Int) (w : World) (h : g11Why.f k a0 = some r) :
 Calls Tryd.prog 10 #[.string a0] w fun e w' => e = .returned (.int .i64 r) ∧ Below w.heap.size w w' := by
 have hu47 := Tryd.underlying47; have HB := aS (Below.refl w.heap.size w); (have H : (if (a0.size : Int) > 1048576 then (some 2) else ((g04Why.f k a0).bind fun t334 => (if t334 = 0 then (if 5 < (a0.size : Int) then (if 4 < (a0.size : Int) then (if (bt a0 4) = 2 then (g11Why.j0 k a0 ((bt a0 5) == 2) ((bt a0 4) == 2) 64 56 64) else (g11Why.j0 k a0 ((bt a0 5) == 2) ((bt a0 4) == 2) 52 32 40)) else (none)) else (none)) else (some t334)))) = some r := h); clear h
 by_cases c2 : (a0.size : Int) > 1048576
 ·
  rw [if_pos c2] at H; have c2b0 : decide (1048576 < (a0.size : Int)) = true := decide_eq_true c2; (have c2b1 : decide (1048576 < a0.size) = true := decide_eq_true (by omega)); clear c2; obtain rfl := Option.some.inj H; go_enter Tryd.func10, Tryd.ntmps10
  as_aux_lemma =>
   go_wp2
   repeat (go_quiet (fail); try go_wp2)
   (go_ret); exact ⟨er, hbS⟩
 ·
  rw [if_neg c2] at H; have c2b0 : decide (1048576 < (a0.size : Int)) = false := decide_eq_false c2; (have c2b1 : decide (1048576 < a0.size) = false := decide_eq_false (by omega)); clear c2; replace H := Option.bind_eq_some_iff.mp H; obtain ⟨t334, A30, H⟩ := H; replace H : (if t334 = 0 then (if 5 < (a0.size : Int) then (if 4 < (a0.size : Int) then (if (bt a0 4) = 2 then (g11Why.j0 k a0 ((bt a0 5) == 2) ((bt a0 4) == 2) 64 56 64) else (g11Why.j0 k a0 ((bt a0 5) == 2) ((bt a0 4) == 2) 52 32 40)) else (none)) else (none)) else (some t334)) = some r := H; have A3 := aS A30; clear A30
  by_cases c4 : t334 = 0
  ·
   rw [if_pos c4] at H; have c4b0 : (t334 == 0) = true := beq_iff_eq.mpr c4; have c4b1 : (t334 != 0) = false := bne_eq_false_iff_eq.mpr c4; clear c4
   by_cases c5 : 5 < (a0.size : Int)
   ·
    rw [if_pos c5] at H; have c5b0 : decide (5 < (a0.size : Int)) = true := decide_eq_true c5; (have c5b1 : decide (5 < a0.size) = true := decide_eq_true (by omega)); clear c5
    by_cases c7 : 4 < (a0.size : Int)
    ·
     rw [if_pos c7] at H; have c7b0 : decide (4 < (a0.size : Int)) = true := decide_eq_true c7; (have c7b1 : decide (4 < a0.size) = true := decide_eq_true (by omega)); clear c7; have HC9 := aS H; clear H; go_enter Tryd.func10, Tryd.ntmps10; go_upto_if 37 with (first | (go_at_call 32; (with_reducible refine (g04Why.calls k a0 t334 _ A3.out).mono ?_); rintro e w' ⟨rfl, ⟨nd, rfl⟩⟩; (try exact qd); have p6 : 0 ≤ (5 : Int) := (by omega); have q6 : 5 < a0.size := (by have : (5 : Int) < (a0.size : Int) := of_decide_eq_true (by first | (with_reducible assumption) | assumption); omega); have hx6 : ∀ h : 5 < a0.size, ((a0[5]'h).toNat : Int) = bt a0 5 := bt_at a0 5; clear p6; have qi6 : (5 < (a0.size : Int)) = True := eq_true (of_decide_eq_true (by first | (with_reducible assumption) | assumption)); replace q6 := eq_true q6; have p8 : 0 ≤ (4 : Int) := (by omega); have q8 : 4 < a0.size := (by have : (4 : Int) < (a0.size : Int) := of_decide_eq_true (by first | (with_reducible assumption) | assumption); omega); have hx8 : ∀ h : 4 < a0.size, ((a0[4]'h).toNat : Int) = bt a0 4 := bt_at a0 4; clear p8; have qi8 : (4 < (a0.size : Int)) = True := eq_true (of_decide_eq_true (by first | (with_reducible assumption) | assumption)); replace q8 := eq_true q8))
     repeat (go_quiet (first | (go_at_call 32; (with_reducible refine (g04Why.calls k a0 t334 _ A3.out).mono ?_); rintro e w' ⟨rfl, ⟨nd, rfl⟩⟩; (try exact qd); have p6 : 0 ≤ (5 : Int) := (by omega); have q6 : 5 < a0.size := (by have : (5 : Int) < (a0.size : Int) := of_decide_eq_true (by first | (with_reducible assumption) | assumption); omega); have hx6 : ∀ h : 5 < a0.size, ((a0[5]'h).toNat : Int) = bt a0 5 := bt_at a0 5; clear p6; have qi6 : (5 < (a0.size : Int)) = True := eq_true (of_decide_eq_true (by first | (with_reducible assumption) | assumption)); replace q6 := eq_true q6; have p8 : 0 ≤ (4 : Int) := (by omega); have q8 : 4 < a0.size := (by have : (4 : Int) < (a0.size : Int) := of_decide_eq_true (by first | (with_reducible assumption) | assumption); omega); have hx8 : ∀ h : 4 < a0.size, ((a0[4]'h).toNat : Int) = bt a0 4 := bt_at a0 4; clear p8; have qi8 : (4 < (a0.size : Int)) = True := eq_true (of_decide_eq_true (by first | (with_reducible assumption) | assumption)); replace q8 := eq_true q8)); go_upto_if 37 with (first | (go_at_call 32; (with_reducible refine (g04Why.calls k a0 t334 _ A3.out).mono ?_); rintro e w' ⟨rfl, ⟨nd, rfl⟩⟩; (try exact qd); have p6 : 0 ≤ (5 : Int) := (by omega); have q6 : 5 < a0.size := (by have : (5 : Int) < (a0.size : Int) := of_decide_eq_true (by first | (with_reducible assumption) | assumption); omega); have hx6 : ∀ h : 5 < a0.size, ((a0[5]'h).toNat : Int) = bt a0 5 := bt_at a0 5; clear p6; have qi6 : (5 < (a0.size : Int)) = True := eq_true (of_decide_eq_true (by first | (with_reducible assumption) | assumption)); replace q6 := eq_true q6; have p8 : 0 ≤ (4 : Int) := (by omega); have q8 : 4 < a0.size := (by have : (4 : Int) < (a0.size : Int) := of_decide_eq_true (by first | (with_reducible assumption) | assumption); omega); have hx8 : ∀ h : 4 < a0.size, ((a0[4]'h).toNat : Int) = bt a0 4 := bt_at a0 4; clear p8; have qi8 : (4 < (a0.size : Int)) = True := eq_true (of_decide_eq_true (by first | (with_reducible assumption) | assumption)); replace q8 := eq_true q8)))
     ((try simp only [Act.put, List.setIfInBounds_toArray, List.set_cons_zero, List.set_cons_succ])); go_cut [6, 7, 8] (fun v6 v7 v8 wc => ∃ (kq : Nat) (x6_8 : Int) (x7_8 : Int) (x8_8 : Int), v6 = .int .u64 x6_8 ∧ v7 = .int .u64 x7_8 ∧ v8 = .int .u64 x8_8 ∧ Aside0 (g11Why.j0 kq a0 ((bt a0 5) == 2) ((bt a0 4) == 2) x6_8 x7_8 x8_8 = some r) ∧ Aside0 (kq ≤ k) ∧ Aside0 (Below w.heap.size w wc))
     case first =>
      have H := HC9.out; clear HC9
      by_cases c10 : (bt a0 4) = 2
      ·
       rw [if_pos c10] at H; have c10b0 : ((bt a0 4) == 2) = true := beq_iff_eq.mpr c10; have c10b1 : ((bt a0 4) != 2) = false := bne_eq_false_iff_eq.mpr c10; clear c10; ((skip)); ((first | rw (occs := .neg [1]) [c10b0] | skip)); have H' := aS H; clear H
       as_aux_lemma =>
        go_wp2
        go_meet
        case rel => exact ⟨_, (64), (56), (64), sr, sr, sr, H', ⟨by first|omega|exact Nat.le_refl _⟩, ⟨hbS⟩⟩
      ·
       rw [if_neg c10] at H; have c10b0 : ((bt a0 4) == 2) = false := beq_eq_false_iff_ne.mpr c10; have c10b1 : ((bt a0 4) != 2) = true := bne_iff_ne.mpr c10; ((skip)); ((first | rw (occs := .neg [1]) [c10b0] | skip)); have H' := aS H; clear H
       as_aux_lemma =>
        go_wp2
        go_meet
        case rel => exact ⟨_, (52), (32), (40), sr, sr, sr, H', ⟨by first|omega|exact Nat.le_refl _⟩, ⟨hbS⟩⟩
     case rest =>
      clear HC9; (try clear c1); (try clear c2); (try clear c2b0); (try clear c2b1); (try clear p2); (try clear c4); (try clear c4b0); (try clear c4b1); (try clear c5); (try clear c5b0); (try clear c5b1); (try clear p6); (try clear q6); (try clear hx6); (try clear qi6); (try clear c7); (try clear c7b0); (try clear c7b1); (try clear p8); (try clear q8); (try clear hx8); (try clear qi8); (try clear c10); (try clear c10b0); (try clear c10b1); obtain ⟨kq, x6_8, x7_8, x8_8, rfl, rfl, rfl, HA, HJ8, HB⟩ := hcut
      cases kq with
      | zero => exact absurd HA.out (by simp [g11Why.j0])
      | succ kj8 =>
       as_aux_lemma =>
        have H := HA.out; clear HA; simp only [g11Why.j0] at H
        by_cases c11 : (IntKind.u64.wrap ((a0.size : Int))) < x6_8
        ·
         rw [if_pos c11] at H; have c11b0 : decide ((IntKind.u64.wrap ((a0.size : Int))) < x6_8) = true := decide_eq_true c11; clear c11; obtain rfl := Option.some.inj H
         as_aux_lemma =>
          go_wp2
          (go_ret); exact ⟨er, hbS⟩
        ·
         rw [if_neg c11] at H; have c11b0 : decide ((IntKind.u64.wrap ((a0.size : Int))) < x6_8) = false := decide_eq_false c11; clear c11; replace H := Option.bind_eq_some_iff.mp H; obtain ⟨⟨t335, t336, t337, t338, t339, t340, t341, t342, t343⟩, A120, H⟩ := H; (replace H : ((g11Num.f kj8 ((bt a0 5) == 2) a0 20 4).bind fun t345 => (if t345 = 1 then (if t338 = x6_8 then (if t336 = 0 then (if t337 = 0 then (g11Why.j1 kj8 a0 ((bt a0 5) == 2) ((bt a0 4) == 2) x7_8 x8_8 t335 t336 t337 false t338 t339 t340 t341 t342 t343) else (g11Why.j1 kj8 a0 ((bt a0 5) == 2) ((bt a0 4) == 2) x7_8 x8_8 t335 t336 t337 (t341 != x8_8) t338 t339 t340 t341 t342 t343)) else (if t339 = x7_8 then (if t337 = 0 then (g11Why.j1 kj8 a0 ((bt a0 5) == 2) ((bt a0 4) == 2) x7_8 x8_8 t335 t336 t337 false t338 t339 t340 t341 t342 t343) else (g11Why.j1 kj8 a0 ((bt a0 5) == 2) ((bt a0 4) == 2) x7_8 x8_8 t335 t336 t337 (t341 != x8_8) t338 t339 t340 t341 t342 t343)) else (g11Why.j1 kj8 a0 ((bt a0 5) == 2) ((bt a0 4) == 2) x7_8 x8_8 t335 t336 t337 true t338 t339 t340 t341 t342 t343))) else (g11Why.j1 kj8 a0 ((bt a0 5) == 2) ((bt a0 4) == 2) x7_8 x8_8 t335 t336 t337 true t338 t339 t340 t341 t342 t343)) else (some 7))) = some r := H); have A12 := aS A120; clear A120; replace H := Option.bind_eq_some_iff.mp H; obtain ⟨t345, A130, H⟩ := H; replace H : (if t345 = 1 then (if t338 = x6_8 then (if t336 = 0 then (if t337 = 0 then (g11Why.j1 kj8 a0 ((bt a0 5) == 2) ((bt a0 4) == 2) x7_8 x8_8 t335 t336 t337 false t338 t339 t340 t341 t342 t343) else (g11Why.j1 kj8 a0 ((bt a0 5) == 2) ((bt a0 4) == 2) x7_8 x8_8 t335 t336 t337 (t341 != x8_8) t338 t339 t340 t341 t342 t343)) else (if t339 = x7_8 then (if t337 = 0 then (g11Why.j1 kj8 a0 ((bt a0 5) == 2) ((bt a0 4) == 2) x7_8 x8_8 t335 t336 t337 false t338 t339 t340 t341 t342 t343) else (g11Why.j1 kj8 a0 ((bt a0 5) == 2) ((bt a0 4) == 2) x7_8 x8_8 t335 t336 t337 (t341 != x8_8) t338 t339 t340 t341 t342 t343)) else (g11Why.j1 kj8 a0 ((bt a0 5) == 2) ((bt a0 4) == 2) x7_8 x8_8 t335 t336 t337 true t338 t339 t340 t341 t342 t343))) else (g11Why.j1 kj8 a0 ((bt a0 5) == 2) ((bt a0 4) == 2) x7_8 x8_8 t335 t336 t337 true t338 t339 t340 t341 t342 t343)) else (some 7)) = some r := H
         have A13 := aS A130; clear A130
         by_cases c14 : t345 = 1
         ·
          rw [if_pos c14] at H; have c14b0 : (t345 == 1) = true := beq_iff_eq.mpr c14; have c14b1 : (t345 != 1) = false := bne_eq_false_iff_eq.mpr c14; clear c14; have HC15 := aS H; clear H; go_upto_region 15 with (first | (go_at_call 11; (with_reducible refine (g11Head.calls kj8 a0 t335 t336 t337 t338 t339 t340 t341 t342 t343 _ A12.out).mono ?_); rintro e w16 ⟨rfl, hb⟩; replace HB := aS (below_step hbN hb)) | ((with_reducible refine gate_dst (N := 12) rfl ?_); refine bE 12 #[.int .u64 0, .int .u64 0, .int .u64 0, .int .u64 0, .int .u64 0, .int .u64 0] 47 ?_; intro gb344 hg w17 hbox hb; have BK344 := aS (hbox); have GW344 := aS (bsz hg hbN : w.heap.size ≤ gb344); have GE344 := aS (bsz hg hbN : w.heap.size ≤ gb344); replace HB := aS (below_step hbN hb); clear hb hbox hg; obtain ⟨hcz18_0, hcz18_1, hcz18_2, hcz18_3, hcz18_4, hcz18_5, hfz18_0, hfz18_1, hfz18_2, hfz18_3, hfz18_4, hfz18_5⟩ := bc6 BK344.out) | ((with_reducible refine gate_store (t := 47) (p := 12) rfl ?_); refine sBL 47 [.int .u64 t338, .int .u64 t339, .int .u64 t340, .int .u64 t341, .int .u64 t342, .int .u64 t343] BK344.out ?_; have nS0_ := aS (sF_below [.int .u64 t338, .int .u64 t339, .int .u64 t340, .int .u64 t341, .int .u64 t342, .int .u64 t343] BK344.out rfl HB.out GE344.out); have nS1_ := aS (sF_eq [.int .u64 t338, .int .u64 t339, .int .u64 t340, .int .u64 t341, .int .u64 t342, .int .u64 t343] BK344.out rfl); generalize setFrom gb344 [.int .u64 t338, .int .u64 t339, .int .u64 t340, .int .u64 t341, .int .u64 t342, .int .u64 t343] 0 w17 = wS344 at nS0_ nS1_ ⊢; clear HB BK344 hcz18_0 hcz18_1 hcz18_2 hcz18_3 hcz18_4 hcz18_5 hfz18_0 hfz18_1 hfz18_2 hfz18_3 hfz18_4 hfz18_5; have HB := nS0_; have BK344 := nS1_; clear nS0_ nS1_; obtain ⟨hczS_0, hczS_1, hczS_2, hczS_3, hczS_4, hczS_5, hfzS_0, hfzS_1, hfzS_2, hfzS_3, hfzS_4, hfzS_5⟩ := bc6 BK344.out) | (go_at_call 33; (with_reducible refine (g11Num.calls kj8 ((bt a0 5) == 2) a0 20 4 t345 _ A13.out).mono ?_); rintro e w' ⟨rfl, ⟨nd, rfl⟩⟩; (try exact qd)))
          ((try simp only [Act.put, List.setIfInBounds_toArray, List.set_cons_zero, List.set_cons_succ])); go_cut [77] (fun v77 wc => ∃ (kq : Nat) (x77_14 : Bool), v77 = .bool x77_14 ∧ Aside0 (g11Why.j1 kq a0 ((bt a0 5) == 2) ((bt a0 4) == 2) x7_8 x8_8 t335 t336 t337 x77_14 t338 t339 t340 t341 t342 t343 = some r) ∧ Aside0 (kq ≤ kj8) ∧ Aside0 (wc.heap[gb344]? = some (.cells #[.int .u64 t338, .int .u64 t339, .int .u64 t340, .int .u64 t341, .int .u64 t342, .int .u64 t343] 47 (0, 0))) ∧ Aside0 (Below w.heap.size w wc))
          case first =>
           have H := HC15.out; clear HC15
           by_cases c19 : t338 = x6_8
           ·
            rw [if_pos c19] at H; have c19b0 : (t338 == x6_8) = true := beq_iff_eq.mpr c19; have c19b1 : (t338 != x6_8) = false := bne_eq_false_iff_eq.mpr c19; clear c19; (first | rw [c19b0] | (simp only [i64_w, i32_w]; rw [c19b0]) | skip)
            by_cases c20 : t336 = 0
            ·
             rw [if_pos c20] at H; have c20b0 : (t336 == 0) = true := beq_iff_eq.mpr c20; have c20b1 : (t336 != 0) = false := bne_eq_false_iff_eq.mpr c20; clear c20
             by_cases c21 : t337 = 0
             ·
              rw [if_pos c21] at H; have c21b0 : (t337 == 0) = true := beq_iff_eq.mpr c21; have c21b1 : (t337 != 0) = false := bne_eq_false_iff_eq.mpr c21; clear c21; have H' := aS H; clear H; obtain ⟨_, _, _, _, _, _, _, _, _, _, _, _⟩ := bc6 BK344.out
              as_aux_lemma =>
               go_wp2
               go_meet
               case rel => exact ⟨_, (false), sr, H', ⟨by have := HJ8.out; first|omega|exact Nat.le_refl _⟩, ⟨bkX⟩, ⟨hbS⟩⟩
             ·
              rw [if_neg c21] at H; have c21b0 : (t337 == 0) = false := beq_eq_false_iff_ne.mpr c21; have c21b1 : (t337 != 0) = true := bne_iff_ne.mpr c21; have H' := aS H; clear H; obtain ⟨_, _, _, _, _, _, _, _, _, _, _, _⟩ := bc6 BK344.out
              as_aux_lemma =>
               go_wp2
               go_meet
               case rel => exact ⟨_, ((t341 != x8_8)), sr, H', ⟨by have := HJ8.out; first|omega|exact Nat.le_refl _⟩, ⟨bkX⟩, ⟨hbS⟩⟩
            ·
             rw [if_neg c20] at H; have c20b0 : (t336 == 0) = false := beq_eq_false_iff_ne.mpr c20; have c20b1 : (t336 != 0) = true := bne_iff_ne.mpr c20
             by_cases c24 : t339 = x7_8
             ·
              rw [if_pos c24] at H; have c24b0 : (t339 == x7_8) = true := beq_iff_eq.mpr c24; have c24b1 : (t339 != x7_8) = false := bne_eq_false_iff_eq.mpr c24; clear c24
              by_cases c25 : t337 = 0
              ·
               rw [if_pos c25] at H; have c25b0 : (t337 == 0) = true := beq_iff_eq.mpr c25; have c25b1 : (t337 != 0) = false := bne_eq_false_iff_eq.mpr c25; clear c25; have H' := aS H; clear H; obtain ⟨_, _, _, _, _, _, _, _, _, _, _, _⟩ := bc6 BK344.out
               as_aux_lemma =>
                go_wp2
                go_meet
                case rel => exact ⟨_, (false), sr, H', ⟨by have := HJ8.out; first|omega|exact Nat.le_refl _⟩, ⟨bkX⟩, ⟨hbS⟩⟩
              ·
               rw [if_neg c25] at H; have c25b0 : (t337 == 0) = false := beq_eq_false_iff_ne.mpr c25; have c25b1 : (t337 != 0) = true := bne_iff_ne.mpr c25; have H' := aS H; clear H; obtain ⟨_, _, _, _, _, _, _, _, _, _, hfz27_4, _⟩ := bc6 BK344.out
               as_aux_lemma =>
                go_wp2
                go_meet
                case rel => exact ⟨_, ((t341 != x8_8)), sr, H', ⟨by have := HJ8.out; first|omega|exact Nat.le_refl _⟩, ⟨bkX⟩, ⟨hbS⟩⟩
             ·
              rw [if_neg c24] at H; have c24b0 : (t339 == x7_8) = false := beq_eq_false_iff_ne.mpr c24; have c24b1 : (t339 != x7_8) = true := bne_iff_ne.mpr c24; have H' := aS H; clear H; obtain ⟨_, _, _, _, _, _, _, _, _, _, _, _⟩ := bc6 BK344.out
              as_aux_lemma =>
               go_wp2
               go_meet
               case rel => exact ⟨_, (true), sr, H', ⟨by have := HJ8.out; first|omega|exact Nat.le_refl _⟩, ⟨bkX⟩, ⟨hbS⟩⟩
           ·
            rw [if_neg c19] at H; have c19b0 : (t338 == x6_8) = false := beq_eq_false_iff_ne.mpr c19; have c19b1 : (t338 != x6_8) = true := bne_iff_ne.mpr c19; ((first | rw [c19b0] | (simp only [i64_w, i32_w]; rw [c19b0]) | skip)); have H' := aS H; clear H; obtain ⟨_, _, _, _, _, _, _, _, _, _, _, _⟩ := bc6 BK344.out
            as_aux_lemma =>
             go_wp2
             go_meet
             case rel => exact ⟨_, (true), sr, H', ⟨by have := HJ8.out; first|omega|exact Nat.le_refl _⟩, ⟨bkX⟩, ⟨hbS⟩⟩
          case rest =>
           clear HC15; (try clear c11); (try clear c11b0); (try clear c14); (try clear c14b0); (try clear c14b1); (try clear c19); (try clear c19b0); (try clear c19b1); (try clear c20); (try clear c20b0); (try clear c20b1); (try clear c21); (try clear c21b0); (try clear c21b1); (try clear c24); (try clear c24b0); (try clear c24b1); (try clear c25); (try clear c25b0); (try clear c25b1); try clear hfz27_4
           obtain ⟨kq, x77_14, rfl, HA, HJ14, BK344, HB⟩ := hcut
           cases kq with
           | zero => exact absurd HA.out (by simp [g11Why.j1])
           | succ kj14 =>
            as_aux_lemma =>
             have H := HA.out; clear HA; simp only [g11Why.j1] at H
             by_cases c30 : x77_14 = true
             ·
              subst c30; (have H1 : (some 8) = some r := by rw [if_pos rfl] at H; exact H); clear H; have H := H1; clear H1; obtain rfl := Option.some.inj H
              as_aux_lemma =>
               go_wp2
               (go_ret); exact ⟨er, hbS⟩
             ·
              replace c30 := Bool.eq_false_iff.mpr c30; subst c30; (have H1 : (if t337 = 0 then (if t342 = 0 then (if t343 = 0 then (g11Why.j4 kj14 a0 ((bt a0 5) == 2) ((bt a0 4) == 2) x7_8 x8_8 t335 t336 t337 0 t338 t339 t340 t341 t342 t343) else (some 11)) else (some 10)) else ((g11there.f a0 t337 x8_8).bind fun t346 => (if t346 = true then (if t342 = 0 then ((g11Field.f kj14 ((bt a0 5) == 2) t335 a0 t337 5).bind fun t347 => (g11Why.j2 kj14 a0 ((bt a0 5) == 2) ((bt a0 4) == 2) x7_8 x8_8 t335 t336 t337 t347 t338 t339 t340 t341 t342 t343)) else (g11Why.j2 kj14 a0 ((bt a0 5) == 2) ((bt a0 4) == 2) x7_8 x8_8 t335 t336 t337 t342 t338 t339 t340 t341 t342 t343)) else (some 9)))) = some r := by rw [if_neg (show ¬ (false = true) by decide)] at H; exact H); clear H; have H := H1; clear H1; have HC31 := aS H; clear H; go_upto_if 79 with (fail)
              go_cut [13] (fun v13 wc => ∃ (kq : Nat) (x13_30 : Int), v13 = .int .u64 x13_30 ∧ Aside0 (g11Why.j4 kq a0 ((bt a0 5) == 2) ((bt a0 4) == 2) x7_8 x8_8 t335 t336 t337 x13_30 t338 t339 t340 t341 t342 t343 = some r) ∧ Aside0 (kq ≤ kj14) ∧ Aside0 (wc.heap[gb344]? = some (.cells #[.int .u64 t338, .int .u64 t339, .int .u64 t340, .int .u64 t341, .int .u64 t342, .int .u64 t343] 47 (0, 0))) ∧ Aside0 (Below w.heap.size w wc))
              case first =>
               have H := HC31.out; clear HC31
               by_cases c32 : t337 = 0
               ·
                rw [if_pos c32] at H; have c32b0 : (t337 == 0) = true := beq_iff_eq.mpr c32; have c32b1 : (t337 != 0) = false := bne_eq_false_iff_eq.mpr c32; clear c32; (first | rw [c32b0] | (simp only [i64_w, i32_w]; rw [c32b0]) | skip)
                by_cases c33 : t342 = 0
                ·
                 rw [if_pos c33] at H; have c33b0 : (t342 == 0) = true := beq_iff_eq.mpr c33; have c33b1 : (t342 != 0) = false := bne_eq_false_iff_eq.mpr c33; clear c33
                 by_cases c34 : t343 = 0
                 ·
                  rw [if_pos c34] at H; have c34b0 : (t343 == 0) = true := beq_iff_eq.mpr c34; have c34b1 : (t343 != 0) = false := bne_eq_false_iff_eq.mpr c34; clear c34; have H' := aS H; clear H; obtain ⟨_, _, _, _, _, _, _, _, _, _, _, _⟩ := bc6 BK344.out
                  as_aux_lemma =>
                   go_wp2
                   go_meet
                   case rel => exact ⟨_, (0), sr, H', ⟨by have := HJ8.out; have := HJ14.out; first|omega|exact Nat.le_refl _⟩, ⟨bkX⟩, ⟨hbS⟩⟩
                 ·
                  rw [if_neg c34] at H; have c34b0 : (t343 == 0) = false := beq_eq_false_iff_ne.mpr c34; have c34b1 : (t343 != 0) = true := bne_iff_ne.mpr c34; obtain rfl := Option.some.inj H; obtain ⟨_, _, _, _, _, _, _, _, _, _, _, _⟩ := bc6 BK344.out
                  as_aux_lemma =>
                   go_wp2
                   (go_ret); exact ⟨er, hbS⟩
                ·
                 rw [if_neg c33] at H; have c33b0 : (t342 == 0) = false := beq_eq_false_iff_ne.mpr c33; have c33b1 : (t342 != 0) = true := bne_iff_ne.mpr c33; obtain rfl := Option.some.inj H; obtain ⟨_, _, _, _, _, _, _, _, hfz37_2, _, _, _⟩ := bc6 BK344.out
                 as_aux_lemma =>
                  go_wp2
                  (go_ret); exact ⟨er, hbS⟩
               ·
                rw [if_neg c32] at H; have c32b0 : (t337 == 0) = false := beq_eq_false_iff_ne.mpr c32; have c32b1 : (t337 != 0) = true := bne_iff_ne.mpr c32; ((first | rw [c32b0] | (simp only [i64_w, i32_w]; rw [c32b0]) | skip)); replace H := Option.bind_eq_some_iff.mp H; obtain ⟨t346, A380, H⟩ := H; (replace H : (if t346 = true then (if t342 = 0 then ((g11Field.f kj14 ((bt a0 5) == 2) t335 a0 t337 5).bind fun t347 => (g11Why.j2 kj14 a0 ((bt a0 5) == 2) ((bt a0 4) == 2) x7_8 x8_8 t335 t336 t337 t347 t338 t339 t340 t341 t342 t343)) else (g11Why.j2 kj14 a0 ((bt a0 5) == 2) ((bt a0 4) == 2) x7_8 x8_8 t335 t336 t337 t342 t338 t339 t340 t341 t342 t343)) else (some 9)) = some r := H); have A38 := aS A380; clear A380
                by_cases c39 : t346 = true
                ·
                 subst c39; (have H1 : (if t342 = 0 then ((g11Field.f kj14 ((bt a0 5) == 2) t335 a0 t337 5).bind fun t347 => (g11Why.j2 kj14 a0 ((bt a0 5) == 2) ((bt a0 4) == 2) x7_8 x8_8 t335 t336 t337 t347 t338 t339 t340 t341 t342 t343)) else (g11Why.j2 kj14 a0 ((bt a0 5) == 2) ((bt a0 4) == 2) x7_8 x8_8 t335 t336 t337 t342 t338 t339 t340 t341 t342 t343)) = some r := by rw [if_pos rfl] at H; exact H); clear H; have H := H1; clear H1; have HC40 := aS H; clear H; go_upto_if 94 with (first | (go_at_call 34; (with_reducible refine (g11there.calls a0 t337 x8_8 true _ A38.out).mono ?_); rintro e w' ⟨rfl, ⟨nd, rfl⟩⟩; (try exact qd); obtain ⟨hcz41_0, hcz41_1, hcz41_2, hcz41_3, hcz41_4, hcz41_5, hfz41_0, hfz41_1, hfz41_2, hfz41_3, hfz41_4, hfz41_5⟩ := bc6 BK344.out))
                 ((try simp only [Act.put, List.setIfInBounds_toArray, List.set_cons_zero, List.set_cons_succ])); go_cut [13] (fun v13 wc => ∃ (kq : Nat) (x13_39 : Int), v13 = .int .u64 x13_39 ∧ Aside0 (g11Why.j2 kq a0 ((bt a0 5) == 2) ((bt a0 4) == 2) x7_8 x8_8 t335 t336 t337 x13_39 t338 t339 t340 t341 t342 t343 = some r) ∧ Aside0 (kq ≤ kj14) ∧ Aside0 (wc.heap[gb344]? = some (.cells #[.int .u64 t338, .int .u64 t339, .int .u64 t340, .int .u64 t341, .int .u64 t342, .int .u64 t343] 47 (0, 0))) ∧ Aside0 (Below w.heap.size w wc))
                 case first =>
                  have H := HC40.out; clear HC40
                  by_cases c42 : t342 = 0
                  ·
                   rw [if_pos c42] at H; have c42b0 : (t342 == 0) = true := beq_iff_eq.mpr c42; have c42b1 : (t342 != 0) = false := bne_eq_false_iff_eq.mpr c42; clear c42; ((first | rw [c42b0] | (simp only [i64_w, i32_w]; rw [c42b0]) | skip)); replace H := Option.bind_eq_some_iff.mp H; obtain ⟨t347, A430, H⟩ := H; replace H : (g11Why.j2 kj14 a0 ((bt a0 5) == 2) ((bt a0 4) == 2) x7_8 x8_8 t335 t336 t337 t347 t338 t339 t340 t341 t342 t343) = some r := H; have A43 := aS A430; clear A430; have H' := aS H; clear H
                   as_aux_lemma =>
                    go_wp2_with (first | (go_at_call 13; (with_reducible refine (g11Field.calls kj14 ((bt a0 5) == 2) t335 a0 t337 5 t347 _ A43.out).mono ?_); rintro e w44 ⟨rfl, hb⟩; replace BK344 := aS (blk_below (g := gb344) bkX hb); replace HB := aS (below_step hbS hb)))
                    go_meet
                    case rel => exact ⟨_, (t347), sr, H', ⟨by have := HJ8.out; have := HJ14.out; first|omega|exact Nat.le_refl _⟩, ⟨bkX⟩, ⟨hbS⟩⟩
                  ·
                   rw [if_neg c42] at H; have c42b0 : (t342 == 0) = false := beq_eq_false_iff_ne.mpr c42; have c42b1 : (t342 != 0) = true := bne_iff_ne.mpr c42; ((first | rw [c42b0] | (simp only [i64_w, i32_w]; rw [c42b0]) | skip)); have H' := aS H; clear H
                   as_aux_lemma =>
                    go_wp2
                    go_meet
                    case rel => exact ⟨_, (t342), sr, H', ⟨by have := HJ8.out; have := HJ14.out; first|omega|exact Nat.le_refl _⟩, ⟨bkX⟩, ⟨hbS⟩⟩
                 case rest =>
                  clear HC40; (try clear c3); (try clear c30); (try clear c32); (try clear c32b0); (try clear c32b1); (try clear c33); (try clear c33b0); (try clear c33b1); (try clear c34); (try clear c34b0); (try clear c34b1); (try clear c39); (try clear c42); (try clear c42b0); (try clear c42b1); obtain ⟨kq, x13_39, rfl, HA, HJ39, BK344, HB⟩ := hcut
                  cases kq with
                  | zero => exact absurd HA.out (by simp [g11Why.j2])
                  | succ kj39 =>
                   as_aux_lemma =>
                    have H := HA.out; clear HA; simp only [g11Why.j2] at H; have HC45 := aS H; clear H; go_upto_region 28 with (fail)
                    go_cut [105] (fun v105 wc => ∃ (kq : Nat) (x105_44 : Bool), v105 = .bool x105_44 ∧ Aside0 (g11Why.j3 kq a0 ((bt a0 5) == 2) ((bt a0 4) == 2) x7_8 x8_8 t335 t336 t337 x13_39 x105_44 t338 t339 t340 t341 t342 t343 = some r) ∧ Aside0 (kq ≤ kj39) ∧ Aside0 (wc.heap[gb344]? = some (.cells #[.int .u64 t338, .int .u64 t339, .int .u64 t340, .int .u64 t341, .int .u64 t342, .int .u64 t343] 47 (0, 0))) ∧ Aside0 (Below w.heap.size w wc))
                    case first =>
                     have H := HC45.out; clear HC45
                     by_cases c46 : x13_39 = 0
                     ·
                      rw [if_pos c46] at H; have c46b0 : (x13_39 == 0) = true := beq_iff_eq.mpr c46; have c46b1 : (x13_39 != 0) = false := bne_eq_false_iff_eq.mpr c46; clear c46; ((first | rw [c46b0] | (simp only [i64_w, i32_w]; rw [c46b0]) | skip)); have H' := aS H; clear H
                      as_aux_lemma =>
                       go_wp2
                       go_meet
                       case rel => exact ⟨_, (true), sr, H', ⟨by have := HJ8.out; have := HJ14.out; have := HJ39.out; first|omega|exact Nat.le_refl _⟩, ⟨bkX⟩, ⟨hbS⟩⟩
                     ·
                      rw [if_neg c46] at H; have c46b0 : (x13_39 == 0) = false := beq_eq_false_iff_ne.mpr c46; have c46b1 : (x13_39 != 0) = true := bne_iff_ne.mpr c46; ((first | rw [c46b0] | (simp only [i64_w, i32_w]; rw [c46b0]) | skip)); have H' := aS H; clear H
                      as_aux_lemma =>
                       go_wp2
                       go_meet
                       case rel => exact ⟨_, (decide (x13_39 > 4096)), sr, H', ⟨by have := HJ8.out; have := HJ14.out; have := HJ39.out; first|omega|exact Nat.le_refl _⟩, ⟨bkX⟩, ⟨hbS⟩⟩
                    case rest =>
                     clear HC45; (try clear c46); (try clear c46b0); (try clear c46b1); obtain ⟨kq, x105_44, rfl, HA, HJ44, BK344, HB⟩ := hcut
                     cases kq with
                     | zero => exact absurd HA.out (by simp [g11Why.j3])
                     | succ kj44 =>
                      as_aux_lemma =>
                       have H := HA.out; clear HA; simp only [g11Why.j3] at H
                       by_cases c47 : x105_44 = true
                       ·
                        subst c47; (have H1 : (some 10) = some r := by rw [if_pos rfl] at H; exact H); clear H; have H := H1; clear H1; obtain rfl := Option.some.inj H
                        as_aux_lemma =>
                         go_wp2
                         (go_ret); exact ⟨er, hbS⟩
                       ·
                        replace c47 := Bool.eq_false_iff.mpr c47; subst c47; (have H1 : ((g11there.f a0 t337 (IntKind.u64.wrap (x13_39 * x8_8))).bind fun t348 => (if t348 = true then ((g11Field.f kj44 ((bt a0 5) == 2) t335 a0 t337 1).bind fun t349 => (if t349 = 0 then (if t343 = 65535 then ((g11Field.f kj44 ((bt a0 5) == 2) t335 a0 t337 6).bind fun t350 => (if t350 ≥ x13_39 then (some 11) else (g11Why.j4 kj44 a0 ((bt a0 5) == 2) ((bt a0 4) == 2) x7_8 x8_8 t335 t336 t337 x13_39 t338 t339 t340 t341 t342 t343))) else (if t343 ≥ x13_39 then (some 11) else (g11Why.j4 kj44 a0 ((bt a0 5) == 2) ((bt a0 4) == 2) x7_8 x8_8 t335 t336 t337 x13_39 t338 t339 t340 t341 t342 t343))) else (some 27))) else (some 9))) = some r := by rw [if_neg (show ¬ (false = true) by decide)] at H; exact H); clear H; have H := H1; clear H1; replace H := Option.bind_eq_some_iff.mp H; obtain ⟨t348, A480, H⟩ := H; replace H : (if t348 = true then ((g11Field.f kj44 ((bt a0 5) == 2) t335 a0 t337 1).bind fun t349 => (if t349 = 0 then (if t343 = 65535 then ((g11Field.f kj44 ((bt a0 5) == 2) t335 a0 t337 6).bind fun t350 => (if t350 ≥ x13_39 then (some 11) else (g11Why.j4 kj44 a0 ((bt a0 5) == 2) ((bt a0 4) == 2) x7_8 x8_8 t335 t336 t337 x13_39 t338 t339 t340 t341 t342 t343))) else (if t343 ≥ x13_39 then (some 11) else (g11Why.j4 kj44 a0 ((bt a0 5) == 2) ((bt a0 4) == 2) x7_8 x8_8 t335 t336 t337 x13_39 t338 t339 t340 t341 t342 t343))) else (some 27))) else (some 9)) = some r := H
                        have A48 := aS A480; clear A480
                        by_cases c49 : t348 = true
                        ·
                         subst c49; (have H1 : ((g11Field.f kj44 ((bt a0 5) == 2) t335 a0 t337 1).bind fun t349 => (if t349 = 0 then (if t343 = 65535 then ((g11Field.f kj44 ((bt a0 5) == 2) t335 a0 t337 6).bind fun t350 => (if t350 ≥ x13_39 then (some 11) else (g11Why.j4 kj44 a0 ((bt a0 5) == 2) ((bt a0 4) == 2) x7_8 x8_8 t335 t336 t337 x13_39 t338 t339 t340 t341 t342 t343))) else (if t343 ≥ x13_39 then (some 11) else (g11Why.j4 kj44 a0 ((bt a0 5) == 2) ((bt a0 4) == 2) x7_8 x8_8 t335 t336 t337 x13_39 t338 t339 t340 t341 t342 t343))) else (some 27))) = some r := by rw [if_pos rfl] at H; exact H); clear H; have H := H1; clear H1; replace H := Option.bind_eq_some_iff.mp H; obtain ⟨t349, A500, H⟩ := H; (replace H : (if t349 = 0 then (if t343 = 65535 then ((g11Field.f kj44 ((bt a0 5) == 2) t335 a0 t337 6).bind fun t350 => (if t350 ≥ x13_39 then (some 11) else (g11Why.j4 kj44 a0 ((bt a0 5) == 2) ((bt a0 4) == 2) x7_8 x8_8 t335 t336 t337 x13_39 t338 t339 t340 t341 t342 t343))) else (if t343 ≥ x13_39 then (some 11) else (g11Why.j4 kj44 a0 ((bt a0 5) == 2) ((bt a0 4) == 2) x7_8 x8_8 t335 t336 t337 x13_39 t338 t339 t340 t341 t342 t343))) else (some 27)) = some r := H); have A50 := aS A500; clear A500
                         by_cases c51 : t349 = 0
                         ·
                          rw [if_pos c51] at H; have c51b0 : (t349 == 0) = true := beq_iff_eq.mpr c51; have c51b1 : (t349 != 0) = false := bne_eq_false_iff_eq.mpr c51; clear c51
                          by_cases c52 : t343 = 65535
                          ·
                           rw [if_pos c52] at H; have c52b0 : (t343 == 65535) = true := beq_iff_eq.mpr c52; have c52b1 : (t343 != 65535) = false := bne_eq_false_iff_eq.mpr c52; clear c52; replace H := Option.bind_eq_some_iff.mp H; obtain ⟨t350, A530, H⟩ := H; replace H : (if t350 ≥ x13_39 then (some 11) else (g11Why.j4 kj44 a0 ((bt a0 5) == 2) ((bt a0 4) == 2) x7_8 x8_8 t335 t336 t337 x13_39 t338 t339 t340 t341 t342 t343)) = some r := H; have A53 := aS A530; clear A530
                           by_cases c54 : t350 ≥ x13_39
                           ·
                            rw [if_pos c54] at H; have c54b0 : decide (x13_39 ≤ t350) = true := decide_eq_true c54; clear c54; obtain rfl := Option.some.inj H
                            as_aux_lemma =>
                             go_wp2_with (first | (go_at_call 34; (with_reducible refine (g11there.calls a0 t337 (IntKind.u64.wrap (x13_39 * x8_8)) true _ A48.out).mono ?_); rintro e w' ⟨rfl, ⟨nd, rfl⟩⟩; (try exact qd)) | (go_at_call 13; (with_reducible refine (g11Field.calls kj44 ((bt a0 5) == 2) t335 a0 t337 1 t349 _ A50.out).mono ?_); rintro e w55 ⟨rfl, hb⟩; replace BK344 := aS (blk_below (g := gb344) bkX hb); replace HB := aS (below_step hbS hb); obtain ⟨hcz56_0, hcz56_1, hcz56_2, hcz56_3, hcz56_4, hcz56_5, hfz56_0, hfz56_1, hfz56_2, hfz56_3, hfz56_4, hfz56_5⟩ := bc6 BK344.out) | (go_at_call 13; (with_reducible refine (g11Field.calls kj44 ((bt a0 5) == 2) t335 a0 t337 6 t350 _ A53.out).mono ?_); rintro e w57 ⟨rfl, hb⟩; replace BK344 := aS (blk_below (g := gb344) bkX hb); replace HB := aS (below_step hbS hb)))
                             (go_ret); exact ⟨er, hbS⟩
                           ·
                            rw [if_neg c54] at H; have c54b0 : decide (x13_39 ≤ t350) = false := decide_eq_false c54; clear c54; have H' := aS H; clear H
                            as_aux_lemma =>
                             go_wp2_with (first | (go_at_call 34; (with_reducible refine (g11there.calls a0 t337 (IntKind.u64.wrap (x13_39 * x8_8)) true _ A48.out).mono ?_); rintro e w' ⟨rfl, ⟨nd, rfl⟩⟩; (try exact qd)) | (go_at_call 13; (with_reducible refine (g11Field.calls kj44 ((bt a0 5) == 2) t335 a0 t337 1 t349 _ A50.out).mono ?_); rintro e w58 ⟨rfl, hb⟩; replace BK344 := aS (blk_below (g := gb344) bkX hb); replace HB := aS (below_step hbS hb); obtain ⟨hcz59_0, hcz59_1, hcz59_2, hcz59_3, hcz59_4, hcz59_5, hfz59_0, hfz59_1, hfz59_2, hfz59_3, hfz59_4, hfz59_5⟩ := bc6 BK344.out) | (go_at_call 13; (with_reducible refine (g11Field.calls kj44 ((bt a0 5) == 2) t335 a0 t337 6 t350 _ A53.out).mono ?_); rintro e w60 ⟨rfl, hb⟩; replace BK344 := aS (blk_below (g := gb344) bkX hb); replace HB := aS (below_step hbS hb)))
                             go_meet
                             case rel => exact ⟨_, (x13_39), sr, H', ⟨by have := HJ8.out; have := HJ14.out; have := HJ39.out; have := HJ44.out; first|omega|exact Nat.le_refl _⟩, ⟨bkX⟩, ⟨hbS⟩⟩
                          ·
                           rw [if_neg c52] at H; have c52b0 : (t343 == 65535) = false := beq_eq_false_iff_ne.mpr c52; have c52b1 : (t343 != 65535) = true := bne_iff_ne.mpr c52
                           by_cases c61 : t343 ≥ x13_39
                           ·
                            rw [if_pos c61] at H; have c61b0 : decide (x13_39 ≤ t343) = true := decide_eq_true c61; clear c61; obtain rfl := Option.some.inj H
                            as_aux_lemma =>
                             go_wp2_with (first | (go_at_call 34; (with_reducible refine (g11there.calls a0 t337 (IntKind.u64.wrap (x13_39 * x8_8)) true _ A48.out).mono ?_); rintro e w' ⟨rfl, ⟨nd, rfl⟩⟩; (try exact qd)) | (go_at_call 13; (with_reducible refine (g11Field.calls kj44 ((bt a0 5) == 2) t335 a0 t337 1 t349 _ A50.out).mono ?_); rintro e w62 ⟨rfl, hb⟩; replace BK344 := aS (blk_below (g := gb344) bkX hb); replace HB := aS (below_step hbS hb); obtain ⟨hcz63_0, hcz63_1, hcz63_2, hcz63_3, hcz63_4, hcz63_5, hfz63_0, hfz63_1, hfz63_2, hfz63_3, hfz63_4, hfz63_5⟩ := bc6 BK344.out))
                             (go_ret); exact ⟨er, hbS⟩
                           ·
                            rw [if_neg c61] at H; have c61b0 : decide (x13_39 ≤ t343) = false := decide_eq_false c61; clear c61; have H' := aS H; clear H
                            as_aux_lemma =>
                             go_wp2_with (first | (go_at_call 34; (with_reducible refine (g11there.calls a0 t337 (IntKind.u64.wrap (x13_39 * x8_8)) true _ A48.out).mono ?_); rintro e w' ⟨rfl, ⟨nd, rfl⟩⟩; (try exact qd)) | (go_at_call 13; (with_reducible refine (g11Field.calls kj44 ((bt a0 5) == 2) t335 a0 t337 1 t349 _ A50.out).mono ?_); rintro e w64 ⟨rfl, hb⟩; replace BK344 := aS (blk_below (g := gb344) bkX hb); replace HB := aS (below_step hbS hb); obtain ⟨hcz65_0, hcz65_1, hcz65_2, hcz65_3, hcz65_4, hcz65_5, hfz65_0, hfz65_1, hfz65_2, hfz65_3, hfz65_4, hfz65_5⟩ := bc6 BK344.out))
                             go_meet
                             case rel => exact ⟨_, (x13_39), sr, H', ⟨by have := HJ8.out; have := HJ14.out; have := HJ39.out; have := HJ44.out; first|omega|exact Nat.le_refl _⟩, ⟨bkX⟩, ⟨hbS⟩⟩
                         ·
                          rw [if_neg c51] at H; have c51b0 : (t349 == 0) = false := beq_eq_false_iff_ne.mpr c51; have c51b1 : (t349 != 0) = true := bne_iff_ne.mpr c51; obtain rfl := Option.some.inj H
                          as_aux_lemma =>
                           go_wp2_with (first | (go_at_call 34; (with_reducible refine (g11there.calls a0 t337 (IntKind.u64.wrap (x13_39 * x8_8)) true _ A48.out).mono ?_); rintro e w' ⟨rfl, ⟨nd, rfl⟩⟩; (try exact qd)) | (go_at_call 13; (with_reducible refine (g11Field.calls kj44 ((bt a0 5) == 2) t335 a0 t337 1 t349 _ A50.out).mono ?_); rintro e w66 ⟨rfl, hb⟩; replace BK344 := aS (blk_below (g := gb344) bkX hb); replace HB := aS (below_step hbS hb)))
                           (go_ret); exact ⟨er, hbS⟩
                        ·
                         replace c49 := Bool.eq_false_iff.mpr c49; subst c49; (have H1 : (some 9) = some r := by rw [if_neg (show ¬ (false = true) by decide)] at H; exact H); clear H; have H := H1; clear H1; obtain rfl := Option.some.inj H
                         as_aux_lemma =>
                          go_wp2_with (first | (go_at_call 34; (with_reducible refine (g11there.calls a0 t337 (IntKind.u64.wrap (x13_39 * x8_8)) false _ A48.out).mono ?_); rintro e w' ⟨rfl, ⟨nd, rfl⟩⟩; (try exact qd)))
                          (go_ret); exact ⟨er, hbS⟩
                ·
                 replace c39 := Bool.eq_false_iff.mpr c39; subst c39; (have H1 : (some 9) = some r := by rw [if_neg (show ¬ (false = true) by decide)] at H; exact H); clear H; have H := H1; clear H1; obtain rfl := Option.some.inj H
                 as_aux_lemma =>
                  go_wp2_with (first | (go_at_call 34; (with_reducible refine (g11there.calls a0 t337 x8_8 false _ A38.out).mono ?_); rintro e w' ⟨rfl, ⟨nd, rfl⟩⟩; (try exact qd)))
                  (go_ret); exact ⟨er, hbS⟩
              case rest =>
               clear HC31; (try clear c3); (try clear c6); (try clear c30); (try clear c32); (try clear c32b0); (try clear c32b1); (try clear c33); (try clear c33b0); (try clear c33b1); (try clear c34); (try clear c34b0); (try clear c34b1); (try clear c39); (try clear c42); (try clear c42b0); (try clear c42b1); (try clear c46); (try clear c46b0); (try clear c46b1); (try clear c47); (try clear c49); (try clear c51); (try clear c51b0); (try clear c51b1); (try clear c52); (try clear c52b0); (try clear c52b1); (try clear c54); (try clear c54b0); (try clear c61); (try clear c61b0); try clear hfz37_2
               obtain ⟨kq, x13_30, rfl, HA, HJ30, BK344, HB⟩ := hcut
               cases kq with
               | zero => exact absurd HA.out (by simp [g11Why.j4])
               | succ kj30 =>
                as_aux_lemma =>
                 have H := HA.out; clear HA; simp only [g11Why.j4] at H; have HC67 := aS H; clear H; obtain ⟨_, _, _, _, _, _, _, _, _, _, _, _⟩ := bc6 BK344.out; go_upto_region 40 with (fail)
                 go_cut [138] (fun v138 wc => ∃ (kq : Nat) (x138_66 : Bool), v138 = .bool x138_66 ∧ Aside0 (g11Why.j5 kq a0 ((bt a0 5) == 2) ((bt a0 4) == 2) x7_8 x8_8 t335 t336 t337 x13_30 t340 x138_66 = some r) ∧ Aside0 (kq ≤ kj30) ∧ Aside0 (wc.heap[gb344]? = some (.cells #[.int .u64 t338, .int .u64 t339, .int .u64 t340, .int .u64 t341, .int .u64 t342, .int .u64 t343] 47 (0, 0))) ∧ Aside0 (Below w.heap.size w wc))
                 case first =>
                  have H := HC67.out; clear HC67
                  by_cases c69 : t340 = 65535
                  ·
                   rw [if_pos c69] at H; have c69b0 : (t340 == 65535) = true := beq_iff_eq.mpr c69; have c69b1 : (t340 != 65535) = false := bne_eq_false_iff_eq.mpr c69; clear c69; ((first | rw [c69b0] | (simp only [i64_w, i32_w]; rw [c69b0]) | skip)); have H' := aS H; clear H
                   as_aux_lemma =>
                    go_wp2
                    go_meet
                    case rel => exact ⟨_, (decide (x13_30 > 0)), sr, H', ⟨by have := HJ8.out; have := HJ14.out; have := HJ30.out; first|omega|exact Nat.le_refl _⟩, ⟨bkX⟩, ⟨hbS⟩⟩
                  ·
                   rw [if_neg c69] at H; have c69b0 : (t340 == 65535) = false := beq_eq_false_iff_ne.mpr c69; have c69b1 : (t340 != 65535) = true := bne_iff_ne.mpr c69; ((first | rw [c69b0] | (simp only [i64_w, i32_w]; rw [c69b0]) | skip)); have H' := aS H; clear H
                   as_aux_lemma =>
                    go_wp2
                    go_meet
                    case rel => exact ⟨_, (false), sr, H', ⟨by have := HJ8.out; have := HJ14.out; have := HJ30.out; first|omega|exact Nat.le_refl _⟩, ⟨bkX⟩, ⟨hbS⟩⟩
                 case rest =>
                  clear HC67; (try clear c69); (try clear c69b0); (try clear c69b1); obtain ⟨kq, x138_66, rfl, HA, HJ66, BK344, HB⟩ := hcut
                  cases kq with
                  | zero => exact absurd HA.out (by simp [g11Why.j5])
                  | succ kj66 =>
                   as_aux_lemma =>
                    have H := HA.out; clear HA; simp only [g11Why.j5] at H; have HC70 := aS H; clear H; go_upto_if 138 with (fail)
                    go_cut [15] (fun v15 wc => ∃ (kq : Nat) (x15_69 : Int), v15 = .int .u64 x15_69 ∧ Aside0 (g11Why.j6 kq a0 ((bt a0 5) == 2) ((bt a0 4) == 2) x7_8 x8_8 t335 t336 t337 x13_30 x15_69 = some r) ∧ Aside0 (kq ≤ kj66) ∧ Aside0 (wc.heap[gb344]? = some (.cells #[.int .u64 t338, .int .u64 t339, .int .u64 t340, .int .u64 t341, .int .u64 t342, .int .u64 t343] 47 (0, 0))) ∧ Aside0 (Below w.heap.size w wc))
                    case first =>
                     have H := HC70.out; clear HC70
                     by_cases c71 : x138_66 = true
                     ·
                      subst c71; (have H1 : ((g11Field.f kj66 ((bt a0 5) == 2) t335 a0 t337 7).bind fun t351 => (g11Why.j6 kj66 a0 ((bt a0 5) == 2) ((bt a0 4) == 2) x7_8 x8_8 t335 t336 t337 x13_30 t351)) = some r := by rw [if_pos rfl] at H; exact H); clear H; have H := H1; clear H1; replace H := Option.bind_eq_some_iff.mp H; obtain ⟨t351, A720, H⟩ := H; replace H : (g11Why.j6 kj66 a0 ((bt a0 5) == 2) ((bt a0 4) == 2) x7_8 x8_8 t335 t336 t337 x13_30 t351) = some r := H; have A72 := aS A720; clear A720; have H' := aS H; clear H
                      as_aux_lemma =>
                       go_wp2_with (first | (go_at_call 13; (with_reducible refine (g11Field.calls kj66 ((bt a0 5) == 2) t335 a0 t337 7 t351 _ A72.out).mono ?_); rintro e w73 ⟨rfl, hb⟩; replace BK344 := aS (blk_below (g := gb344) bkX hb); replace HB := aS (below_step hbS hb)))
                       go_meet
                       case rel => exact ⟨_, (t351), sr, H', ⟨by have := HJ8.out; have := HJ14.out; have := HJ30.out; have := HJ66.out; first|omega|exact Nat.le_refl _⟩, ⟨bkX⟩, ⟨hbS⟩⟩
                     ·
                      replace c71 := Bool.eq_false_iff.mpr c71; subst c71; (have H1 : (g11Why.j6 kj66 a0 ((bt a0 5) == 2) ((bt a0 4) == 2) x7_8 x8_8 t335 t336 t337 x13_30 t340) = some r := by rw [if_neg (show ¬ (false = true) by decide)] at H; exact H); clear H; have H := H1; clear H1; have H' := aS H; clear H
                      as_aux_lemma =>
                       go_wp2
                       go_meet
                       case rel => exact ⟨_, (t340), sr, H', ⟨by have := HJ8.out; have := HJ14.out; have := HJ30.out; have := HJ66.out; first|omega|exact Nat.le_refl _⟩, ⟨bkX⟩, ⟨hbS⟩⟩
                    case rest =>
                     clear HC70; (try clear c71); obtain ⟨kq, x15_69, rfl, HA, HJ69, BK344, HB⟩ := hcut
                     cases kq with
                     | zero => exact absurd HA.out (by simp [g11Why.j6])
                     | succ kj69 =>
                      as_aux_lemma =>
                       have H := HA.out; clear HA; simp only [g11Why.j6] at H; have HC74 := aS H; clear H; go_upto_region 42 with (fail)
                       go_cut [153] (fun v153 wc => ∃ (kq : Nat) (x153_73 : Bool), v153 = .bool x153_73 ∧ Aside0 (g11Why.j7 kq a0 ((bt a0 5) == 2) ((bt a0 4) == 2) x7_8 x8_8 t335 t336 t337 x13_30 x15_69 x153_73 = some r) ∧ Aside0 (kq ≤ kj69) ∧ Aside0 (wc.heap[gb344]? = some (.cells #[.int .u64 t338, .int .u64 t339, .int .u64 t340, .int .u64 t341, .int .u64 t342, .int .u64 t343] 47 (0, 0))) ∧ Aside0 (Below w.heap.size w wc))
                       case first =>
                        have H := HC74.out; clear HC74
                        by_cases c75 : x15_69 > 256
                        ·
                         rw [if_pos c75] at H; have c75b0 : decide (256 < x15_69) = true := decide_eq_true c75; clear c75; ((first | rw [c75b0] | (simp only [i64_w, i32_w]; rw [c75b0]) | skip)); have H' := aS H; clear H
                         as_aux_lemma =>
                          go_wp2
                          go_meet
                          case rel => exact ⟨_, (true), sr, H', ⟨by have := HJ8.out; have := HJ14.out; have := HJ30.out; have := HJ66.out; have := HJ69.out; first|omega|exact Nat.le_refl _⟩, ⟨bkX⟩, ⟨hbS⟩⟩
                        ·
                         rw [if_neg c75] at H; have c75b0 : decide (256 < x15_69) = false := decide_eq_false c75; clear c75; (first | rw [c75b0] | (simp only [i64_w, i32_w]; rw [c75b0]) | skip)
                         by_cases c76 : x15_69 > 0
                         ·
                          rw [if_pos c76] at H; have c76b0 : decide (0 < x15_69) = true := decide_eq_true c76; clear c76; have H' := aS H; clear H
                          as_aux_lemma =>
                           go_wp2
                           go_meet
                           case rel => exact ⟨_, ((t336 == 0)), sr, H', ⟨by have := HJ8.out; have := HJ14.out; have := HJ30.out; have := HJ66.out; have := HJ69.out; first|omega|exact Nat.le_refl _⟩, ⟨bkX⟩, ⟨hbS⟩⟩
                         ·
                          rw [if_neg c76] at H; have c76b0 : decide (0 < x15_69) = false := decide_eq_false c76; clear c76; have H' := aS H; clear H
                          as_aux_lemma =>
                           go_wp2
                           go_meet
                           case rel => exact ⟨_, (false), sr, H', ⟨by have := HJ8.out; have := HJ14.out; have := HJ30.out; have := HJ66.out; have := HJ69.out; first|omega|exact Nat.le_refl _⟩, ⟨bkX⟩, ⟨hbS⟩⟩
                       case rest =>
                        clear HC74; (try clear c75); (try clear c75b0); (try clear c76); (try clear c76b0); obtain ⟨kq, x153_73, rfl, HA, HJ73, BK344, HB⟩ := hcut
                        cases kq with
                        | zero => exact absurd HA.out (by simp [g11Why.j7])
                        | succ kj73 =>
                         as_aux_lemma =>
                          have H := HA.out; clear HA; simp only [g11Why.j7] at H
                          by_cases c77 : x153_73 = true
                          ·
                           subst c77; (have H1 : (some 10) = some r := by rw [if_pos rfl] at H; exact H); clear H; have H := H1; clear H1; obtain rfl := Option.some.inj H
                           as_aux_lemma =>
                            go_wp2
                            (go_ret); exact ⟨er, hbS⟩
                          ·
                           replace c77 := Bool.eq_false_iff.mpr c77; subst c77; (have H1 : (if x15_69 > 0 then ((g11there.f a0 t336 (IntKind.u64.wrap (x15_69 * x7_8))).bind fun t352 => (g11Why.j8 kj73 a0 ((bt a0 5) == 2) ((bt a0 4) == 2) x7_8 x8_8 t335 t336 t337 x13_30 x15_69 (!t352))) else (g11Why.j8 kj73 a0 ((bt a0 5) == 2) ((bt a0 4) == 2) x7_8 x8_8 t335 t336 t337 x13_30 x15_69 false)) = some r := by rw [if_neg (show ¬ (false = true) by decide)] at H; exact H); clear H; have H := H1; clear H1; have HC78 := aS H; clear H; go_upto_region 44 with (fail)
                           go_cut [164] (fun v164 wc => ∃ (kq : Nat) (x164_77 : Bool), v164 = .bool x164_77 ∧ Aside0 (g11Why.j8 kq a0 ((bt a0 5) == 2) ((bt a0 4) == 2) x7_8 x8_8 t335 t336 t337 x13_30 x15_69 x164_77 = some r) ∧ Aside0 (kq ≤ kj73) ∧ Aside0 (wc.heap[gb344]? = some (.cells #[.int .u64 t338, .int .u64 t339, .int .u64 t340, .int .u64 t341, .int .u64 t342, .int .u64 t343] 47 (0, 0))) ∧ Aside0 (Below w.heap.size w wc))
                           case first =>
                            have H := HC78.out; clear HC78
                            by_cases c79 : x15_69 > 0
                            ·
                             rw [if_pos c79] at H; have c79b0 : decide (0 < x15_69) = true := decide_eq_true c79; clear c79; ((first | rw [c79b0] | (simp only [i64_w, i32_w]; rw [c79b0]) | skip)); replace H := Option.bind_eq_some_iff.mp H; obtain ⟨t352, A800, H⟩ := H; replace H : (g11Why.j8 kj73 a0 ((bt a0 5) == 2) ((bt a0 4) == 2) x7_8 x8_8 t335 t336 t337 x13_30 x15_69 (!t352)) = some r := H; have A80 := aS A800; clear A800; have H' := aS H; clear H
                             as_aux_lemma =>
                              go_wp2_with (first | (go_at_call 34; (with_reducible refine (g11there.calls a0 t336 (IntKind.u64.wrap (x15_69 * x7_8)) t352 _ A80.out).mono ?_); rintro e w' ⟨rfl, ⟨nd, rfl⟩⟩; (try exact qd)))
                              go_meet
                              case rel => exact ⟨_, (!t352), sr, H', ⟨by have := HJ8.out; have := HJ14.out; have := HJ30.out; have := HJ66.out; have := HJ69.out; have := HJ73.out; first|omega|exact Nat.le_refl _⟩, ⟨bkX⟩, ⟨hbS⟩⟩
                            ·
                             rw [if_neg c79] at H; have c79b0 : decide (0 < x15_69) = false := decide_eq_false c79; clear c79; ((first | rw [c79b0] | (simp only [i64_w, i32_w]; rw [c79b0]) | skip)); have H' := aS H; clear H
                             as_aux_lemma =>
                              go_wp2
                              go_meet
                              case rel => exact ⟨_, (false), sr, H', ⟨by have := HJ8.out; have := HJ14.out; have := HJ30.out; have := HJ66.out; have := HJ69.out; have := HJ73.out; first|omega|exact Nat.le_refl _⟩, ⟨bkX⟩, ⟨hbS⟩⟩
                           case rest =>
                            clear HC78; (try clear c77); (try clear c79); (try clear c79b0); obtain ⟨kq, x164_77, rfl, HA, HJ77, BK344, HB⟩ := hcut
                            cases kq with
                            | zero => exact absurd HA.out (by simp [g11Why.j8])
                            | succ kj77 =>
                             as_aux_lemma =>
                              have H := HA.out; clear HA; simp only [g11Why.j8] at H
                              by_cases c81 : x164_77 = true
                              ·
                               subst c81; (have H1 : (some 9) = some r := by rw [if_pos rfl] at H; exact H); clear H; have H := H1; clear H1; obtain rfl := Option.some.inj H
                               as_aux_lemma =>
                                go_wp2
                                (go_ret); exact ⟨er, hbS⟩
                              ·
                               replace c81 := Bool.eq_false_iff.mpr c81; subst c81; (have H1 : (g11Why.l0 kj77 a0 ((bt a0 5) == 2) ((bt a0 4) == 2) x7_8 x8_8 t335 t336 t337 x13_30 x15_69 0) = some r := by rw [if_neg (show ¬ (false = true) by decide)] at H; exact H); clear H; have H := H1; clear H1; have H' := aS H; clear H; go_wp2
                               go_loopg [16] kj77 (fun kq v16 w' => ∃ (x16_8 : Int), v16 = .int .u64 x16_8 ∧ Aside0 (g11Why.l0 kq a0 ((bt a0 5) == 2) ((bt a0 4) == 2) x7_8 x8_8 t335 t336 t337 x13_30 x15_69 x16_8 = some r) ∧ Aside0 (kq ≤ kj77) ∧ Aside0 (w'.heap[gb344]? = some (.cells #[.int .u64 t338, .int .u64 t339, .int .u64 t340, .int .u64 t341, .int .u64 t342, .int .u64 t343] 47 (0, 0))) ∧ Aside0 (Below w.heap.size w w'))
                               case atStart => exact ⟨(0), sr, H', ⟨Nat.le_refl _⟩, ⟨bkX⟩, ⟨hbS⟩⟩
                               case round =>
                                clear H'; (try clear c8); (try clear c81); obtain ⟨x16_8, rfl, HA, HK8, BK344, HB⟩ := hrel
                                cases gk with
                                | zero => exact absurd HA.out (by simp [g11Why.l0])
                                | succ k8 =>
                                 as_aux_lemma =>
                                  have H := HA.out; clear HA; simp only [g11Why.l0] at H
                                  by_cases c82 : x16_8 < x13_30
                                  ·
                                   rw [if_pos c82] at H; have c82b0 : decide (x16_8 < x13_30) = true := decide_eq_true c82; clear c82; replace H := Option.bind_eq_some_iff.mp H; obtain ⟨t353, A830, H⟩ := H; (replace H : ((g11power.f k8 t353).bind fun t354 => (if t354 = true then ((g11Field.f k8 ((bt a0 5) == 2) t335 a0 (IntKind.u64.wrap (t337 + (IntKind.u64.wrap (x16_8 * x8_8)))) 1).bind fun t355 => (if t355 = 0 then (g11Why.l0 k8 a0 ((bt a0 5) == 2) ((bt a0 4) == 2) x7_8 x8_8 t335 t336 t337 x13_30 x15_69 (IntKind.u64.wrap (x16_8 + 1))) else (if t355 = 8 then (g11Why.l0 k8 a0 ((bt a0 5) == 2) ((bt a0 4) == 2) x7_8 x8_8 t335 t336 t337 x13_30 x15_69 (IntKind.u64.wrap (x16_8 + 1))) else ((g11Field.f k8 ((bt a0 5) == 2) t335 a0 (IntKind.u64.wrap (t337 + (IntKind.u64.wrap (x16_8 * x8_8)))) 4).bind fun t356 => ((g11Field.f k8 ((bt a0 5) == 2) t335 a0 (IntKind.u64.wrap (t337 + (IntKind.u64.wrap (x16_8 * x8_8)))) 5).bind fun t357 => ((g11there.f a0 t356 t357).bind fun t358 => (if t358 = true then (g11Why.l0 k8 a0 ((bt a0 5) == 2) ((bt a0 4) == 2) x7_8 x8_8 t335 t336 t337 x13_30 x15_69 (IntKind.u64.wrap (x16_8 + 1))) else (some 9)))))))) else (some 13))) = some r := H); have A83 := aS A830; clear A830; replace H := Option.bind_eq_some_iff.mp H; obtain ⟨t354, A840, H⟩ := H; replace H : (if t354 = true then ((g11Field.f k8 ((bt a0 5) == 2) t335 a0 (IntKind.u64.wrap (t337 + (IntKind.u64.wrap (x16_8 * x8_8)))) 1).bind fun t355 => (if t355 = 0 then (g11Why.l0 k8 a0 ((bt a0 5) == 2) ((bt a0 4) == 2) x7_8 x8_8 t335 t336 t337 x13_30 x15_69 (IntKind.u64.wrap (x16_8 + 1))) else (if t355 = 8 then (g11Why.l0 k8 a0 ((bt a0 5) == 2) ((bt a0 4) == 2) x7_8 x8_8 t335 t336 t337 x13_30 x15_69 (IntKind.u64.wrap (x16_8 + 1))) else ((g11Field.f k8 ((bt a0 5) == 2) t335 a0 (IntKind.u64.wrap (t337 + (IntKind.u64.wrap (x16_8 * x8_8)))) 4).bind fun t356 => ((g11Field.f k8 ((bt a0 5) == 2) t335 a0 (IntKind.u64.wrap (t337 + (IntKind.u64.wrap (x16_8 * x8_8)))) 5).bind fun t357 => ((g11there.f a0 t356 t357).bind fun t358 => (if t358 = true then (g11Why.l0 k8 a0 ((bt a0 5) == 2) ((bt a0 4) == 2) x7_8 x8_8 t335 t336 t337 x13_30 x15_69 (IntKind.u64.wrap (x16_8 + 1))) else (some 9)))))))) else (some 13)) = some r := H
                                   have A84 := aS A840; clear A840
                                   by_cases c85 : t354 = true
                                   ·
                                    subst c85; (have H1 : ((g11Field.f k8 ((bt a0 5) == 2) t335 a0 (IntKind.u64.wrap (t337 + (IntKind.u64.wrap (x16_8 * x8_8)))) 1).bind fun t355 => (if t355 = 0 then (g11Why.l0 k8 a0 ((bt a0 5) == 2) ((bt a0 4) == 2) x7_8 x8_8 t335 t336 t337 x13_30 x15_69 (IntKind.u64.wrap (x16_8 + 1))) else (if t355 = 8 then (g11Why.l0 k8 a0 ((bt a0 5) == 2) ((bt a0 4) == 2) x7_8 x8_8 t335 t336 t337 x13_30 x15_69 (IntKind.u64.wrap (x16_8 + 1))) else ((g11Field.f k8 ((bt a0 5) == 2) t335 a0 (IntKind.u64.wrap (t337 + (IntKind.u64.wrap (x16_8 * x8_8)))) 4).bind fun t356 => ((g11Field.f k8 ((bt a0 5) == 2) t335 a0 (IntKind.u64.wrap (t337 + (IntKind.u64.wrap (x16_8 * x8_8)))) 5).bind fun t357 => ((g11there.f a0 t356 t357).bind fun t358 => (if t358 = true then (g11Why.l0 k8 a0 ((bt a0 5) == 2) ((bt a0 4) == 2) x7_8 x8_8 t335 t336 t337 x13_30 x15_69 (IntKind.u64.wrap (x16_8 + 1))) else (some 9)))))))) = some r := by rw [if_pos rfl] at H; exact H); clear H; have H := H1; clear H1; replace H := Option.bind_eq_some_iff.mp H; obtain ⟨t355, A860, H⟩ := H; replace H : (if t355 = 0 then (g11Why.l0 k8 a0 ((bt a0 5) == 2) ((bt a0 4) == 2) x7_8 x8_8 t335 t336 t337 x13_30 x15_69 (IntKind.u64.wrap (x16_8 + 1))) else (if t355 = 8 then (g11Why.l0 k8 a0 ((bt a0 5) == 2) ((bt a0 4) == 2) x7_8 x8_8 t335 t336 t337 x13_30 x15_69 (IntKind.u64.wrap (x16_8 + 1))) else ((g11Field.f k8 ((bt a0 5) == 2) t335 a0 (IntKind.u64.wrap (t337 + (IntKind.u64.wrap (x16_8 * x8_8)))) 4).bind fun t356 => ((g11Field.f k8 ((bt a0 5) == 2) t335 a0 (IntKind.u64.wrap (t337 + (IntKind.u64.wrap (x16_8 * x8_8)))) 5).bind fun t357 => ((g11there.f a0 t356 t357).bind fun t358 => (if t358 = true then (g11Why.l0 k8 a0 ((bt a0 5) == 2) ((bt a0 4) == 2) x7_8 x8_8 t335 t336 t337 x13_30 x15_69 (IntKind.u64.wrap (x16_8 + 1))) else (some 9))))))) = some r := H
                                    have A86 := aS A860; clear A860
                                    by_cases c87 : t355 = 0
                                    ·
                                     rw [if_pos c87] at H; have c87b0 : (t355 == 0) = true := beq_iff_eq.mpr c87; have c87b1 : (t355 != 0) = false := bne_eq_false_iff_eq.mpr c87; clear c87; have H' := aS H; clear H
                                     as_aux_lemma =>
                                      go_wp2_with (first | (go_at_call 13; (with_reducible refine (g11Field.calls k8 ((bt a0 5) == 2) t335 a0 (IntKind.u64.wrap (t337 + (IntKind.u64.wrap (x16_8 * x8_8)))) 8 t353 _ A83.out).mono ?_); rintro e w88 ⟨rfl, hb⟩; replace BK344 := aS (blk_below (g := gb344) bkX hb); replace HB := aS (below_step hbS hb)) | (go_at_call 35; (with_reducible refine (g11power.calls k8 t353 true _ A84.out).mono ?_); rintro e w' ⟨rfl, ⟨nd, rfl⟩⟩; (try exact qd)) | (go_at_call 13; (with_reducible refine (g11Field.calls k8 ((bt a0 5) == 2) t335 a0 (IntKind.u64.wrap (t337 + (IntKind.u64.wrap (x16_8 * x8_8)))) 1 t355 _ A86.out).mono ?_); rintro e w89 ⟨rfl, hb⟩; replace BK344 := aS (blk_below (g := gb344) bkX hb); replace HB := aS (below_step hbS hb)))
                                      go_roundg k8
                                      case measure => have := HJ8.out; have := HJ14.out; have := HJ30.out; have := HJ66.out; have := HJ69.out; have := HJ73.out; have := HJ77.out; have := HK8.out; omega
                                      case rel => exact ⟨(IntKind.u64.wrap (x16_8 + 1)), sr, H', ⟨by have := HJ8.out; have := HJ14.out; have := HJ30.out; have := HJ66.out; have := HJ69.out; have := HJ73.out; have := HJ77.out; have := HK8.out; omega⟩, ⟨bkX⟩, ⟨hbS⟩⟩
                                    ·
                                     rw [if_neg c87] at H; have c87b0 : (t355 == 0) = false := beq_eq_false_iff_ne.mpr c87; have c87b1 : (t355 != 0) = true := bne_iff_ne.mpr c87
                                     by_cases c90 : t355 = 8
                                     ·
                                      rw [if_pos c90] at H; have c90b0 : (t355 == 8) = true := beq_iff_eq.mpr c90; have c90b1 : (t355 != 8) = false := bne_eq_false_iff_eq.mpr c90; clear c90; have H' := aS H; clear H
                                      as_aux_lemma =>
                                       go_wp2_with (first | (go_at_call 13; (with_reducible refine (g11Field.calls k8 ((bt a0 5) == 2) t335 a0 (IntKind.u64.wrap (t337 + (IntKind.u64.wrap (x16_8 * x8_8)))) 8 t353 _ A83.out).mono ?_); rintro e w91 ⟨rfl, hb⟩; replace BK344 := aS (blk_below (g := gb344) bkX hb); replace HB := aS (below_step hbS hb)) | (go_at_call 35; (with_reducible refine (g11power.calls k8 t353 true _ A84.out).mono ?_); rintro e w' ⟨rfl, ⟨nd, rfl⟩⟩; (try exact qd)) | (go_at_call 13; (with_reducible refine (g11Field.calls k8 ((bt a0 5) == 2) t335 a0 (IntKind.u64.wrap (t337 + (IntKind.u64.wrap (x16_8 * x8_8)))) 1 t355 _ A86.out).mono ?_); rintro e w92 ⟨rfl, hb⟩; replace BK344 := aS (blk_below (g := gb344) bkX hb); replace HB := aS (below_step hbS hb)))
                                       go_roundg k8
                                       case measure => have := HJ8.out; have := HJ14.out; have := HJ30.out; have := HJ66.out; have := HJ69.out; have := HJ73.out; have := HJ77.out; have := HK8.out; omega
                                       case rel => exact ⟨(IntKind.u64.wrap (x16_8 + 1)), sr, H', ⟨by have := HJ8.out; have := HJ14.out; have := HJ30.out; have := HJ66.out; have := HJ69.out; have := HJ73.out; have := HJ77.out; have := HK8.out; omega⟩, ⟨bkX⟩, ⟨hbS⟩⟩
                                     ·
                                      rw [if_neg c90] at H; have c90b0 : (t355 == 8) = false := beq_eq_false_iff_ne.mpr c90; have c90b1 : (t355 != 8) = true := bne_iff_ne.mpr c90; replace H := Option.bind_eq_some_iff.mp H; obtain ⟨t356, A930, H⟩ := H; (replace H : ((g11Field.f k8 ((bt a0 5) == 2) t335 a0 (IntKind.u64.wrap (t337 + (IntKind.u64.wrap (x16_8 * x8_8)))) 5).bind fun t357 => ((g11there.f a0 t356 t357).bind fun t358 => (if t358 = true then (g11Why.l0 k8 a0 ((bt a0 5) == 2) ((bt a0 4) == 2) x7_8 x8_8 t335 t336 t337 x13_30 x15_69 (IntKind.u64.wrap (x16_8 + 1))) else (some 9)))) = some r := H); have A93 := aS A930; clear A930; replace H := Option.bind_eq_some_iff.mp H; obtain ⟨t357, A940, H⟩ := H; (replace H : ((g11there.f a0 t356 t357).bind fun t358 => (if t358 = true then (g11Why.l0 k8 a0 ((bt a0 5) == 2) ((bt a0 4) == 2) x7_8 x8_8 t335 t336 t337 x13_30 x15_69 (IntKind.u64.wrap (x16_8 + 1))) else (some 9))) = some r := H); have A94 := aS A940; clear A940; replace H := Option.bind_eq_some_iff.mp H; obtain ⟨t358, A950, H⟩ := H; replace H : (if t358 = true then (g11Why.l0 k8 a0 ((bt a0 5) == 2) ((bt a0 4) == 2) x7_8 x8_8 t335 t336 t337 x13_30 x15_69 (IntKind.u64.wrap (x16_8 + 1))) else (some 9)) = some r := H; have A95 := aS A950; clear A950
                                      by_cases c96 : t358 = true
                                      ·
                                       subst c96; (have H1 : (g11Why.l0 k8 a0 ((bt a0 5) == 2) ((bt a0 4) == 2) x7_8 x8_8 t335 t336 t337 x13_30 x15_69 (IntKind.u64.wrap (x16_8 + 1))) = some r := by rw [if_pos rfl] at H; exact H); clear H; have H := H1; clear H1; have H' := aS H; clear H
                                       as_aux_lemma =>
                                        go_wp2_with (first | (go_at_call 13; (with_reducible refine (g11Field.calls k8 ((bt a0 5) == 2) t335 a0 (IntKind.u64.wrap (t337 + (IntKind.u64.wrap (x16_8 * x8_8)))) 8 t353 _ A83.out).mono ?_); rintro e w97 ⟨rfl, hb⟩; replace BK344 := aS (blk_below (g := gb344) bkX hb); replace HB := aS (below_step hbS hb)) | (go_at_call 35; (with_reducible refine (g11power.calls k8 t353 true _ A84.out).mono ?_); rintro e w' ⟨rfl, ⟨nd, rfl⟩⟩; (try exact qd)) | (go_at_call 13; (with_reducible refine (g11Field.calls k8 ((bt a0 5) == 2) t335 a0 (IntKind.u64.wrap (t337 + (IntKind.u64.wrap (x16_8 * x8_8)))) 1 t355 _ A86.out).mono ?_); rintro e w98 ⟨rfl, hb⟩; replace BK344 := aS (blk_below (g := gb344) bkX hb); replace HB := aS (below_step hbS hb)) | (go_at_call 13; (with_reducible refine (g11Field.calls k8 ((bt a0 5) == 2) t335 a0 (IntKind.u64.wrap (t337 + (IntKind.u64.wrap (x16_8 * x8_8)))) 4 t356 _ A93.out).mono ?_); rintro e w99 ⟨rfl, hb⟩; replace BK344 := aS (blk_below (g := gb344) bkX hb); replace HB := aS (below_step hbS hb)) | (go_at_call 13; (with_reducible refine (g11Field.calls k8 ((bt a0 5) == 2) t335 a0 (IntKind.u64.wrap (t337 + (IntKind.u64.wrap (x16_8 * x8_8)))) 5 t357 _ A94.out).mono ?_); rintro e w100 ⟨rfl, hb⟩; replace BK344 := aS (blk_below (g := gb344) bkX hb); replace HB := aS (below_step hbS hb)) | (go_at_call 34; (with_reducible refine (g11there.calls a0 t356 t357 true _ A95.out).mono ?_); rintro e w' ⟨rfl, ⟨nd, rfl⟩⟩; (try exact qd)))
                                        go_roundg k8
                                        case measure => have := HJ8.out; have := HJ14.out; have := HJ30.out; have := HJ66.out; have := HJ69.out; have := HJ73.out; have := HJ77.out; have := HK8.out; omega
                                        case rel => exact ⟨(IntKind.u64.wrap (x16_8 + 1)), sr, H', ⟨by have := HJ8.out; have := HJ14.out; have := HJ30.out; have := HJ66.out; have := HJ69.out; have := HJ73.out; have := HJ77.out; have := HK8.out; omega⟩, ⟨bkX⟩, ⟨hbS⟩⟩
                                      ·
                                       replace c96 := Bool.eq_false_iff.mpr c96; subst c96; (have H1 : (some 9) = some r := by rw [if_neg (show ¬ (false = true) by decide)] at H; exact H); clear H; have H := H1; clear H1; obtain rfl := Option.some.inj H
                                       as_aux_lemma =>
                                        go_wp2_with (first | (go_at_call 13; (with_reducible refine (g11Field.calls k8 ((bt a0 5) == 2) t335 a0 (IntKind.u64.wrap (t337 + (IntKind.u64.wrap (x16_8 * x8_8)))) 8 t353 _ A83.out).mono ?_); rintro e w101 ⟨rfl, hb⟩; replace BK344 := aS (blk_below (g := gb344) bkX hb); replace HB := aS (below_step hbS hb)) | (go_at_call 35; (with_reducible refine (g11power.calls k8 t353 true _ A84.out).mono ?_); rintro e w' ⟨rfl, ⟨nd, rfl⟩⟩; (try exact qd)) | (go_at_call 13; (with_reducible refine (g11Field.calls k8 ((bt a0 5) == 2) t335 a0 (IntKind.u64.wrap (t337 + (IntKind.u64.wrap (x16_8 * x8_8)))) 1 t355 _ A86.out).mono ?_); rintro e w102 ⟨rfl, hb⟩; replace BK344 := aS (blk_below (g := gb344) bkX hb); replace HB := aS (below_step hbS hb)) | (go_at_call 13; (with_reducible refine (g11Field.calls k8 ((bt a0 5) == 2) t335 a0 (IntKind.u64.wrap (t337 + (IntKind.u64.wrap (x16_8 * x8_8)))) 4 t356 _ A93.out).mono ?_); rintro e w103 ⟨rfl, hb⟩; replace BK344 := aS (blk_below (g := gb344) bkX hb); replace HB := aS (below_step hbS hb)) | (go_at_call 13; (with_reducible refine (g11Field.calls k8 ((bt a0 5) == 2) t335 a0 (IntKind.u64.wrap (t337 + (IntKind.u64.wrap (x16_8 * x8_8)))) 5 t357 _ A94.out).mono ?_); rintro e w104 ⟨rfl, hb⟩; replace BK344 := aS (blk_below (g := gb344) bkX hb); replace HB := aS (below_step hbS hb)) | (go_at_call 34; (with_reducible refine (g11there.calls a0 t356 t357 false _ A95.out).mono ?_); rintro e w' ⟨rfl, ⟨nd, rfl⟩⟩; (try exact qd)))
                                        (go_ret); exact ⟨er, hbS⟩
                                   ·
                                    replace c85 := Bool.eq_false_iff.mpr c85; subst c85; (have H1 : (some 13) = some r := by rw [if_neg (show ¬ (false = true) by decide)] at H; exact H); clear H; have H := H1; clear H1; obtain rfl := Option.some.inj H
                                    as_aux_lemma =>
                                     go_wp2_with (first | (go_at_call 13; (with_reducible refine (g11Field.calls k8 ((bt a0 5) == 2) t335 a0 (IntKind.u64.wrap (t337 + (IntKind.u64.wrap (x16_8 * x8_8)))) 8 t353 _ A83.out).mono ?_); rintro e w105 ⟨rfl, hb⟩; replace BK344 := aS (blk_below (g := gb344) bkX hb); replace HB := aS (below_step hbS hb)) | (go_at_call 35; (with_reducible refine (g11power.calls k8 t353 false _ A84.out).mono ?_); rintro e w' ⟨rfl, ⟨nd, rfl⟩⟩; (try exact qd)))
                                     (go_ret); exact ⟨er, hbS⟩
                                  ·
                                   rw [if_neg c82] at H; have c82b0 : decide (x16_8 < x13_30) = false := decide_eq_false c82; clear c82; have H' := aS H; clear H; go_wp2
                                   go_loopg [19] k8 (fun kq v19 w' => ∃ (x19_9 : Int), v19 = .int .u64 x19_9 ∧ Aside0 (g11Why.l1 kq a0 ((bt a0 5) == 2) ((bt a0 4) == 2) x7_8 t336 x15_69 x19_9 = some r) ∧ Aside0 (kq ≤ k8) ∧ Aside0 (w'.heap[gb344]? = some (.cells #[.int .u64 t338, .int .u64 t339, .int .u64 t340, .int .u64 t341, .int .u64 t342, .int .u64 t343] 47 (0, 0))) ∧ Aside0 (Below w.heap.size w w'))
                                   case atStart => exact ⟨(0), sr, H', ⟨Nat.le_refl _⟩, ⟨bkX⟩, ⟨hbS⟩⟩
                                   case round =>
                                    clear H'; (try clear c9); (try clear c82); (try clear c82b0); (try clear c85); (try clear c87); (try clear c87b0); (try clear c87b1); (try clear c90); (try clear c90b0); (try clear c90b1); (try clear c96); obtain ⟨x19_9, rfl, HA, HK9, BK344, HB⟩ := hrel
                                    cases gk with
                                    | zero => exact absurd HA.out (by simp [g11Why.l1])
                                    | succ k9 =>
                                     as_aux_lemma =>
                                      have H := HA.out; clear HA; simp only [g11Why.l1] at H
                                      by_cases c106 : x19_9 < x15_69
                                      ·
                                       rw [if_pos c106] at H; have c106b0 : decide (x19_9 < x15_69) = true := decide_eq_true c106; clear c106; replace H := Option.bind_eq_some_iff.mp H; obtain ⟨t359, A1070, H⟩ := H; (replace H : ((g11Num.f k9 ((bt a0 5) == 2) a0 (IntKind.u64.wrap ((IntKind.u64.wrap (t336 + (IntKind.u64.wrap (x19_9 * x7_8)))) + 16)) 4).bind fun t360 => (if ((bt a0 4) == 2) = true then ((g11Num.f k9 ((bt a0 5) == 2) a0 (IntKind.u64.wrap ((IntKind.u64.wrap (t336 + (IntKind.u64.wrap (x19_9 * x7_8)))) + 8)) 8).bind fun t361 => ((g11Num.f k9 ((bt a0 5) == 2) a0 (IntKind.u64.wrap ((IntKind.u64.wrap (t336 + (IntKind.u64.wrap (x19_9 * x7_8)))) + 32)) 8).bind fun t362 => ((g11there.f a0 t361 t362).bind fun t363 => (if t363 = true then (g11Why.l1 k9 a0 ((bt a0 5) == 2) ((bt a0 4) == 2) x7_8 t336 x15_69 (IntKind.u64.wrap (x19_9 + 1))) else (some 9))))) else ((g11there.f a0 t359 t360).bind fun t364 => (if t364 = true then (g11Why.l1 k9 a0 ((bt a0 5) == 2) ((bt a0 4) == 2) x7_8 t336 x15_69 (IntKind.u64.wrap (x19_9 + 1))) else (some 9))))) = some r := H); have A107 := aS A1070; clear A1070; replace H := Option.bind_eq_some_iff.mp H; obtain ⟨t360, A1080, H⟩ := H; replace H : (if ((bt a0 4) == 2) = true then ((g11Num.f k9 ((bt a0 5) == 2) a0 (IntKind.u64.wrap ((IntKind.u64.wrap (t336 + (IntKind.u64.wrap (x19_9 * x7_8)))) + 8)) 8).bind fun t361 => ((g11Num.f k9 ((bt a0 5) == 2) a0 (IntKind.u64.wrap ((IntKind.u64.wrap (t336 + (IntKind.u64.wrap (x19_9 * x7_8)))) + 32)) 8).bind fun t362 => ((g11there.f a0 t361 t362).bind fun t363 => (if t363 = true then (g11Why.l1 k9 a0 ((bt a0 5) == 2) ((bt a0 4) == 2) x7_8 t336 x15_69 (IntKind.u64.wrap (x19_9 + 1))) else (some 9))))) else ((g11there.f a0 t359 t360).bind fun t364 => (if t364 = true then (g11Why.l1 k9 a0 ((bt a0 5) == 2) ((bt a0 4) == 2) x7_8 t336 x15_69 (IntKind.u64.wrap (x19_9 + 1))) else (some 9)))) = some r := H
                                       have A108 := aS A1080; clear A1080
                                       by_cases c109 : ((bt a0 4) == 2) = true
                                       ·
                                        rw [if_pos c109] at H; have c109b0 : ((bt a0 4) == 2) = true := c109; ((try (have c109b1 : decide ((bt a0 4) = 2) = true := by simpa using c109))); ((try (have c109b2 : ((bt a0 4) == 2) = true := by simpa using c109))); clear c109; replace H := Option.bind_eq_some_iff.mp H; obtain ⟨t361, A1100, H⟩ := H; (replace H : ((g11Num.f k9 ((bt a0 5) == 2) a0 (IntKind.u64.wrap ((IntKind.u64.wrap (t336 + (IntKind.u64.wrap (x19_9 * x7_8)))) + 32)) 8).bind fun t362 => ((g11there.f a0 t361 t362).bind fun t363 => (if t363 = true then (g11Why.l1 k9 a0 ((bt a0 5) == 2) ((bt a0 4) == 2) x7_8 t336 x15_69 (IntKind.u64.wrap (x19_9 + 1))) else (some 9)))) = some r := H); have A110 := aS A1100; clear A1100; replace H := Option.bind_eq_some_iff.mp H; obtain ⟨t362, A1110, H⟩ := H; (replace H : ((g11there.f a0 t361 t362).bind fun t363 => (if t363 = true then (g11Why.l1 k9 a0 ((bt a0 5) == 2) ((bt a0 4) == 2) x7_8 t336 x15_69 (IntKind.u64.wrap (x19_9 + 1))) else (some 9))) = some r := H); have A111 := aS A1110; clear A1110; replace H := Option.bind_eq_some_iff.mp H; obtain ⟨t363, A1120, H⟩ := H; replace H : (if t363 = true then (g11Why.l1 k9 a0 ((bt a0 5) == 2) ((bt a0 4) == 2) x7_8 t336 x15_69 (IntKind.u64.wrap (x19_9 + 1))) else (some 9)) = some r := H; have A112 := aS A1120; clear A1120
                                        by_cases c113 : t363 = true
                                        ·
                                         subst c113; (have H1 : (g11Why.l1 k9 a0 ((bt a0 5) == 2) ((bt a0 4) == 2) x7_8 t336 x15_69 (IntKind.u64.wrap (x19_9 + 1))) = some r := by rw [if_pos rfl] at H; exact H); clear H; have H := H1; clear H1; have H' := aS H; clear H; generalize ((bt a0 4) == 2) = W4 at *; subst c109b0
                                         as_aux_lemma =>
                                          go_wp2_with (first | (go_at_call 33; (with_reducible refine (g11Num.calls k9 ((bt a0 5) == 2) a0 (IntKind.u64.wrap ((IntKind.u64.wrap (t336 + (IntKind.u64.wrap (x19_9 * x7_8)))) + 4)) 4 t359 _ A107.out).mono ?_); rintro e w' ⟨rfl, ⟨nd, rfl⟩⟩; (try exact qd)) | (go_at_call 33; (with_reducible refine (g11Num.calls k9 ((bt a0 5) == 2) a0 (IntKind.u64.wrap ((IntKind.u64.wrap (t336 + (IntKind.u64.wrap (x19_9 * x7_8)))) + 16)) 4 t360 _ A108.out).mono ?_); rintro e w' ⟨rfl, ⟨nd, rfl⟩⟩; (try exact qd)) | (go_at_call 33; (with_reducible refine (g11Num.calls k9 ((bt a0 5) == 2) a0 (IntKind.u64.wrap ((IntKind.u64.wrap (t336 + (IntKind.u64.wrap (x19_9 * x7_8)))) + 8)) 8 t361 _ A110.out).mono ?_); rintro e w' ⟨rfl, ⟨nd, rfl⟩⟩; (try exact qd)) | (go_at_call 33; (with_reducible refine (g11Num.calls k9 ((bt a0 5) == 2) a0 (IntKind.u64.wrap ((IntKind.u64.wrap (t336 + (IntKind.u64.wrap (x19_9 * x7_8)))) + 32)) 8 t362 _ A111.out).mono ?_); rintro e w' ⟨rfl, ⟨nd, rfl⟩⟩; (try exact qd)) | (go_at_call 34; (with_reducible refine (g11there.calls a0 t361 t362 true _ A112.out).mono ?_); rintro e w' ⟨rfl, ⟨nd, rfl⟩⟩; (try exact qd)))
                                          go_roundg k9
                                          case measure => have := HJ8.out; have := HJ14.out; have := HJ30.out; have := HJ66.out; have := HJ69.out; have := HJ73.out; have := HJ77.out; have := HK8.out; have := HK9.out; omega
                                          case rel => exact ⟨(IntKind.u64.wrap (x19_9 + 1)), sr, H', ⟨by have := HJ8.out; have := HJ14.out; have := HJ30.out; have := HJ66.out; have := HJ69.out; have := HJ73.out; have := HJ77.out; have := HK8.out; have := HK9.out; omega⟩, ⟨bkX⟩, ⟨hbS⟩⟩
                                        ·
                                         replace c113 := Bool.eq_false_iff.mpr c113; subst c113; (have H1 : (some 9) = some r := by rw [if_neg (show ¬ (false = true) by decide)] at H; exact H); clear H; have H := H1; clear H1; obtain rfl := Option.some.inj H
                                         as_aux_lemma =>
                                          go_wp2_with (first | (go_at_call 33; (with_reducible refine (g11Num.calls k9 ((bt a0 5) == 2) a0 (IntKind.u64.wrap ((IntKind.u64.wrap (t336 + (IntKind.u64.wrap (x19_9 * x7_8)))) + 4)) 4 t359 _ A107.out).mono ?_); rintro e w' ⟨rfl, ⟨nd, rfl⟩⟩; (try exact qd)) | (go_at_call 33; (with_reducible refine (g11Num.calls k9 ((bt a0 5) == 2) a0 (IntKind.u64.wrap ((IntKind.u64.wrap (t336 + (IntKind.u64.wrap (x19_9 * x7_8)))) + 16)) 4 t360 _ A108.out).mono ?_); rintro e w' ⟨rfl, ⟨nd, rfl⟩⟩; (try exact qd)) | (go_at_call 33; (with_reducible refine (g11Num.calls k9 ((bt a0 5) == 2) a0 (IntKind.u64.wrap ((IntKind.u64.wrap (t336 + (IntKind.u64.wrap (x19_9 * x7_8)))) + 8)) 8 t361 _ A110.out).mono ?_); rintro e w' ⟨rfl, ⟨nd, rfl⟩⟩; (try exact qd)) | (go_at_call 33; (with_reducible refine (g11Num.calls k9 ((bt a0 5) == 2) a0 (IntKind.u64.wrap ((IntKind.u64.wrap (t336 + (IntKind.u64.wrap (x19_9 * x7_8)))) + 32)) 8 t362 _ A111.out).mono ?_); rintro e w' ⟨rfl, ⟨nd, rfl⟩⟩; (try exact qd)) | (go_at_call 34; (with_reducible refine (g11there.calls a0 t361 t362 false _ A112.out).mono ?_); rintro e w' ⟨rfl, ⟨nd, rfl⟩⟩; (try exact qd)))
                                          (go_ret); exact ⟨er, hbS⟩
                                       ·
                                        rw [if_neg c109] at H; (have c109b0 : ((bt a0 4) == 2) = false := by simpa using c109); ((try (have c109b1 : decide ((bt a0 4) = 2) = false := by simpa using c109))); ((try (have c109b2 : ((bt a0 4) == 2) = false := by simpa using c109))); ((try (have c109b3 : ¬ ((bt a0 4) = 2) := by simpa using c109))); clear c109; replace H := Option.bind_eq_some_iff.mp H; obtain ⟨t364, A1140, H⟩ := H; replace H : (if t364 = true then (g11Why.l1 k9 a0 ((bt a0 5) == 2) ((bt a0 4) == 2) x7_8 t336 x15_69 (IntKind.u64.wrap (x19_9 + 1))) else (some 9)) = some r := H; have A114 := aS A1140; clear A1140
                                        by_cases c115 : t364 = true
                                        ·
                                         subst c115; (have H1 : (g11Why.l1 k9 a0 ((bt a0 5) == 2) ((bt a0 4) == 2) x7_8 t336 x15_69 (IntKind.u64.wrap (x19_9 + 1))) = some r := by rw [if_pos rfl] at H; exact H); clear H; have H := H1; clear H1; have H' := aS H; clear H; generalize ((bt a0 4) == 2) = W4 at *; subst c109b0
                                         as_aux_lemma =>
                                          go_wp2_with (first | (go_at_call 33; (with_reducible refine (g11Num.calls k9 ((bt a0 5) == 2) a0 (IntKind.u64.wrap ((IntKind.u64.wrap (t336 + (IntKind.u64.wrap (x19_9 * x7_8)))) + 4)) 4 t359 _ A107.out).mono ?_); rintro e w' ⟨rfl, ⟨nd, rfl⟩⟩; (try exact qd)) | (go_at_call 33; (with_reducible refine (g11Num.calls k9 ((bt a0 5) == 2) a0 (IntKind.u64.wrap ((IntKind.u64.wrap (t336 + (IntKind.u64.wrap (x19_9 * x7_8)))) + 16)) 4 t360 _ A108.out).mono ?_); rintro e w' ⟨rfl, ⟨nd, rfl⟩⟩; (try exact qd)) | (go_at_call 34; (with_reducible refine (g11there.calls a0 t359 t360 true _ A114.out).mono ?_); rintro e w' ⟨rfl, ⟨nd, rfl⟩⟩; (try exact qd)))
                                          go_roundg k9
                                          case measure => have := HJ8.out; have := HJ14.out; have := HJ30.out; have := HJ66.out; have := HJ69.out; have := HJ73.out; have := HJ77.out; have := HK8.out; have := HK9.out; omega
                                          case rel => exact ⟨(IntKind.u64.wrap (x19_9 + 1)), sr, H', ⟨by have := HJ8.out; have := HJ14.out; have := HJ30.out; have := HJ66.out; have := HJ69.out; have := HJ73.out; have := HJ77.out; have := HK8.out; have := HK9.out; omega⟩, ⟨bkX⟩, ⟨hbS⟩⟩
                                        ·
                                         replace c115 := Bool.eq_false_iff.mpr c115; subst c115; (have H1 : (some 9) = some r := by rw [if_neg (show ¬ (false = true) by decide)] at H; exact H); clear H; have H := H1; clear H1; obtain rfl := Option.some.inj H
                                         as_aux_lemma =>
                                          go_wp2_with (first | (go_at_call 33; (with_reducible refine (g11Num.calls k9 ((bt a0 5) == 2) a0 (IntKind.u64.wrap ((IntKind.u64.wrap (t336 + (IntKind.u64.wrap (x19_9 * x7_8)))) + 4)) 4 t359 _ A107.out).mono ?_); rintro e w' ⟨rfl, ⟨nd, rfl⟩⟩; (try exact qd)) | (go_at_call 33; (with_reducible refine (g11Num.calls k9 ((bt a0 5) == 2) a0 (IntKind.u64.wrap ((IntKind.u64.wrap (t336 + (IntKind.u64.wrap (x19_9 * x7_8)))) + 16)) 4 t360 _ A108.out).mono ?_); rintro e w' ⟨rfl, ⟨nd, rfl⟩⟩; (try exact qd)) | (go_at_call 34; (with_reducible refine (g11there.calls a0 t359 t360 false _ A114.out).mono ?_); rintro e w' ⟨rfl, ⟨nd, rfl⟩⟩; (try exact qd)))
                                          (go_ret); exact ⟨er, hbS⟩
                                      ·
                                       rw [if_neg c106] at H; have c106b0 : decide (x19_9 < x15_69) = false := decide_eq_false c106; clear c106; obtain rfl := Option.some.inj H
                                       as_aux_lemma =>
                                        go_wp2
                                        (go_ret); exact ⟨er, hbS⟩
         ·
          rw [if_neg c14] at H; have c14b0 : (t345 == 1) = false := beq_eq_false_iff_ne.mpr c14; have c14b1 : (t345 != 1) = true := bne_iff_ne.mpr c14; obtain rfl := Option.some.inj H
          as_aux_lemma =>
           go_wp2_with (first | (go_at_call 11; (with_reducible refine (g11Head.calls kj8 a0 t335 t336 t337 t338 t339 t340 t341 t342 t343 _ A12.out).mono ?_); rintro e w116 ⟨rfl, hb⟩; replace HB := aS (below_step hbN hb)) | ((with_reducible refine gate_dst (N := 12) rfl ?_); refine bE 12 #[.int .u64 0, .int .u64 0, .int .u64 0, .int .u64 0, .int .u64 0, .int .u64 0] 47 ?_; intro gb344 hg w117 hbox hb; have BK344 := aS (hbox); have GW344 := aS (bsz hg hbN : w.heap.size ≤ gb344); have GE344 := aS (bsz hg hbN : w.heap.size ≤ gb344); replace HB := aS (below_step hbN hb); clear hb hbox hg; obtain ⟨hcz118_0, hcz118_1, hcz118_2, hcz118_3, hcz118_4, hcz118_5, hfz118_0, hfz118_1, hfz118_2, hfz118_3, hfz118_4, hfz118_5⟩ := bc6 BK344.out) | ((with_reducible refine gate_store (t := 47) (p := 12) rfl ?_); refine sBL 47 [.int .u64 t338, .int .u64 t339, .int .u64 t340, .int .u64 t341, .int .u64 t342, .int .u64 t343] BK344.out ?_; have nS0_ := aS (sF_below [.int .u64 t338, .int .u64 t339, .int .u64 t340, .int .u64 t341, .int .u64 t342, .int .u64 t343] BK344.out rfl HB.out GE344.out); have nS1_ := aS (sF_eq [.int .u64 t338, .int .u64 t339, .int .u64 t340, .int .u64 t341, .int .u64 t342, .int .u64 t343] BK344.out rfl); generalize setFrom gb344 [.int .u64 t338, .int .u64 t339, .int .u64 t340, .int .u64 t341, .int .u64 t342, .int .u64 t343] 0 w117 = wS344 at nS0_ nS1_ ⊢; clear HB BK344 hcz118_0 hcz118_1 hcz118_2 hcz118_3 hcz118_4 hcz118_5 hfz118_0 hfz118_1 hfz118_2 hfz118_3 hfz118_4 hfz118_5; have HB := nS0_; have BK344 := nS1_; clear nS0_ nS1_; obtain ⟨hczS_0, hczS_1, hczS_2, hczS_3, hczS_4, hczS_5, hfzS_0, hfzS_1, hfzS_2, hfzS_3, hfzS_4, hfzS_5⟩ := bc6 BK344.out) | (go_at_call 33; (with_reducible refine (g11Num.calls kj8 ((bt a0 5) == 2) a0 20 4 t345 _ A13.out).mono ?_); rintro e w' ⟨rfl, ⟨nd, rfl⟩⟩; (try exact qd)))
           (go_ret); exact ⟨er, hbS⟩
    ·(rw [if_neg c7] at H); exact absurd H (by simp)
   ·(rw [if_neg c5] at H); exact absurd H (by simp)
  ·
   rw [if_neg c4] at H; have c4b0 : (t334 == 0) = false := beq_eq_false_iff_ne.mpr c4; have c4b1 : (t334 != 0) = true := bne_iff_ne.mpr c4; obtain rfl := Option.some.inj H; go_enter Tryd.func10, Tryd.ntmps10
   as_aux_lemma =>
    go_wp2_with (first | (go_at_call 32; (with_reducible refine (g04Why.calls k a0 t334 _ A3.out).mono ?_); rintro e w' ⟨rfl, ⟨nd, rfl⟩⟩; (try exact qd)))
    go_ret
    exact ⟨er, hbS⟩

end Go.Proofs.YtceilmhinkkgfaaDoor.Q
end
