/- What Go functions of the program compute, each as a Lean function with the proof that the call returns just that. No condition but those in the statements. -/
import Derived.Test.YteoeohkjomehoaaQ0
import Derived.Test.YteoeohkjomehoaaQ1
import Derived.Test.YteoeohkjomehoaaQ4
import Derived.Test.YteoeohkjomehoaaQ5
import Derived.Test.YteoeohkjomehoaaQ6
import Derived.Test.YteoeohkjomehoaaMps
namespace Go.Proofs.Yteoeohkjomehoaa.Q
open Go.RowKit Go.Proofs.YteoeohkjomehoaaW.PrintWords Go.Proofs.YteoeohkjomehoaaW.PrintLast Go.Proofs.YteoeohkjomehoaaW.PrintMore
attribute [local go_sem] max2_int min2_int max_two min_two max_three min_three max_four min_four   -- for this text's walks alone
set_option linter.unusedVariables false
set_option linter.unusedSimpArgs false

attribute [local go_sem high] eqA29
/-! #### graverlaw02_SpanUnions: function 6 -/
mutual
def graverlaw02_SpanUnions.l0 : Nat → List (S48) → List (S29) → List Int → Int → Option (Bool)
 | 0, _, _, _, _ => none
 | k + 1, x0, x3, x4, x5 => if x5 < (x0.length : Int) then (graverlaw02_SpanUnions.j1 k x0 x3 x4 x5 (decide (x5 < 8))) else (graverlaw02_SpanUnions.j1 k x0 x3 x4 x5 false)
def graverlaw02_SpanUnions.j1 : Nat → List (S48) → List (S29) → List Int → Int → Bool → Option (Bool)
 | 0, _, _, _, _, _ => none
 | k + 1, x0, x3, x4, x5, x28 => if x28 = true then (if 0 ≤ x5 then (if x5 < (x0.length : Int) then (if x3.length < 8796093022208 then (graverlaw02_SpanUnions.l1 k x0 (x3 ++ [(⟨IntKind.u64.wrap (Go.bits .and .u16 ((rd_T48 x0 x5).f0) 255), IntKind.u64.wrap (Go.bits .and .u16 ((rd_T48 x0 x5).f1) 63)⟩ : S29)]) x4 x5 (IntKind.u64.wrap (Go.bits .and .u16 ((rd_T48 x0 x5).f0) 255)) (IntKind.u64.wrap (Go.bits .and .u16 ((rd_T48 x0 x5).f0) 255)) (IntKind.u64.wrap (Go.bits .and .u16 ((rd_T48 x0 x5).f1) 63))) else (none)) else (none)) else (none)) else ((span_Union.f k x3).bind fun t178 => (graverlaw02_SpanUnions.l2 k x3 x4 t178 0 0))
def graverlaw02_SpanUnions.l1 : Nat → List (S48) → List (S29) → List Int → Int → Int → Int → Int → Option (Bool)
 | 0, _, _, _, _, _, _, _ => none
 | k + 1, x0, x3, x4, x5, x7, x174000, x174001 => if x7 < (IntKind.u64.wrap (x174000 + x174001)) then (graverlaw02_SpanUnions.l1 k x0 x3 (mapAdd x4 x7) x5 (IntKind.u64.wrap (x7 + 1)) x174000 x174001) else (graverlaw02_SpanUnions.l0 k x0 x3 x4 (wrap64 (x5 + 1)))
def graverlaw02_SpanUnions.l2 : Nat → List (S29) → List Int → List (S29) → Int → Int → Option (Bool)
 | 0, _, _, _, _, _ => none
 | k + 1, x3, x4, x8, x9, x10 => if x10 < (x8.length : Int) then (if 0 ≤ x10 then (if ((rd_T29 x8 x10).f1) = 0 then (graverlaw02_SpanUnions.j4 k x3 x4 x8 x9 x10 true) else (if x10 > 0 then (if 0 ≤ (wrap64 (x10 - 1)) then (if (wrap64 (x10 - 1)) < (x8.length : Int) then (graverlaw02_SpanUnions.j4 k x3 x4 x8 x9 x10 (decide (((rd_T29 x8 x10).f0) ≤ (IntKind.u64.wrap (((rd_T29 x8 (wrap64 (x10 - 1))).f0) + ((rd_T29 x8 (wrap64 (x10 - 1))).f1)))))) else (none)) else (none)) else (graverlaw02_SpanUnions.j4 k x3 x4 x8 x9 x10 false))) else (none)) else (if x9 = (x4.length : Int) then (graverlaw02_SpanUnions.l4 k x3 0) else (some false))
def graverlaw02_SpanUnions.j4 : Nat → List (S29) → List Int → List (S29) → Int → Int → Bool → Option (Bool)
 | 0, _, _, _, _, _, _ => none
 | k + 1, x3, x4, x8, x9, x10, x101 => if x101 = true then (some false) else (if 0 ≤ x10 then (if x10 < (x8.length : Int) then (graverlaw02_SpanUnions.l3 k x3 x4 x8 x9 x10 ((rd_T29 x8 x10).f0)) else (none)) else (none))
def graverlaw02_SpanUnions.l3 : Nat → List (S29) → List Int → List (S29) → Int → Int → Int → Option (Bool)
 | 0, _, _, _, _, _, _ => none
 | k + 1, x3, x4, x8, x9, x10, x11 => if 0 ≤ x10 then (if x10 < (x8.length : Int) then (if x11 < (IntKind.u64.wrap (((rd_T29 x8 x10).f0) + ((rd_T29 x8 x10).f1))) then (if mapMem x4 x11 = true then (graverlaw02_SpanUnions.l3 k x3 x4 x8 (wrap64 (x9 + 1)) x10 (IntKind.u64.wrap (x11 + 1))) else (some false)) else (graverlaw02_SpanUnions.l2 k x3 x4 x8 x9 (wrap64 (x10 + 1)))) else (none)) else (none)
def graverlaw02_SpanUnions.l4 : Nat → List (S29) → Int → Option (Bool)
 | 0, _, _ => none
 | k + 1, x3, x12 => if x12 < (x3.length : Int) then (graverlaw02_SpanUnions.l5 k x3 x12 0) else (some true)
def graverlaw02_SpanUnions.l5 : Nat → List (S29) → Int → Int → Option (Bool)
 | 0, _, _, _ => none
 | k + 1, x3, x12, x13 => if x13 < (x3.length : Int) then (if 0 ≤ x12 then (if x12 < (x3.length : Int) then (if 0 ≤ x13 then ((span_Common.f k ((rd_T29 x3 x12).f0) ((rd_T29 x3 x12).f1) ((rd_T29 x3 x13).f0) ((rd_T29 x3 x13).f1)).bind fun bt190 => (if (mx ((rd_T29 x3 x12).f0) ((rd_T29 x3 x13).f0)) < (mn (IntKind.u64.wrap (((rd_T29 x3 x12).f0) + ((rd_T29 x3 x12).f1))) (IntKind.u64.wrap (((rd_T29 x3 x13).f0) + ((rd_T29 x3 x13).f1)))) then (if bt190.2.2 = true then (if bt190.1 = (mx ((rd_T29 x3 x12).f0) ((rd_T29 x3 x13).f0)) then (if bt190.2.1 = (IntKind.u64.wrap ((mn (IntKind.u64.wrap (((rd_T29 x3 x12).f0) + ((rd_T29 x3 x12).f1))) (IntKind.u64.wrap (((rd_T29 x3 x13).f0) + ((rd_T29 x3 x13).f1)))) - (mx ((rd_T29 x3 x12).f0) ((rd_T29 x3 x13).f0)))) then (graverlaw02_SpanUnions.l5 k x3 x12 (wrap64 (x13 + 1))) else (some false)) else (some false)) else (some false)) else (if bt190.2.2 = true then (some false) else (if (!(bt190.1 == 0) || (!(bt190.2.1 == 0))) = true then (some false) else (graverlaw02_SpanUnions.l5 k x3 x12 (wrap64 (x13 + 1))))))) else (none)) else (none)) else (none)) else (graverlaw02_SpanUnions.l4 k x3 (wrap64 (x12 + 1)))
end
def graverlaw02_SpanUnions.f (k : Nat) (l0 : List (S48)) : Option (Bool) := (graverlaw02_speaks.f k).bind fun t167 => (if t167 = true then (graverlaw02_SpanUnions.l0 k l0 ([] : List (S29)) (([] : List Int)) 0) else (some false))
theorem graverlaw02_SpanUnions.mono_l : ∀ k, (∀ y0 y1 y2 y3, LeO (graverlaw02_SpanUnions.l0 k y0 y1 y2 y3) (graverlaw02_SpanUnions.l0 (k + 1) y0 y1 y2 y3)) ∧ (∀ y0 y1 y2 y3 y4, LeO (graverlaw02_SpanUnions.j1 k y0 y1 y2 y3 y4) (graverlaw02_SpanUnions.j1 (k + 1) y0 y1 y2 y3 y4)) ∧ (∀ y0 y1 y2 y3 y4 y5 y6, LeO (graverlaw02_SpanUnions.l1 k y0 y1 y2 y3 y4 y5 y6) (graverlaw02_SpanUnions.l1 (k + 1) y0 y1 y2 y3 y4 y5 y6)) ∧ (∀ y0 y1 y2 y3 y4, LeO (graverlaw02_SpanUnions.l2 k y0 y1 y2 y3 y4) (graverlaw02_SpanUnions.l2 (k + 1) y0 y1 y2 y3 y4)) ∧ (∀ y0 y1 y2 y3 y4 y5, LeO (graverlaw02_SpanUnions.j4 k y0 y1 y2 y3 y4 y5) (graverlaw02_SpanUnions.j4 (k + 1) y0 y1 y2 y3 y4 y5)) ∧ (∀ y0 y1 y2 y3 y4 y5, LeO (graverlaw02_SpanUnions.l3 k y0 y1 y2 y3 y4 y5) (graverlaw02_SpanUnions.l3 (k + 1) y0 y1 y2 y3 y4 y5)) ∧ (∀ y0 y1, LeO (graverlaw02_SpanUnions.l4 k y0 y1) (graverlaw02_SpanUnions.l4 (k + 1) y0 y1)) ∧ (∀ y0 y1 y2, LeO (graverlaw02_SpanUnions.l5 k y0 y1 y2) (graverlaw02_SpanUnions.l5 (k + 1) y0 y1 y2))
 | 0 => ⟨fun _ _ _ _ r h => by simp [graverlaw02_SpanUnions.l0] at h, fun _ _ _ _ _ r h => by simp [graverlaw02_SpanUnions.j1] at h, fun _ _ _ _ _ _ _ r h => by simp [graverlaw02_SpanUnions.l1] at h, fun _ _ _ _ _ r h => by simp [graverlaw02_SpanUnions.l2] at h, fun _ _ _ _ _ _ r h => by simp [graverlaw02_SpanUnions.j4] at h, fun _ _ _ _ _ _ r h => by simp [graverlaw02_SpanUnions.l3] at h, fun _ _ r h => by simp [graverlaw02_SpanUnions.l4] at h, fun _ _ _ r h => by simp [graverlaw02_SpanUnions.l5] at h⟩
 | k + 1 => by
  obtain ⟨ih0, ih1, ih2, ih3, ih4, ih5, ih6, ih7⟩ := graverlaw02_SpanUnions.mono_l k
  refine ⟨?_, ?_, ?_, ?_, ?_, ?_, ?_, ?_⟩
  ·
   intro y0 y1 y2 y3
   unfold graverlaw02_SpanUnions.l0
   repeat' first
   | (with_reducible exact ih0 _ _ _ _)
   | (with_reducible exact ih1 _ _ _ _ _)
   | (with_reducible exact ih2 _ _ _ _ _ _ _)
   | (with_reducible exact ih3 _ _ _ _ _)
   | (with_reducible exact ih4 _ _ _ _ _ _)
   | (with_reducible exact ih5 _ _ _ _ _ _)
   | (with_reducible exact ih6 _ _)
   | (with_reducible exact ih7 _ _ _)
   | (with_reducible exact graverlaw02_speaks.mono _)
   | (with_reducible exact span_Common.mono _ _ _ _ _)
   | (with_reducible exact span_Union.mono _ _)
   | (with_reducible exact LeO.refl _)
   | (with_reducible exact LeO.none _)
   | (with_reducible refine LeO.ite ?_ ?_)
   | (with_reducible refine LeO.bind ?_ (fun _ => ?_))
   | exact ih0 _ _ _ _
   | exact ih1 _ _ _ _ _
   | exact ih2 _ _ _ _ _ _ _
   | exact ih3 _ _ _ _ _
   | exact ih4 _ _ _ _ _ _
   | exact ih5 _ _ _ _ _ _
   | exact ih6 _ _
   | exact ih7 _ _ _
   | exact graverlaw02_speaks.mono _
   | exact span_Common.mono _ _ _ _ _
   | exact span_Union.mono _ _
   | exact LeO.none _
   | refine LeO.ite ?_ ?_
   | refine LeO.bind ?_ (fun _ => ?_)
  ·
   intro y0 y1 y2 y3 y4
   unfold graverlaw02_SpanUnions.j1
   repeat' first
   | (with_reducible exact ih0 _ _ _ _)
   | (with_reducible exact ih1 _ _ _ _ _)
   | (with_reducible exact ih2 _ _ _ _ _ _ _)
   | (with_reducible exact ih3 _ _ _ _ _)
   | (with_reducible exact ih4 _ _ _ _ _ _)
   | (with_reducible exact ih5 _ _ _ _ _ _)
   | (with_reducible exact ih6 _ _)
   | (with_reducible exact ih7 _ _ _)
   | (with_reducible exact graverlaw02_speaks.mono _)
   | (with_reducible exact span_Common.mono _ _ _ _ _)
   | (with_reducible exact span_Union.mono _ _)
   | (with_reducible exact LeO.refl _)
   | (with_reducible exact LeO.none _)
   | (with_reducible refine LeO.ite ?_ ?_)
   | (with_reducible refine LeO.bind ?_ (fun _ => ?_))
   | exact ih0 _ _ _ _
   | exact ih1 _ _ _ _ _
   | exact ih2 _ _ _ _ _ _ _
   | exact ih3 _ _ _ _ _
   | exact ih4 _ _ _ _ _ _
   | exact ih5 _ _ _ _ _ _
   | exact ih6 _ _
   | exact ih7 _ _ _
   | exact graverlaw02_speaks.mono _
   | exact span_Common.mono _ _ _ _ _
   | exact span_Union.mono _ _
   | exact LeO.none _
   | refine LeO.ite ?_ ?_
   | refine LeO.bind ?_ (fun _ => ?_)
  ·
   intro y0 y1 y2 y3 y4 y5 y6
   unfold graverlaw02_SpanUnions.l1
   repeat' first
   | (with_reducible exact ih0 _ _ _ _)
   | (with_reducible exact ih1 _ _ _ _ _)
   | (with_reducible exact ih2 _ _ _ _ _ _ _)
   | (with_reducible exact ih3 _ _ _ _ _)
   | (with_reducible exact ih4 _ _ _ _ _ _)
   | (with_reducible exact ih5 _ _ _ _ _ _)
   | (with_reducible exact ih6 _ _)
   | (with_reducible exact ih7 _ _ _)
   | (with_reducible exact graverlaw02_speaks.mono _)
   | (with_reducible exact span_Common.mono _ _ _ _ _)
   | (with_reducible exact span_Union.mono _ _)
   | (with_reducible exact LeO.refl _)
   | (with_reducible exact LeO.none _)
   | (with_reducible refine LeO.ite ?_ ?_)
   | (with_reducible refine LeO.bind ?_ (fun _ => ?_))
   | exact ih0 _ _ _ _
   | exact ih1 _ _ _ _ _
   | exact ih2 _ _ _ _ _ _ _
   | exact ih3 _ _ _ _ _
   | exact ih4 _ _ _ _ _ _
   | exact ih5 _ _ _ _ _ _
   | exact ih6 _ _
   | exact ih7 _ _ _
   | exact graverlaw02_speaks.mono _
   | exact span_Common.mono _ _ _ _ _
   | exact span_Union.mono _ _
   | exact LeO.none _
   | refine LeO.ite ?_ ?_
   | refine LeO.bind ?_ (fun _ => ?_)
  ·
   intro y0 y1 y2 y3 y4
   unfold graverlaw02_SpanUnions.l2
   repeat' first
   | (with_reducible exact ih0 _ _ _ _)
   | (with_reducible exact ih1 _ _ _ _ _)
   | (with_reducible exact ih2 _ _ _ _ _ _ _)
   | (with_reducible exact ih3 _ _ _ _ _)
   | (with_reducible exact ih4 _ _ _ _ _ _)
   | (with_reducible exact ih5 _ _ _ _ _ _)
   | (with_reducible exact ih6 _ _)
   | (with_reducible exact ih7 _ _ _)
   | (with_reducible exact graverlaw02_speaks.mono _)
   | (with_reducible exact span_Common.mono _ _ _ _ _)
   | (with_reducible exact span_Union.mono _ _)
   | (with_reducible exact LeO.refl _)
   | (with_reducible exact LeO.none _)
   | (with_reducible refine LeO.ite ?_ ?_)
   | (with_reducible refine LeO.bind ?_ (fun _ => ?_))
   | exact ih0 _ _ _ _
   | exact ih1 _ _ _ _ _
   | exact ih2 _ _ _ _ _ _ _
   | exact ih3 _ _ _ _ _
   | exact ih4 _ _ _ _ _ _
   | exact ih5 _ _ _ _ _ _
   | exact ih6 _ _
   | exact ih7 _ _ _
   | exact graverlaw02_speaks.mono _
   | exact span_Common.mono _ _ _ _ _
   | exact span_Union.mono _ _
   | exact LeO.none _
   | refine LeO.ite ?_ ?_
   | refine LeO.bind ?_ (fun _ => ?_)
  ·
   intro y0 y1 y2 y3 y4 y5
   unfold graverlaw02_SpanUnions.j4
   repeat' first
   | (with_reducible exact ih0 _ _ _ _)
   | (with_reducible exact ih1 _ _ _ _ _)
   | (with_reducible exact ih2 _ _ _ _ _ _ _)
   | (with_reducible exact ih3 _ _ _ _ _)
   | (with_reducible exact ih4 _ _ _ _ _ _)
   | (with_reducible exact ih5 _ _ _ _ _ _)
   | (with_reducible exact ih6 _ _)
   | (with_reducible exact ih7 _ _ _)
   | (with_reducible exact graverlaw02_speaks.mono _)
   | (with_reducible exact span_Common.mono _ _ _ _ _)
   | (with_reducible exact span_Union.mono _ _)
   | (with_reducible exact LeO.refl _)
   | (with_reducible exact LeO.none _)
   | (with_reducible refine LeO.ite ?_ ?_)
   | (with_reducible refine LeO.bind ?_ (fun _ => ?_))
   | exact ih0 _ _ _ _
   | exact ih1 _ _ _ _ _
   | exact ih2 _ _ _ _ _ _ _
   | exact ih3 _ _ _ _ _
   | exact ih4 _ _ _ _ _ _
   | exact ih5 _ _ _ _ _ _
   | exact ih6 _ _
   | exact ih7 _ _ _
   | exact graverlaw02_speaks.mono _
   | exact span_Common.mono _ _ _ _ _
   | exact span_Union.mono _ _
   | exact LeO.none _
   | refine LeO.ite ?_ ?_
   | refine LeO.bind ?_ (fun _ => ?_)
  ·
   intro y0 y1 y2 y3 y4 y5
   unfold graverlaw02_SpanUnions.l3
   repeat' first
   | (with_reducible exact ih0 _ _ _ _)
   | (with_reducible exact ih1 _ _ _ _ _)
   | (with_reducible exact ih2 _ _ _ _ _ _ _)
   | (with_reducible exact ih3 _ _ _ _ _)
   | (with_reducible exact ih4 _ _ _ _ _ _)
   | (with_reducible exact ih5 _ _ _ _ _ _)
   | (with_reducible exact ih6 _ _)
   | (with_reducible exact ih7 _ _ _)
   | (with_reducible exact graverlaw02_speaks.mono _)
   | (with_reducible exact span_Common.mono _ _ _ _ _)
   | (with_reducible exact span_Union.mono _ _)
   | (with_reducible exact LeO.refl _)
   | (with_reducible exact LeO.none _)
   | (with_reducible refine LeO.ite ?_ ?_)
   | (with_reducible refine LeO.bind ?_ (fun _ => ?_))
   | exact ih0 _ _ _ _
   | exact ih1 _ _ _ _ _
   | exact ih2 _ _ _ _ _ _ _
   | exact ih3 _ _ _ _ _
   | exact ih4 _ _ _ _ _ _
   | exact ih5 _ _ _ _ _ _
   | exact ih6 _ _
   | exact ih7 _ _ _
   | exact graverlaw02_speaks.mono _
   | exact span_Common.mono _ _ _ _ _
   | exact span_Union.mono _ _
   | exact LeO.none _
   | refine LeO.ite ?_ ?_
   | refine LeO.bind ?_ (fun _ => ?_)
  ·
   intro y0 y1
   unfold graverlaw02_SpanUnions.l4
   repeat' first
   | (with_reducible exact ih0 _ _ _ _)
   | (with_reducible exact ih1 _ _ _ _ _)
   | (with_reducible exact ih2 _ _ _ _ _ _ _)
   | (with_reducible exact ih3 _ _ _ _ _)
   | (with_reducible exact ih4 _ _ _ _ _ _)
   | (with_reducible exact ih5 _ _ _ _ _ _)
   | (with_reducible exact ih6 _ _)
   | (with_reducible exact ih7 _ _ _)
   | (with_reducible exact graverlaw02_speaks.mono _)
   | (with_reducible exact span_Common.mono _ _ _ _ _)
   | (with_reducible exact span_Union.mono _ _)
   | (with_reducible exact LeO.refl _)
   | (with_reducible exact LeO.none _)
   | (with_reducible refine LeO.ite ?_ ?_)
   | (with_reducible refine LeO.bind ?_ (fun _ => ?_))
   | exact ih0 _ _ _ _
   | exact ih1 _ _ _ _ _
   | exact ih2 _ _ _ _ _ _ _
   | exact ih3 _ _ _ _ _
   | exact ih4 _ _ _ _ _ _
   | exact ih5 _ _ _ _ _ _
   | exact ih6 _ _
   | exact ih7 _ _ _
   | exact graverlaw02_speaks.mono _
   | exact span_Common.mono _ _ _ _ _
   | exact span_Union.mono _ _
   | exact LeO.none _
   | refine LeO.ite ?_ ?_
   | refine LeO.bind ?_ (fun _ => ?_)
  ·
   intro y0 y1 y2
   unfold graverlaw02_SpanUnions.l5
   repeat' first
   | (with_reducible exact ih0 _ _ _ _)
   | (with_reducible exact ih1 _ _ _ _ _)
   | (with_reducible exact ih2 _ _ _ _ _ _ _)
   | (with_reducible exact ih3 _ _ _ _ _)
   | (with_reducible exact ih4 _ _ _ _ _ _)
   | (with_reducible exact ih5 _ _ _ _ _ _)
   | (with_reducible exact ih6 _ _)
   | (with_reducible exact ih7 _ _ _)
   | (with_reducible exact graverlaw02_speaks.mono _)
   | (with_reducible exact span_Common.mono _ _ _ _ _)
   | (with_reducible exact span_Union.mono _ _)
   | (with_reducible exact LeO.refl _)
   | (with_reducible exact LeO.none _)
   | (with_reducible refine LeO.ite ?_ ?_)
   | (with_reducible refine LeO.bind ?_ (fun _ => ?_))
   | exact ih0 _ _ _ _
   | exact ih1 _ _ _ _ _
   | exact ih2 _ _ _ _ _ _ _
   | exact ih3 _ _ _ _ _
   | exact ih4 _ _ _ _ _ _
   | exact ih5 _ _ _ _ _ _
   | exact ih6 _ _
   | exact ih7 _ _ _
   | exact graverlaw02_speaks.mono _
   | exact span_Common.mono _ _ _ _ _
   | exact span_Union.mono _ _
   | exact LeO.none _
   | refine LeO.ite ?_ ?_
   | refine LeO.bind ?_ (fun _ => ?_)
theorem graverlaw02_SpanUnions.mono : ∀ a0 k, LeO (graverlaw02_SpanUnions.f k a0) (graverlaw02_SpanUnions.f (k + 1) a0) := by
 intro a0 k
 obtain ⟨ih0, ih1, ih2, ih3, ih4, ih5, ih6, ih7⟩ := graverlaw02_SpanUnions.mono_l k
 unfold graverlaw02_SpanUnions.f
 repeat' first
  | (with_reducible exact ih0 _ _ _ _)
  | (with_reducible exact ih1 _ _ _ _ _)
  | (with_reducible exact ih2 _ _ _ _ _ _ _)
  | (with_reducible exact ih3 _ _ _ _ _)
  | (with_reducible exact ih4 _ _ _ _ _ _)
  | (with_reducible exact ih5 _ _ _ _ _ _)
  | (with_reducible exact ih6 _ _)
  | (with_reducible exact ih7 _ _ _)
  | (with_reducible exact graverlaw02_speaks.mono _)
  | (with_reducible exact span_Common.mono _ _ _ _ _)
  | (with_reducible exact span_Union.mono _ _)
  | (with_reducible exact LeO.refl _)
  | (with_reducible exact LeO.none _)
  | (with_reducible refine LeO.ite ?_ ?_)
  | (with_reducible refine LeO.bind ?_ (fun _ => ?_))
  | exact ih0 _ _ _ _
  | exact ih1 _ _ _ _ _
  | exact ih2 _ _ _ _ _ _ _
  | exact ih3 _ _ _ _ _
  | exact ih4 _ _ _ _ _ _
  | exact ih5 _ _ _ _ _ _
  | exact ih6 _ _
  | exact ih7 _ _ _
  | exact graverlaw02_speaks.mono _
  | exact span_Common.mono _ _ _ _ _
  | exact span_Union.mono _ _
  | exact LeO.none _
  | refine LeO.ite ?_ ?_
  | refine LeO.bind ?_ (fun _ => ?_)
def graverlaw02_SpanUnions.T8 : Bool × List (List Nat × List Nat) := (true, [([], []), ([], []), ([0, 1], [0, 1]), ([2], [2]), ([3], [3]), ([4], [4]), ([5], [5]), ([], []), ([], []), ([7, 8], [7, 8]), ([9], [9]), ([10], [10]), ([11], [11]), ([12], [12]), ([6, 13], [6, 13]), ([], []), ([15, 14, 0, 1, 2, 3, 4, 5, 6, 7, 8, 9, 10, 11, 12, 13, 14, 15], [14, 15])])
def graverlaw02_SpanUnions.B8 : List Nat := [0, 0, 3, 7, 15, 31, 63, 0, 0, 384, 896, 1920, 3968, 8064, 16383, 0, 65535]
theorem graverlaw02_SpanUnions.tab8 : rtab .any (opsOf Try.f6 8) = graverlaw02_SpanUnions.T8 := by kernel_rfl
theorem graverlaw02_SpanUnions.bits8 : waitsOk graverlaw02_SpanUnions.T8.2 graverlaw02_SpanUnions.B8 = true := by kernel_rfl
def graverlaw02_SpanUnions.T19 : Bool × List (List Nat × List Nat) := (true, [([], []), ([], []), ([0, 1], [0, 1]), ([2], [2]), ([3], [3]), ([4], [4]), ([5], [5]), ([6], [6]), ([7, 6], [6, 7]), ([8, 6, 6], [6, 8]), ([9], [9]), ([9], [9]), ([10, 11, 9], [9, 10, 11]), ([12, 9], [9, 12]), ([13, 9], [9, 13]), ([9], [9]), ([9], [9]), ([16, 9], [9, 16]), ([15, 17, 9], [9, 15, 17]), ([18, 9], [9, 18]), ([19, 9], [9, 19]), ([9], [9]), ([9], [9]), ([22, 9], [9, 22]), ([21, 23, 9], [9, 21, 23]), ([24, 9], [9, 24]), ([25, 9], [9, 25]), ([20, 26, 9], [9, 20, 26]), ([14, 27, 9], [9, 14, 27]), ([9, 28, 6], [6, 9, 28]), ([6, 29], [6, 29])])
def graverlaw02_SpanUnions.B19 : List Nat := [0, 0, 3, 7, 15, 31, 63, 127, 255, 511, 1023, 1023, 4095, 8191, 16383, 1023, 1023, 66559, 230399, 492543, 1016831, 1023, 1023, 4195327, 14681087, 31458303, 65012735, 134185983, 268435455, 536870911, 1073741823]
theorem graverlaw02_SpanUnions.tab19 : rtab .any (opsOf Try.f6 19) = graverlaw02_SpanUnions.T19 := by kernel_rfl
theorem graverlaw02_SpanUnions.bits19 : waitsOk graverlaw02_SpanUnions.T19.2 graverlaw02_SpanUnions.B19 = true := by kernel_rfl
def graverlaw02_SpanUnions.T22 : Bool × List (List Nat × List Nat) := (true, [([], []), ([], []), ([], []), ([1, 2], [1, 2]), ([3], [3]), ([4], [4]), ([], []), ([], []), ([6, 7], [6, 7]), ([8], [8]), ([9], [9]), ([5, 10], [5, 10]), ([0, 11], [0, 11])])
def graverlaw02_SpanUnions.B22 : List Nat := [0, 0, 0, 6, 14, 30, 0, 0, 192, 448, 960, 2046, 4095]
theorem graverlaw02_SpanUnions.tab22 : rtab .any (opsOf Try.f6 22) = graverlaw02_SpanUnions.T22 := by kernel_rfl
theorem graverlaw02_SpanUnions.bits22 : waitsOk graverlaw02_SpanUnions.T22.2 graverlaw02_SpanUnions.B22 = true := by kernel_rfl
def graverlaw02_SpanUnions.T35 : Bool × List (List Nat × List Nat) := (true, [([], []), ([], []), ([0, 1], [0, 1]), ([2], [2]), ([], []), ([], []), ([4, 5], [4, 5]), ([6], [6]), ([3, 7], [3, 7]), ([8], [8]), ([9], [9]), ([9], [9]), ([], []), ([12, 10, 8, 0, 1, 2, 3, 4, 5, 6, 7, 8, 9, 10, 12], [10, 12]), ([11, 13, 0, 1, 2, 3, 4, 5, 6, 7, 8, 9, 10, 11, 12, 13], [11])])
def graverlaw02_SpanUnions.B35 : List Nat := [0, 0, 3, 7, 0, 0, 48, 112, 255, 511, 1023, 1023, 0, 6143, 16383]
theorem graverlaw02_SpanUnions.tab35 : rtab .any (opsOf Try.f6 35) = graverlaw02_SpanUnions.T35 := by kernel_rfl
theorem graverlaw02_SpanUnions.bits35 : waitsOk graverlaw02_SpanUnions.T35.2 graverlaw02_SpanUnions.B35 = true := by kernel_rfl
def graverlaw02_SpanUnions.T36 : Bool × List (List Nat × List Nat) := (true, [([], []), ([], []), ([0, 1], [0, 1]), ([2], [2]), ([3], [3]), ([], []), ([], []), ([5, 6], [5, 6]), ([7], [7]), ([8], [8]), ([4, 9], [4, 9]), ([], []), ([], []), ([11, 12], [11, 12]), ([13], [13]), ([14], [14]), ([], []), ([], []), ([16, 17], [16, 17]), ([18], [18]), ([19], [19]), ([15, 20], [15, 20]), ([], []), ([], []), ([22, 23], [22, 23]), ([24], [24]), ([25], [25]), ([], []), ([], []), ([27, 28], [27, 28]), ([29], [29]), ([30], [30]), ([26, 31], [26, 31]), ([21, 32], [21, 32]), ([10, 0, 1, 2, 3, 4, 5, 6, 7, 8, 9, 10], [10]), ([33, 34, 0, 1, 2, 3, 4, 5, 6, 7, 8, 9, 10, 11, 12, 13, 14, 15, 16, 17, 18, 19, 20, 21, 22, 23, 24, 25, 26, 27, 28, 29, 30, 31, 32, 33, 34], [33])])
def graverlaw02_SpanUnions.B36 : List Nat := [0, 0, 3, 7, 15, 0, 0, 96, 224, 480, 1023, 0, 0, 6144, 14336, 30720, 0, 0, 196608, 458752, 983040, 2095104, 0, 0, 12582912, 29360128, 62914560, 0, 0, 402653184, 939524096, 2013265920, 4290772992, 8589932544, 2047, 34359738367]
theorem graverlaw02_SpanUnions.tab36 : rtab .any (opsOf Try.f6 36) = graverlaw02_SpanUnions.T36 := by kernel_rfl
theorem graverlaw02_SpanUnions.bits36 : waitsOk graverlaw02_SpanUnions.T36.2 graverlaw02_SpanUnions.B36 = true := by kernel_rfl
/-- THE ONE PURE STATEMENT of graverlaw02_SpanUnions: yours. -/
def graverlaw02_SpanUnions.Pure : Prop := ∀ (l0 : List (S48)), l0.length * 4 ≤ 140737488351232 → (∀ x ∈ l0, (Lit.int .u16 x.f0).wf = true ∧ (Lit.int .u16 x.f1).wf = true) → ∃ k, graverlaw02_SpanUnions.f k l0 = some true

end Go.Proofs.Yteoeohkjomehoaa.Q
