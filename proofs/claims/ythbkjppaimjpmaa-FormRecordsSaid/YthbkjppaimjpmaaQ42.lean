/- What Go functions of the program compute, each as a Lean function with the proof that the call returns just that. No condition but those in the statements. -/
import Derived.Test.YthbkjppaimjpmaaQ0
import Derived.Test.YthbkjppaimjpmaaQ27
import Derived.Test.YthbkjppaimjpmaaQ28
import Derived.Test.YthbkjppaimjpmaaQ30
import Derived.Test.YthbkjppaimjpmaaQ31
import Derived.Test.YthbkjppaimjpmaaQ32
import Derived.Test.YthbkjppaimjpmaaQ41
namespace Go.Proofs.Ythbkjppaimjpmaa.Q
open Go.RowKit Go.Proofs.YthbkjppaimjpmaaW.PrintWords Go.Proofs.YthbkjppaimjpmaaW.PrintLast Go.Proofs.YthbkjppaimjpmaaW.PrintMore
attribute [local go_sem] max2_int min2_int max_two min_two max_three min_three max_four min_four   -- for this text's walks alone
set_option linter.unusedVariables false
set_option linter.unusedSimpArgs false

/-! ### graverlaw04_FormRecords: function 7 -/
mutual
def graverlaw04_FormRecords.l0 : Nat → List Int → List Int → ByteArray → Bool → ByteArray → Bool → List Int → Int → Int → Int → Bool → Bool → Option (Bool)
  | 0, _, _, _, _, _, _, _, _, _, _, _, _ => none
  | k + 1, x1, x2, x8, x9, x10, x11, x12, x13, x14, x15, x309000, x309001 => if x15 < (x1.length : Int) then (if 0 ≤ x15 then (if (rd x1 x15) = 0 then ((class_Form_Word.f x309000 x309001).bind fun t320 => (if (x12.length : Int) = (x1.length : Int) then (if x15 < (x12.length : Int) then (if (rd x12 x15) = t320 then (graverlaw04_FormRecords.l0 k x1 x2 x8 x9 x10 x11 x12 x13 (wrap64 (x14 + t320)) (wrap64 (x15 + 1)) x309000 x309001) else (some false)) else (none)) else (some false))) else (if (x12.length : Int) = (x1.length : Int) then (if x15 < (x12.length : Int) then (if (rd x12 x15) = (rd x1 x15) then (graverlaw04_FormRecords.l0 k x1 x2 x8 x9 x10 x11 x12 x13 (wrap64 (x14 + (rd x1 x15))) (wrap64 (x15 + 1)) x309000 x309001) else (some false)) else (none)) else (some false))) else (none)) else (graverlaw04_FormRecords.l1 k x2 x8 x9 x10 x11 x13 x14 true 0 x309000 x309001)
def graverlaw04_FormRecords.l1 : Nat → List Int → ByteArray → Bool → ByteArray → Bool → Int → Int → Bool → Int → Bool → Bool → Option (Bool)
  | 0, _, _, _, _, _, _, _, _, _, _, _ => none
  | k + 1, x2, x8, x9, x10, x11, x13, x14, x17, x18, x309000, x309001 => if x18 < (x2.length : Int) then (if x17 = true then (if x309001 = true then (graverlaw04_FormRecords.l1 k x2 x8 x9 x10 x11 x13 x14 true (wrap64 (x18 + 1)) x309000 x309001) else (if 0 ≤ x18 then (graverlaw04_FormRecords.l1 k x2 x8 x9 x10 x11 x13 x14 (decide ((rd x2 x18) < 4294967296)) (wrap64 (x18 + 1)) x309000 x309001) else (none))) else (graverlaw04_FormRecords.l1 k x2 x8 x9 x10 x11 x13 x14 false (wrap64 (x18 + 1)) x309000 x309001)) else (if x8.toList = x10.toList then (if (x9 == x11) = true then (if x13 = x14 then ((class_Form_Fits.f k x309000 x309001 x2).bind fun t324 => (if (t324 == x17) = true then (if x9 = true then (some ((x8.size : Int) == x13)) else (some true)) else (some false))) else (some false)) else (some false)) else (some false))
end
def graverlaw04_FormRecords.f (k : Nat) (a0 : Int) (l1 : List Int) (l2 : List Int) : Option (Bool) := (graverlaw04_speaks.f k).bind fun t307 => (if t307 = true then (if 0 ≤ (mn (l1.length : Int) 12) then (if (mn (l1.length : Int) 12) ≤ (l1.length : Int) then (if 0 ≤ (mn (l2.length : Int) 12) then (if (mn (l2.length : Int) 12) ≤ (l2.length : Int) then ((class_Form_Record.f k ((Go.bits .and .i64 a0 1) == 1) ((Go.bits .and .i64 a0 2) == 2) (l1.take ((mn (l1.length : Int) 12) : Int).toNat) (l2.take ((mn (l2.length : Int) 12) : Int).toNat)).bind fun bt311 => ((graverref04_Record.f k ((Go.bits .and .i64 a0 2) == 2) ((Go.bits .and .i64 a0 1) == 1) (l1.take ((mn (l1.length : Int) 12) : Int).toNat) (l2.take ((mn (l2.length : Int) 12) : Int).toNat)).bind fun bt313 => ((class_Form_Sizes.f k ((Go.bits .and .i64 a0 1) == 1) ((Go.bits .and .i64 a0 2) == 2) (l1.take ((mn (l1.length : Int) 12) : Int).toNat)).bind fun bt315 => (graverlaw04_FormRecords.l0 k (l1.take ((mn (l1.length : Int) 12) : Int).toNat) (l2.take ((mn (l2.length : Int) 12) : Int).toNat) bt311.1 bt311.2 bt313.1 bt313.2 bt315.1 bt315.2 0 0 ((Go.bits .and .i64 a0 1) == 1) ((Go.bits .and .i64 a0 2) == 2))))) else (none)) else (none)) else (none)) else (none)) else (some false))
theorem graverlaw04_FormRecords.mono_l : ∀ k, (∀ y0 y1 y2 y3 y4 y5 y6 y7 y8 y9 y10 y11, LeO (graverlaw04_FormRecords.l0 k y0 y1 y2 y3 y4 y5 y6 y7 y8 y9 y10 y11) (graverlaw04_FormRecords.l0 (k + 1) y0 y1 y2 y3 y4 y5 y6 y7 y8 y9 y10 y11)) ∧ (∀ y0 y1 y2 y3 y4 y5 y6 y7 y8 y9 y10, LeO (graverlaw04_FormRecords.l1 k y0 y1 y2 y3 y4 y5 y6 y7 y8 y9 y10) (graverlaw04_FormRecords.l1 (k + 1) y0 y1 y2 y3 y4 y5 y6 y7 y8 y9 y10))
  | 0 => ⟨fun _ _ _ _ _ _ _ _ _ _ _ _ r h => by simp [graverlaw04_FormRecords.l0] at h, fun _ _ _ _ _ _ _ _ _ _ _ r h => by simp [graverlaw04_FormRecords.l1] at h⟩
  | k + 1 => by
    obtain ⟨ih0, ih1⟩ := graverlaw04_FormRecords.mono_l k
    refine ⟨?_, ?_⟩
    · intro y0 y1 y2 y3 y4 y5 y6 y7 y8 y9 y10 y11
      unfold graverlaw04_FormRecords.l0
      repeat' first
      | (with_reducible exact ih0 _ _ _ _ _ _ _ _ _ _ _ _)
      | (with_reducible exact ih1 _ _ _ _ _ _ _ _ _ _ _)
      | (with_reducible exact class_Form_Fits.mono _ _ _ _)
      | (with_reducible exact class_Form_Record.mono _ _ _ _ _)
      | (with_reducible exact class_Form_Sizes.mono _ _ _ _)
      | (with_reducible exact graverlaw04_speaks.mono _)
      | (with_reducible exact graverref04_Record.mono _ _ _ _ _)
      | (with_reducible exact LeO.refl _)
      | (with_reducible exact LeO.none _)
      | (with_reducible refine LeO.ite ?_ ?_)
      | (with_reducible refine LeO.bind ?_ (fun _ => ?_))
      | exact ih0 _ _ _ _ _ _ _ _ _ _ _ _
      | exact ih1 _ _ _ _ _ _ _ _ _ _ _
      | exact class_Form_Fits.mono _ _ _ _
      | exact class_Form_Record.mono _ _ _ _ _
      | exact class_Form_Sizes.mono _ _ _ _
      | exact graverlaw04_speaks.mono _
      | exact graverref04_Record.mono _ _ _ _ _
      | exact LeO.none _
      | refine LeO.ite ?_ ?_
      | refine LeO.bind ?_ (fun _ => ?_)
    · intro y0 y1 y2 y3 y4 y5 y6 y7 y8 y9 y10
      unfold graverlaw04_FormRecords.l1
      repeat' first
      | (with_reducible exact ih0 _ _ _ _ _ _ _ _ _ _ _ _)
      | (with_reducible exact ih1 _ _ _ _ _ _ _ _ _ _ _)
      | (with_reducible exact class_Form_Fits.mono _ _ _ _)
      | (with_reducible exact class_Form_Record.mono _ _ _ _ _)
      | (with_reducible exact class_Form_Sizes.mono _ _ _ _)
      | (with_reducible exact graverlaw04_speaks.mono _)
      | (with_reducible exact graverref04_Record.mono _ _ _ _ _)
      | (with_reducible exact LeO.refl _)
      | (with_reducible exact LeO.none _)
      | (with_reducible refine LeO.ite ?_ ?_)
      | (with_reducible refine LeO.bind ?_ (fun _ => ?_))
      | exact ih0 _ _ _ _ _ _ _ _ _ _ _ _
      | exact ih1 _ _ _ _ _ _ _ _ _ _ _
      | exact class_Form_Fits.mono _ _ _ _
      | exact class_Form_Record.mono _ _ _ _ _
      | exact class_Form_Sizes.mono _ _ _ _
      | exact graverlaw04_speaks.mono _
      | exact graverref04_Record.mono _ _ _ _ _
      | exact LeO.none _
      | refine LeO.ite ?_ ?_
      | refine LeO.bind ?_ (fun _ => ?_)
theorem graverlaw04_FormRecords.mono : ∀ a0 a1 a2 k, LeO (graverlaw04_FormRecords.f k a0 a1 a2) (graverlaw04_FormRecords.f (k + 1) a0 a1 a2) := by
  intro a0 a1 a2 k
  obtain ⟨ih0, ih1⟩ := graverlaw04_FormRecords.mono_l k
  unfold graverlaw04_FormRecords.f
  repeat' first
      | (with_reducible exact ih0 _ _ _ _ _ _ _ _ _ _ _ _)
      | (with_reducible exact ih1 _ _ _ _ _ _ _ _ _ _ _)
      | (with_reducible exact class_Form_Fits.mono _ _ _ _)
      | (with_reducible exact class_Form_Record.mono _ _ _ _ _)
      | (with_reducible exact class_Form_Sizes.mono _ _ _ _)
      | (with_reducible exact graverlaw04_speaks.mono _)
      | (with_reducible exact graverref04_Record.mono _ _ _ _ _)
      | (with_reducible exact LeO.refl _)
      | (with_reducible exact LeO.none _)
      | (with_reducible refine LeO.ite ?_ ?_)
      | (with_reducible refine LeO.bind ?_ (fun _ => ?_))
      | exact ih0 _ _ _ _ _ _ _ _ _ _ _ _
      | exact ih1 _ _ _ _ _ _ _ _ _ _ _
      | exact class_Form_Fits.mono _ _ _ _
      | exact class_Form_Record.mono _ _ _ _ _
      | exact class_Form_Sizes.mono _ _ _ _
      | exact graverlaw04_speaks.mono _
      | exact graverref04_Record.mono _ _ _ _ _
      | exact LeO.none _
      | refine LeO.ite ?_ ?_
      | refine LeO.bind ?_ (fun _ => ?_)
set_option maxHeartbeats 8000000 in
set_option maxRecDepth 100000 in
theorem graverlaw04_FormRecords.calls (k : Nat) (a0 : Int) (A1 : Option Addr) (c1 : Nat) (l1 : List Int) (A2 : Option Addr) (c2 : Nat) (l2 : List Int) (r : Bool) (w : World) (hr1 : Kd.C (Kd.int .i64) w A1 l1.length l1) (hc1 : l1.length ≤ c1) (hr2 : Kd.C (Kd.int .u64) w A2 l2.length l2) (hc2 : l2.length ≤ c2) (h : graverlaw04_FormRecords.f k a0 l1 l2 = some r) :
    Calls Try.prog 7 #[.int .i64 a0, .slice A1 l1.length c1, .slice A2 l2.length c2] w fun e w' => e = .returned (.bool r) ∧ Below w.heap.size w w' := by
  have hu25 := Try.underlying25
  have hu49 := Try.underlying49
  have HR1 := Aside0.mk hr1
  have HC1 := Aside0.mk hc1
  clear hr1 hc1
  have HR2 := Aside0.mk hr2
  have HC2 := Aside0.mk hc2
  clear hr2 hc2
  have HB := Aside0.mk (Below.refl w.heap.size w)
  have H : ((graverlaw04_speaks.f k).bind fun t307 => (if t307 = true then (if 0 ≤ (mn (l1.length : Int) 12) then (if (mn (l1.length : Int) 12) ≤ (l1.length : Int) then (if 0 ≤ (mn (l2.length : Int) 12) then (if (mn (l2.length : Int) 12) ≤ (l2.length : Int) then ((class_Form_Record.f k ((Go.bits .and .i64 a0 1) == 1) ((Go.bits .and .i64 a0 2) == 2) (l1.take ((mn (l1.length : Int) 12) : Int).toNat) (l2.take ((mn (l2.length : Int) 12) : Int).toNat)).bind fun bt311 => ((graverref04_Record.f k ((Go.bits .and .i64 a0 2) == 2) ((Go.bits .and .i64 a0 1) == 1) (l1.take ((mn (l1.length : Int) 12) : Int).toNat) (l2.take ((mn (l2.length : Int) 12) : Int).toNat)).bind fun bt313 => ((class_Form_Sizes.f k ((Go.bits .and .i64 a0 1) == 1) ((Go.bits .and .i64 a0 2) == 2) (l1.take ((mn (l1.length : Int) 12) : Int).toNat)).bind fun bt315 => (graverlaw04_FormRecords.l0 k (l1.take ((mn (l1.length : Int) 12) : Int).toNat) (l2.take ((mn (l2.length : Int) 12) : Int).toNat) bt311.1 bt311.2 bt313.1 bt313.2 bt315.1 bt315.2 0 0 ((Go.bits .and .i64 a0 1) == 1) ((Go.bits .and .i64 a0 2) == 2))))) else (none)) else (none)) else (none)) else (none)) else (some false))) = some r := h
  clear h
  replace H := Option.bind_eq_some_iff.mp H
  obtain ⟨t307, A40, H⟩ := H
  replace H : (if t307 = true then (if 0 ≤ (mn (l1.length : Int) 12) then (if (mn (l1.length : Int) 12) ≤ (l1.length : Int) then (if 0 ≤ (mn (l2.length : Int) 12) then (if (mn (l2.length : Int) 12) ≤ (l2.length : Int) then ((class_Form_Record.f k ((Go.bits .and .i64 a0 1) == 1) ((Go.bits .and .i64 a0 2) == 2) (l1.take ((mn (l1.length : Int) 12) : Int).toNat) (l2.take ((mn (l2.length : Int) 12) : Int).toNat)).bind fun bt311 => ((graverref04_Record.f k ((Go.bits .and .i64 a0 2) == 2) ((Go.bits .and .i64 a0 1) == 1) (l1.take ((mn (l1.length : Int) 12) : Int).toNat) (l2.take ((mn (l2.length : Int) 12) : Int).toNat)).bind fun bt313 => ((class_Form_Sizes.f k ((Go.bits .and .i64 a0 1) == 1) ((Go.bits .and .i64 a0 2) == 2) (l1.take ((mn (l1.length : Int) 12) : Int).toNat)).bind fun bt315 => (graverlaw04_FormRecords.l0 k (l1.take ((mn (l1.length : Int) 12) : Int).toNat) (l2.take ((mn (l2.length : Int) 12) : Int).toNat) bt311.1 bt311.2 bt313.1 bt313.2 bt315.1 bt315.2 0 0 ((Go.bits .and .i64 a0 1) == 1) ((Go.bits .and .i64 a0 2) == 2))))) else (none)) else (none)) else (none)) else (none)) else (some false)) = some r := H
  have A4 := Aside0.mk A40
  clear A40
  by_cases c5 : t307 = true
  · subst c5
    have H1 : (if 0 ≤ (mn (l1.length : Int) 12) then (if (mn (l1.length : Int) 12) ≤ (l1.length : Int) then (if 0 ≤ (mn (l2.length : Int) 12) then (if (mn (l2.length : Int) 12) ≤ (l2.length : Int) then ((class_Form_Record.f k ((Go.bits .and .i64 a0 1) == 1) ((Go.bits .and .i64 a0 2) == 2) (l1.take ((mn (l1.length : Int) 12) : Int).toNat) (l2.take ((mn (l2.length : Int) 12) : Int).toNat)).bind fun bt311 => ((graverref04_Record.f k ((Go.bits .and .i64 a0 2) == 2) ((Go.bits .and .i64 a0 1) == 1) (l1.take ((mn (l1.length : Int) 12) : Int).toNat) (l2.take ((mn (l2.length : Int) 12) : Int).toNat)).bind fun bt313 => ((class_Form_Sizes.f k ((Go.bits .and .i64 a0 1) == 1) ((Go.bits .and .i64 a0 2) == 2) (l1.take ((mn (l1.length : Int) 12) : Int).toNat)).bind fun bt315 => (graverlaw04_FormRecords.l0 k (l1.take ((mn (l1.length : Int) 12) : Int).toNat) (l2.take ((mn (l2.length : Int) 12) : Int).toNat) bt311.1 bt311.2 bt313.1 bt313.2 bt315.1 bt315.2 0 0 ((Go.bits .and .i64 a0 1) == 1) ((Go.bits .and .i64 a0 2) == 2))))) else (none)) else (none)) else (none)) else (none)) = some r := by rw [if_pos rfl] at H; exact H
    clear H
    have H := H1
    clear H1
    obtain ⟨bl6, hbl6⟩ : ∃ s_ : Bool, (((Go.bits .and .i64 a0 1) == 1)) = s_ := ⟨_, rfl⟩
    replace H : (if 0 ≤ (mn (l1.length : Int) 12) then (if (mn (l1.length : Int) 12) ≤ (l1.length : Int) then (if 0 ≤ (mn (l2.length : Int) 12) then (if (mn (l2.length : Int) 12) ≤ (l2.length : Int) then ((class_Form_Record.f k bl6 ((Go.bits .and .i64 a0 2) == 2) (l1.take ((mn (l1.length : Int) 12) : Int).toNat) (l2.take ((mn (l2.length : Int) 12) : Int).toNat)).bind fun bt311 => ((graverref04_Record.f k ((Go.bits .and .i64 a0 2) == 2) bl6 (l1.take ((mn (l1.length : Int) 12) : Int).toNat) (l2.take ((mn (l2.length : Int) 12) : Int).toNat)).bind fun bt313 => ((class_Form_Sizes.f k bl6 ((Go.bits .and .i64 a0 2) == 2) (l1.take ((mn (l1.length : Int) 12) : Int).toNat)).bind fun bt315 => (graverlaw04_FormRecords.l0 k (l1.take ((mn (l1.length : Int) 12) : Int).toNat) (l2.take ((mn (l2.length : Int) 12) : Int).toNat) bt311.1 bt311.2 bt313.1 bt313.2 bt315.1 bt315.2 0 0 bl6 ((Go.bits .and .i64 a0 2) == 2))))) else (none)) else (none)) else (none)) else (none)) = some r := by first | (rw [hbl6] at H; exact H) | (simp only [hbl6] at H ⊢; exact H) | exact H
    obtain ⟨bl7, hbl7⟩ : ∃ s_ : Bool, (((Go.bits .and .i64 a0 2) == 2)) = s_ := ⟨_, rfl⟩
    replace H : (if 0 ≤ (mn (l1.length : Int) 12) then (if (mn (l1.length : Int) 12) ≤ (l1.length : Int) then (if 0 ≤ (mn (l2.length : Int) 12) then (if (mn (l2.length : Int) 12) ≤ (l2.length : Int) then ((class_Form_Record.f k bl6 bl7 (l1.take ((mn (l1.length : Int) 12) : Int).toNat) (l2.take ((mn (l2.length : Int) 12) : Int).toNat)).bind fun bt311 => ((graverref04_Record.f k bl7 bl6 (l1.take ((mn (l1.length : Int) 12) : Int).toNat) (l2.take ((mn (l2.length : Int) 12) : Int).toNat)).bind fun bt313 => ((class_Form_Sizes.f k bl6 bl7 (l1.take ((mn (l1.length : Int) 12) : Int).toNat)).bind fun bt315 => (graverlaw04_FormRecords.l0 k (l1.take ((mn (l1.length : Int) 12) : Int).toNat) (l2.take ((mn (l2.length : Int) 12) : Int).toNat) bt311.1 bt311.2 bt313.1 bt313.2 bt315.1 bt315.2 0 0 bl6 bl7)))) else (none)) else (none)) else (none)) else (none)) = some r := by first | (rw [hbl7] at H; exact H) | (simp only [hbl7] at H ⊢; exact H) | exact H
    obtain ⟨ji8, hji8⟩ : ∃ j_ : Int, (mn (l1.length : Int) 12) = j_ := ⟨_, rfl⟩
    replace H : (if 0 ≤ (ji8) then (if (ji8) ≤ (l1.length : Int) then (if 0 ≤ (mn (l2.length : Int) 12) then (if (mn (l2.length : Int) 12) ≤ (l2.length : Int) then ((class_Form_Record.f k bl6 bl7 (l1.take ((ji8) : Int).toNat) (l2.take ((mn (l2.length : Int) 12) : Int).toNat)).bind fun bt311 => ((graverref04_Record.f k bl7 bl6 (l1.take ((ji8) : Int).toNat) (l2.take ((mn (l2.length : Int) 12) : Int).toNat)).bind fun bt313 => ((class_Form_Sizes.f k bl6 bl7 (l1.take ((ji8) : Int).toNat)).bind fun bt315 => (graverlaw04_FormRecords.l0 k (l1.take ((ji8) : Int).toNat) (l2.take ((mn (l2.length : Int) 12) : Int).toNat) bt311.1 bt311.2 bt313.1 bt313.2 bt315.1 bt315.2 0 0 bl6 bl7)))) else (none)) else (none)) else (none)) else (none)) = some r := by first | (rw [hji8] at H; exact H) | (simp only [hji8] at H ⊢; exact H)
    (try rw [hji8] at A4)
    (try (have hji8h : ji8 ≤ 12 := by (rw [← hji8]; unfold mn; (repeat' split) <;> omega)))
    (try (have hji8g : ji8 ≤ 64 := by omega))
    (try (have hji8l : 0 ≤ ji8 := by (rw [← hji8]; unfold mn; (repeat' split) <;> omega)))
    (try (have hji8m : 0 ≤ ji8 := by omega))
    have hji8_ : (if 12 < (l1.length : Int) then 12 else (l1.length : Int)) = ji8 := hji8
    by_cases c9 : 0 ≤ (ji8)
    · rw [if_pos c9] at H
      have c9b0 := eq_true c9
      have c9b1 : decide (0 ≤ (ji8)) = true := decide_eq_true c9
      clear c9
      by_cases c10 : (ji8) ≤ (l1.length : Int)
      · rw [if_pos c10] at H
        have c10b0 := eq_true c10
        have c10b1 : decide ((ji8) ≤ (l1.length : Int)) = true := decide_eq_true c10
        clear c10
        obtain ⟨cu11, hcu11⟩ : ∃ s_ : List Int, (l1.take ((ji8) : Int).toNat) = s_ := ⟨_, rfl⟩
        replace H : (if 0 ≤ (mn (l2.length : Int) 12) then (if (mn (l2.length : Int) 12) ≤ (l2.length : Int) then ((class_Form_Record.f k bl6 bl7 cu11 (l2.take ((mn (l2.length : Int) 12) : Int).toNat)).bind fun bt311 => ((graverref04_Record.f k bl7 bl6 cu11 (l2.take ((mn (l2.length : Int) 12) : Int).toNat)).bind fun bt313 => ((class_Form_Sizes.f k bl6 bl7 cu11).bind fun bt315 => (graverlaw04_FormRecords.l0 k cu11 (l2.take ((mn (l2.length : Int) 12) : Int).toNat) bt311.1 bt311.2 bt313.1 bt313.2 bt315.1 bt315.2 0 0 bl6 bl7)))) else (none)) else (none)) = some r := by first | (rw [hcu11] at H; exact H) | (simp only [hcu11] at H ⊢; exact H) | exact H
        replace hcu11 := Aside0.mk hcu11
        obtain ⟨ji12, hji12⟩ : ∃ j_ : Int, (mn (l2.length : Int) 12) = j_ := ⟨_, rfl⟩
        replace H : (if 0 ≤ (ji12) then (if (ji12) ≤ (l2.length : Int) then ((class_Form_Record.f k bl6 bl7 cu11 (l2.take ((ji12) : Int).toNat)).bind fun bt311 => ((graverref04_Record.f k bl7 bl6 cu11 (l2.take ((ji12) : Int).toNat)).bind fun bt313 => ((class_Form_Sizes.f k bl6 bl7 cu11).bind fun bt315 => (graverlaw04_FormRecords.l0 k cu11 (l2.take ((ji12) : Int).toNat) bt311.1 bt311.2 bt313.1 bt313.2 bt315.1 bt315.2 0 0 bl6 bl7)))) else (none)) else (none)) = some r := by first | (rw [hji12] at H; exact H) | (simp only [hji12] at H ⊢; exact H)
        (try rw [hji12] at A4)
        (try (have hji12h : ji12 ≤ 12 := by (rw [← hji12]; unfold mn; (repeat' split) <;> omega)))
        (try (have hji12g : ji12 ≤ 64 := by omega))
        (try (have hji12l : 0 ≤ ji12 := by (rw [← hji12]; unfold mn; (repeat' split) <;> omega)))
        (try (have hji12m : 0 ≤ ji12 := by omega))
        have hji12_ : (if 12 < (l2.length : Int) then 12 else (l2.length : Int)) = ji12 := hji12
        by_cases c13 : 0 ≤ (ji12)
        · rw [if_pos c13] at H
          have c13b0 := eq_true c13
          have c13b1 : decide (0 ≤ (ji12)) = true := decide_eq_true c13
          clear c13
          by_cases c14 : (ji12) ≤ (l2.length : Int)
          · rw [if_pos c14] at H
            have c14b0 := eq_true c14
            have c14b1 : decide ((ji12) ≤ (l2.length : Int)) = true := decide_eq_true c14
            clear c14
            obtain ⟨cu15, hcu15⟩ : ∃ s_ : List Int, (l2.take ((ji12) : Int).toNat) = s_ := ⟨_, rfl⟩
            replace H : ((class_Form_Record.f k bl6 bl7 cu11 cu15).bind fun bt311 => ((graverref04_Record.f k bl7 bl6 cu11 cu15).bind fun bt313 => ((class_Form_Sizes.f k bl6 bl7 cu11).bind fun bt315 => (graverlaw04_FormRecords.l0 k cu11 cu15 bt311.1 bt311.2 bt313.1 bt313.2 bt315.1 bt315.2 0 0 bl6 bl7)))) = some r := by first | (rw [hcu15] at H; exact H) | (simp only [hcu15] at H ⊢; exact H) | exact H
            replace hcu15 := Aside0.mk hcu15
            replace H := Option.bind_eq_some_iff.mp H
            obtain ⟨⟨t311, t312⟩, A160, H⟩ := H
            replace H : ((graverref04_Record.f k bl7 bl6 cu11 cu15).bind fun bt313 => ((class_Form_Sizes.f k bl6 bl7 cu11).bind fun bt315 => (graverlaw04_FormRecords.l0 k cu11 cu15 t311 t312 bt313.1 bt313.2 bt315.1 bt315.2 0 0 bl6 bl7))) = some r := H
            have A16 := Aside0.mk A160
            clear A160
            replace H := Option.bind_eq_some_iff.mp H
            obtain ⟨⟨t313, t314⟩, A170, H⟩ := H
            replace H : ((class_Form_Sizes.f k bl6 bl7 cu11).bind fun bt315 => (graverlaw04_FormRecords.l0 k cu11 cu15 t311 t312 t313 t314 bt315.1 bt315.2 0 0 bl6 bl7)) = some r := H
            have A17 := Aside0.mk A170
            clear A170
            replace H := Option.bind_eq_some_iff.mp H
            obtain ⟨⟨t315, t318⟩, A180, H⟩ := H
            replace H : (graverlaw04_FormRecords.l0 k cu11 cu15 t311 t312 t313 t314 t315 t318 0 0 bl6 bl7) = some r := H
            have A18 := Aside0.mk A180
            clear A180
            have H' := Aside0.mk H
            clear H
            go_enter Try.func7, Try.ntmps7
            go_wp2_with (first | (go_at_call 22; (with_reducible refine (graverlaw04_speaks.calls k  true _ A4.out).mono ?_); rintro e w19 ⟨rfl, hb⟩; have n0_ := Aside0.mk (below_step (by repeat (first | (with_reducible first | exact HB.out | apply below_alloc | apply pw_below_drewN | apply below_drew1) | exact HB.out)) hb); clear HB; have HB := n0_; clear n0_; (try clear hb); (try clear hb2); (try clear hk); (try clear hi)) | ((with_reducible refine gate_dst (N := 7) rfl ?_); (try (refine gate_guard (by rfl) ?_; dsimp only)); refine box_event ?hg (N := 7) ?hd (cs := #[.bool false, .bool false]) (t := 49) ?hr ?_; (case hd => rfl); (case hg => rfl); (case hr => first | (go_simp; done) | (go_simp; rfl)); intro gb308 hg w20 hbox hb; have n0_ := Aside0.mk (below_step (by repeat (first | (with_reducible first | exact HB.out | apply below_alloc | apply pw_below_drewN | apply below_drew1) | exact HB.out)) hb); have n1_ := Aside0.mk (hbox); have n2_ := Aside0.mk ((by rw [hg]; exact (below_size (by repeat (first | (with_reducible first | exact HB.out | apply below_alloc | apply pw_below_drewN | apply below_drew1) | exact HB.out))) : w.heap.size ≤ gb308)); have n3_ := Aside0.mk ((by rw [hg]; exact (below_size (by repeat (first | (with_reducible first | exact HB.out | apply below_alloc | apply pw_below_drewN | apply below_drew1) | exact HB.out))) : w.heap.size ≤ gb308)); clear HB; have HB := n0_; have BK308 := n1_; have GW308 := n2_; have GE308 := n3_; clear n0_ n1_ n2_ n3_; clear hb hbox hg; have hcz21_0 : w20.cell? ⟨gb308, 0, none⟩ = some (.bool false) := (blk_cell BK308.out 0).trans rfl; have hcz21_1 : w20.cell? ⟨gb308, 1, none⟩ = some (.bool false) := (blk_cell BK308.out 1).trans rfl; have hfz21_0 := blk_frozen BK308.out 0; have hfz21_1 := blk_frozen BK308.out 1; obtain ⟨i022, hi022, _, hsz22, _⟩ := info_parts info3; obtain ⟨hcut22, hA22, hC22⟩ := print_take_of (P := Try.prog) (Value.int .i64) 0 34 3 .i64 Try.underlying34 hi022 hsz22 A1 c1 l1 (ji8) (of_decide_eq_true (by first | (with_reducible assumption) | assumption)) (of_decide_eq_true (by first | (with_reducible assumption) | assumption)) HC1.out; rw [hcu11.out] at hcut22; have HR309 := Aside0.mk (by have h_ := Kd.C_of_reads (h1 := fun _ => rfl) (hA22 _ (Kd.reads_of_C HR1.out)); rw [hcu11.out] at h_; exact h_); have HC309 := Aside0.mk (by have h_ := hC22; rw [hcu11.out] at h_; exact h_); clear hA22 hC22 hi022 hsz22; obtain ⟨i023, hi023, _, hsz23, _⟩ := info_parts info22; obtain ⟨hcut23, hA23, hC23⟩ := print_take_of (P := Try.prog) (Value.int .u64) 0 45 22 .i64 Try.underlying45 hi023 hsz23 A2 c2 l2 (ji12) (of_decide_eq_true (by first | (with_reducible assumption) | assumption)) (of_decide_eq_true (by first | (with_reducible assumption) | assumption)) HC2.out; rw [hcu15.out] at hcut23; have HR310 := Aside0.mk (by have h_ := Kd.C_of_reads (h1 := fun _ => rfl) (hA23 _ (Kd.reads_of_C HR2.out)); rw [hcu15.out] at h_; exact h_); have HC310 := Aside0.mk (by have h_ := hC23; rw [hcu15.out] at h_; exact h_); clear hA23 hC23 hi023 hsz23) | (go_at_call 23; (with_reducible refine (class_Form_Record.calls k bl6 bl7 _ _ cu11 _ _ cu15 t311 t312 _ ?side1 ?side2 ?side3 ?side4 A16.out).mono ?_); (case side1 => exact Kd.C_below HR309.out (by repeat (first | (with_reducible first | exact HB.out | apply below_alloc | apply pw_below_drewN | apply below_drew1 | refine below_set ?_ GE308.out) | exact HB.out))); (case side2 => exact HC309.out); (case side3 => exact Kd.C_below HR310.out (by repeat (first | (with_reducible first | exact HB.out | apply below_alloc | apply pw_below_drewN | apply below_drew1 | refine below_set ?_ GE308.out) | exact HB.out))); (case side4 => exact HC310.out); rintro e w24 ⟨rfl, hb⟩; have n0_ := Aside0.mk (blk_below (g := gb308) (o := .cells #[.bool bl6, .bool bl7] 49 (0, 0)) (by (with_reducible repeat (first | refine blk_drewN ?_ _ | refine blk_drew ?_ | refine blk_alloc ?_ _)); refine blk_put (cs := #[.bool bl6, .bool false]) ?_ 1 _ rfl; (with_reducible repeat (first | refine blk_drewN ?_ _ | refine blk_drew ?_ | refine blk_alloc ?_ _)); refine blk_put (cs := #[.bool false, .bool false]) ?_ 0 _ rfl; (with_reducible repeat (first | refine blk_drewN ?_ _ | refine blk_drew ?_ | refine blk_alloc ?_ _)); exact BK308.out) hb); have n1_ := Aside0.mk (below_step (by repeat (first | (with_reducible first | exact HB.out | apply below_alloc | apply pw_below_drewN | apply below_drew1 | refine below_set ?_ GE308.out) | exact HB.out)) hb); clear BK308; clear HB; have BK308 := n0_; have HB := n1_; clear n0_ n1_; (try clear hb); (try clear hb2); (try clear hk); (try clear hi); have hcz25_0 : w24.cell? ⟨gb308, 0, none⟩ = some (.bool bl6) := (blk_cell BK308.out 0).trans rfl; have hcz25_1 : w24.cell? ⟨gb308, 1, none⟩ = some (.bool bl7) := (blk_cell BK308.out 1).trans rfl; have hfz25_0 := blk_frozen BK308.out 0; have hfz25_1 := blk_frozen BK308.out 1) | (go_at_call 24; (with_reducible refine (graverref04_Record.calls k bl7 bl6 _ _ cu11 _ _ cu15 t313 t314 _ ?side1 ?side2 ?side3 ?side4 A17.out).mono ?_); (case side1 => repeat (first | exact (Kd.C_below HR309.out HB.out) | (with_reducible refine Kd.C_alloc ?_ _) | (with_reducible refine Kd.C_drewN ?_ _) | (with_reducible refine Kd.C_drew ?_))); (case side2 => exact HC309.out); (case side3 => repeat (first | exact (Kd.C_below HR310.out HB.out) | (with_reducible refine Kd.C_alloc ?_ _) | (with_reducible refine Kd.C_drewN ?_ _) | (with_reducible refine Kd.C_drew ?_))); (case side4 => exact HC310.out); rintro e w26 ⟨rfl, hb⟩; have n0_ := Aside0.mk (blk_below (g := gb308) (o := .cells #[.bool bl6, .bool bl7] 49 (0, 0)) (by (with_reducible repeat (first | refine blk_drewN ?_ _ | refine blk_drew ?_ | refine blk_alloc ?_ _)); exact BK308.out) hb); have n1_ := Aside0.mk (below_step (by repeat (first | (with_reducible first | exact HB.out | apply below_alloc | apply pw_below_drewN | apply below_drew1 | refine below_set ?_ GE308.out) | exact HB.out)) hb); clear BK308; clear HB; have BK308 := n0_; have HB := n1_; clear n0_ n1_; (try clear hb); (try clear hb2); (try clear hk); (try clear hi); have hcz27_0 : w26.cell? ⟨gb308, 0, none⟩ = some (.bool bl6) := (blk_cell BK308.out 0).trans rfl; have hcz27_1 : w26.cell? ⟨gb308, 1, none⟩ = some (.bool bl7) := (blk_cell BK308.out 1).trans rfl; have hfz27_0 := blk_frozen BK308.out 0; have hfz27_1 := blk_frozen BK308.out 1) | (go_at_call 25; (with_reducible refine (class_Form_Sizes.calls k bl6 bl7 _ _ cu11 t315 t318 _ ?side1 ?side2 A18.out).mono ?_); (case side1 => repeat (first | exact (Kd.C_below HR309.out HB.out) | (with_reducible refine Kd.C_alloc ?_ _) | (with_reducible refine Kd.C_drewN ?_ _) | (with_reducible refine Kd.C_drew ?_))); (case side2 => exact HC309.out); rintro e w28 ⟨v316, rfl, ho0, hb⟩; have n0_ := Aside0.mk (Kd.R_lower ho0 (below_size (by repeat (first | (with_reducible first | exact HB.out | apply below_alloc | apply pw_below_drewN | apply below_drew1 | refine below_set ?_ GE308.out) | exact HB.out)))); have n1_ := Aside0.mk (blk_below (g := gb308) (o := .cells #[.bool bl6, .bool bl7] 49 (0, 0)) (by (with_reducible repeat (first | refine blk_drewN ?_ _ | refine blk_drew ?_ | refine blk_alloc ?_ _)); exact BK308.out) hb); have n2_ := Aside0.mk (below_step (by repeat (first | (with_reducible first | exact HB.out | apply below_alloc | apply pw_below_drewN | apply below_drew1 | refine below_set ?_ GE308.out) | exact HB.out)) hb); clear BK308; clear HB; have HO317 := n0_; have BK308 := n1_; have HB := n2_; clear n0_ n1_ n2_; (try clear hb); (try clear hb2); (try clear hk); (try clear hi); (try clear ho0)))
            repeat (go_quiet (first | (go_at_call 22; (with_reducible refine (graverlaw04_speaks.calls k  true _ A4.out).mono ?_); rintro e w19 ⟨rfl, hb⟩; have n0_ := Aside0.mk (below_step (by repeat (first | (with_reducible first | exact HB.out | apply below_alloc | apply pw_below_drewN | apply below_drew1) | exact HB.out)) hb); clear HB; have HB := n0_; clear n0_; (try clear hb); (try clear hb2); (try clear hk); (try clear hi)) | ((with_reducible refine gate_dst (N := 7) rfl ?_); (try (refine gate_guard (by rfl) ?_; dsimp only)); refine box_event ?hg (N := 7) ?hd (cs := #[.bool false, .bool false]) (t := 49) ?hr ?_; (case hd => rfl); (case hg => rfl); (case hr => first | (go_simp; done) | (go_simp; rfl)); intro gb308 hg w20 hbox hb; have n0_ := Aside0.mk (below_step (by repeat (first | (with_reducible first | exact HB.out | apply below_alloc | apply pw_below_drewN | apply below_drew1) | exact HB.out)) hb); have n1_ := Aside0.mk (hbox); have n2_ := Aside0.mk ((by rw [hg]; exact (below_size (by repeat (first | (with_reducible first | exact HB.out | apply below_alloc | apply pw_below_drewN | apply below_drew1) | exact HB.out))) : w.heap.size ≤ gb308)); have n3_ := Aside0.mk ((by rw [hg]; exact (below_size (by repeat (first | (with_reducible first | exact HB.out | apply below_alloc | apply pw_below_drewN | apply below_drew1) | exact HB.out))) : w.heap.size ≤ gb308)); clear HB; have HB := n0_; have BK308 := n1_; have GW308 := n2_; have GE308 := n3_; clear n0_ n1_ n2_ n3_; clear hb hbox hg; have hcz21_0 : w20.cell? ⟨gb308, 0, none⟩ = some (.bool false) := (blk_cell BK308.out 0).trans rfl; have hcz21_1 : w20.cell? ⟨gb308, 1, none⟩ = some (.bool false) := (blk_cell BK308.out 1).trans rfl; have hfz21_0 := blk_frozen BK308.out 0; have hfz21_1 := blk_frozen BK308.out 1; obtain ⟨i022, hi022, _, hsz22, _⟩ := info_parts info3; obtain ⟨hcut22, hA22, hC22⟩ := print_take_of (P := Try.prog) (Value.int .i64) 0 34 3 .i64 Try.underlying34 hi022 hsz22 A1 c1 l1 (ji8) (of_decide_eq_true (by first | (with_reducible assumption) | assumption)) (of_decide_eq_true (by first | (with_reducible assumption) | assumption)) HC1.out; rw [hcu11.out] at hcut22; have HR309 := Aside0.mk (by have h_ := Kd.C_of_reads (h1 := fun _ => rfl) (hA22 _ (Kd.reads_of_C HR1.out)); rw [hcu11.out] at h_; exact h_); have HC309 := Aside0.mk (by have h_ := hC22; rw [hcu11.out] at h_; exact h_); clear hA22 hC22 hi022 hsz22; obtain ⟨i023, hi023, _, hsz23, _⟩ := info_parts info22; obtain ⟨hcut23, hA23, hC23⟩ := print_take_of (P := Try.prog) (Value.int .u64) 0 45 22 .i64 Try.underlying45 hi023 hsz23 A2 c2 l2 (ji12) (of_decide_eq_true (by first | (with_reducible assumption) | assumption)) (of_decide_eq_true (by first | (with_reducible assumption) | assumption)) HC2.out; rw [hcu15.out] at hcut23; have HR310 := Aside0.mk (by have h_ := Kd.C_of_reads (h1 := fun _ => rfl) (hA23 _ (Kd.reads_of_C HR2.out)); rw [hcu15.out] at h_; exact h_); have HC310 := Aside0.mk (by have h_ := hC23; rw [hcu15.out] at h_; exact h_); clear hA23 hC23 hi023 hsz23) | (go_at_call 23; (with_reducible refine (class_Form_Record.calls k bl6 bl7 _ _ cu11 _ _ cu15 t311 t312 _ ?side1 ?side2 ?side3 ?side4 A16.out).mono ?_); (case side1 => exact Kd.C_below HR309.out (by repeat (first | (with_reducible first | exact HB.out | apply below_alloc | apply pw_below_drewN | apply below_drew1 | refine below_set ?_ GE308.out) | exact HB.out))); (case side2 => exact HC309.out); (case side3 => exact Kd.C_below HR310.out (by repeat (first | (with_reducible first | exact HB.out | apply below_alloc | apply pw_below_drewN | apply below_drew1 | refine below_set ?_ GE308.out) | exact HB.out))); (case side4 => exact HC310.out); rintro e w24 ⟨rfl, hb⟩; have n0_ := Aside0.mk (blk_below (g := gb308) (o := .cells #[.bool bl6, .bool bl7] 49 (0, 0)) (by (with_reducible repeat (first | refine blk_drewN ?_ _ | refine blk_drew ?_ | refine blk_alloc ?_ _)); refine blk_put (cs := #[.bool bl6, .bool false]) ?_ 1 _ rfl; (with_reducible repeat (first | refine blk_drewN ?_ _ | refine blk_drew ?_ | refine blk_alloc ?_ _)); refine blk_put (cs := #[.bool false, .bool false]) ?_ 0 _ rfl; (with_reducible repeat (first | refine blk_drewN ?_ _ | refine blk_drew ?_ | refine blk_alloc ?_ _)); exact BK308.out) hb); have n1_ := Aside0.mk (below_step (by repeat (first | (with_reducible first | exact HB.out | apply below_alloc | apply pw_below_drewN | apply below_drew1 | refine below_set ?_ GE308.out) | exact HB.out)) hb); clear BK308; clear HB; have BK308 := n0_; have HB := n1_; clear n0_ n1_; (try clear hb); (try clear hb2); (try clear hk); (try clear hi); have hcz25_0 : w24.cell? ⟨gb308, 0, none⟩ = some (.bool bl6) := (blk_cell BK308.out 0).trans rfl; have hcz25_1 : w24.cell? ⟨gb308, 1, none⟩ = some (.bool bl7) := (blk_cell BK308.out 1).trans rfl; have hfz25_0 := blk_frozen BK308.out 0; have hfz25_1 := blk_frozen BK308.out 1) | (go_at_call 24; (with_reducible refine (graverref04_Record.calls k bl7 bl6 _ _ cu11 _ _ cu15 t313 t314 _ ?side1 ?side2 ?side3 ?side4 A17.out).mono ?_); (case side1 => repeat (first | exact (Kd.C_below HR309.out HB.out) | (with_reducible refine Kd.C_alloc ?_ _) | (with_reducible refine Kd.C_drewN ?_ _) | (with_reducible refine Kd.C_drew ?_))); (case side2 => exact HC309.out); (case side3 => repeat (first | exact (Kd.C_below HR310.out HB.out) | (with_reducible refine Kd.C_alloc ?_ _) | (with_reducible refine Kd.C_drewN ?_ _) | (with_reducible refine Kd.C_drew ?_))); (case side4 => exact HC310.out); rintro e w26 ⟨rfl, hb⟩; have n0_ := Aside0.mk (blk_below (g := gb308) (o := .cells #[.bool bl6, .bool bl7] 49 (0, 0)) (by (with_reducible repeat (first | refine blk_drewN ?_ _ | refine blk_drew ?_ | refine blk_alloc ?_ _)); exact BK308.out) hb); have n1_ := Aside0.mk (below_step (by repeat (first | (with_reducible first | exact HB.out | apply below_alloc | apply pw_below_drewN | apply below_drew1 | refine below_set ?_ GE308.out) | exact HB.out)) hb); clear BK308; clear HB; have BK308 := n0_; have HB := n1_; clear n0_ n1_; (try clear hb); (try clear hb2); (try clear hk); (try clear hi); have hcz27_0 : w26.cell? ⟨gb308, 0, none⟩ = some (.bool bl6) := (blk_cell BK308.out 0).trans rfl; have hcz27_1 : w26.cell? ⟨gb308, 1, none⟩ = some (.bool bl7) := (blk_cell BK308.out 1).trans rfl; have hfz27_0 := blk_frozen BK308.out 0; have hfz27_1 := blk_frozen BK308.out 1) | (go_at_call 25; (with_reducible refine (class_Form_Sizes.calls k bl6 bl7 _ _ cu11 t315 t318 _ ?side1 ?side2 A18.out).mono ?_); (case side1 => repeat (first | exact (Kd.C_below HR309.out HB.out) | (with_reducible refine Kd.C_alloc ?_ _) | (with_reducible refine Kd.C_drewN ?_ _) | (with_reducible refine Kd.C_drew ?_))); (case side2 => exact HC309.out); rintro e w28 ⟨v316, rfl, ho0, hb⟩; have n0_ := Aside0.mk (Kd.R_lower ho0 (below_size (by repeat (first | (with_reducible first | exact HB.out | apply below_alloc | apply pw_below_drewN | apply below_drew1 | refine below_set ?_ GE308.out) | exact HB.out)))); have n1_ := Aside0.mk (blk_below (g := gb308) (o := .cells #[.bool bl6, .bool bl7] 49 (0, 0)) (by (with_reducible repeat (first | refine blk_drewN ?_ _ | refine blk_drew ?_ | refine blk_alloc ?_ _)); exact BK308.out) hb); have n2_ := Aside0.mk (below_step (by repeat (first | (with_reducible first | exact HB.out | apply below_alloc | apply pw_below_drewN | apply below_drew1 | refine below_set ?_ GE308.out) | exact HB.out)) hb); clear BK308; clear HB; have HO317 := n0_; have BK308 := n1_; have HB := n2_; clear n0_ n1_ n2_; (try clear hb); (try clear hb2); (try clear hk); (try clear hi); (try clear ho0))); try go_wp2_with (first | (go_at_call 22; (with_reducible refine (graverlaw04_speaks.calls k  true _ A4.out).mono ?_); rintro e w19 ⟨rfl, hb⟩; have n0_ := Aside0.mk (below_step (by repeat (first | (with_reducible first | exact HB.out | apply below_alloc | apply pw_below_drewN | apply below_drew1) | exact HB.out)) hb); clear HB; have HB := n0_; clear n0_; (try clear hb); (try clear hb2); (try clear hk); (try clear hi)) | ((with_reducible refine gate_dst (N := 7) rfl ?_); (try (refine gate_guard (by rfl) ?_; dsimp only)); refine box_event ?hg (N := 7) ?hd (cs := #[.bool false, .bool false]) (t := 49) ?hr ?_; (case hd => rfl); (case hg => rfl); (case hr => first | (go_simp; done) | (go_simp; rfl)); intro gb308 hg w20 hbox hb; have n0_ := Aside0.mk (below_step (by repeat (first | (with_reducible first | exact HB.out | apply below_alloc | apply pw_below_drewN | apply below_drew1) | exact HB.out)) hb); have n1_ := Aside0.mk (hbox); have n2_ := Aside0.mk ((by rw [hg]; exact (below_size (by repeat (first | (with_reducible first | exact HB.out | apply below_alloc | apply pw_below_drewN | apply below_drew1) | exact HB.out))) : w.heap.size ≤ gb308)); have n3_ := Aside0.mk ((by rw [hg]; exact (below_size (by repeat (first | (with_reducible first | exact HB.out | apply below_alloc | apply pw_below_drewN | apply below_drew1) | exact HB.out))) : w.heap.size ≤ gb308)); clear HB; have HB := n0_; have BK308 := n1_; have GW308 := n2_; have GE308 := n3_; clear n0_ n1_ n2_ n3_; clear hb hbox hg; have hcz21_0 : w20.cell? ⟨gb308, 0, none⟩ = some (.bool false) := (blk_cell BK308.out 0).trans rfl; have hcz21_1 : w20.cell? ⟨gb308, 1, none⟩ = some (.bool false) := (blk_cell BK308.out 1).trans rfl; have hfz21_0 := blk_frozen BK308.out 0; have hfz21_1 := blk_frozen BK308.out 1; obtain ⟨i022, hi022, _, hsz22, _⟩ := info_parts info3; obtain ⟨hcut22, hA22, hC22⟩ := print_take_of (P := Try.prog) (Value.int .i64) 0 34 3 .i64 Try.underlying34 hi022 hsz22 A1 c1 l1 (ji8) (of_decide_eq_true (by first | (with_reducible assumption) | assumption)) (of_decide_eq_true (by first | (with_reducible assumption) | assumption)) HC1.out; rw [hcu11.out] at hcut22; have HR309 := Aside0.mk (by have h_ := Kd.C_of_reads (h1 := fun _ => rfl) (hA22 _ (Kd.reads_of_C HR1.out)); rw [hcu11.out] at h_; exact h_); have HC309 := Aside0.mk (by have h_ := hC22; rw [hcu11.out] at h_; exact h_); clear hA22 hC22 hi022 hsz22; obtain ⟨i023, hi023, _, hsz23, _⟩ := info_parts info22; obtain ⟨hcut23, hA23, hC23⟩ := print_take_of (P := Try.prog) (Value.int .u64) 0 45 22 .i64 Try.underlying45 hi023 hsz23 A2 c2 l2 (ji12) (of_decide_eq_true (by first | (with_reducible assumption) | assumption)) (of_decide_eq_true (by first | (with_reducible assumption) | assumption)) HC2.out; rw [hcu15.out] at hcut23; have HR310 := Aside0.mk (by have h_ := Kd.C_of_reads (h1 := fun _ => rfl) (hA23 _ (Kd.reads_of_C HR2.out)); rw [hcu15.out] at h_; exact h_); have HC310 := Aside0.mk (by have h_ := hC23; rw [hcu15.out] at h_; exact h_); clear hA23 hC23 hi023 hsz23) | (go_at_call 23; (with_reducible refine (class_Form_Record.calls k bl6 bl7 _ _ cu11 _ _ cu15 t311 t312 _ ?side1 ?side2 ?side3 ?side4 A16.out).mono ?_); (case side1 => exact Kd.C_below HR309.out (by repeat (first | (with_reducible first | exact HB.out | apply below_alloc | apply pw_below_drewN | apply below_drew1 | refine below_set ?_ GE308.out) | exact HB.out))); (case side2 => exact HC309.out); (case side3 => exact Kd.C_below HR310.out (by repeat (first | (with_reducible first | exact HB.out | apply below_alloc | apply pw_below_drewN | apply below_drew1 | refine below_set ?_ GE308.out) | exact HB.out))); (case side4 => exact HC310.out); rintro e w24 ⟨rfl, hb⟩; have n0_ := Aside0.mk (blk_below (g := gb308) (o := .cells #[.bool bl6, .bool bl7] 49 (0, 0)) (by (with_reducible repeat (first | refine blk_drewN ?_ _ | refine blk_drew ?_ | refine blk_alloc ?_ _)); refine blk_put (cs := #[.bool bl6, .bool false]) ?_ 1 _ rfl; (with_reducible repeat (first | refine blk_drewN ?_ _ | refine blk_drew ?_ | refine blk_alloc ?_ _)); refine blk_put (cs := #[.bool false, .bool false]) ?_ 0 _ rfl; (with_reducible repeat (first | refine blk_drewN ?_ _ | refine blk_drew ?_ | refine blk_alloc ?_ _)); exact BK308.out) hb); have n1_ := Aside0.mk (below_step (by repeat (first | (with_reducible first | exact HB.out | apply below_alloc | apply pw_below_drewN | apply below_drew1 | refine below_set ?_ GE308.out) | exact HB.out)) hb); clear BK308; clear HB; have BK308 := n0_; have HB := n1_; clear n0_ n1_; (try clear hb); (try clear hb2); (try clear hk); (try clear hi); have hcz25_0 : w24.cell? ⟨gb308, 0, none⟩ = some (.bool bl6) := (blk_cell BK308.out 0).trans rfl; have hcz25_1 : w24.cell? ⟨gb308, 1, none⟩ = some (.bool bl7) := (blk_cell BK308.out 1).trans rfl; have hfz25_0 := blk_frozen BK308.out 0; have hfz25_1 := blk_frozen BK308.out 1) | (go_at_call 24; (with_reducible refine (graverref04_Record.calls k bl7 bl6 _ _ cu11 _ _ cu15 t313 t314 _ ?side1 ?side2 ?side3 ?side4 A17.out).mono ?_); (case side1 => repeat (first | exact (Kd.C_below HR309.out HB.out) | (with_reducible refine Kd.C_alloc ?_ _) | (with_reducible refine Kd.C_drewN ?_ _) | (with_reducible refine Kd.C_drew ?_))); (case side2 => exact HC309.out); (case side3 => repeat (first | exact (Kd.C_below HR310.out HB.out) | (with_reducible refine Kd.C_alloc ?_ _) | (with_reducible refine Kd.C_drewN ?_ _) | (with_reducible refine Kd.C_drew ?_))); (case side4 => exact HC310.out); rintro e w26 ⟨rfl, hb⟩; have n0_ := Aside0.mk (blk_below (g := gb308) (o := .cells #[.bool bl6, .bool bl7] 49 (0, 0)) (by (with_reducible repeat (first | refine blk_drewN ?_ _ | refine blk_drew ?_ | refine blk_alloc ?_ _)); exact BK308.out) hb); have n1_ := Aside0.mk (below_step (by repeat (first | (with_reducible first | exact HB.out | apply below_alloc | apply pw_below_drewN | apply below_drew1 | refine below_set ?_ GE308.out) | exact HB.out)) hb); clear BK308; clear HB; have BK308 := n0_; have HB := n1_; clear n0_ n1_; (try clear hb); (try clear hb2); (try clear hk); (try clear hi); have hcz27_0 : w26.cell? ⟨gb308, 0, none⟩ = some (.bool bl6) := (blk_cell BK308.out 0).trans rfl; have hcz27_1 : w26.cell? ⟨gb308, 1, none⟩ = some (.bool bl7) := (blk_cell BK308.out 1).trans rfl; have hfz27_0 := blk_frozen BK308.out 0; have hfz27_1 := blk_frozen BK308.out 1) | (go_at_call 25; (with_reducible refine (class_Form_Sizes.calls k bl6 bl7 _ _ cu11 t315 t318 _ ?side1 ?side2 A18.out).mono ?_); (case side1 => repeat (first | exact (Kd.C_below HR309.out HB.out) | (with_reducible refine Kd.C_alloc ?_ _) | (with_reducible refine Kd.C_drewN ?_ _) | (with_reducible refine Kd.C_drew ?_))); (case side2 => exact HC309.out); rintro e w28 ⟨v316, rfl, ho0, hb⟩; have n0_ := Aside0.mk (Kd.R_lower ho0 (below_size (by repeat (first | (with_reducible first | exact HB.out | apply below_alloc | apply pw_below_drewN | apply below_drew1 | refine below_set ?_ GE308.out) | exact HB.out)))); have n1_ := Aside0.mk (blk_below (g := gb308) (o := .cells #[.bool bl6, .bool bl7] 49 (0, 0)) (by (with_reducible repeat (first | refine blk_drewN ?_ _ | refine blk_drew ?_ | refine blk_alloc ?_ _)); exact BK308.out) hb); have n2_ := Aside0.mk (below_step (by repeat (first | (with_reducible first | exact HB.out | apply below_alloc | apply pw_below_drewN | apply below_drew1 | refine below_set ?_ GE308.out) | exact HB.out)) hb); clear BK308; clear HB; have HO317 := n0_; have BK308 := n1_; have HB := n2_; clear n0_ n1_ n2_; (try clear hb); (try clear hb2); (try clear hk); (try clear hi); (try clear ho0))))
            go_loopg [14, 15] k (fun kq v14 v15 w' => ∃ (x14_1 : Int) (x15_1 : Int), v14 = .int .i64 x14_1 ∧ v15 = .int .i64 x15_1 ∧ Aside0 (graverlaw04_FormRecords.l0 kq cu11 cu15 t311 t312 t313 t314 t315 t318 x14_1 x15_1 bl6 bl7 = some r) ∧ Aside0 (kq ≤ k) ∧ Aside0 (Kd.R (Kd.int .i64) 3 w' w.heap.size (fun _ => True) v316 t315) ∧ Aside0 (w'.heap[gb308]? = some (.cells #[.bool bl6, .bool bl7] 49 (0, 0))) ∧ Aside0 (Below w.heap.size w w'))
            case atStart => exact ⟨(0), (0), (by first | rfl | (simp; done) | (simp [*]; done)), (by first | rfl | (simp; done) | (simp [*]; done)), H', ⟨Nat.le_refl _⟩, ⟨by (with_reducible repeat (first | apply Kd.R_alloc | apply Kd.R_drewN | apply Kd.R_drew)); exact HO317.out⟩, ⟨by (with_reducible repeat (first | refine blk_drewN ?_ _ | refine blk_drew ?_ | refine blk_alloc ?_ _)); exact BK308.out⟩, ⟨by repeat (first | (with_reducible first | exact HB.out | apply below_alloc | apply pw_below_drewN | apply below_drew1 | refine below_set ?_ GE308.out) | exact HB.out)⟩⟩
            case round =>
              clear H'
              try clear c1
              try clear c2
              try clear p2
              try clear c5
              try clear c7
              try clear c9
              try clear c9b0
              try clear c9b1
              try clear c10
              try clear c10b0
              try clear c10b1
              try clear c13
              try clear c13b0
              try clear c13b1
              try clear c14
              try clear c14b0
              try clear c14b1
              try clear hcz21_0
              try clear hcz21_1
              try clear hcz25_0
              try clear hcz25_1
              try clear hcz27_0
              try clear hcz27_1
              try clear hfz21_0
              try clear hfz21_1
              try clear hfz25_0
              try clear hfz25_1
              try clear hfz27_0
              try clear hfz27_1
              obtain ⟨x14_1, x15_1, rfl, rfl, HA, HK1, HO_12, BK308, HB⟩ := hrel
              cases gk with
              | zero => exact absurd HA.out (by simp [graverlaw04_FormRecords.l0])
              | succ k1 =>
                have H := HA.out
                clear HA
                simp only [graverlaw04_FormRecords.l0] at H
                by_cases c29 : x15_1 < (cu11.length : Int)
                · rw [if_pos c29] at H
                  have c29b0 : decide (x15_1 < (cu11.length : Int)) = true := decide_eq_true c29
                  clear c29
                  by_cases c30 : 0 ≤ x15_1
                  · rw [if_pos c30] at H
                    have c30b0 : decide (0 ≤ x15_1) = true := decide_eq_true c30
                    clear c30
                    by_cases c31 : (rd cu11 x15_1) = 0
                    · rw [if_pos c31] at H
                      have c31b0 : ((rd cu11 x15_1) == 0) = true := beq_iff_eq.mpr c31
                      have c31b1 : ((rd cu11 x15_1) != 0) = false := bne_eq_false_iff_eq.mpr c31
                      clear c31
                      replace H := Option.bind_eq_some_iff.mp H
                      obtain ⟨t320, A320, H⟩ := H
                      replace H : (if (t315.length : Int) = (cu11.length : Int) then (if x15_1 < (t315.length : Int) then (if (rd t315 x15_1) = t320 then (graverlaw04_FormRecords.l0 k1 cu11 cu15 t311 t312 t313 t314 t315 t318 (wrap64 (x14_1 + t320)) (wrap64 (x15_1 + 1)) bl6 bl7) else (some false)) else (none)) else (some false)) = some r := H
                      have A32 := Aside0.mk A320
                      clear A320
                      by_cases c33 : (t315.length : Int) = (cu11.length : Int)
                      · rw [if_pos c33] at H
                        have c33b0 : ((t315.length : Int) == (cu11.length : Int)) = true := beq_iff_eq.mpr c33
                        have c33b1 : ((t315.length : Int) != (cu11.length : Int)) = false := bne_eq_false_iff_eq.mpr c33
                        have c33b2 : (t315.length == cu11.length) = true := by first | simpa using c33 | (simp at c33 ⊢; omega)
                        clear c33
                        by_cases c34 : x15_1 < (t315.length : Int)
                        · rw [if_pos c34] at H
                          have c34b0 : decide (x15_1 < (t315.length : Int)) = true := decide_eq_true c34
                          clear c34
                          by_cases c35 : (rd t315 x15_1) = t320
                          · rw [if_pos c35] at H
                            have c35b0 : ((rd t315 x15_1) == t320) = true := beq_iff_eq.mpr c35
                            have c35b1 : ((rd t315 x15_1) != t320) = false := bne_eq_false_iff_eq.mpr c35
                            clear c35
                            have H' := Aside0.mk H
                            clear H
                            have p319 : 0 ≤ (x15_1 : Int) := of_decide_eq_true (by first | (with_reducible assumption) | assumption)
                            have q319 : x15_1 < (cu11.length : Int) := of_decide_eq_true (by first | (with_reducible assumption) | assumption)
                            obtain ⟨ad319, e319, hx319_0⟩ := Kd.at_int HR309.out x15_1 p319 q319
                            cases e319
                            replace hx319_0 := (HB.out.cell (World.block_lt_of_cell? w _ hx319_0)).trans hx319_0
                            replace p319 := eq_true p319
                            replace q319 := eq_true q319
                            have hcz36_0 : wr.cell? ⟨gb308, 0, none⟩ = some (.bool bl6) := (blk_cell BK308.out 0).trans rfl
                            have hcz36_1 : wr.cell? ⟨gb308, 1, none⟩ = some (.bool bl7) := (blk_cell BK308.out 1).trans rfl
                            have hfz36_0 := blk_frozen BK308.out 0
                            have hfz36_1 := blk_frozen BK308.out 1
                            go_wp2_with (first | (go_at_call 26; (with_reducible refine (class_Form_Word.calls bl6 bl7 t320 _ A32.out).mono ?_); rintro e w37 ⟨rfl, hb⟩; have n0_ := Aside0.mk (Kd.R_below (by (with_reducible repeat (first | apply Kd.R_alloc | apply Kd.R_drewN | apply Kd.R_drew)); exact HO_12.out) hb); have n1_ := Aside0.mk (blk_below (g := gb308) (o := .cells #[.bool bl6, .bool bl7] 49 (0, 0)) (by (with_reducible repeat (first | refine blk_drewN ?_ _ | refine blk_drew ?_ | refine blk_alloc ?_ _)); exact BK308.out) hb); have n2_ := Aside0.mk (below_step (by repeat (first | (with_reducible first | exact HB.out | apply below_alloc | apply pw_below_drewN | apply below_drew1 | refine below_set ?_ GE308.out) | exact HB.out)) hb); clear HO_12; clear BK308; clear HB; have HO_12 := n0_; have BK308 := n1_; have HB := n2_; clear n0_ n1_ n2_; (try clear hb); (try clear hb2); (try clear hk); (try clear hi); obtain ⟨Ao38, co38, eo38⟩ := Kd.R_slice HO_12.out; subst eo38; have p321 : 0 ≤ (x15_1 : Int) := of_decide_eq_true (by first | (with_reducible assumption) | assumption); have q321 : x15_1 < (t315.length : Int) := of_decide_eq_true (by first | (with_reducible assumption) | assumption); obtain ⟨ad321, e321, hx321_0⟩ := Kd.at_int (Kd.R_reads' HO_12.out).2.2 x15_1 p321 q321; cases e321; replace p321 := eq_true p321; replace q321 := eq_true q321))
                            repeat (go_quiet (first | (go_at_call 26; (with_reducible refine (class_Form_Word.calls bl6 bl7 t320 _ A32.out).mono ?_); rintro e w37 ⟨rfl, hb⟩; have n0_ := Aside0.mk (Kd.R_below (by (with_reducible repeat (first | apply Kd.R_alloc | apply Kd.R_drewN | apply Kd.R_drew)); exact HO_12.out) hb); have n1_ := Aside0.mk (blk_below (g := gb308) (o := .cells #[.bool bl6, .bool bl7] 49 (0, 0)) (by (with_reducible repeat (first | refine blk_drewN ?_ _ | refine blk_drew ?_ | refine blk_alloc ?_ _)); exact BK308.out) hb); have n2_ := Aside0.mk (below_step (by repeat (first | (with_reducible first | exact HB.out | apply below_alloc | apply pw_below_drewN | apply below_drew1 | refine below_set ?_ GE308.out) | exact HB.out)) hb); clear HO_12; clear BK308; clear HB; have HO_12 := n0_; have BK308 := n1_; have HB := n2_; clear n0_ n1_ n2_; (try clear hb); (try clear hb2); (try clear hk); (try clear hi); obtain ⟨Ao38, co38, eo38⟩ := Kd.R_slice HO_12.out; subst eo38; have p321 : 0 ≤ (x15_1 : Int) := of_decide_eq_true (by first | (with_reducible assumption) | assumption); have q321 : x15_1 < (t315.length : Int) := of_decide_eq_true (by first | (with_reducible assumption) | assumption); obtain ⟨ad321, e321, hx321_0⟩ := Kd.at_int (Kd.R_reads' HO_12.out).2.2 x15_1 p321 q321; cases e321; replace p321 := eq_true p321; replace q321 := eq_true q321)); try go_wp2_with (first | (go_at_call 26; (with_reducible refine (class_Form_Word.calls bl6 bl7 t320 _ A32.out).mono ?_); rintro e w37 ⟨rfl, hb⟩; have n0_ := Aside0.mk (Kd.R_below (by (with_reducible repeat (first | apply Kd.R_alloc | apply Kd.R_drewN | apply Kd.R_drew)); exact HO_12.out) hb); have n1_ := Aside0.mk (blk_below (g := gb308) (o := .cells #[.bool bl6, .bool bl7] 49 (0, 0)) (by (with_reducible repeat (first | refine blk_drewN ?_ _ | refine blk_drew ?_ | refine blk_alloc ?_ _)); exact BK308.out) hb); have n2_ := Aside0.mk (below_step (by repeat (first | (with_reducible first | exact HB.out | apply below_alloc | apply pw_below_drewN | apply below_drew1 | refine below_set ?_ GE308.out) | exact HB.out)) hb); clear HO_12; clear BK308; clear HB; have HO_12 := n0_; have BK308 := n1_; have HB := n2_; clear n0_ n1_ n2_; (try clear hb); (try clear hb2); (try clear hk); (try clear hi); obtain ⟨Ao38, co38, eo38⟩ := Kd.R_slice HO_12.out; subst eo38; have p321 : 0 ≤ (x15_1 : Int) := of_decide_eq_true (by first | (with_reducible assumption) | assumption); have q321 : x15_1 < (t315.length : Int) := of_decide_eq_true (by first | (with_reducible assumption) | assumption); obtain ⟨ad321, e321, hx321_0⟩ := Kd.at_int (Kd.R_reads' HO_12.out).2.2 x15_1 p321 q321; cases e321; replace p321 := eq_true p321; replace q321 := eq_true q321)))
                            go_roundg k1
                            case measure => have := HK1.out; omega
                            case rel => exact ⟨(wrap64 (x14_1 + t320)), (wrap64 (x15_1 + 1)), (by first | rfl | (simp; done) | (simp [*]; done)), (by first | rfl | (simp; done) | (simp [*]; done)), H', ⟨by have := HK1.out; omega⟩, ⟨by (with_reducible repeat (first | apply Kd.R_alloc | apply Kd.R_drewN | apply Kd.R_drew)); exact HO_12.out⟩, ⟨by (with_reducible repeat (first | refine blk_drewN ?_ _ | refine blk_drew ?_ | refine blk_alloc ?_ _)); exact BK308.out⟩, ⟨by repeat (first | (with_reducible first | exact HB.out | apply below_alloc | apply pw_below_drewN | apply below_drew1 | refine below_set ?_ GE308.out) | exact HB.out)⟩⟩
                          · rw [if_neg c35] at H
                            have c35b0 : ((rd t315 x15_1) == t320) = false := beq_eq_false_iff_ne.mpr c35
                            have c35b1 : ((rd t315 x15_1) != t320) = true := bne_iff_ne.mpr c35
                            obtain rfl := Option.some.inj H
                            have p319 : 0 ≤ (x15_1 : Int) := of_decide_eq_true (by first | (with_reducible assumption) | assumption)
                            have q319 : x15_1 < (cu11.length : Int) := of_decide_eq_true (by first | (with_reducible assumption) | assumption)
                            obtain ⟨ad319, e319, hx319_0⟩ := Kd.at_int HR309.out x15_1 p319 q319
                            cases e319
                            replace hx319_0 := (HB.out.cell (World.block_lt_of_cell? w _ hx319_0)).trans hx319_0
                            replace p319 := eq_true p319
                            replace q319 := eq_true q319
                            have hcz39_0 : wr.cell? ⟨gb308, 0, none⟩ = some (.bool bl6) := (blk_cell BK308.out 0).trans rfl
                            have hcz39_1 : wr.cell? ⟨gb308, 1, none⟩ = some (.bool bl7) := (blk_cell BK308.out 1).trans rfl
                            have hfz39_0 := blk_frozen BK308.out 0
                            have hfz39_1 := blk_frozen BK308.out 1
                            go_wp2_with (first | (go_at_call 26; (with_reducible refine (class_Form_Word.calls bl6 bl7 t320 _ A32.out).mono ?_); rintro e w40 ⟨rfl, hb⟩; have n0_ := Aside0.mk (Kd.R_below (by (with_reducible repeat (first | apply Kd.R_alloc | apply Kd.R_drewN | apply Kd.R_drew)); exact HO_12.out) hb); have n1_ := Aside0.mk (blk_below (g := gb308) (o := .cells #[.bool bl6, .bool bl7] 49 (0, 0)) (by (with_reducible repeat (first | refine blk_drewN ?_ _ | refine blk_drew ?_ | refine blk_alloc ?_ _)); exact BK308.out) hb); have n2_ := Aside0.mk (below_step (by repeat (first | (with_reducible first | exact HB.out | apply below_alloc | apply pw_below_drewN | apply below_drew1 | refine below_set ?_ GE308.out) | exact HB.out)) hb); clear HO_12; clear BK308; clear HB; have HO_12 := n0_; have BK308 := n1_; have HB := n2_; clear n0_ n1_ n2_; (try clear hb); (try clear hb2); (try clear hk); (try clear hi); obtain ⟨Ao41, co41, eo41⟩ := Kd.R_slice HO_12.out; subst eo41; have p321 : 0 ≤ (x15_1 : Int) := of_decide_eq_true (by first | (with_reducible assumption) | assumption); have q321 : x15_1 < (t315.length : Int) := of_decide_eq_true (by first | (with_reducible assumption) | assumption); obtain ⟨ad321, e321, hx321_0⟩ := Kd.at_int (Kd.R_reads' HO_12.out).2.2 x15_1 p321 q321; cases e321; replace p321 := eq_true p321; replace q321 := eq_true q321))
                            repeat (go_quiet (first | (go_at_call 26; (with_reducible refine (class_Form_Word.calls bl6 bl7 t320 _ A32.out).mono ?_); rintro e w40 ⟨rfl, hb⟩; have n0_ := Aside0.mk (Kd.R_below (by (with_reducible repeat (first | apply Kd.R_alloc | apply Kd.R_drewN | apply Kd.R_drew)); exact HO_12.out) hb); have n1_ := Aside0.mk (blk_below (g := gb308) (o := .cells #[.bool bl6, .bool bl7] 49 (0, 0)) (by (with_reducible repeat (first | refine blk_drewN ?_ _ | refine blk_drew ?_ | refine blk_alloc ?_ _)); exact BK308.out) hb); have n2_ := Aside0.mk (below_step (by repeat (first | (with_reducible first | exact HB.out | apply below_alloc | apply pw_below_drewN | apply below_drew1 | refine below_set ?_ GE308.out) | exact HB.out)) hb); clear HO_12; clear BK308; clear HB; have HO_12 := n0_; have BK308 := n1_; have HB := n2_; clear n0_ n1_ n2_; (try clear hb); (try clear hb2); (try clear hk); (try clear hi); obtain ⟨Ao41, co41, eo41⟩ := Kd.R_slice HO_12.out; subst eo41; have p321 : 0 ≤ (x15_1 : Int) := of_decide_eq_true (by first | (with_reducible assumption) | assumption); have q321 : x15_1 < (t315.length : Int) := of_decide_eq_true (by first | (with_reducible assumption) | assumption); obtain ⟨ad321, e321, hx321_0⟩ := Kd.at_int (Kd.R_reads' HO_12.out).2.2 x15_1 p321 q321; cases e321; replace p321 := eq_true p321; replace q321 := eq_true q321)); try go_wp2_with (first | (go_at_call 26; (with_reducible refine (class_Form_Word.calls bl6 bl7 t320 _ A32.out).mono ?_); rintro e w40 ⟨rfl, hb⟩; have n0_ := Aside0.mk (Kd.R_below (by (with_reducible repeat (first | apply Kd.R_alloc | apply Kd.R_drewN | apply Kd.R_drew)); exact HO_12.out) hb); have n1_ := Aside0.mk (blk_below (g := gb308) (o := .cells #[.bool bl6, .bool bl7] 49 (0, 0)) (by (with_reducible repeat (first | refine blk_drewN ?_ _ | refine blk_drew ?_ | refine blk_alloc ?_ _)); exact BK308.out) hb); have n2_ := Aside0.mk (below_step (by repeat (first | (with_reducible first | exact HB.out | apply below_alloc | apply pw_below_drewN | apply below_drew1 | refine below_set ?_ GE308.out) | exact HB.out)) hb); clear HO_12; clear BK308; clear HB; have HO_12 := n0_; have BK308 := n1_; have HB := n2_; clear n0_ n1_ n2_; (try clear hb); (try clear hb2); (try clear hk); (try clear hi); obtain ⟨Ao41, co41, eo41⟩ := Kd.R_slice HO_12.out; subst eo41; have p321 : 0 ≤ (x15_1 : Int) := of_decide_eq_true (by first | (with_reducible assumption) | assumption); have q321 : x15_1 < (t315.length : Int) := of_decide_eq_true (by first | (with_reducible assumption) | assumption); obtain ⟨ad321, e321, hx321_0⟩ := Kd.at_int (Kd.R_reads' HO_12.out).2.2 x15_1 p321 q321; cases e321; replace p321 := eq_true p321; replace q321 := eq_true q321)))
                            go_ret
                            exact ⟨by first | rfl | (simp [errW_none, errW_some] <;> rfl) | (simp only [← hji8, ← hji12]; first | rfl | (simp [errW_none, errW_some] <;> rfl)) | (simp [*, errW_none, errW_some] <;> rfl), by repeat (first | (with_reducible first | exact HB.out | apply below_alloc | apply pw_below_drewN | apply below_drew1 | refine below_set ?_ GE308.out) | exact HB.out)⟩
                        · rw [if_neg c34] at H
                          exact absurd H (by simp)
                      · rw [if_neg c33] at H
                        have c33b0 : ((t315.length : Int) == (cu11.length : Int)) = false := beq_eq_false_iff_ne.mpr c33
                        have c33b1 : ((t315.length : Int) != (cu11.length : Int)) = true := bne_iff_ne.mpr c33
                        have c33b2 : (t315.length == cu11.length) = false := by first | simpa using c33 | (simp at c33 ⊢; omega)
                        obtain rfl := Option.some.inj H
                        have p319 : 0 ≤ (x15_1 : Int) := of_decide_eq_true (by first | (with_reducible assumption) | assumption)
                        have q319 : x15_1 < (cu11.length : Int) := of_decide_eq_true (by first | (with_reducible assumption) | assumption)
                        obtain ⟨ad319, e319, hx319_0⟩ := Kd.at_int HR309.out x15_1 p319 q319
                        cases e319
                        replace hx319_0 := (HB.out.cell (World.block_lt_of_cell? w _ hx319_0)).trans hx319_0
                        replace p319 := eq_true p319
                        replace q319 := eq_true q319
                        have hcz42_0 : wr.cell? ⟨gb308, 0, none⟩ = some (.bool bl6) := (blk_cell BK308.out 0).trans rfl
                        have hcz42_1 : wr.cell? ⟨gb308, 1, none⟩ = some (.bool bl7) := (blk_cell BK308.out 1).trans rfl
                        have hfz42_0 := blk_frozen BK308.out 0
                        have hfz42_1 := blk_frozen BK308.out 1
                        go_wp2_with (first | (go_at_call 26; (with_reducible refine (class_Form_Word.calls bl6 bl7 t320 _ A32.out).mono ?_); rintro e w43 ⟨rfl, hb⟩; have n0_ := Aside0.mk (Kd.R_below (by (with_reducible repeat (first | apply Kd.R_alloc | apply Kd.R_drewN | apply Kd.R_drew)); exact HO_12.out) hb); have n1_ := Aside0.mk (blk_below (g := gb308) (o := .cells #[.bool bl6, .bool bl7] 49 (0, 0)) (by (with_reducible repeat (first | refine blk_drewN ?_ _ | refine blk_drew ?_ | refine blk_alloc ?_ _)); exact BK308.out) hb); have n2_ := Aside0.mk (below_step (by repeat (first | (with_reducible first | exact HB.out | apply below_alloc | apply pw_below_drewN | apply below_drew1 | refine below_set ?_ GE308.out) | exact HB.out)) hb); clear HO_12; clear BK308; clear HB; have HO_12 := n0_; have BK308 := n1_; have HB := n2_; clear n0_ n1_ n2_; (try clear hb); (try clear hb2); (try clear hk); (try clear hi); obtain ⟨Ao44, co44, eo44⟩ := Kd.R_slice HO_12.out; subst eo44))
                        repeat (go_quiet (first | (go_at_call 26; (with_reducible refine (class_Form_Word.calls bl6 bl7 t320 _ A32.out).mono ?_); rintro e w43 ⟨rfl, hb⟩; have n0_ := Aside0.mk (Kd.R_below (by (with_reducible repeat (first | apply Kd.R_alloc | apply Kd.R_drewN | apply Kd.R_drew)); exact HO_12.out) hb); have n1_ := Aside0.mk (blk_below (g := gb308) (o := .cells #[.bool bl6, .bool bl7] 49 (0, 0)) (by (with_reducible repeat (first | refine blk_drewN ?_ _ | refine blk_drew ?_ | refine blk_alloc ?_ _)); exact BK308.out) hb); have n2_ := Aside0.mk (below_step (by repeat (first | (with_reducible first | exact HB.out | apply below_alloc | apply pw_below_drewN | apply below_drew1 | refine below_set ?_ GE308.out) | exact HB.out)) hb); clear HO_12; clear BK308; clear HB; have HO_12 := n0_; have BK308 := n1_; have HB := n2_; clear n0_ n1_ n2_; (try clear hb); (try clear hb2); (try clear hk); (try clear hi); obtain ⟨Ao44, co44, eo44⟩ := Kd.R_slice HO_12.out; subst eo44)); try go_wp2_with (first | (go_at_call 26; (with_reducible refine (class_Form_Word.calls bl6 bl7 t320 _ A32.out).mono ?_); rintro e w43 ⟨rfl, hb⟩; have n0_ := Aside0.mk (Kd.R_below (by (with_reducible repeat (first | apply Kd.R_alloc | apply Kd.R_drewN | apply Kd.R_drew)); exact HO_12.out) hb); have n1_ := Aside0.mk (blk_below (g := gb308) (o := .cells #[.bool bl6, .bool bl7] 49 (0, 0)) (by (with_reducible repeat (first | refine blk_drewN ?_ _ | refine blk_drew ?_ | refine blk_alloc ?_ _)); exact BK308.out) hb); have n2_ := Aside0.mk (below_step (by repeat (first | (with_reducible first | exact HB.out | apply below_alloc | apply pw_below_drewN | apply below_drew1 | refine below_set ?_ GE308.out) | exact HB.out)) hb); clear HO_12; clear BK308; clear HB; have HO_12 := n0_; have BK308 := n1_; have HB := n2_; clear n0_ n1_ n2_; (try clear hb); (try clear hb2); (try clear hk); (try clear hi); obtain ⟨Ao44, co44, eo44⟩ := Kd.R_slice HO_12.out; subst eo44)))
                        go_ret
                        exact ⟨by first | rfl | (simp [errW_none, errW_some] <;> rfl) | (simp only [← hji8, ← hji12]; first | rfl | (simp [errW_none, errW_some] <;> rfl)) | (simp [*, errW_none, errW_some] <;> rfl), by repeat (first | (with_reducible first | exact HB.out | apply below_alloc | apply pw_below_drewN | apply below_drew1 | refine below_set ?_ GE308.out) | exact HB.out)⟩
                    · rw [if_neg c31] at H
                      have c31b0 : ((rd cu11 x15_1) == 0) = false := beq_eq_false_iff_ne.mpr c31
                      have c31b1 : ((rd cu11 x15_1) != 0) = true := bne_iff_ne.mpr c31
                      by_cases c45 : (t315.length : Int) = (cu11.length : Int)
                      · rw [if_pos c45] at H
                        have c45b0 : ((t315.length : Int) == (cu11.length : Int)) = true := beq_iff_eq.mpr c45
                        have c45b1 : ((t315.length : Int) != (cu11.length : Int)) = false := bne_eq_false_iff_eq.mpr c45
                        have c45b2 : (t315.length == cu11.length) = true := by first | simpa using c45 | (simp at c45 ⊢; omega)
                        clear c45
                        by_cases c46 : x15_1 < (t315.length : Int)
                        · rw [if_pos c46] at H
                          have c46b0 : decide (x15_1 < (t315.length : Int)) = true := decide_eq_true c46
                          clear c46
                          by_cases c47 : (rd t315 x15_1) = (rd cu11 x15_1)
                          · rw [if_pos c47] at H
                            have c47b0 : ((rd t315 x15_1) == (rd cu11 x15_1)) = true := beq_iff_eq.mpr c47
                            have c47b1 : ((rd t315 x15_1) != (rd cu11 x15_1)) = false := bne_eq_false_iff_eq.mpr c47
                            clear c47
                            have H' := Aside0.mk H
                            clear H
                            have p319 : 0 ≤ (x15_1 : Int) := of_decide_eq_true (by first | (with_reducible assumption) | assumption)
                            have q319 : x15_1 < (cu11.length : Int) := of_decide_eq_true (by first | (with_reducible assumption) | assumption)
                            obtain ⟨ad319, e319, hx319_0⟩ := Kd.at_int HR309.out x15_1 p319 q319
                            cases e319
                            replace hx319_0 := (HB.out.cell (World.block_lt_of_cell? w _ hx319_0)).trans hx319_0
                            replace p319 := eq_true p319
                            replace q319 := eq_true q319
                            obtain ⟨Ao48, co48, eo48⟩ := Kd.R_slice HO_12.out
                            subst eo48
                            have p322 : 0 ≤ (x15_1 : Int) := of_decide_eq_true (by first | (with_reducible assumption) | assumption)
                            have q322 : x15_1 < (t315.length : Int) := of_decide_eq_true (by first | (with_reducible assumption) | assumption)
                            obtain ⟨ad322, e322, hx322_0⟩ := Kd.at_int (Kd.R_reads' HO_12.out).2.2 x15_1 p322 q322
                            cases e322
                            replace p322 := eq_true p322
                            replace q322 := eq_true q322
                            go_wp2
                            repeat (go_quiet (fail); try go_wp2)
                            go_roundg k1
                            case measure => have := HK1.out; omega
                            case rel => exact ⟨(wrap64 (x14_1 + (rd cu11 x15_1))), (wrap64 (x15_1 + 1)), (by first | rfl | (simp; done) | (simp [*]; done)), (by first | rfl | (simp; done) | (simp [*]; done)), H', ⟨by have := HK1.out; omega⟩, ⟨by (with_reducible repeat (first | apply Kd.R_alloc | apply Kd.R_drewN | apply Kd.R_drew)); exact HO_12.out⟩, ⟨by (with_reducible repeat (first | refine blk_drewN ?_ _ | refine blk_drew ?_ | refine blk_alloc ?_ _)); exact BK308.out⟩, ⟨by repeat (first | (with_reducible first | exact HB.out | apply below_alloc | apply pw_below_drewN | apply below_drew1 | refine below_set ?_ GE308.out) | exact HB.out)⟩⟩
                          · rw [if_neg c47] at H
                            have c47b0 : ((rd t315 x15_1) == (rd cu11 x15_1)) = false := beq_eq_false_iff_ne.mpr c47
                            have c47b1 : ((rd t315 x15_1) != (rd cu11 x15_1)) = true := bne_iff_ne.mpr c47
                            obtain rfl := Option.some.inj H
                            have p319 : 0 ≤ (x15_1 : Int) := of_decide_eq_true (by first | (with_reducible assumption) | assumption)
                            have q319 : x15_1 < (cu11.length : Int) := of_decide_eq_true (by first | (with_reducible assumption) | assumption)
                            obtain ⟨ad319, e319, hx319_0⟩ := Kd.at_int HR309.out x15_1 p319 q319
                            cases e319
                            replace hx319_0 := (HB.out.cell (World.block_lt_of_cell? w _ hx319_0)).trans hx319_0
                            replace p319 := eq_true p319
                            replace q319 := eq_true q319
                            obtain ⟨Ao49, co49, eo49⟩ := Kd.R_slice HO_12.out
                            subst eo49
                            have p322 : 0 ≤ (x15_1 : Int) := of_decide_eq_true (by first | (with_reducible assumption) | assumption)
                            have q322 : x15_1 < (t315.length : Int) := of_decide_eq_true (by first | (with_reducible assumption) | assumption)
                            obtain ⟨ad322, e322, hx322_0⟩ := Kd.at_int (Kd.R_reads' HO_12.out).2.2 x15_1 p322 q322
                            cases e322
                            replace p322 := eq_true p322
                            replace q322 := eq_true q322
                            go_wp2
                            repeat (go_quiet (fail); try go_wp2)
                            go_ret
                            exact ⟨by first | rfl | (simp [errW_none, errW_some] <;> rfl) | (simp only [← hji8, ← hji12]; first | rfl | (simp [errW_none, errW_some] <;> rfl)) | (simp [*, errW_none, errW_some] <;> rfl), by repeat (first | (with_reducible first | exact HB.out | apply below_alloc | apply pw_below_drewN | apply below_drew1 | refine below_set ?_ GE308.out) | exact HB.out)⟩
                        · rw [if_neg c46] at H
                          exact absurd H (by simp)
                      · rw [if_neg c45] at H
                        have c45b0 : ((t315.length : Int) == (cu11.length : Int)) = false := beq_eq_false_iff_ne.mpr c45
                        have c45b1 : ((t315.length : Int) != (cu11.length : Int)) = true := bne_iff_ne.mpr c45
                        have c45b2 : (t315.length == cu11.length) = false := by first | simpa using c45 | (simp at c45 ⊢; omega)
                        obtain rfl := Option.some.inj H
                        have p319 : 0 ≤ (x15_1 : Int) := of_decide_eq_true (by first | (with_reducible assumption) | assumption)
                        have q319 : x15_1 < (cu11.length : Int) := of_decide_eq_true (by first | (with_reducible assumption) | assumption)
                        obtain ⟨ad319, e319, hx319_0⟩ := Kd.at_int HR309.out x15_1 p319 q319
                        cases e319
                        replace hx319_0 := (HB.out.cell (World.block_lt_of_cell? w _ hx319_0)).trans hx319_0
                        replace p319 := eq_true p319
                        replace q319 := eq_true q319
                        obtain ⟨Ao50, co50, eo50⟩ := Kd.R_slice HO_12.out
                        subst eo50
                        go_wp2
                        repeat (go_quiet (fail); try go_wp2)
                        go_ret
                        exact ⟨by first | rfl | (simp [errW_none, errW_some] <;> rfl) | (simp only [← hji8, ← hji12]; first | rfl | (simp [errW_none, errW_some] <;> rfl)) | (simp [*, errW_none, errW_some] <;> rfl), by repeat (first | (with_reducible first | exact HB.out | apply below_alloc | apply pw_below_drewN | apply below_drew1 | refine below_set ?_ GE308.out) | exact HB.out)⟩
                  · rw [if_neg c30] at H
                    exact absurd H (by simp)
                · rw [if_neg c29] at H
                  have c29b0 : decide (x15_1 < (cu11.length : Int)) = false := decide_eq_false c29
                  clear c29
                  have H' := Aside0.mk H
                  clear H
                  go_wp2
                  repeat (go_quiet (fail); try go_wp2)
                  go_loopg [17, 18] k1 (fun kq v17 v18 w' => ∃ (x17_2 : Bool) (x18_2 : Int), v17 = .bool x17_2 ∧ v18 = .int .i64 x18_2 ∧ Aside0 (graverlaw04_FormRecords.l1 kq cu15 t311 t312 t313 t314 t318 x14_1 x17_2 x18_2 bl6 bl7 = some r) ∧ Aside0 (kq ≤ k1) ∧ Aside0 (w'.heap[gb308]? = some (.cells #[.bool bl6, .bool bl7] 49 (0, 0))) ∧ Aside0 (Below w.heap.size w w'))
                  case atStart => exact ⟨(true), (0), (by first | rfl | (simp; done) | (simp [*]; done)), (by first | rfl | (simp; done) | (simp [*]; done)), H', ⟨Nat.le_refl _⟩, ⟨by (with_reducible repeat (first | refine blk_drewN ?_ _ | refine blk_drew ?_ | refine blk_alloc ?_ _)); exact BK308.out⟩, ⟨by repeat (first | (with_reducible first | exact HB.out | apply below_alloc | apply pw_below_drewN | apply below_drew1 | refine below_set ?_ GE308.out) | exact HB.out)⟩⟩
                  case round =>
                    clear H'
                    try clear c1
                    try clear c2
                    try clear p2
                    try clear c3
                    try clear p3
                    try clear q3
                    try clear hx3
                    try clear c4
                    try clear c5
                    try clear p6
                    try clear c7
                    try clear c9
                    try clear c9b0
                    try clear c9b1
                    try clear c10
                    try clear c10b0
                    try clear c10b1
                    try clear c13
                    try clear c13b0
                    try clear c13b1
                    try clear c14
                    try clear c14b0
                    try clear c14b1
                    try clear c29
                    try clear c29b0
                    try clear c30
                    try clear c30b0
                    try clear c31
                    try clear c31b0
                    try clear c31b1
                    try clear p31
                    try clear q31
                    try clear hx31
                    try clear p32
                    try clear q32
                    try clear hx32
                    try clear c33
                    try clear c33b0
                    try clear c33b1
                    try clear c33b2
                    try clear c34
                    try clear c34b0
                    try clear c35
                    try clear c35b0
                    try clear c35b1
                    try clear c45
                    try clear c45b0
                    try clear c45b1
                    try clear c45b2
                    try clear c46
                    try clear c46b0
                    try clear c47
                    try clear c47b0
                    try clear c47b1
                    try clear hcz21_0
                    try clear hcz21_1
                    try clear hcz25_0
                    try clear hcz25_1
                    try clear hcz27_0
                    try clear hcz27_1
                    try clear hcz36_0
                    try clear hcz36_1
                    try clear hcz39_0
                    try clear hcz39_1
                    try clear hcz42_0
                    try clear hcz42_1
                    try clear hfz21_0
                    try clear hfz21_1
                    try clear hfz25_0
                    try clear hfz25_1
                    try clear hfz27_0
                    try clear hfz27_1
                    try clear hfz36_0
                    try clear hfz36_1
                    try clear hfz39_0
                    try clear hfz39_1
                    try clear hfz42_0
                    try clear hfz42_1
                    try clear hx319_0
                    try clear hx321_0
                    try clear hx322_0
                    try clear p2
                    try clear p319
                    try clear p321
                    try clear p322
                    try clear q319
                    try clear q321
                    try clear q322
                    obtain ⟨x17_2, x18_2, rfl, rfl, HA, HK2, BK308, HB⟩ := hrel
                    cases gk with
                    | zero => exact absurd HA.out (by simp [graverlaw04_FormRecords.l1])
                    | succ k2 =>
                      have H := HA.out
                      clear HA
                      simp only [graverlaw04_FormRecords.l1] at H
                      by_cases c51 : x18_2 < (cu15.length : Int)
                      · rw [if_pos c51] at H
                        have c51b0 : decide (x18_2 < (cu15.length : Int)) = true := decide_eq_true c51
                        clear c51
                        by_cases c52 : x17_2 = true
                        · subst c52
                          have H1 : (if bl7 = true then (graverlaw04_FormRecords.l1 k2 cu15 t311 t312 t313 t314 t318 x14_1 true (wrap64 (x18_2 + 1)) bl6 bl7) else (if 0 ≤ x18_2 then (graverlaw04_FormRecords.l1 k2 cu15 t311 t312 t313 t314 t318 x14_1 (decide ((rd cu15 x18_2) < 4294967296)) (wrap64 (x18_2 + 1)) bl6 bl7) else (none))) = some r := by rw [if_pos rfl] at H; exact H
                          clear H
                          have H := H1
                          clear H1
                          by_cases c53 : bl7 = true
                          · subst c53
                            have H1 : (graverlaw04_FormRecords.l1 k2 cu15 t311 t312 t313 t314 t318 x14_1 true (wrap64 (x18_2 + 1)) bl6 true) = some r := by rw [if_pos rfl] at H; exact H
                            clear H
                            have H := H1
                            clear H1
                            have H' := Aside0.mk H
                            clear H
                            have hcz54_0 : wr.cell? ⟨gb308, 0, none⟩ = some (.bool bl6) := (blk_cell BK308.out 0).trans rfl
                            have hcz54_1 : wr.cell? ⟨gb308, 1, none⟩ = some (.bool true) := (blk_cell BK308.out 1).trans rfl
                            have hfz54_0 := blk_frozen BK308.out 0
                            have hfz54_1 := blk_frozen BK308.out 1
                            go_wp2
                            repeat (go_quiet (fail); try go_wp2)
                            go_roundg k2
                            case measure => have := HK1.out; have := HK2.out; omega
                            case rel => exact ⟨(true), (wrap64 (x18_2 + 1)), (by first | rfl | (simp; done) | (simp [*]; done)), (by first | rfl | (simp; done) | (simp [*]; done)), H', ⟨by have := HK1.out; have := HK2.out; omega⟩, ⟨by (with_reducible repeat (first | refine blk_drewN ?_ _ | refine blk_drew ?_ | refine blk_alloc ?_ _)); exact BK308.out⟩, ⟨by repeat (first | (with_reducible first | exact HB.out | apply below_alloc | apply pw_below_drewN | apply below_drew1 | refine below_set ?_ GE308.out) | exact HB.out)⟩⟩
                          · replace c53 := Bool.eq_false_iff.mpr c53
                            subst c53
                            have H1 : (if 0 ≤ x18_2 then (graverlaw04_FormRecords.l1 k2 cu15 t311 t312 t313 t314 t318 x14_1 (decide ((rd cu15 x18_2) < 4294967296)) (wrap64 (x18_2 + 1)) bl6 false) else (none)) = some r := by rw [if_neg (show ¬ (false = true) by decide)] at H; exact H
                            clear H
                            have H := H1
                            clear H1
                            by_cases c55 : 0 ≤ x18_2
                            · rw [if_pos c55] at H
                              have c55b0 : decide (0 ≤ x18_2) = true := decide_eq_true c55
                              clear c55
                              have H' := Aside0.mk H
                              clear H
                              have hcz56_0 : wr.cell? ⟨gb308, 0, none⟩ = some (.bool bl6) := (blk_cell BK308.out 0).trans rfl
                              have hcz56_1 : wr.cell? ⟨gb308, 1, none⟩ = some (.bool false) := (blk_cell BK308.out 1).trans rfl
                              have hfz56_0 := blk_frozen BK308.out 0
                              have hfz56_1 := blk_frozen BK308.out 1
                              have p323 : 0 ≤ (x18_2 : Int) := of_decide_eq_true (by first | (with_reducible assumption) | assumption)
                              have q323 : x18_2 < (cu15.length : Int) := of_decide_eq_true (by first | (with_reducible assumption) | assumption)
                              obtain ⟨ad323, e323, hx323_0⟩ := Kd.at_int HR310.out x18_2 p323 q323
                              cases e323
                              replace hx323_0 := (HB.out.cell (World.block_lt_of_cell? w _ hx323_0)).trans hx323_0
                              replace p323 := eq_true p323
                              replace q323 := eq_true q323
                              go_wp2
                              repeat (go_quiet (fail); try go_wp2)
                              go_roundg k2
                              case measure => have := HK1.out; have := HK2.out; omega
                              case rel => exact ⟨(decide ((rd cu15 x18_2) < 4294967296)), (wrap64 (x18_2 + 1)), (by first | rfl | (simp; done) | (simp [*]; done)), (by first | rfl | (simp; done) | (simp [*]; done)), H', ⟨by have := HK1.out; have := HK2.out; omega⟩, ⟨by (with_reducible repeat (first | refine blk_drewN ?_ _ | refine blk_drew ?_ | refine blk_alloc ?_ _)); exact BK308.out⟩, ⟨by repeat (first | (with_reducible first | exact HB.out | apply below_alloc | apply pw_below_drewN | apply below_drew1 | refine below_set ?_ GE308.out) | exact HB.out)⟩⟩
                            · rw [if_neg c55] at H
                              exact absurd H (by simp)
                        · replace c52 := Bool.eq_false_iff.mpr c52
                          subst c52
                          have H1 : (graverlaw04_FormRecords.l1 k2 cu15 t311 t312 t313 t314 t318 x14_1 false (wrap64 (x18_2 + 1)) bl6 bl7) = some r := by rw [if_neg (show ¬ (false = true) by decide)] at H; exact H
                          clear H
                          have H := H1
                          clear H1
                          have H' := Aside0.mk H
                          clear H
                          go_wp2
                          repeat (go_quiet (fail); try go_wp2)
                          go_roundg k2
                          case measure => have := HK1.out; have := HK2.out; omega
                          case rel => exact ⟨(false), (wrap64 (x18_2 + 1)), (by first | rfl | (simp; done) | (simp [*]; done)), (by first | rfl | (simp; done) | (simp [*]; done)), H', ⟨by have := HK1.out; have := HK2.out; omega⟩, ⟨by (with_reducible repeat (first | refine blk_drewN ?_ _ | refine blk_drew ?_ | refine blk_alloc ?_ _)); exact BK308.out⟩, ⟨by repeat (first | (with_reducible first | exact HB.out | apply below_alloc | apply pw_below_drewN | apply below_drew1 | refine below_set ?_ GE308.out) | exact HB.out)⟩⟩
                      · rw [if_neg c51] at H
                        have c51b0 : decide (x18_2 < (cu15.length : Int)) = false := decide_eq_false c51
                        clear c51
                        by_cases c57 : t311.toList = t313.toList
                        · rw [if_pos c57] at H
                          have c57b0 : (t311.toList == t313.toList) = true := beq_iff_eq.mpr c57
                          have c57b1 : (t311.toList != t313.toList) = false := bne_eq_false_iff_eq.mpr c57
                          clear c57
                          by_cases c58 : (t312 == t314) = true
                          · rw [if_pos c58] at H
                            have c58b0 : (t312 == t314) = true := c58
                            (try (have c58b1 : decide (t312 = t314) = true := by simpa using c58))
                            (try (have c58b2 : (t312 == t314) = true := by simpa using c58))
                            clear c58
                            by_cases c59 : t318 = x14_1
                            · rw [if_pos c59] at H
                              have c59b0 : (t318 == x14_1) = true := beq_iff_eq.mpr c59
                              have c59b1 : (t318 != x14_1) = false := bne_eq_false_iff_eq.mpr c59
                              clear c59
                              replace H := Option.bind_eq_some_iff.mp H
                              obtain ⟨t324, A600, H⟩ := H
                              replace H : (if (t324 == x17_2) = true then (if t312 = true then (some ((t311.size : Int) == t318)) else (some true)) else (some false)) = some r := H
                              have A60 := Aside0.mk A600
                              clear A600
                              by_cases c61 : (t324 == x17_2) = true
                              · rw [if_pos c61] at H
                                have c61b0 : (t324 == x17_2) = true := c61
                                (try (have c61b1 : decide (t324 = x17_2) = true := by simpa using c61))
                                (try (have c61b2 : (t324 == x17_2) = true := by simpa using c61))
                                clear c61
                                by_cases c62 : t312 = true
                                · subst c62
                                  have H1 : (some ((t311.size : Int) == t318)) = some r := by rw [if_pos rfl] at H; exact H
                                  clear H
                                  have H := H1
                                  clear H1
                                  obtain rfl := Option.some.inj H
                                  have hcz63_0 : wr.cell? ⟨gb308, 0, none⟩ = some (.bool bl6) := (blk_cell BK308.out 0).trans rfl
                                  have hcz63_1 : wr.cell? ⟨gb308, 1, none⟩ = some (.bool bl7) := (blk_cell BK308.out 1).trans rfl
                                  have hfz63_0 := blk_frozen BK308.out 0
                                  have hfz63_1 := blk_frozen BK308.out 1
                                  go_wp2_with (first | (go_at_call 27; (with_reducible refine (class_Form_Fits.calls k2 bl6 bl7 _ _ cu15 t324 _ ?side1 ?side2 A60.out).mono ?_); (case side1 => repeat (first | exact (Kd.C_below HR310.out HB.out) | (with_reducible refine Kd.C_alloc ?_ _) | (with_reducible refine Kd.C_drewN ?_ _) | (with_reducible refine Kd.C_drew ?_))); (case side2 => exact HC310.out); rintro e w64 ⟨rfl, hb⟩; have n0_ := Aside0.mk (blk_below (g := gb308) (o := .cells #[.bool bl6, .bool bl7] 49 (0, 0)) (by (with_reducible repeat (first | refine blk_drewN ?_ _ | refine blk_drew ?_ | refine blk_alloc ?_ _)); exact BK308.out) hb); have n1_ := Aside0.mk (below_step (by repeat (first | (with_reducible first | exact HB.out | apply below_alloc | apply pw_below_drewN | apply below_drew1 | refine below_set ?_ GE308.out) | exact HB.out)) hb); clear BK308; clear HB; have BK308 := n0_; have HB := n1_; clear n0_ n1_; (try clear hb); (try clear hb2); (try clear hk); (try clear hi)))
                                  repeat (go_quiet (first | (go_at_call 27; (with_reducible refine (class_Form_Fits.calls k2 bl6 bl7 _ _ cu15 t324 _ ?side1 ?side2 A60.out).mono ?_); (case side1 => repeat (first | exact (Kd.C_below HR310.out HB.out) | (with_reducible refine Kd.C_alloc ?_ _) | (with_reducible refine Kd.C_drewN ?_ _) | (with_reducible refine Kd.C_drew ?_))); (case side2 => exact HC310.out); rintro e w64 ⟨rfl, hb⟩; have n0_ := Aside0.mk (blk_below (g := gb308) (o := .cells #[.bool bl6, .bool bl7] 49 (0, 0)) (by (with_reducible repeat (first | refine blk_drewN ?_ _ | refine blk_drew ?_ | refine blk_alloc ?_ _)); exact BK308.out) hb); have n1_ := Aside0.mk (below_step (by repeat (first | (with_reducible first | exact HB.out | apply below_alloc | apply pw_below_drewN | apply below_drew1 | refine below_set ?_ GE308.out) | exact HB.out)) hb); clear BK308; clear HB; have BK308 := n0_; have HB := n1_; clear n0_ n1_; (try clear hb); (try clear hb2); (try clear hk); (try clear hi))); try go_wp2_with (first | (go_at_call 27; (with_reducible refine (class_Form_Fits.calls k2 bl6 bl7 _ _ cu15 t324 _ ?side1 ?side2 A60.out).mono ?_); (case side1 => repeat (first | exact (Kd.C_below HR310.out HB.out) | (with_reducible refine Kd.C_alloc ?_ _) | (with_reducible refine Kd.C_drewN ?_ _) | (with_reducible refine Kd.C_drew ?_))); (case side2 => exact HC310.out); rintro e w64 ⟨rfl, hb⟩; have n0_ := Aside0.mk (blk_below (g := gb308) (o := .cells #[.bool bl6, .bool bl7] 49 (0, 0)) (by (with_reducible repeat (first | refine blk_drewN ?_ _ | refine blk_drew ?_ | refine blk_alloc ?_ _)); exact BK308.out) hb); have n1_ := Aside0.mk (below_step (by repeat (first | (with_reducible first | exact HB.out | apply below_alloc | apply pw_below_drewN | apply below_drew1 | refine below_set ?_ GE308.out) | exact HB.out)) hb); clear BK308; clear HB; have BK308 := n0_; have HB := n1_; clear n0_ n1_; (try clear hb); (try clear hb2); (try clear hk); (try clear hi))))
                                  go_ret
                                  exact ⟨by first | rfl | (simp [errW_none, errW_some] <;> rfl) | (simp only [← hji8, ← hji12]; first | rfl | (simp [errW_none, errW_some] <;> rfl)) | (simp [*, errW_none, errW_some] <;> rfl), by repeat (first | (with_reducible first | exact HB.out | apply below_alloc | apply pw_below_drewN | apply below_drew1 | refine below_set ?_ GE308.out) | exact HB.out)⟩
                                · replace c62 := Bool.eq_false_iff.mpr c62
                                  subst c62
                                  have H1 : (some true) = some r := by rw [if_neg (show ¬ (false = true) by decide)] at H; exact H
                                  clear H
                                  have H := H1
                                  clear H1
                                  obtain rfl := Option.some.inj H
                                  have hcz65_0 : wr.cell? ⟨gb308, 0, none⟩ = some (.bool bl6) := (blk_cell BK308.out 0).trans rfl
                                  have hcz65_1 : wr.cell? ⟨gb308, 1, none⟩ = some (.bool bl7) := (blk_cell BK308.out 1).trans rfl
                                  have hfz65_0 := blk_frozen BK308.out 0
                                  have hfz65_1 := blk_frozen BK308.out 1
                                  go_wp2_with (first | (go_at_call 27; (with_reducible refine (class_Form_Fits.calls k2 bl6 bl7 _ _ cu15 t324 _ ?side1 ?side2 A60.out).mono ?_); (case side1 => repeat (first | exact (Kd.C_below HR310.out HB.out) | (with_reducible refine Kd.C_alloc ?_ _) | (with_reducible refine Kd.C_drewN ?_ _) | (with_reducible refine Kd.C_drew ?_))); (case side2 => exact HC310.out); rintro e w66 ⟨rfl, hb⟩; have n0_ := Aside0.mk (blk_below (g := gb308) (o := .cells #[.bool bl6, .bool bl7] 49 (0, 0)) (by (with_reducible repeat (first | refine blk_drewN ?_ _ | refine blk_drew ?_ | refine blk_alloc ?_ _)); exact BK308.out) hb); have n1_ := Aside0.mk (below_step (by repeat (first | (with_reducible first | exact HB.out | apply below_alloc | apply pw_below_drewN | apply below_drew1 | refine below_set ?_ GE308.out) | exact HB.out)) hb); clear BK308; clear HB; have BK308 := n0_; have HB := n1_; clear n0_ n1_; (try clear hb); (try clear hb2); (try clear hk); (try clear hi)))
                                  repeat (go_quiet (first | (go_at_call 27; (with_reducible refine (class_Form_Fits.calls k2 bl6 bl7 _ _ cu15 t324 _ ?side1 ?side2 A60.out).mono ?_); (case side1 => repeat (first | exact (Kd.C_below HR310.out HB.out) | (with_reducible refine Kd.C_alloc ?_ _) | (with_reducible refine Kd.C_drewN ?_ _) | (with_reducible refine Kd.C_drew ?_))); (case side2 => exact HC310.out); rintro e w66 ⟨rfl, hb⟩; have n0_ := Aside0.mk (blk_below (g := gb308) (o := .cells #[.bool bl6, .bool bl7] 49 (0, 0)) (by (with_reducible repeat (first | refine blk_drewN ?_ _ | refine blk_drew ?_ | refine blk_alloc ?_ _)); exact BK308.out) hb); have n1_ := Aside0.mk (below_step (by repeat (first | (with_reducible first | exact HB.out | apply below_alloc | apply pw_below_drewN | apply below_drew1 | refine below_set ?_ GE308.out) | exact HB.out)) hb); clear BK308; clear HB; have BK308 := n0_; have HB := n1_; clear n0_ n1_; (try clear hb); (try clear hb2); (try clear hk); (try clear hi))); try go_wp2_with (first | (go_at_call 27; (with_reducible refine (class_Form_Fits.calls k2 bl6 bl7 _ _ cu15 t324 _ ?side1 ?side2 A60.out).mono ?_); (case side1 => repeat (first | exact (Kd.C_below HR310.out HB.out) | (with_reducible refine Kd.C_alloc ?_ _) | (with_reducible refine Kd.C_drewN ?_ _) | (with_reducible refine Kd.C_drew ?_))); (case side2 => exact HC310.out); rintro e w66 ⟨rfl, hb⟩; have n0_ := Aside0.mk (blk_below (g := gb308) (o := .cells #[.bool bl6, .bool bl7] 49 (0, 0)) (by (with_reducible repeat (first | refine blk_drewN ?_ _ | refine blk_drew ?_ | refine blk_alloc ?_ _)); exact BK308.out) hb); have n1_ := Aside0.mk (below_step (by repeat (first | (with_reducible first | exact HB.out | apply below_alloc | apply pw_below_drewN | apply below_drew1 | refine below_set ?_ GE308.out) | exact HB.out)) hb); clear BK308; clear HB; have BK308 := n0_; have HB := n1_; clear n0_ n1_; (try clear hb); (try clear hb2); (try clear hk); (try clear hi))))
                                  go_ret
                                  exact ⟨by first | rfl | (simp [errW_none, errW_some] <;> rfl) | (simp only [← hji8, ← hji12]; first | rfl | (simp [errW_none, errW_some] <;> rfl)) | (simp [*, errW_none, errW_some] <;> rfl), by repeat (first | (with_reducible first | exact HB.out | apply below_alloc | apply pw_below_drewN | apply below_drew1 | refine below_set ?_ GE308.out) | exact HB.out)⟩
                              · rw [if_neg c61] at H
                                have c61b0 : (t324 == x17_2) = false := by simpa using c61
                                (try (have c61b1 : decide (t324 = x17_2) = false := by simpa using c61))
                                (try (have c61b2 : (t324 == x17_2) = false := by simpa using c61))
                                (try (have c61b3 : ¬ (t324 = x17_2) := by simpa using c61))
                                clear c61
                                obtain rfl := Option.some.inj H
                                have hcz67_0 : wr.cell? ⟨gb308, 0, none⟩ = some (.bool bl6) := (blk_cell BK308.out 0).trans rfl
                                have hcz67_1 : wr.cell? ⟨gb308, 1, none⟩ = some (.bool bl7) := (blk_cell BK308.out 1).trans rfl
                                have hfz67_0 := blk_frozen BK308.out 0
                                have hfz67_1 := blk_frozen BK308.out 1
                                go_wp2_with (first | (go_at_call 27; (with_reducible refine (class_Form_Fits.calls k2 bl6 bl7 _ _ cu15 t324 _ ?side1 ?side2 A60.out).mono ?_); (case side1 => repeat (first | exact (Kd.C_below HR310.out HB.out) | (with_reducible refine Kd.C_alloc ?_ _) | (with_reducible refine Kd.C_drewN ?_ _) | (with_reducible refine Kd.C_drew ?_))); (case side2 => exact HC310.out); rintro e w68 ⟨rfl, hb⟩; have n0_ := Aside0.mk (blk_below (g := gb308) (o := .cells #[.bool bl6, .bool bl7] 49 (0, 0)) (by (with_reducible repeat (first | refine blk_drewN ?_ _ | refine blk_drew ?_ | refine blk_alloc ?_ _)); exact BK308.out) hb); have n1_ := Aside0.mk (below_step (by repeat (first | (with_reducible first | exact HB.out | apply below_alloc | apply pw_below_drewN | apply below_drew1 | refine below_set ?_ GE308.out) | exact HB.out)) hb); clear BK308; clear HB; have BK308 := n0_; have HB := n1_; clear n0_ n1_; (try clear hb); (try clear hb2); (try clear hk); (try clear hi)))
                                repeat (go_quiet (first | (go_at_call 27; (with_reducible refine (class_Form_Fits.calls k2 bl6 bl7 _ _ cu15 t324 _ ?side1 ?side2 A60.out).mono ?_); (case side1 => repeat (first | exact (Kd.C_below HR310.out HB.out) | (with_reducible refine Kd.C_alloc ?_ _) | (with_reducible refine Kd.C_drewN ?_ _) | (with_reducible refine Kd.C_drew ?_))); (case side2 => exact HC310.out); rintro e w68 ⟨rfl, hb⟩; have n0_ := Aside0.mk (blk_below (g := gb308) (o := .cells #[.bool bl6, .bool bl7] 49 (0, 0)) (by (with_reducible repeat (first | refine blk_drewN ?_ _ | refine blk_drew ?_ | refine blk_alloc ?_ _)); exact BK308.out) hb); have n1_ := Aside0.mk (below_step (by repeat (first | (with_reducible first | exact HB.out | apply below_alloc | apply pw_below_drewN | apply below_drew1 | refine below_set ?_ GE308.out) | exact HB.out)) hb); clear BK308; clear HB; have BK308 := n0_; have HB := n1_; clear n0_ n1_; (try clear hb); (try clear hb2); (try clear hk); (try clear hi))); try go_wp2_with (first | (go_at_call 27; (with_reducible refine (class_Form_Fits.calls k2 bl6 bl7 _ _ cu15 t324 _ ?side1 ?side2 A60.out).mono ?_); (case side1 => repeat (first | exact (Kd.C_below HR310.out HB.out) | (with_reducible refine Kd.C_alloc ?_ _) | (with_reducible refine Kd.C_drewN ?_ _) | (with_reducible refine Kd.C_drew ?_))); (case side2 => exact HC310.out); rintro e w68 ⟨rfl, hb⟩; have n0_ := Aside0.mk (blk_below (g := gb308) (o := .cells #[.bool bl6, .bool bl7] 49 (0, 0)) (by (with_reducible repeat (first | refine blk_drewN ?_ _ | refine blk_drew ?_ | refine blk_alloc ?_ _)); exact BK308.out) hb); have n1_ := Aside0.mk (below_step (by repeat (first | (with_reducible first | exact HB.out | apply below_alloc | apply pw_below_drewN | apply below_drew1 | refine below_set ?_ GE308.out) | exact HB.out)) hb); clear BK308; clear HB; have BK308 := n0_; have HB := n1_; clear n0_ n1_; (try clear hb); (try clear hb2); (try clear hk); (try clear hi))))
                                go_ret
                                exact ⟨by first | rfl | (simp [errW_none, errW_some] <;> rfl) | (simp only [← hji8, ← hji12]; first | rfl | (simp [errW_none, errW_some] <;> rfl)) | (simp [*, errW_none, errW_some] <;> rfl), by repeat (first | (with_reducible first | exact HB.out | apply below_alloc | apply pw_below_drewN | apply below_drew1 | refine below_set ?_ GE308.out) | exact HB.out)⟩
                            · rw [if_neg c59] at H
                              have c59b0 : (t318 == x14_1) = false := beq_eq_false_iff_ne.mpr c59
                              have c59b1 : (t318 != x14_1) = true := bne_iff_ne.mpr c59
                              obtain rfl := Option.some.inj H
                              go_wp2
                              repeat (go_quiet (fail); try go_wp2)
                              go_ret
                              exact ⟨by first | rfl | (simp [errW_none, errW_some] <;> rfl) | (simp only [← hji8, ← hji12]; first | rfl | (simp [errW_none, errW_some] <;> rfl)) | (simp [*, errW_none, errW_some] <;> rfl), by repeat (first | (with_reducible first | exact HB.out | apply below_alloc | apply pw_below_drewN | apply below_drew1 | refine below_set ?_ GE308.out) | exact HB.out)⟩
                          · rw [if_neg c58] at H
                            have c58b0 : (t312 == t314) = false := by simpa using c58
                            (try (have c58b1 : decide (t312 = t314) = false := by simpa using c58))
                            (try (have c58b2 : (t312 == t314) = false := by simpa using c58))
                            (try (have c58b3 : ¬ (t312 = t314) := by simpa using c58))
                            clear c58
                            obtain rfl := Option.some.inj H
                            go_wp2
                            repeat (go_quiet (fail); try go_wp2)
                            go_ret
                            exact ⟨by first | rfl | (simp [errW_none, errW_some] <;> rfl) | (simp only [← hji8, ← hji12]; first | rfl | (simp [errW_none, errW_some] <;> rfl)) | (simp [*, errW_none, errW_some] <;> rfl), by repeat (first | (with_reducible first | exact HB.out | apply below_alloc | apply pw_below_drewN | apply below_drew1 | refine below_set ?_ GE308.out) | exact HB.out)⟩
                        · rw [if_neg c57] at H
                          have c57b0 : (t311.toList == t313.toList) = false := beq_eq_false_iff_ne.mpr c57
                          have c57b1 : (t311.toList != t313.toList) = true := bne_iff_ne.mpr c57
                          obtain rfl := Option.some.inj H
                          go_wp2
                          repeat (go_quiet (fail); try go_wp2)
                          go_ret
                          exact ⟨by first | rfl | (simp [errW_none, errW_some] <;> rfl) | (simp only [← hji8, ← hji12]; first | rfl | (simp [errW_none, errW_some] <;> rfl)) | (simp [*, errW_none, errW_some] <;> rfl), by repeat (first | (with_reducible first | exact HB.out | apply below_alloc | apply pw_below_drewN | apply below_drew1 | refine below_set ?_ GE308.out) | exact HB.out)⟩
          · rw [if_neg c14] at H
            exact absurd H (by simp)
        · rw [if_neg c13] at H
          exact absurd H (by simp)
      · rw [if_neg c10] at H
        exact absurd H (by simp)
    · rw [if_neg c9] at H
      exact absurd H (by simp)
  · replace c5 := Bool.eq_false_iff.mpr c5
    subst c5
    have H1 : (some false) = some r := by rw [if_neg (show ¬ (false = true) by decide)] at H; exact H
    clear H
    have H := H1
    clear H1
    obtain rfl := Option.some.inj H
    go_enter Try.func7, Try.ntmps7
    go_wp2_with (first | (go_at_call 22; (with_reducible refine (graverlaw04_speaks.calls k  false _ A4.out).mono ?_); rintro e w69 ⟨rfl, hb⟩; have n0_ := Aside0.mk (below_step (by repeat (first | (with_reducible first | exact HB.out | apply below_alloc | apply pw_below_drewN | apply below_drew1) | exact HB.out)) hb); clear HB; have HB := n0_; clear n0_; (try clear hb); (try clear hb2); (try clear hk); (try clear hi)))
    repeat (go_quiet (first | (go_at_call 22; (with_reducible refine (graverlaw04_speaks.calls k  false _ A4.out).mono ?_); rintro e w69 ⟨rfl, hb⟩; have n0_ := Aside0.mk (below_step (by repeat (first | (with_reducible first | exact HB.out | apply below_alloc | apply pw_below_drewN | apply below_drew1) | exact HB.out)) hb); clear HB; have HB := n0_; clear n0_; (try clear hb); (try clear hb2); (try clear hk); (try clear hi))); try go_wp2_with (first | (go_at_call 22; (with_reducible refine (graverlaw04_speaks.calls k  false _ A4.out).mono ?_); rintro e w69 ⟨rfl, hb⟩; have n0_ := Aside0.mk (below_step (by repeat (first | (with_reducible first | exact HB.out | apply below_alloc | apply pw_below_drewN | apply below_drew1) | exact HB.out)) hb); clear HB; have HB := n0_; clear n0_; (try clear hb); (try clear hb2); (try clear hk); (try clear hi))))
    go_ret
    exact ⟨by first | rfl | (simp [errW_none, errW_some] <;> rfl) | (simp [*, errW_none, errW_some] <;> rfl), by repeat (first | (with_reducible first | exact HB.out | apply below_alloc | apply pw_below_drewN | apply below_drew1) | exact HB.out)⟩

/-- THE ONE PURE STATEMENT of graverlaw04_FormRecords: yours. -/
def graverlaw04_FormRecords.Pure : Prop := ∀ (a0 : Int) (l1 : List Int) (l2 : List Int), (Lit.int .i64 a0).wf = true → l1.length ≤ maxLen → l1.length * 8 ≤ 140737488351232 → (∀ x ∈ l1, (Lit.int .i64 x).wf = true) → l2.length ≤ maxLen → l2.length * 8 ≤ 140737488351232 → (∀ x ∈ l2, (Lit.int .u64 x).wf = true) → ∃ k, graverlaw04_FormRecords.f k a0 l1 l2 = some true
theorem graverlaw04_FormRecords.walk (P : graverlaw04_FormRecords.Pure) (a0 : Int) (a1 : Option Addr) (len1 cap1 : Nat) (z1 : List Int) (a2 : Option Addr) (len2 cap2 : Nat) (z2 : List Int) (w : World) (w0 : (Lit.int .i64 a0).wf = true) (w1 : (a1 = none ∧ len1 = 0 ∧ cap1 = 0 ∧ z1 = []) ∨ ∃ x, a1 = some x ∧ len1 ≤ cap1 ∧ cap1 ≤ maxLen ∧ z1.length = cap1 ∧ (∀ i, i < z1.length → w.cell? (x.add i) = some (.int .i64 (z1.getD i 0))) ∧ ∀ n ∈ z1, (Lit.int .i64 n).wf = true) (y1 : len1 * 8 ≤ 140737488351232) (w2 : (a2 = none ∧ len2 = 0 ∧ cap2 = 0 ∧ z2 = []) ∨ ∃ x, a2 = some x ∧ len2 ≤ cap2 ∧ cap2 ≤ maxLen ∧ z2.length = cap2 ∧ (∀ i, i < z2.length → w.cell? (x.add i) = some (.int .u64 (z2.getD i 0))) ∧ ∀ n ∈ z2, (Lit.int .u64 n).wf = true) (y2 : len2 * 8 ≤ 140737488351232) :
    Calls Try.prog 7 #[.int .i64 a0, .slice a1 len1 cap1, .slice a2 len2 cap2] w fun e w' => e = .returned (.bool true) ∧ Below w.heap.size w w' := by
  obtain ⟨l1, rfl, hr1, hm1, hw1, hc1⟩ := ReadsInt.ofRowC w1
  obtain ⟨l2, rfl, hr2, hm2, hw2, hc2⟩ := ReadsInt.ofRowC w2
  obtain ⟨k, h⟩ := P a0 l1 l2 w0 hm1 y1 hw1 hm2 y2 hw2
  refine (graverlaw04_FormRecords.calls k a0 _ _ l1 _ _ l2 true w (Kd.C_of_reads (d := (0 : Int)) (h1 := fun _ => rfl) hr1) hc1 (Kd.C_of_reads (d := (0 : Int)) (h1 := fun _ => rfl) hr2) hc2 h).mono ?_
  rintro e w' ⟨rfl, hd⟩
  exact ⟨rfl, hd⟩

end Go.Proofs.Ythbkjppaimjpmaa.Q
