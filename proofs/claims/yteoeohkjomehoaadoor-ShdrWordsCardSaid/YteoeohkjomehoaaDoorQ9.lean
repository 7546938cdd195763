/- What Go functions of the program compute, each as a Lean function with the proof that the call returns just that. No condition but those in the statements. -/
import Derived.Test.YteoeohkjomehoaaDoorQ0
import Derived.Test.YteoeohkjomehoaaDoorQ6
import Derived.Test.YteoeohkjomehoaaDoorQ8
namespace Go.Proofs.YteoeohkjomehoaaDoor.Q
open Go.RowKit Go.Proofs.YteoeohkjomehoaaDoorW.PrintWords Go.Proofs.YteoeohkjomehoaaDoorW.PrintLast Go.Proofs.YteoeohkjomehoaaDoorW.PrintMore
attribute [local go_sem] max2_int min2_int max_two min_two max_three min_three max_four min_four   -- for this text's walks alone
set_option linter.unusedVariables false
set_option linter.unusedSimpArgs false

/-! ### graverlaw06_ShdrWords: function 5 -/
mutual
def graverlaw06_ShdrWords.j0 : Nat → Int → Int → Bool → Option (Bool)
 | 0, _, _, _ => none
 | k + 1, x0, x1, x33 => if x33 = true then (some false) else (graverlaw06_ShdrWords.l0 k x0 x1 (⟨#[87, 65, 88, 46, 77, 83, 73, 76, 79, 71, 84, 67]⟩ : ByteArray) (⟨#[]⟩ : ByteArray) 0)
def graverlaw06_ShdrWords.l0 : Nat → Int → Int → ByteArray → ByteArray → Int → Option (Bool)
 | 0, _, _, _, _, _ => none
 | k + 1, x0, x1, x6, x7, x8 => if x8 < 12 then (if 0 ≤ x8 then (if (Go.bits .and .u64 (shr .u64 x0 x8) 1) = 1 then (if x8 = 3 then (graverlaw06_ShdrWords.l0 k x0 x1 x6 x7 (wrap64 (x8 + 1))) else (if x8 ≤ (wrap64 (x8 + 1)) then (if (wrap64 (x8 + 1)) ≤ (x6.size : Int) then (if x7.size + (x6.extract (x8 : Int).toNat ((wrap64 (x8 + 1)) : Int).toNat).size ≤ 9223372036854775807 then (graverlaw06_ShdrWords.l0 k x0 x1 x6 (x7 ++ (x6.extract (x8 : Int).toNat ((wrap64 (x8 + 1)) : Int).toNat)) (wrap64 (x8 + 1))) else (none)) else (none)) else (none))) else (graverlaw06_ShdrWords.l0 k x0 x1 x6 x7 (wrap64 (x8 + 1)))) else (none)) else ((shdr_FlagLetters.f k x0).bind fun t166 => (if (t166.size : Int) < (x7.size : Int) then (graverlaw06_ShdrWords.j2 k x0 x1 t166 true) else (if 0 ≤ (x7.size : Int) then (if (x7.size : Int) ≤ (t166.size : Int) then (if (t166.extract 0 ((x7.size : Int) : Int).toNat).toList = x7.toList then (if (x0 / 4096) > 0 then (graverlaw06_ShdrWords.j2 k x0 x1 t166 (!(decide ((t166.size : Int) > (x7.size : Int))))) else (if (t166.size : Int) > (x7.size : Int) then (graverlaw06_ShdrWords.j2 k x0 x1 t166 (!((Go.bits .and .u64 (x0 / 8) 1) == 1))) else (graverlaw06_ShdrWords.j2 k x0 x1 t166 ((Go.bits .and .u64 (x0 / 8) 1) == 1)))) else (graverlaw06_ShdrWords.j2 k x0 x1 t166 true)) else (none)) else (none))))
def graverlaw06_ShdrWords.j2 : Nat → Int → Int → ByteArray → Bool → Option (Bool)
 | 0, _, _, _, _ => none
 | k + 1, x0, x1, x9, x85 => if x85 = true then (some false) else ((shdr_TypeName.f x0).bind fun t167 => ((shdr_TypeName.f x1).bind fun t168 => (if t167.toList = t168.toList then (if x0 = x1 then ((shdr_FlagLetters.f k x1).bind fun t169 => (if x9.toList = t169.toList then (some (x0 == x1)) else (some (!(x0 == x1))))) else (some false)) else (if x0 = x1 then (some false) else ((shdr_FlagLetters.f k x1).bind fun t170 => (if x9.toList = t170.toList then (some (x0 == x1)) else (some (!(x0 == x1)))))))))
end
def graverlaw06_ShdrWords.f (k : Nat) (a0 : Int) (a1 : Int) : Option (Bool) := (graverlaw06_speaks.f k).bind fun t158 => (if t158 = true then ((some (([(⟨#[78, 85, 76, 76]⟩ : ByteArray), (⟨#[80, 82, 79, 71, 66, 73, 84, 83]⟩ : ByteArray), (⟨#[83, 89, 77, 84, 65, 66]⟩ : ByteArray), (⟨#[83, 84, 82, 84, 65, 66]⟩ : ByteArray), (⟨#[82, 69, 76, 65]⟩ : ByteArray), (⟨#[72, 65, 83, 72]⟩ : ByteArray), (⟨#[68, 89, 78, 65, 77, 73, 67]⟩ : ByteArray), (⟨#[78, 79, 84, 69]⟩ : ByteArray), (⟨#[78, 79, 66, 73, 84, 83]⟩ : ByteArray), (⟨#[82, 69, 76]⟩ : ByteArray), (⟨#[83, 72, 76, 73, 66]⟩ : ByteArray), (⟨#[68, 89, 78, 83, 89, 77]⟩ : ByteArray), (⟨#[48, 120, 99]⟩ : ByteArray), (⟨#[48, 120, 100]⟩ : ByteArray), (⟨#[73, 78, 73, 84, 95, 65, 82, 82, 65, 89]⟩ : ByteArray), (⟨#[70, 73, 78, 73, 95, 65, 82, 82, 65, 89]⟩ : ByteArray), (⟨#[80, 82, 69, 73, 78, 73, 84, 95, 65, 82, 82, 65, 89]⟩ : ByteArray), (⟨#[71, 82, 79, 85, 80]⟩ : ByteArray), (⟨#[83, 89, 77, 84, 65, 66, 95, 83, 72, 78, 68, 88]⟩ : ByteArray)] : List ByteArray) : List ByteArray)).bind fun y159 => (if a0 < 19 then ((shdr_TypeName.f a0).bind fun t162 => (if 0 ≤ a0 then (if a0 < (y159.length : Int) then (if t162.toList = (rdOf ByteArray.empty y159 a0).toList then (if a0 ≥ 19 then ((shdr_TypeName.f a0).bind fun t164 => (if 0 ≤ 2 then (if 2 ≤ (t164.size : Int) then (graverlaw06_ShdrWords.j0 k a0 a1 ((t164.extract 0 2).toList != ([48, 120] : List UInt8))) else (none)) else (none))) else (graverlaw06_ShdrWords.j0 k a0 a1 false)) else (graverlaw06_ShdrWords.j0 k a0 a1 true)) else (none)) else (none))) else (if a0 ≥ 19 then ((shdr_TypeName.f a0).bind fun t165 => (if 0 ≤ 2 then (if 2 ≤ (t165.size : Int) then (graverlaw06_ShdrWords.j0 k a0 a1 ((t165.extract 0 2).toList != ([48, 120] : List UInt8))) else (none)) else (none))) else (graverlaw06_ShdrWords.j0 k a0 a1 false)))) else (some false))
theorem graverlaw06_ShdrWords.mono_l : ∀ k, (∀ y0 y1 y2, LeO (graverlaw06_ShdrWords.j0 k y0 y1 y2) (graverlaw06_ShdrWords.j0 (k + 1) y0 y1 y2)) ∧ (∀ y0 y1 y2 y3 y4, LeO (graverlaw06_ShdrWords.l0 k y0 y1 y2 y3 y4) (graverlaw06_ShdrWords.l0 (k + 1) y0 y1 y2 y3 y4)) ∧ (∀ y0 y1 y2 y3, LeO (graverlaw06_ShdrWords.j2 k y0 y1 y2 y3) (graverlaw06_ShdrWords.j2 (k + 1) y0 y1 y2 y3))
 | 0 => ⟨fun _ _ _ r h => by simp [graverlaw06_ShdrWords.j0] at h, fun _ _ _ _ _ r h => by simp [graverlaw06_ShdrWords.l0] at h, fun _ _ _ _ r h => by simp [graverlaw06_ShdrWords.j2] at h⟩
 | k + 1 => by
  obtain ⟨ih0, ih1, ih2⟩ := graverlaw06_ShdrWords.mono_l k
  refine ⟨?_, ?_, ?_⟩
  ·
   intro y0 y1 y2
   unfold graverlaw06_ShdrWords.j0
   repeat' first
   | (with_reducible exact ih0 _ _ _)
   | (with_reducible exact ih1 _ _ _ _ _)
   | (with_reducible exact ih2 _ _ _ _)
   | (with_reducible exact graverlaw06_speaks.mono _)
   | (with_reducible exact shdr_FlagLetters.mono _ _)
   | (with_reducible exact LeO.refl _)
   | (with_reducible exact LeO.none _)
   | (with_reducible refine LeO.ite ?_ ?_)
   | (with_reducible refine LeO.bind ?_ (fun _ => ?_))
   | exact ih0 _ _ _
   | exact ih1 _ _ _ _ _
   | exact ih2 _ _ _ _
   | exact graverlaw06_speaks.mono _
   | exact shdr_FlagLetters.mono _ _
   | exact LeO.none _
   | refine LeO.ite ?_ ?_
   | refine LeO.bind ?_ (fun _ => ?_)
  ·
   intro y0 y1 y2 y3 y4
   unfold graverlaw06_ShdrWords.l0
   repeat' first
   | (with_reducible exact ih0 _ _ _)
   | (with_reducible exact ih1 _ _ _ _ _)
   | (with_reducible exact ih2 _ _ _ _)
   | (with_reducible exact graverlaw06_speaks.mono _)
   | (with_reducible exact shdr_FlagLetters.mono _ _)
   | (with_reducible exact LeO.refl _)
   | (with_reducible exact LeO.none _)
   | (with_reducible refine LeO.ite ?_ ?_)
   | (with_reducible refine LeO.bind ?_ (fun _ => ?_))
   | exact ih0 _ _ _
   | exact ih1 _ _ _ _ _
   | exact ih2 _ _ _ _
   | exact graverlaw06_speaks.mono _
   | exact shdr_FlagLetters.mono _ _
   | exact LeO.none _
   | refine LeO.ite ?_ ?_
   | refine LeO.bind ?_ (fun _ => ?_)
  ·
   intro y0 y1 y2 y3
   unfold graverlaw06_ShdrWords.j2
   repeat' first
   | (with_reducible exact ih0 _ _ _)
   | (with_reducible exact ih1 _ _ _ _ _)
   | (with_reducible exact ih2 _ _ _ _)
   | (with_reducible exact graverlaw06_speaks.mono _)
   | (with_reducible exact shdr_FlagLetters.mono _ _)
   | (with_reducible exact LeO.refl _)
   | (with_reducible exact LeO.none _)
   | (with_reducible refine LeO.ite ?_ ?_)
   | (with_reducible refine LeO.bind ?_ (fun _ => ?_))
   | exact ih0 _ _ _
   | exact ih1 _ _ _ _ _
   | exact ih2 _ _ _ _
   | exact graverlaw06_speaks.mono _
   | exact shdr_FlagLetters.mono _ _
   | exact LeO.none _
   | refine LeO.ite ?_ ?_
   | refine LeO.bind ?_ (fun _ => ?_)
theorem graverlaw06_ShdrWords.mono : ∀ a0 a1 k, LeO (graverlaw06_ShdrWords.f k a0 a1) (graverlaw06_ShdrWords.f (k + 1) a0 a1) := by
 intro a0 a1 k
 obtain ⟨ih0, ih1, ih2⟩ := graverlaw06_ShdrWords.mono_l k
 unfold graverlaw06_ShdrWords.f
 repeat' first
   | (with_reducible exact ih0 _ _ _)
   | (with_reducible exact ih1 _ _ _ _ _)
   | (with_reducible exact ih2 _ _ _ _)
   | (with_reducible exact graverlaw06_speaks.mono _)
   | (with_reducible exact shdr_FlagLetters.mono _ _)
   | (with_reducible exact LeO.refl _)
   | (with_reducible exact LeO.none _)
   | (with_reducible refine LeO.ite ?_ ?_)
   | (with_reducible refine LeO.bind ?_ (fun _ => ?_))
   | exact ih0 _ _ _
   | exact ih1 _ _ _ _ _
   | exact ih2 _ _ _ _
   | exact graverlaw06_speaks.mono _
   | exact shdr_FlagLetters.mono _ _
   | exact LeO.none _
   | refine LeO.ite ?_ ?_
   | refine LeO.bind ?_ (fun _ => ?_)
def graverlaw06_ShdrWords.T4 : Bool × List (List Nat × List Nat) := (true, [([], []), ([0], [0]), ([1], [1]), ([2], [2]), ([3, 2, 2], [2, 3]), ([2], [2]), ([2], [2]), ([5, 6, 2], [2, 5, 6]), ([7, 2], [2, 7]), ([4, 8, 2], [2, 4, 8]), ([2, 9], [2, 9]), ([10, 4], [10]), ([11], [11]), ([12, 11], [11, 12]), ([13, 11, 11], [11, 13]), ([14], [14]), ([15, 14, 14], [14, 15]), ([16, 14], [14, 16]), ([17, 14], [14, 17]), ([14, 18, 11], [11, 14, 18]), ([11, 19], [11, 19])])
def graverlaw06_ShdrWords.B4 : List Nat := [0, 1, 3, 7, 15, 7, 7, 103, 231, 511, 1023, 2047, 4095, 8191, 16383, 32767, 65535, 131071, 262143, 524287, 1048575]
theorem graverlaw06_ShdrWords.tab4 : rtab .any (opsOf Tryd.f5 4) = graverlaw06_ShdrWords.T4 := by kernel_rfl
theorem graverlaw06_ShdrWords.bits4 : waitsOk graverlaw06_ShdrWords.T4.2 graverlaw06_ShdrWords.B4 = true := by kernel_rfl
set_option maxHeartbeats 8000000 in
set_option maxRecDepth 100000 in
theorem graverlaw06_ShdrWords.calls (k : Nat) (a0 : Int) (a1 : Int) (r : Bool) (w : World) (hlaid_shdr : Laid_shdr w) (hlaid_shdrn : Laid_shdrn w) (hlaid_strconv : Laid_strconv w) (hrt : r = true) (h : graverlaw06_ShdrWords.f k a0 a1 = some r) :
  Calls Tryd.prog 5 #[.int .u64 a0, .int .u64 a1] w fun e w' => e = .returned (.bool r) ∧ Below w.heap.size w w' := by
 have HB := aS (Below.refl w.heap.size w)
 have HLD_shdr := aS hlaid_shdr
 clear hlaid_shdr
 have HLD_shdrn := aS hlaid_shdrn
 clear hlaid_shdrn
 have HLD_strconv := aS hlaid_strconv
 clear hlaid_strconv
 have HRT := aS hrt
 clear hrt
 have H : ((graverlaw06_speaks.f k).bind fun t158 => (if t158 = true then ((some (([(⟨#[78, 85, 76, 76]⟩ : ByteArray), (⟨#[80, 82, 79, 71, 66, 73, 84, 83]⟩ : ByteArray), (⟨#[83, 89, 77, 84, 65, 66]⟩ : ByteArray), (⟨#[83, 84, 82, 84, 65, 66]⟩ : ByteArray), (⟨#[82, 69, 76, 65]⟩ : ByteArray), (⟨#[72, 65, 83, 72]⟩ : ByteArray), (⟨#[68, 89, 78, 65, 77, 73, 67]⟩ : ByteArray), (⟨#[78, 79, 84, 69]⟩ : ByteArray), (⟨#[78, 79, 66, 73, 84, 83]⟩ : ByteArray), (⟨#[82, 69, 76]⟩ : ByteArray), (⟨#[83, 72, 76, 73, 66]⟩ : ByteArray), (⟨#[68, 89, 78, 83, 89, 77]⟩ : ByteArray), (⟨#[48, 120, 99]⟩ : ByteArray), (⟨#[48, 120, 100]⟩ : ByteArray), (⟨#[73, 78, 73, 84, 95, 65, 82, 82, 65, 89]⟩ : ByteArray), (⟨#[70, 73, 78, 73, 95, 65, 82, 82, 65, 89]⟩ : ByteArray), (⟨#[80, 82, 69, 73, 78, 73, 84, 95, 65, 82, 82, 65, 89]⟩ : ByteArray), (⟨#[71, 82, 79, 85, 80]⟩ : ByteArray), (⟨#[83, 89, 77, 84, 65, 66, 95, 83, 72, 78, 68, 88]⟩ : ByteArray)] : List ByteArray) : List ByteArray)).bind fun y159 => (if a0 < 19 then ((shdr_TypeName.f a0).bind fun t162 => (if 0 ≤ a0 then (if a0 < (y159.length : Int) then (if t162.toList = (rdOf ByteArray.empty y159 a0).toList then (if a0 ≥ 19 then ((shdr_TypeName.f a0).bind fun t164 => (if 0 ≤ 2 then (if 2 ≤ (t164.size : Int) then (graverlaw06_ShdrWords.j0 k a0 a1 ((t164.extract 0 2).toList != ([48, 120] : List UInt8))) else (none)) else (none))) else (graverlaw06_ShdrWords.j0 k a0 a1 false)) else (graverlaw06_ShdrWords.j0 k a0 a1 true)) else (none)) else (none))) else (if a0 ≥ 19 then ((shdr_TypeName.f a0).bind fun t165 => (if 0 ≤ 2 then (if 2 ≤ (t165.size : Int) then (graverlaw06_ShdrWords.j0 k a0 a1 ((t165.extract 0 2).toList != ([48, 120] : List UInt8))) else (none)) else (none))) else (graverlaw06_ShdrWords.j0 k a0 a1 false)))) else (some false))) = some r := h
 clear h
 replace H := Option.bind_eq_some_iff.mp H
 obtain ⟨t158, A30, H⟩ := H
 replace H : (if t158 = true then ((some (([(⟨#[78, 85, 76, 76]⟩ : ByteArray), (⟨#[80, 82, 79, 71, 66, 73, 84, 83]⟩ : ByteArray), (⟨#[83, 89, 77, 84, 65, 66]⟩ : ByteArray), (⟨#[83, 84, 82, 84, 65, 66]⟩ : ByteArray), (⟨#[82, 69, 76, 65]⟩ : ByteArray), (⟨#[72, 65, 83, 72]⟩ : ByteArray), (⟨#[68, 89, 78, 65, 77, 73, 67]⟩ : ByteArray), (⟨#[78, 79, 84, 69]⟩ : ByteArray), (⟨#[78, 79, 66, 73, 84, 83]⟩ : ByteArray), (⟨#[82, 69, 76]⟩ : ByteArray), (⟨#[83, 72, 76, 73, 66]⟩ : ByteArray), (⟨#[68, 89, 78, 83, 89, 77]⟩ : ByteArray), (⟨#[48, 120, 99]⟩ : ByteArray), (⟨#[48, 120, 100]⟩ : ByteArray), (⟨#[73, 78, 73, 84, 95, 65, 82, 82, 65, 89]⟩ : ByteArray), (⟨#[70, 73, 78, 73, 95, 65, 82, 82, 65, 89]⟩ : ByteArray), (⟨#[80, 82, 69, 73, 78, 73, 84, 95, 65, 82, 82, 65, 89]⟩ : ByteArray), (⟨#[71, 82, 79, 85, 80]⟩ : ByteArray), (⟨#[83, 89, 77, 84, 65, 66, 95, 83, 72, 78, 68, 88]⟩ : ByteArray)] : List ByteArray) : List ByteArray)).bind fun y159 => (if a0 < 19 then ((shdr_TypeName.f a0).bind fun t162 => (if 0 ≤ a0 then (if a0 < (y159.length : Int) then (if t162.toList = (rdOf ByteArray.empty y159 a0).toList then (if a0 ≥ 19 then ((shdr_TypeName.f a0).bind fun t164 => (if 0 ≤ 2 then (if 2 ≤ (t164.size : Int) then (graverlaw06_ShdrWords.j0 k a0 a1 ((t164.extract 0 2).toList != ([48, 120] : List UInt8))) else (none)) else (none))) else (graverlaw06_ShdrWords.j0 k a0 a1 false)) else (graverlaw06_ShdrWords.j0 k a0 a1 true)) else (none)) else (none))) else (if a0 ≥ 19 then ((shdr_TypeName.f a0).bind fun t165 => (if 0 ≤ 2 then (if 2 ≤ (t165.size : Int) then (graverlaw06_ShdrWords.j0 k a0 a1 ((t165.extract 0 2).toList != ([48, 120] : List UInt8))) else (none)) else (none))) else (graverlaw06_ShdrWords.j0 k a0 a1 false)))) else (some false)) = some r := H
 have A3 := aS A30
 clear A30
 by_cases c4 : t158 = true
 ·
  subst c4
  have H1 : ((some (([(⟨#[78, 85, 76, 76]⟩ : ByteArray), (⟨#[80, 82, 79, 71, 66, 73, 84, 83]⟩ : ByteArray), (⟨#[83, 89, 77, 84, 65, 66]⟩ : ByteArray), (⟨#[83, 84, 82, 84, 65, 66]⟩ : ByteArray), (⟨#[82, 69, 76, 65]⟩ : ByteArray), (⟨#[72, 65, 83, 72]⟩ : ByteArray), (⟨#[68, 89, 78, 65, 77, 73, 67]⟩ : ByteArray), (⟨#[78, 79, 84, 69]⟩ : ByteArray), (⟨#[78, 79, 66, 73, 84, 83]⟩ : ByteArray), (⟨#[82, 69, 76]⟩ : ByteArray), (⟨#[83, 72, 76, 73, 66]⟩ : ByteArray), (⟨#[68, 89, 78, 83, 89, 77]⟩ : ByteArray), (⟨#[48, 120, 99]⟩ : ByteArray), (⟨#[48, 120, 100]⟩ : ByteArray), (⟨#[73, 78, 73, 84, 95, 65, 82, 82, 65, 89]⟩ : ByteArray), (⟨#[70, 73, 78, 73, 95, 65, 82, 82, 65, 89]⟩ : ByteArray), (⟨#[80, 82, 69, 73, 78, 73, 84, 95, 65, 82, 82, 65, 89]⟩ : ByteArray), (⟨#[71, 82, 79, 85, 80]⟩ : ByteArray), (⟨#[83, 89, 77, 84, 65, 66, 95, 83, 72, 78, 68, 88]⟩ : ByteArray)] : List ByteArray) : List ByteArray)).bind fun y159 => (if a0 < 19 then ((shdr_TypeName.f a0).bind fun t162 => (if 0 ≤ a0 then (if a0 < (y159.length : Int) then (if t162.toList = (rdOf ByteArray.empty y159 a0).toList then (if a0 ≥ 19 then ((shdr_TypeName.f a0).bind fun t164 => (if 0 ≤ 2 then (if 2 ≤ (t164.size : Int) then (graverlaw06_ShdrWords.j0 k a0 a1 ((t164.extract 0 2).toList != ([48, 120] : List UInt8))) else (none)) else (none))) else (graverlaw06_ShdrWords.j0 k a0 a1 false)) else (graverlaw06_ShdrWords.j0 k a0 a1 true)) else (none)) else (none))) else (if a0 ≥ 19 then ((shdr_TypeName.f a0).bind fun t165 => (if 0 ≤ 2 then (if 2 ≤ (t165.size : Int) then (graverlaw06_ShdrWords.j0 k a0 a1 ((t165.extract 0 2).toList != ([48, 120] : List UInt8))) else (none)) else (none))) else (graverlaw06_ShdrWords.j0 k a0 a1 false)))) = some r := by rw [if_pos rfl] at H; exact H
  clear H
  have H := H1
  clear H1
  obtain ⟨y159, hy159⟩ : ∃ y_ : List ByteArray, y_ = (([(⟨#[78, 85, 76, 76]⟩ : ByteArray), (⟨#[80, 82, 79, 71, 66, 73, 84, 83]⟩ : ByteArray), (⟨#[83, 89, 77, 84, 65, 66]⟩ : ByteArray), (⟨#[83, 84, 82, 84, 65, 66]⟩ : ByteArray), (⟨#[82, 69, 76, 65]⟩ : ByteArray), (⟨#[72, 65, 83, 72]⟩ : ByteArray), (⟨#[68, 89, 78, 65, 77, 73, 67]⟩ : ByteArray), (⟨#[78, 79, 84, 69]⟩ : ByteArray), (⟨#[78, 79, 66, 73, 84, 83]⟩ : ByteArray), (⟨#[82, 69, 76]⟩ : ByteArray), (⟨#[83, 72, 76, 73, 66]⟩ : ByteArray), (⟨#[68, 89, 78, 83, 89, 77]⟩ : ByteArray), (⟨#[48, 120, 99]⟩ : ByteArray), (⟨#[48, 120, 100]⟩ : ByteArray), (⟨#[73, 78, 73, 84, 95, 65, 82, 82, 65, 89]⟩ : ByteArray), (⟨#[70, 73, 78, 73, 95, 65, 82, 82, 65, 89]⟩ : ByteArray), (⟨#[80, 82, 69, 73, 78, 73, 84, 95, 65, 82, 82, 65, 89]⟩ : ByteArray), (⟨#[71, 82, 79, 85, 80]⟩ : ByteArray), (⟨#[83, 89, 77, 84, 65, 66, 95, 83, 72, 78, 68, 88]⟩ : ByteArray)] : List ByteArray)) := ⟨_, rfl⟩
  replace H : (if a0 < 19 then ((shdr_TypeName.f a0).bind fun t162 => (if 0 ≤ a0 then (if a0 < (y159.length : Int) then (if t162.toList = (rdOf ByteArray.empty y159 a0).toList then (if a0 ≥ 19 then ((shdr_TypeName.f a0).bind fun t164 => (if 0 ≤ 2 then (if 2 ≤ (t164.size : Int) then (graverlaw06_ShdrWords.j0 k a0 a1 ((t164.extract 0 2).toList != ([48, 120] : List UInt8))) else (none)) else (none))) else (graverlaw06_ShdrWords.j0 k a0 a1 false)) else (graverlaw06_ShdrWords.j0 k a0 a1 true)) else (none)) else (none))) else (if a0 ≥ 19 then ((shdr_TypeName.f a0).bind fun t165 => (if 0 ≤ 2 then (if 2 ≤ (t165.size : Int) then (graverlaw06_ShdrWords.j0 k a0 a1 ((t165.extract 0 2).toList != ([48, 120] : List UInt8))) else (none)) else (none))) else (graverlaw06_ShdrWords.j0 k a0 a1 false))) = some r := by first | (rw [hy159]; with_reducible exact H) | (have H2_ := (Option.bind_some _ _).symm.trans H; rw [hy159]; with_reducible exact H2_) | (have H2_ := (Option.bind_some _ _).symm.trans H; with_reducible exact H2_) | with_reducible exact H | (rw [hy159]; exact H) | exact H
  have Ny159 := aS hy159
  clear hy159
  have HC5 := aS H
  clear H
  go_enter Tryd.func5, Tryd.ntmps5
  go_upto_region 4 with (first | ((with_reducible refine gate_callee (f := 36) rfl ?_); refine goesL_ (some 10) rfl rfl Tryd.func36 (by kernel_rfl) rfl #[] rfl (by (try simp only [List.map_toArray, List.map_cons, List.map_nil]); first | done | rfl | (simp only [List.length_drop, List.length_take]; rfl)) ?_; (with_reducible refine (graverlaw06_speaks.calls k  true _ ?side1 A3.out).mono ?_); (case side1 => exact Laid_shdr.below HLD_shdr.out (by repeat (first | (with_reducible first | exact HB.out | apply below_alloc | apply pw_below_drewN | apply below_drew1) | exact HB.out))); rintro e w6 ⟨rfl, hb⟩; refine ⟨_, rfl, ?_⟩; have n0_ := aS (below_step (by repeat (first | (with_reducible first | exact HB.out | apply below_alloc | apply pw_below_drewN | apply below_drew1) | exact HB.out)) hb); clear HB; have HB := n0_; clear n0_; (try clear hb); (try clear hb2); (try clear hk); (try clear hi)) | ((with_reducible refine gate_dst (N := 12) rfl ?_); (try (refine gate_guard (by rfl) ?_; dsimp only)); refine Kd.R_lit Kd.string _ 9 ?hg (N := 12) ?hd (xs := ([(⟨#[78, 85, 76, 76]⟩ : ByteArray), (⟨#[80, 82, 79, 71, 66, 73, 84, 83]⟩ : ByteArray), (⟨#[83, 89, 77, 84, 65, 66]⟩ : ByteArray), (⟨#[83, 84, 82, 84, 65, 66]⟩ : ByteArray), (⟨#[82, 69, 76, 65]⟩ : ByteArray), (⟨#[72, 65, 83, 72]⟩ : ByteArray), (⟨#[68, 89, 78, 65, 77, 73, 67]⟩ : ByteArray), (⟨#[78, 79, 84, 69]⟩ : ByteArray), (⟨#[78, 79, 66, 73, 84, 83]⟩ : ByteArray), (⟨#[82, 69, 76]⟩ : ByteArray), (⟨#[83, 72, 76, 73, 66]⟩ : ByteArray), (⟨#[68, 89, 78, 83, 89, 77]⟩ : ByteArray), (⟨#[48, 120, 99]⟩ : ByteArray), (⟨#[48, 120, 100]⟩ : ByteArray), (⟨#[73, 78, 73, 84, 95, 65, 82, 82, 65, 89]⟩ : ByteArray), (⟨#[70, 73, 78, 73, 95, 65, 82, 82, 65, 89]⟩ : ByteArray), (⟨#[80, 82, 69, 73, 78, 73, 84, 95, 65, 82, 82, 65, 89]⟩ : ByteArray), (⟨#[71, 82, 79, 85, 80]⟩ : ByteArray), (⟨#[83, 89, 77, 84, 65, 66, 95, 83, 72, 78, 68, 88]⟩ : ByteArray)] : List ByteArray)) (inner := [.string (⟨#[78, 85, 76, 76]⟩ : ByteArray), .string (⟨#[80, 82, 79, 71, 66, 73, 84, 83]⟩ : ByteArray), .string (⟨#[83, 89, 77, 84, 65, 66]⟩ : ByteArray), .string (⟨#[83, 84, 82, 84, 65, 66]⟩ : ByteArray), .string (⟨#[82, 69, 76, 65]⟩ : ByteArray), .string (⟨#[72, 65, 83, 72]⟩ : ByteArray), .string (⟨#[68, 89, 78, 65, 77, 73, 67]⟩ : ByteArray), .string (⟨#[78, 79, 84, 69]⟩ : ByteArray), .string (⟨#[78, 79, 66, 73, 84, 83]⟩ : ByteArray), .string (⟨#[82, 69, 76]⟩ : ByteArray), .string (⟨#[83, 72, 76, 73, 66]⟩ : ByteArray), .string (⟨#[68, 89, 78, 83, 89, 77]⟩ : ByteArray), .string (⟨#[48, 120, 99]⟩ : ByteArray), .string (⟨#[48, 120, 100]⟩ : ByteArray), .string (⟨#[73, 78, 73, 84, 95, 65, 82, 82, 65, 89]⟩ : ByteArray), .string (⟨#[70, 73, 78, 73, 95, 65, 82, 82, 65, 89]⟩ : ByteArray), .string (⟨#[80, 82, 69, 73, 78, 73, 84, 95, 65, 82, 82, 65, 89]⟩ : ByteArray), .string (⟨#[71, 82, 79, 85, 80]⟩ : ByteArray), .string (⟨#[83, 89, 77, 84, 65, 66, 95, 83, 72, 78, 68, 88]⟩ : ByteArray)]) (ok := fun _ => True) (okp := fun _ => True) ?hr ?hp (fun _ hk => hk) trivial (Below.refl _ _) (Nat.le_refl _) (by simp) ?_; (case hd => rfl); (case hg => rfl); (case hr => (go_simp; try rfl)); (case hp => exact (Reps.one (show Kd.M Kd.string _ _ _ (⟨#[78, 85, 76, 76]⟩ : ByteArray) [.string (⟨#[78, 85, 76, 76]⟩ : ByteArray)] from rfl) (Reps.one (show Kd.M Kd.string _ _ _ (⟨#[80, 82, 79, 71, 66, 73, 84, 83]⟩ : ByteArray) [.string (⟨#[80, 82, 79, 71, 66, 73, 84, 83]⟩ : ByteArray)] from rfl) (Reps.one (show Kd.M Kd.string _ _ _ (⟨#[83, 89, 77, 84, 65, 66]⟩ : ByteArray) [.string (⟨#[83, 89, 77, 84, 65, 66]⟩ : ByteArray)] from rfl) (Reps.one (show Kd.M Kd.string _ _ _ (⟨#[83, 84, 82, 84, 65, 66]⟩ : ByteArray) [.string (⟨#[83, 84, 82, 84, 65, 66]⟩ : ByteArray)] from rfl) (Reps.one (show Kd.M Kd.string _ _ _ (⟨#[82, 69, 76, 65]⟩ : ByteArray) [.string (⟨#[82, 69, 76, 65]⟩ : ByteArray)] from rfl) (Reps.one (show Kd.M Kd.string _ _ _ (⟨#[72, 65, 83, 72]⟩ : ByteArray) [.string (⟨#[72, 65, 83, 72]⟩ : ByteArray)] from rfl) (Reps.one (show Kd.M Kd.string _ _ _ (⟨#[68, 89, 78, 65, 77, 73, 67]⟩ : ByteArray) [.string (⟨#[68, 89, 78, 65, 77, 73, 67]⟩ : ByteArray)] from rfl) (Reps.one (show Kd.M Kd.string _ _ _ (⟨#[78, 79, 84, 69]⟩ : ByteArray) [.string (⟨#[78, 79, 84, 69]⟩ : ByteArray)] from rfl) (Reps.one (show Kd.M Kd.string _ _ _ (⟨#[78, 79, 66, 73, 84, 83]⟩ : ByteArray) [.string (⟨#[78, 79, 66, 73, 84, 83]⟩ : ByteArray)] from rfl) (Reps.one (show Kd.M Kd.string _ _ _ (⟨#[82, 69, 76]⟩ : ByteArray) [.string (⟨#[82, 69, 76]⟩ : ByteArray)] from rfl) (Reps.one (show Kd.M Kd.string _ _ _ (⟨#[83, 72, 76, 73, 66]⟩ : ByteArray) [.string (⟨#[83, 72, 76, 73, 66]⟩ : ByteArray)] from rfl) (Reps.one (show Kd.M Kd.string _ _ _ (⟨#[68, 89, 78, 83, 89, 77]⟩ : ByteArray) [.string (⟨#[68, 89, 78, 83, 89, 77]⟩ : ByteArray)] from rfl) (Reps.one (show Kd.M Kd.string _ _ _ (⟨#[48, 120, 99]⟩ : ByteArray) [.string (⟨#[48, 120, 99]⟩ : ByteArray)] from rfl) (Reps.one (show Kd.M Kd.string _ _ _ (⟨#[48, 120, 100]⟩ : ByteArray) [.string (⟨#[48, 120, 100]⟩ : ByteArray)] from rfl) (Reps.one (show Kd.M Kd.string _ _ _ (⟨#[73, 78, 73, 84, 95, 65, 82, 82, 65, 89]⟩ : ByteArray) [.string (⟨#[73, 78, 73, 84, 95, 65, 82, 82, 65, 89]⟩ : ByteArray)] from rfl) (Reps.one (show Kd.M Kd.string _ _ _ (⟨#[70, 73, 78, 73, 95, 65, 82, 82, 65, 89]⟩ : ByteArray) [.string (⟨#[70, 73, 78, 73, 95, 65, 82, 82, 65, 89]⟩ : ByteArray)] from rfl) (Reps.one (show Kd.M Kd.string _ _ _ (⟨#[80, 82, 69, 73, 78, 73, 84, 95, 65, 82, 82, 65, 89]⟩ : ByteArray) [.string (⟨#[80, 82, 69, 73, 78, 73, 84, 95, 65, 82, 82, 65, 89]⟩ : ByteArray)] from rfl) (Reps.one (show Kd.M Kd.string _ _ _ (⟨#[71, 82, 79, 85, 80]⟩ : ByteArray) [.string (⟨#[71, 82, 79, 85, 80]⟩ : ByteArray)] from rfl) (Reps.one (show Kd.M Kd.string _ _ _ (⟨#[83, 89, 77, 84, 65, 66, 95, 83, 72, 78, 68, 88]⟩ : ByteArray) [.string (⟨#[83, 89, 77, 84, 65, 66, 95, 83, 72, 78, 68, 88]⟩ : ByteArray)] from rfl) (Reps.none _ _))))))))))))))))))))); intro v160 w7 ho8 hb hg_ hnew_; clear hg_ hnew_; (first | rw [← Ny159.out] at ho8 | (simp only [Int.reduceToNat] at ho8; rw [← Ny159.out] at ho8)); have n0_ := aS (Kd.R_lower ho8 (below_size (by repeat (first | (with_reducible first | exact HB.out | apply below_alloc | apply pw_below_drewN | apply below_drew1) | exact HB.out)))); have n1_ := aS (below_step (by repeat (first | (with_reducible first | exact HB.out | apply below_alloc | apply pw_below_drewN | apply below_drew1) | exact HB.out)) hb); clear HB; have HO161 := n0_; have HB := n1_; clear n0_ n1_; clear hb ho8))
  (try simp only [Act.put, List.setIfInBounds_toArray, List.set_cons_zero, List.set_cons_succ])
  go_cut [33] (fun v33 wc => ∃ (kq : Nat) (x33_4 : Bool), v33 = .bool x33_4 ∧ Aside0 (graverlaw06_ShdrWords.j0 kq a0 a1 x33_4 = some r) ∧ Aside0 (kq ≤ k) ∧ Aside0 (Below w.heap.size w wc))
  case first =>
   have H := HC5.out
   clear HC5
   by_cases c9 : a0 < 19
   ·
    rw [if_pos c9] at H
    have c9b0 : decide (a0 < 19) = true := decide_eq_true c9
    clear c9
    (first | rw [c9b0] | (simp only [i64_w, i32_w]; rw [c9b0]) | skip)
    replace H := Option.bind_eq_some_iff.mp H
    obtain ⟨t162, A100, H⟩ := H
    replace H : (if 0 ≤ a0 then (if a0 < (y159.length : Int) then (if t162.toList = (rdOf ByteArray.empty y159 a0).toList then (if a0 ≥ 19 then ((shdr_TypeName.f a0).bind fun t164 => (if 0 ≤ 2 then (if 2 ≤ (t164.size : Int) then (graverlaw06_ShdrWords.j0 k a0 a1 ((t164.extract 0 2).toList != ([48, 120] : List UInt8))) else (none)) else (none))) else (graverlaw06_ShdrWords.j0 k a0 a1 false)) else (graverlaw06_ShdrWords.j0 k a0 a1 true)) else (none)) else (none)) = some r := H
    have A10 := aS A100
    clear A100
    by_cases c11 : 0 ≤ a0
    ·
     rw [if_pos c11] at H
     have c11b0 : decide (0 ≤ a0) = true := decide_eq_true c11
     clear c11
     by_cases c12 : a0 < (y159.length : Int)
     ·
      rw [if_pos c12] at H
      have c12b0 : decide (a0 < (y159.length : Int)) = true := decide_eq_true c12
      clear c12
      by_cases c13 : t162.toList = (rdOf ByteArray.empty y159 a0).toList
      ·
       rw [if_pos c13] at H
       have c13b0 : (t162.toList == (rdOf ByteArray.empty y159 a0).toList) = true := beq_iff_eq.mpr c13
       have c13b1 : (t162.toList != (rdOf ByteArray.empty y159 a0).toList) = false := bne_eq_false_iff_eq.mpr c13
       clear c13
       by_cases c14 : a0 ≥ 19
       ·
        rw [if_pos c14] at H
        have c14b0 : decide (19 ≤ a0) = true := decide_eq_true c14
        clear c14
        replace H := Option.bind_eq_some_iff.mp H
        obtain ⟨t164, A150, H⟩ := H
        replace H : (if 0 ≤ 2 then (if 2 ≤ (t164.size : Int) then (graverlaw06_ShdrWords.j0 k a0 a1 ((t164.extract 0 2).toList != ([48, 120] : List UInt8))) else (none)) else (none)) = some r := H
        have A15 := aS A150
        clear A150
        by_cases c16 : 0 ≤ 2
        ·
         rw [if_pos c16] at H
         have c16b0 := eq_true c16
         have c16b1 : decide (0 ≤ 2) = true := decide_eq_true c16
         clear c16
         by_cases c17 : 2 ≤ (t164.size : Int)
         ·
          rw [if_pos c17] at H
          have c17b0 := eq_true c17
          have c17b1 : decide (2 ≤ (t164.size : Int)) = true := decide_eq_true c17
          clear c17
          obtain ⟨sc18, hsc18⟩ : ∃ s_ : ByteArray, (t164.extract 0 2) = s_ := ⟨_, rfl⟩
          replace H : (graverlaw06_ShdrWords.j0 k a0 a1 (sc18.toList != ([48, 120] : List UInt8))) = some r := by first | (rw [hsc18] at H; exact H) | (simp only [hsc18] at H ⊢; exact H) | exact H
          (try (have hsc18n := hsc18; simp only [Int.toNat_natCast] at hsc18n))
          have H' := aS H
          clear H
          try go_wp2
          have n0_ := aS (Kd.R_drew HO161.out)
          have n1_ := aS (below_drew1 HB.out)
          clear HO161
          clear HB
          have HO161 := n0_
          have HB := n1_
          clear n0_ n1_
          obtain ⟨Ao20, co20, eo20⟩ := Kd.R_slice HO161.out
          (first | subst eo20 | (injection eo20 with f1_ f2_ f3_; have f4_ := f1_.symm; have f5_ := f3_.symm; clear f1_ f2_ f3_; subst f4_; subst f5_))
          have p163 : 0 ≤ (a0 : Int) := of_decide_eq_true (by first | (with_reducible assumption) | assumption)
          have q163 : a0 < (y159.length : Int) := of_decide_eq_true (by first | (with_reducible assumption) | assumption)
          obtain ⟨ad163, e163, hx163_0⟩ := Kd.at_string (Kd.R_reads' HO161.out).2.2 a0 p163 q163
          cases e163
          replace p163 := eq_true p163
          replace q163 := eq_true q163
          refine start_ (n := 21) (S := fun w' => w'.cell? (ad163.add (a0).toNat) = some (.string (rdOf ByteArray.empty y159 a0))) (ds := []) #[false, false, false, false, false, false, false, false, false, false, false, false, false, false, false, false, false, false, false, false, false] (by kernel_rfl) rfl rfl (hx163_0) (fun hHeld => ?_); refine with_tabW graverlaw06_ShdrWords.tab4 graverlaw06_ShdrWords.bits4 (fun HT_ HW_ => ?_)
          generalize w7.drew = w19 at HO161 HB hx163_0 hHeld ⊢
          refine pure_ (i := 0) (N := some 13) (v := ?_) (a' := ?_) (bm 21 1) rfl rfl (any_of HT_.out (by kernel_rfl)) (fun _ _ _ h => h) (Or.inl ⟨by rfl, ?_⟩) ?_ ?_
          rotate_left
          ·
           intro w'
           go_simp
           with_reducible rfl
          rotate_left
          ·
           simp only [Act.put, aput]
           rfl
          refine pure_ (i := 1) (N := some 14) (v := ?_) (a' := ?_) (bm 21 3) rfl rfl (any_of HT_.out (by kernel_rfl)) (fun _ _ _ h => h) (Or.inl ⟨by rfl, ?_⟩) ?_ ?_
          rotate_left
          ·
           intro w'
           go_simp
           with_reducible rfl
          rotate_left
          ·
           simp only [Act.put, aput]
           rfl
          refine pure_ (i := 2) (N := some 15) (v := ?_) (a' := ?_) (bm 21 7) rfl rfl (any_of HT_.out (by kernel_rfl)) (fun _ _ _ h => h) (Or.inl ⟨by rfl, ?_⟩) ?_ ?_
          rotate_left
          ·
           intro w'
           go_simp
           with_reducible rfl
          rotate_left
          ·
           simp only [Act.put, aput]
           rfl
          refine pure_ (i := 3) (N := some 16) (v := ?_) (a' := ?_) (bm 21 15) rfl rfl (any_of HT_.out (by kernel_rfl)) (fun _ _ _ h => h) (Or.inl ⟨by rfl, ?_⟩) ?_ ?_
          rotate_left
          ·
           intro w'
           go_simp
           with_reducible rfl
          rotate_left
          ·
           simp only [Act.put, aput]
           rfl
          refine pure_ (i := 5) (N := some 18) (v := ?_) (a' := ?_) (bm 21 47) rfl rfl (any_of HT_.out (by kernel_rfl)) (fun _ _ _ h => h) (Or.inl ⟨by rfl, ?_⟩) ?_ ?_
          rotate_left
          ·
           intro w'
           go_simp
           with_reducible rfl
          rotate_left
          ·
           simp only [Act.put, aput]
           rfl
          refine pure_ (i := 6) (N := some 19) (v := ?_) (a' := ?_) (bm 21 111) rfl rfl (any_of HT_.out (by kernel_rfl)) (fun _ _ _ h => h) (Or.inl ⟨by rfl, ?_⟩) ?_ ?_
          rotate_left
          ·
           intro w'
           go_simp
           with_reducible rfl
          rotate_left
          ·
           simp only [Act.put, aput]
           rfl
          refine pure_ (i := 7) (N := some 20) (v := ?_) (a' := ?_) (bm 21 239) rfl rfl (any_of HT_.out (by kernel_rfl)) (fun _ _ _ h => h) (Or.inl ⟨by rfl, ?_⟩) ?_ ?_
          rotate_left
          ·
           intro w'
           go_simp
           with_reducible rfl
          rotate_left
          ·
           simp only [Act.put, aput]
           rfl
          refine take_ (i := 8) (N := some 21) (v := ?_) (a' := ?_) (bm 21 495) rfl rfl (take_ofW HT_.out HW_.out (by kernel_rfl)) (fun _ _ _ h => h) (Or.inl ⟨by rfl, ?_⟩) hHeld ?_ ?_
          rotate_left
          ·
           intro w' s0
           go_simp
           with_reducible rfl
          rotate_left
          ·
           simp only [Act.put, aput]
           rfl
          refine one_ (i := 4) (N := some 17) (bm 21 511) rfl rfl (one_of HT_.out (by kernel_rfl)) (by decide) (fun K hK => ?_)
          refine goes_ Tryd.func37 (by kernel_rfl) rfl #[.int .u64 a0] (by rfl) rfl rfl (by (try simp only [List.map_toArray, List.map_cons, List.map_nil]); first | done | rfl | (simp only [List.length_drop, List.length_take]; rfl)) ?_
          with_reducible refine (shdr_TypeName.calls a0 t162 _ ?side1 ?side2 A10.out).mono ?_
          (case side1 => exact Laid_shdrn.below HLD_shdrn.out (by repeat (first | (with_reducible first | exact HB.out | apply below_alloc | apply pw_below_drewN | apply below_drew1) | exact HB.out)))
          (case side2 => exact Laid_strconv.below HLD_strconv.out (by repeat (first | (with_reducible first | exact HB.out | apply below_alloc | apply pw_below_drewN | apply below_drew1) | exact HB.out)))
          rintro e w21 ⟨rfl, hb⟩
          have HS0_ := (hb.cell (World.block_lt_of_cell? _ _ (hHeld))).trans (hHeld)
          refine ⟨_, rfl, ?_⟩
          have n0_ := aS (Kd.R_below (by (with_reducible repeat (first | apply Kd.R_alloc | apply Kd.R_drewN | apply Kd.R_drew)); exact HO161.out) hb)
          have n1_ := aS (below_step (by repeat (first | (with_reducible first | exact HB.out | apply below_alloc | apply pw_below_drewN | apply below_drew1) | exact HB.out)) hb)
          clear HO161
          clear HB
          have HO161 := n0_
          have HB := n1_
          clear n0_ n1_
          (try clear hb)
          (try clear hb2)
          (try clear hk)
          (try clear hi)
          refine hK.out _ _ (HS0_) (fun hHeld => ?_)
          clear hK K
          refine norm_ (a' := ?_) ?_ ?_
          rotate_left
          ·
           show Act.put _ (some 17) _ = _
           simp only [Act.put, aput]
           rfl
          refine pure_ (i := 9) (N := some 22) (v := ?_) (a' := ?_) (bm 21 1023) rfl rfl (any_of HT_.out (by kernel_rfl)) (fun _ _ _ h => h) (Or.inl ⟨by rfl, ?_⟩) ?_ ?_
          rotate_left
          ·
           intro w'
           go_simp
           with_reducible rfl
          rotate_left
          ·
           simp only [Act.put, aput]
           rfl
          refine pure_ (i := 10) (N := some 23) (v := ?_) (a' := ?_) (bm 21 2047) rfl rfl (any_of HT_.out (by kernel_rfl)) (fun _ _ _ h => h) (Or.inl ⟨by rfl, ?_⟩) ?_ ?_
          rotate_left
          ·
           intro w'
           go_simp
           with_reducible rfl
          rotate_left
          ·
           simp only [Act.put, aput]
           rfl
          refine pure_ (i := 11) (N := some 24) (v := ?_) (a' := ?_) (bm 21 4095) rfl rfl (any_of HT_.out (by kernel_rfl)) (fun _ _ _ h => h) (Or.inl ⟨by rfl, ?_⟩) ?_ ?_
          rotate_left
          ·
           intro w'
           go_simp
           with_reducible rfl
          rotate_left
          ·
           simp only [Act.put, aput]
           rfl
          refine pure_ (i := 12) (N := some 25) (v := ?_) (a' := ?_) (bm 21 8191) rfl rfl (any_of HT_.out (by kernel_rfl)) (fun _ _ _ h => h) (Or.inl ⟨by rfl, ?_⟩) ?_ ?_
          rotate_left
          ·
           intro w'
           go_simp
           with_reducible rfl
          rotate_left
          ·
           simp only [Act.put, aput]
           rfl
          refine pure_ (i := 13) (N := some 26) (v := ?_) (a' := ?_) (bm 21 16383) rfl rfl (any_of HT_.out (by kernel_rfl)) (fun _ _ _ h => h) (Or.inl ⟨by rfl, ?_⟩) ?_ ?_
          rotate_left
          ·
           intro w'
           go_simp
           with_reducible rfl
          rotate_left
          ·
           simp only [Act.put, aput]
           rfl
          refine pure_ (i := 14) (N := some 27) (v := ?_) (a' := ?_) (bm 21 32767) rfl rfl (any_of HT_.out (by kernel_rfl)) (fun _ _ _ h => h) (Or.inl ⟨by rfl, ?_⟩) ?_ ?_
          rotate_left
          ·
           intro w'
           go_simp
           with_reducible rfl
          rotate_left
          ·
           simp only [Act.put, aput]
           rfl
          refine pure_ (i := 15) (N := some 28) (v := ?_) (a' := ?_) (bm 21 65535) rfl rfl (any_of HT_.out (by kernel_rfl)) (fun _ _ _ h => h) (Or.inl ⟨by rfl, ?_⟩) ?_ ?_
          rotate_left
          ·
           intro w'
           go_simp
           with_reducible rfl
          rotate_left
          ·
           simp only [Act.put, aput]
           rfl
          refine one_ (i := 16) (N := some 29) (bm 21 131071) rfl rfl (one_of HT_.out (by kernel_rfl)) (by decide) (fun K hK => ?_)
          refine goes_ Tryd.func37 (by kernel_rfl) rfl #[.int .u64 a0] (by rfl) rfl rfl (by (try simp only [List.map_toArray, List.map_cons, List.map_nil]); first | done | rfl | (simp only [List.length_drop, List.length_take]; rfl)) ?_
          with_reducible refine (shdr_TypeName.calls a0 t164 _ ?side1 ?side2 A15.out).mono ?_
          (case side1 => exact Laid_shdrn.below HLD_shdrn.out (by repeat (first | (with_reducible first | exact HB.out | apply below_alloc | apply pw_below_drewN | apply below_drew1) | exact HB.out)))
          (case side2 => exact Laid_strconv.below HLD_strconv.out (by repeat (first | (with_reducible first | exact HB.out | apply below_alloc | apply pw_below_drewN | apply below_drew1) | exact HB.out)))
          rintro e w22 ⟨rfl, hb⟩
          have HS0_ := (hb.cell (World.block_lt_of_cell? _ _ (hHeld))).trans (hHeld)
          refine ⟨_, rfl, ?_⟩
          have n0_ := aS (Kd.R_below (by (with_reducible repeat (first | apply Kd.R_alloc | apply Kd.R_drewN | apply Kd.R_drew)); exact HO161.out) hb)
          have n1_ := aS (below_step (by repeat (first | (with_reducible first | exact HB.out | apply below_alloc | apply pw_below_drewN | apply below_drew1) | exact HB.out)) hb)
          clear HO161
          clear HB
          have HO161 := n0_
          have HB := n1_
          clear n0_ n1_
          (try clear hb)
          (try clear hb2)
          (try clear hk)
          (try clear hi)
          refine hK.out _ _ (HS0_) (fun hHeld => ?_)
          clear hK K
          refine norm_ (a' := ?_) ?_ ?_
          rotate_left
          ·
           show Act.put _ (some 29) _ = _
           simp only [Act.put, aput]
           rfl
          refine pure_ (i := 17) (N := some 30) (v := ?_) (a' := ?_) (bm 21 262143) rfl rfl (any_of HT_.out (by kernel_rfl)) (fun _ _ _ h => h) (Or.inl ⟨by rfl, ?_⟩) ?_ ?_
          rotate_left
          ·
           intro w'
           go_simp
           with_reducible rfl
          rotate_left
          ·
           simp only [Act.put, aput]
           rfl
          refine pure_ (i := 18) (N := some 31) (v := ?_) (a' := ?_) (bm 21 524287) rfl rfl (any_of HT_.out (by kernel_rfl)) (fun _ _ _ h => h) (Or.inl ⟨by rfl, ?_⟩) ?_ ?_
          rotate_left
          ·
           intro w'
           go_simp
           with_reducible rfl
          rotate_left
          ·
           simp only [Act.put, aput]
           rfl
          refine pure_ (i := 19) (N := some 32) (v := ?_) (a' := ?_) (bm 21 1048575) rfl rfl (any_of HT_.out (by kernel_rfl)) (fun _ _ _ h => h) (Or.inl ⟨by rfl, ?_⟩) ?_ ?_
          rotate_left
          ·
           intro w'
           go_simp
           with_reducible rfl
          rotate_left
          ·
           simp only [Act.put, aput]
           rfl
          refine pure_ (i := 20) (N := some 33) (v := ?_) (a' := ?_) (bm 21 2097151) rfl rfl (any_of HT_.out (by kernel_rfl)) (fun _ _ _ h => h) (Or.inl ⟨by rfl, ?_⟩) ?_ ?_
          rotate_left
          ·
           intro w'
           go_simp
           with_reducible rfl
          rotate_left
          ·
           simp only [Act.put, aput]
           rfl
          refine done_ (done_of HT_.out (by kernel_rfl)) ?_
          try go_wp2
          go_meet
          case rel => exact ⟨_, ((sc18.toList != ([48, 120] : List UInt8))), (by first | rfl | (simp; done) | (simp [*]; done)), H', ⟨by first | omega | exact Nat.le_refl _⟩, ⟨by repeat (first | (with_reducible first | exact HB.out | apply below_alloc | apply pw_below_drewN | apply below_drew1) | exact HB.out)⟩⟩
         ·
          rw [if_neg c17] at H
          exact absurd H (by simp)
        ·
         rw [if_neg c16] at H
         exact absurd H (by simp)
       ·
        rw [if_neg c14] at H
        have c14b0 : decide (19 ≤ a0) = false := decide_eq_false c14
        clear c14
        have H' := aS H
        clear H
        try go_wp2
        have n0_ := aS (Kd.R_drew HO161.out)
        have n1_ := aS (below_drew1 HB.out)
        clear HO161
        clear HB
        have HO161 := n0_
        have HB := n1_
        clear n0_ n1_
        obtain ⟨Ao24, co24, eo24⟩ := Kd.R_slice HO161.out
        (first | subst eo24 | (injection eo24 with f1_ f2_ f3_; have f4_ := f1_.symm; have f5_ := f3_.symm; clear f1_ f2_ f3_; subst f4_; subst f5_))
        have p163 : 0 ≤ (a0 : Int) := of_decide_eq_true (by first | (with_reducible assumption) | assumption)
        have q163 : a0 < (y159.length : Int) := of_decide_eq_true (by first | (with_reducible assumption) | assumption)
        obtain ⟨ad163, e163, hx163_0⟩ := Kd.at_string (Kd.R_reads' HO161.out).2.2 a0 p163 q163
        cases e163
        replace p163 := eq_true p163
        replace q163 := eq_true q163
        refine start_ (n := 21) (S := fun w' => w'.cell? (ad163.add (a0).toNat) = some (.string (rdOf ByteArray.empty y159 a0))) (ds := []) #[false, false, false, false, false, false, false, false, false, false, false, false, false, false, false, false, false, false, false, false, false] (by kernel_rfl) rfl rfl (hx163_0) (fun hHeld => ?_); refine with_tabW graverlaw06_ShdrWords.tab4 graverlaw06_ShdrWords.bits4 (fun HT_ HW_ => ?_)
        generalize w7.drew = w23 at HO161 HB hx163_0 hHeld ⊢
        refine pure_ (i := 0) (N := some 13) (v := ?_) (a' := ?_) (bm 21 1) rfl rfl (any_of HT_.out (by kernel_rfl)) (fun _ _ _ h => h) (Or.inl ⟨by rfl, ?_⟩) ?_ ?_
        rotate_left
        ·
         intro w'
         go_simp
         with_reducible rfl
        rotate_left
        ·
         simp only [Act.put, aput]
         rfl
        refine pure_ (i := 1) (N := some 14) (v := ?_) (a' := ?_) (bm 21 3) rfl rfl (any_of HT_.out (by kernel_rfl)) (fun _ _ _ h => h) (Or.inl ⟨by rfl, ?_⟩) ?_ ?_
        rotate_left
        ·
         intro w'
         go_simp
         with_reducible rfl
        rotate_left
        ·
         simp only [Act.put, aput]
         rfl
        refine pure_ (i := 2) (N := some 15) (v := ?_) (a' := ?_) (bm 21 7) rfl rfl (any_of HT_.out (by kernel_rfl)) (fun _ _ _ h => h) (Or.inl ⟨by rfl, ?_⟩) ?_ ?_
        rotate_left
        ·
         intro w'
         go_simp
         with_reducible rfl
        rotate_left
        ·
         simp only [Act.put, aput]
         rfl
        refine pure_ (i := 3) (N := some 16) (v := ?_) (a' := ?_) (bm 21 15) rfl rfl (any_of HT_.out (by kernel_rfl)) (fun _ _ _ h => h) (Or.inl ⟨by rfl, ?_⟩) ?_ ?_
        rotate_left
        ·
         intro w'
         go_simp
         with_reducible rfl
        rotate_left
        ·
         simp only [Act.put, aput]
         rfl
        refine pure_ (i := 5) (N := some 18) (v := ?_) (a' := ?_) (bm 21 47) rfl rfl (any_of HT_.out (by kernel_rfl)) (fun _ _ _ h => h) (Or.inl ⟨by rfl, ?_⟩) ?_ ?_
        rotate_left
        ·
         intro w'
         go_simp
         with_reducible rfl
        rotate_left
        ·
         simp only [Act.put, aput]
         rfl
        refine pure_ (i := 6) (N := some 19) (v := ?_) (a' := ?_) (bm 21 111) rfl rfl (any_of HT_.out (by kernel_rfl)) (fun _ _ _ h => h) (Or.inl ⟨by rfl, ?_⟩) ?_ ?_
        rotate_left
        ·
         intro w'
         go_simp
         with_reducible rfl
        rotate_left
        ·
         simp only [Act.put, aput]
         rfl
        refine pure_ (i := 7) (N := some 20) (v := ?_) (a' := ?_) (bm 21 239) rfl rfl (any_of HT_.out (by kernel_rfl)) (fun _ _ _ h => h) (Or.inl ⟨by rfl, ?_⟩) ?_ ?_
        rotate_left
        ·
         intro w'
         go_simp
         with_reducible rfl
        rotate_left
        ·
         simp only [Act.put, aput]
         rfl
        refine take_ (i := 8) (N := some 21) (v := ?_) (a' := ?_) (bm 21 495) rfl rfl (take_ofW HT_.out HW_.out (by kernel_rfl)) (fun _ _ _ h => h) (Or.inl ⟨by rfl, ?_⟩) hHeld ?_ ?_
        rotate_left
        ·
         intro w' s0
         go_simp
         with_reducible rfl
        rotate_left
        ·
         simp only [Act.put, aput]
         rfl
        refine one_ (i := 4) (N := some 17) (bm 21 511) rfl rfl (one_of HT_.out (by kernel_rfl)) (by decide) (fun K hK => ?_)
        refine goes_ Tryd.func37 (by kernel_rfl) rfl #[.int .u64 a0] (by rfl) rfl rfl (by (try simp only [List.map_toArray, List.map_cons, List.map_nil]); first | done | rfl | (simp only [List.length_drop, List.length_take]; rfl)) ?_
        with_reducible refine (shdr_TypeName.calls a0 t162 _ ?side1 ?side2 A10.out).mono ?_
        (case side1 => exact Laid_shdrn.below HLD_shdrn.out (by repeat (first | (with_reducible first | exact HB.out | apply below_alloc | apply pw_below_drewN | apply below_drew1) | exact HB.out)))
        (case side2 => exact Laid_strconv.below HLD_strconv.out (by repeat (first | (with_reducible first | exact HB.out | apply below_alloc | apply pw_below_drewN | apply below_drew1) | exact HB.out)))
        rintro e w25 ⟨rfl, hb⟩
        have HS0_ := (hb.cell (World.block_lt_of_cell? _ _ (hHeld))).trans (hHeld)
        refine ⟨_, rfl, ?_⟩
        have n0_ := aS (Kd.R_below (by (with_reducible repeat (first | apply Kd.R_alloc | apply Kd.R_drewN | apply Kd.R_drew)); exact HO161.out) hb)
        have n1_ := aS (below_step (by repeat (first | (with_reducible first | exact HB.out | apply below_alloc | apply pw_below_drewN | apply below_drew1) | exact HB.out)) hb)
        clear HO161
        clear HB
        have HO161 := n0_
        have HB := n1_
        clear n0_ n1_
        (try clear hb)
        (try clear hb2)
        (try clear hk)
        (try clear hi)
        refine hK.out _ _ (HS0_) (fun hHeld => ?_)
        clear hK K
        refine norm_ (a' := ?_) ?_ ?_
        rotate_left
        ·
         show Act.put _ (some 17) _ = _
         simp only [Act.put, aput]
         rfl
        refine pure_ (i := 9) (N := some 22) (v := ?_) (a' := ?_) (bm 21 1023) rfl rfl (any_of HT_.out (by kernel_rfl)) (fun _ _ _ h => h) (Or.inl ⟨by rfl, ?_⟩) ?_ ?_
        rotate_left
        ·
         intro w'
         go_simp
         with_reducible rfl
        rotate_left
        ·
         simp only [Act.put, aput]
         rfl
        refine pure_ (i := 10) (N := some 23) (v := ?_) (a' := ?_) (bm 21 2047) rfl rfl (any_of HT_.out (by kernel_rfl)) (fun _ _ _ h => h) (Or.inl ⟨by rfl, ?_⟩) ?_ ?_
        rotate_left
        ·
         intro w'
         go_simp
         with_reducible rfl
        rotate_left
        ·
         simp only [Act.put, aput]
         rfl
        refine pure_ (i := 11) (N := some 24) (v := ?_) (a' := ?_) (bm 21 4095) rfl rfl (any_of HT_.out (by kernel_rfl)) (fun _ _ _ h => h) (Or.inl ⟨by rfl, ?_⟩) ?_ ?_
        rotate_left
        ·
         intro w'
         go_simp
         with_reducible rfl
        rotate_left
        ·
         simp only [Act.put, aput]
         rfl
        refine pure_ (i := 12) (N := some 25) (v := ?_) (a' := ?_) (bm 21 8191) rfl rfl (any_of HT_.out (by kernel_rfl)) (fun _ _ _ h => h) (Or.inl ⟨by rfl, ?_⟩) ?_ ?_
        rotate_left
        ·
         intro w'
         go_simp
         with_reducible rfl
        rotate_left
        ·
         simp only [Act.put, aput]
         rfl
        refine pure_ (i := 13) (N := some 26) (v := ?_) (a' := ?_) (bm 21 16383) rfl rfl (any_of HT_.out (by kernel_rfl)) (fun _ _ _ h => h) (Or.inl ⟨by rfl, ?_⟩) ?_ ?_
        rotate_left
        ·
         intro w'
         go_simp
         with_reducible rfl
        rotate_left
        ·
         simp only [Act.put, aput]
         rfl
        refine pure_ (i := 14) (N := some 27) (v := ?_) (a' := ?_) (bm 21 32767) rfl rfl (any_of HT_.out (by kernel_rfl)) (fun _ _ _ h => h) (Or.inl ⟨by rfl, ?_⟩) ?_ ?_
        rotate_left
        ·
         intro w'
         go_simp
         with_reducible rfl
        rotate_left
        ·
         simp only [Act.put, aput]
         rfl
        refine pure_ (i := 15) (N := some 28) (v := undef) (a' := ?_) (bm 21 65535) rfl rfl (any_of HT_.out (by kernel_rfl)) (fun _ _ _ h => h) (Or.inr ⟨by rfl, rfl⟩) ?_ ?_
        rotate_left
        ·
         simp only [Act.put, aput]
         rfl
        refine pure_ (i := 16) (N := some 29) (v := undef) (a' := ?_) (bm 21 131071) rfl rfl (any_of HT_.out (by kernel_rfl)) (fun _ _ _ h => h) (Or.inr ⟨by rfl, rfl⟩) ?_ ?_
        rotate_left
        ·
         simp only [Act.put, aput]
         rfl
        refine pure_ (i := 17) (N := some 30) (v := undef) (a' := ?_) (bm 21 262143) rfl rfl (any_of HT_.out (by kernel_rfl)) (fun _ _ _ h => h) (Or.inr ⟨by rfl, rfl⟩) ?_ ?_
        rotate_left
        ·
         simp only [Act.put, aput]
         rfl
        refine pure_ (i := 18) (N := some 31) (v := undef) (a' := ?_) (bm 21 524287) rfl rfl (any_of HT_.out (by kernel_rfl)) (fun _ _ _ h => h) (Or.inr ⟨by rfl, rfl⟩) ?_ ?_
        rotate_left
        ·
         simp only [Act.put, aput]
         rfl
        refine pure_ (i := 19) (N := some 32) (v := ?_) (a' := ?_) (bm 21 1048575) rfl rfl (any_of HT_.out (by kernel_rfl)) (fun _ _ _ h => h) (Or.inl ⟨by rfl, ?_⟩) ?_ ?_
        rotate_left
        ·
         intro w'
         go_simp
         with_reducible rfl
        rotate_left
        ·
         simp only [Act.put, aput]
         rfl
        refine pure_ (i := 20) (N := some 33) (v := ?_) (a' := ?_) (bm 21 2097151) rfl rfl (any_of HT_.out (by kernel_rfl)) (fun _ _ _ h => h) (Or.inl ⟨by rfl, ?_⟩) ?_ ?_
        rotate_left
        ·
         intro w'
         go_simp
         with_reducible rfl
        rotate_left
        ·
         simp only [Act.put, aput]
         rfl
        refine done_ (done_of HT_.out (by kernel_rfl)) ?_
        try go_wp2
        go_meet
        case rel => exact ⟨_, (false), (by first | rfl | (simp; done) | (simp [*]; done)), H', ⟨by first | omega | exact Nat.le_refl _⟩, ⟨by repeat (first | (with_reducible first | exact HB.out | apply below_alloc | apply pw_below_drewN | apply below_drew1) | exact HB.out)⟩⟩
      ·
       rw [if_neg c13] at H
       have c13b0 : (t162.toList == (rdOf ByteArray.empty y159 a0).toList) = false := beq_eq_false_iff_ne.mpr c13
       have c13b1 : (t162.toList != (rdOf ByteArray.empty y159 a0).toList) = true := bne_iff_ne.mpr c13
       have H' := aS H
       clear H
       try go_wp2
       have n0_ := aS (Kd.R_drew HO161.out)
       have n1_ := aS (below_drew1 HB.out)
       clear HO161
       clear HB
       have HO161 := n0_
       have HB := n1_
       clear n0_ n1_
       obtain ⟨Ao27, co27, eo27⟩ := Kd.R_slice HO161.out
       (first | subst eo27 | (injection eo27 with f1_ f2_ f3_; have f4_ := f1_.symm; have f5_ := f3_.symm; clear f1_ f2_ f3_; subst f4_; subst f5_))
       have p163 : 0 ≤ (a0 : Int) := of_decide_eq_true (by first | (with_reducible assumption) | assumption)
       have q163 : a0 < (y159.length : Int) := of_decide_eq_true (by first | (with_reducible assumption) | assumption)
       obtain ⟨ad163, e163, hx163_0⟩ := Kd.at_string (Kd.R_reads' HO161.out).2.2 a0 p163 q163
       cases e163
       replace p163 := eq_true p163
       replace q163 := eq_true q163
       refine start_ (n := 21) (S := fun w' => w'.cell? (ad163.add (a0).toNat) = some (.string (rdOf ByteArray.empty y159 a0))) (ds := []) #[false, false, false, false, false, false, false, false, false, false, false, false, false, false, false, false, false, false, false, false, false] (by kernel_rfl) rfl rfl (hx163_0) (fun hHeld => ?_); refine with_tabW graverlaw06_ShdrWords.tab4 graverlaw06_ShdrWords.bits4 (fun HT_ HW_ => ?_)
       generalize w7.drew = w26 at HO161 HB hx163_0 hHeld ⊢
       refine pure_ (i := 0) (N := some 13) (v := ?_) (a' := ?_) (bm 21 1) rfl rfl (any_of HT_.out (by kernel_rfl)) (fun _ _ _ h => h) (Or.inl ⟨by rfl, ?_⟩) ?_ ?_
       rotate_left
       ·
        intro w'
        go_simp
        with_reducible rfl
       rotate_left
       ·
        simp only [Act.put, aput]
        rfl
       refine pure_ (i := 1) (N := some 14) (v := ?_) (a' := ?_) (bm 21 3) rfl rfl (any_of HT_.out (by kernel_rfl)) (fun _ _ _ h => h) (Or.inl ⟨by rfl, ?_⟩) ?_ ?_
       rotate_left
       ·
        intro w'
        go_simp
        with_reducible rfl
       rotate_left
       ·
        simp only [Act.put, aput]
        rfl
       refine pure_ (i := 2) (N := some 15) (v := ?_) (a' := ?_) (bm 21 7) rfl rfl (any_of HT_.out (by kernel_rfl)) (fun _ _ _ h => h) (Or.inl ⟨by rfl, ?_⟩) ?_ ?_
       rotate_left
       ·
        intro w'
        go_simp
        with_reducible rfl
       rotate_left
       ·
        simp only [Act.put, aput]
        rfl
       refine pure_ (i := 3) (N := some 16) (v := ?_) (a' := ?_) (bm 21 15) rfl rfl (any_of HT_.out (by kernel_rfl)) (fun _ _ _ h => h) (Or.inl ⟨by rfl, ?_⟩) ?_ ?_
       rotate_left
       ·
        intro w'
        go_simp
        with_reducible rfl
       rotate_left
       ·
        simp only [Act.put, aput]
        rfl
       refine pure_ (i := 5) (N := some 18) (v := ?_) (a' := ?_) (bm 21 47) rfl rfl (any_of HT_.out (by kernel_rfl)) (fun _ _ _ h => h) (Or.inl ⟨by rfl, ?_⟩) ?_ ?_
       rotate_left
       ·
        intro w'
        go_simp
        with_reducible rfl
       rotate_left
       ·
        simp only [Act.put, aput]
        rfl
       refine pure_ (i := 6) (N := some 19) (v := ?_) (a' := ?_) (bm 21 111) rfl rfl (any_of HT_.out (by kernel_rfl)) (fun _ _ _ h => h) (Or.inl ⟨by rfl, ?_⟩) ?_ ?_
       rotate_left
       ·
        intro w'
        go_simp
        with_reducible rfl
       rotate_left
       ·
        simp only [Act.put, aput]
        rfl
       refine pure_ (i := 7) (N := some 20) (v := ?_) (a' := ?_) (bm 21 239) rfl rfl (any_of HT_.out (by kernel_rfl)) (fun _ _ _ h => h) (Or.inl ⟨by rfl, ?_⟩) ?_ ?_
       rotate_left
       ·
        intro w'
        go_simp
        with_reducible rfl
       rotate_left
       ·
        simp only [Act.put, aput]
        rfl
       refine take_ (i := 8) (N := some 21) (v := ?_) (a' := ?_) (bm 21 495) rfl rfl (take_ofW HT_.out HW_.out (by kernel_rfl)) (fun _ _ _ h => h) (Or.inl ⟨by rfl, ?_⟩) hHeld ?_ ?_
       rotate_left
       ·
        intro w' s0
        go_simp
        with_reducible rfl
       rotate_left
       ·
        simp only [Act.put, aput]
        rfl
       refine one_ (i := 4) (N := some 17) (bm 21 511) rfl rfl (one_of HT_.out (by kernel_rfl)) (by decide) (fun K hK => ?_)
       refine goes_ Tryd.func37 (by kernel_rfl) rfl #[.int .u64 a0] (by rfl) rfl rfl (by (try simp only [List.map_toArray, List.map_cons, List.map_nil]); first | done | rfl | (simp only [List.length_drop, List.length_take]; rfl)) ?_
       with_reducible refine (shdr_TypeName.calls a0 t162 _ ?side1 ?side2 A10.out).mono ?_
       (case side1 => exact Laid_shdrn.below HLD_shdrn.out (by repeat (first | (with_reducible first | exact HB.out | apply below_alloc | apply pw_below_drewN | apply below_drew1) | exact HB.out)))
       (case side2 => exact Laid_strconv.below HLD_strconv.out (by repeat (first | (with_reducible first | exact HB.out | apply below_alloc | apply pw_below_drewN | apply below_drew1) | exact HB.out)))
       rintro e w28 ⟨rfl, hb⟩
       have HS0_ := (hb.cell (World.block_lt_of_cell? _ _ (hHeld))).trans (hHeld)
       refine ⟨_, rfl, ?_⟩
       have n0_ := aS (Kd.R_below (by (with_reducible repeat (first | apply Kd.R_alloc | apply Kd.R_drewN | apply Kd.R_drew)); exact HO161.out) hb)
       have n1_ := aS (below_step (by repeat (first | (with_reducible first | exact HB.out | apply below_alloc | apply pw_below_drewN | apply below_drew1) | exact HB.out)) hb)
       clear HO161
       clear HB
       have HO161 := n0_
       have HB := n1_
       clear n0_ n1_
       (try clear hb)
       (try clear hb2)
       (try clear hk)
       (try clear hi)
       refine hK.out _ _ (HS0_) (fun hHeld => ?_)
       clear hK K
       refine norm_ (a' := ?_) ?_ ?_
       rotate_left
       ·
        show Act.put _ (some 17) _ = _
        simp only [Act.put, aput]
        rfl
       refine pure_ (i := 9) (N := some 22) (v := ?_) (a' := ?_) (bm 21 1023) rfl rfl (any_of HT_.out (by kernel_rfl)) (fun _ _ _ h => h) (Or.inl ⟨by rfl, ?_⟩) ?_ ?_
       rotate_left
       ·
        intro w'
        go_simp
        with_reducible rfl
       rotate_left
       ·
        simp only [Act.put, aput]
        rfl
       refine pure_ (i := 10) (N := some 23) (v := ?_) (a' := ?_) (bm 21 2047) rfl rfl (any_of HT_.out (by kernel_rfl)) (fun _ _ _ h => h) (Or.inl ⟨by rfl, ?_⟩) ?_ ?_
       rotate_left
       ·
        intro w'
        go_simp
        with_reducible rfl
       rotate_left
       ·
        simp only [Act.put, aput]
        rfl
       refine pure_ (i := 11) (N := some 24) (v := ?_) (a' := ?_) (bm 21 4095) rfl rfl (any_of HT_.out (by kernel_rfl)) (fun _ _ _ h => h) (Or.inl ⟨by rfl, ?_⟩) ?_ ?_
       rotate_left
       ·
        intro w'
        go_simp
        with_reducible rfl
       rotate_left
       ·
        simp only [Act.put, aput]
        rfl
       refine pure_ (i := 12) (N := some 25) (v := undef) (a' := ?_) (bm 21 8191) rfl rfl (any_of HT_.out (by kernel_rfl)) (fun _ _ _ h => h) (Or.inr ⟨by rfl, rfl⟩) ?_ ?_
       rotate_left
       ·
        simp only [Act.put, aput]
        rfl
       refine pure_ (i := 13) (N := some 26) (v := undef) (a' := ?_) (bm 21 16383) rfl rfl (any_of HT_.out (by kernel_rfl)) (fun _ _ _ h => h) (Or.inr ⟨by rfl, rfl⟩) ?_ ?_
       rotate_left
       ·
        simp only [Act.put, aput]
        rfl
       refine pure_ (i := 14) (N := some 27) (v := undef) (a' := ?_) (bm 21 32767) rfl rfl (any_of HT_.out (by kernel_rfl)) (fun _ _ _ h => h) (Or.inr ⟨by rfl, rfl⟩) ?_ ?_
       rotate_left
       ·
        simp only [Act.put, aput]
        rfl
       refine pure_ (i := 15) (N := some 28) (v := undef) (a' := ?_) (bm 21 65535) rfl rfl (any_of HT_.out (by kernel_rfl)) (fun _ _ _ h => h) (Or.inr ⟨by rfl, rfl⟩) ?_ ?_
       rotate_left
       ·
        simp only [Act.put, aput]
        rfl
       refine pure_ (i := 16) (N := some 29) (v := undef) (a' := ?_) (bm 21 131071) rfl rfl (any_of HT_.out (by kernel_rfl)) (fun _ _ _ h => h) (Or.inr ⟨by rfl, rfl⟩) ?_ ?_
       rotate_left
       ·
        simp only [Act.put, aput]
        rfl
       refine pure_ (i := 17) (N := some 30) (v := undef) (a' := ?_) (bm 21 262143) rfl rfl (any_of HT_.out (by kernel_rfl)) (fun _ _ _ h => h) (Or.inr ⟨by rfl, rfl⟩) ?_ ?_
       rotate_left
       ·
        simp only [Act.put, aput]
        rfl
       refine pure_ (i := 18) (N := some 31) (v := undef) (a' := ?_) (bm 21 524287) rfl rfl (any_of HT_.out (by kernel_rfl)) (fun _ _ _ h => h) (Or.inr ⟨by rfl, rfl⟩) ?_ ?_
       rotate_left
       ·
        simp only [Act.put, aput]
        rfl
       refine pure_ (i := 19) (N := some 32) (v := undef) (a' := ?_) (bm 21 1048575) rfl rfl (any_of HT_.out (by kernel_rfl)) (fun _ _ _ h => h) (Or.inr ⟨by rfl, rfl⟩) ?_ ?_
       rotate_left
       ·
        simp only [Act.put, aput]
        rfl
       refine pure_ (i := 20) (N := some 33) (v := ?_) (a' := ?_) (bm 21 2097151) rfl rfl (any_of HT_.out (by kernel_rfl)) (fun _ _ _ h => h) (Or.inl ⟨by rfl, ?_⟩) ?_ ?_
       rotate_left
       ·
        intro w'
        go_simp
        with_reducible rfl
       rotate_left
       ·
        simp only [Act.put, aput]
        rfl
       refine done_ (done_of HT_.out (by kernel_rfl)) ?_
       try go_wp2
       go_meet
       case rel => exact ⟨_, (true), (by first | rfl | (simp; done) | (simp [*]; done)), H', ⟨by first | omega | exact Nat.le_refl _⟩, ⟨by repeat (first | (with_reducible first | exact HB.out | apply below_alloc | apply pw_below_drewN | apply below_drew1) | exact HB.out)⟩⟩
     ·
      rw [if_neg c12] at H
      exact absurd H (by simp)
    ·
     rw [if_neg c11] at H
     exact absurd H (by simp)
   ·
    rw [if_neg c9] at H
    have c9b0 : decide (a0 < 19) = false := decide_eq_false c9
    clear c9
    (first | rw [c9b0] | (simp only [i64_w, i32_w]; rw [c9b0]) | skip)
    by_cases c29 : a0 ≥ 19
    ·
     rw [if_pos c29] at H
     have c29b0 : decide (19 ≤ a0) = true := decide_eq_true c29
     clear c29
     replace H := Option.bind_eq_some_iff.mp H
     obtain ⟨t165, A300, H⟩ := H
     replace H : (if 0 ≤ 2 then (if 2 ≤ (t165.size : Int) then (graverlaw06_ShdrWords.j0 k a0 a1 ((t165.extract 0 2).toList != ([48, 120] : List UInt8))) else (none)) else (none)) = some r := H
     have A30 := aS A300
     clear A300
     by_cases c31 : 0 ≤ 2
     ·
      rw [if_pos c31] at H
      have c31b0 := eq_true c31
      have c31b1 : decide (0 ≤ 2) = true := decide_eq_true c31
      clear c31
      by_cases c32 : 2 ≤ (t165.size : Int)
      ·
       rw [if_pos c32] at H
       have c32b0 := eq_true c32
       have c32b1 : decide (2 ≤ (t165.size : Int)) = true := decide_eq_true c32
       clear c32
       obtain ⟨sc33, hsc33⟩ : ∃ s_ : ByteArray, (t165.extract 0 2) = s_ := ⟨_, rfl⟩
       replace H : (graverlaw06_ShdrWords.j0 k a0 a1 (sc33.toList != ([48, 120] : List UInt8))) = some r := by first | (rw [hsc33] at H; exact H) | (simp only [hsc33] at H ⊢; exact H) | exact H
       (try (have hsc33n := hsc33; simp only [Int.toNat_natCast] at hsc33n))
       have H' := aS H
       clear H
       try go_wp2
       have n0_ := aS (Kd.R_drew HO161.out)
       have n1_ := aS (below_drew1 HB.out)
       clear HO161
       clear HB
       have HO161 := n0_
       have HB := n1_
       clear n0_ n1_
       refine start_ (n := 21) (S := fun w' => True) (ds := []) #[false, false, false, false, false, false, false, false, false, false, false, false, false, false, false, false, false, false, false, false, false] (by kernel_rfl) rfl rfl trivial (fun hHeld => ?_); refine with_tabW graverlaw06_ShdrWords.tab4 graverlaw06_ShdrWords.bits4 (fun HT_ HW_ => ?_)
       generalize w7.drew = w34 at HO161 HB hHeld ⊢
       refine pure_ (i := 0) (N := some 13) (v := ?_) (a' := ?_) (bm 21 1) rfl rfl (any_of HT_.out (by kernel_rfl)) (fun _ _ _ h => h) (Or.inl ⟨by rfl, ?_⟩) ?_ ?_
       rotate_left
       ·
        intro w'
        go_simp
        with_reducible rfl
       rotate_left
       ·
        simp only [Act.put, aput]
        rfl
       refine pure_ (i := 1) (N := some 14) (v := ?_) (a' := ?_) (bm 21 3) rfl rfl (any_of HT_.out (by kernel_rfl)) (fun _ _ _ h => h) (Or.inl ⟨by rfl, ?_⟩) ?_ ?_
       rotate_left
       ·
        intro w'
        go_simp
        with_reducible rfl
       rotate_left
       ·
        simp only [Act.put, aput]
        rfl
       refine pure_ (i := 2) (N := some 15) (v := ?_) (a' := ?_) (bm 21 7) rfl rfl (any_of HT_.out (by kernel_rfl)) (fun _ _ _ h => h) (Or.inl ⟨by rfl, ?_⟩) ?_ ?_
       rotate_left
       ·
        intro w'
        go_simp
        with_reducible rfl
       rotate_left
       ·
        simp only [Act.put, aput]
        rfl
       refine pure_ (i := 3) (N := some 16) (v := undef) (a' := ?_) (bm 21 15) rfl rfl (any_of HT_.out (by kernel_rfl)) (fun _ _ _ h => h) (Or.inr ⟨by rfl, rfl⟩) ?_ ?_
       rotate_left
       ·
        simp only [Act.put, aput]
        rfl
       refine pure_ (i := 4) (N := some 17) (v := undef) (a' := ?_) (bm 21 31) rfl rfl (any_of HT_.out (by kernel_rfl)) (fun _ _ _ h => h) (Or.inr ⟨by rfl, rfl⟩) ?_ ?_
       rotate_left
       ·
        simp only [Act.put, aput]
        rfl
       refine pure_ (i := 5) (N := some 18) (v := undef) (a' := ?_) (bm 21 63) rfl rfl (any_of HT_.out (by kernel_rfl)) (fun _ _ _ h => h) (Or.inr ⟨by rfl, rfl⟩) ?_ ?_
       rotate_left
       ·
        simp only [Act.put, aput]
        rfl
       refine pure_ (i := 6) (N := some 19) (v := undef) (a' := ?_) (bm 21 127) rfl rfl (any_of HT_.out (by kernel_rfl)) (fun _ _ _ h => h) (Or.inr ⟨by rfl, rfl⟩) ?_ ?_
       rotate_left
       ·
        simp only [Act.put, aput]
        rfl
       refine pure_ (i := 7) (N := some 20) (v := undef) (a' := ?_) (bm 21 255) rfl rfl (any_of HT_.out (by kernel_rfl)) (fun _ _ _ h => h) (Or.inr ⟨by rfl, rfl⟩) ?_ ?_
       rotate_left
       ·
        simp only [Act.put, aput]
        rfl
       refine pure_ (i := 8) (N := some 21) (v := undef) (a' := ?_) (bm 21 511) rfl rfl (any_of HT_.out (by kernel_rfl)) (fun _ _ _ h => h) (Or.inr ⟨by rfl, rfl⟩) ?_ ?_
       rotate_left
       ·
        simp only [Act.put, aput]
        rfl
       refine pure_ (i := 9) (N := some 22) (v := undef) (a' := ?_) (bm 21 1023) rfl rfl (any_of HT_.out (by kernel_rfl)) (fun _ _ _ h => h) (Or.inr ⟨by rfl, rfl⟩) ?_ ?_
       rotate_left
       ·
        simp only [Act.put, aput]
        rfl
       refine pure_ (i := 10) (N := some 23) (v := ?_) (a' := ?_) (bm 21 2047) rfl rfl (any_of HT_.out (by kernel_rfl)) (fun _ _ _ h => h) (Or.inl ⟨by rfl, ?_⟩) ?_ ?_
       rotate_left
       ·
        intro w'
        go_simp
        with_reducible rfl
       rotate_left
       ·
        simp only [Act.put, aput]
        rfl
       refine pure_ (i := 11) (N := some 24) (v := ?_) (a' := ?_) (bm 21 4095) rfl rfl (any_of HT_.out (by kernel_rfl)) (fun _ _ _ h => h) (Or.inl ⟨by rfl, ?_⟩) ?_ ?_
       rotate_left
       ·
        intro w'
        go_simp
        with_reducible rfl
       rotate_left
       ·
        simp only [Act.put, aput]
        rfl
       refine pure_ (i := 12) (N := some 25) (v := ?_) (a' := ?_) (bm 21 8191) rfl rfl (any_of HT_.out (by kernel_rfl)) (fun _ _ _ h => h) (Or.inl ⟨by rfl, ?_⟩) ?_ ?_
       rotate_left
       ·
        intro w'
        go_simp
        with_reducible rfl
       rotate_left
       ·
        simp only [Act.put, aput]
        rfl
       refine pure_ (i := 13) (N := some 26) (v := ?_) (a' := ?_) (bm 21 16383) rfl rfl (any_of HT_.out (by kernel_rfl)) (fun _ _ _ h => h) (Or.inl ⟨by rfl, ?_⟩) ?_ ?_
       rotate_left
       ·
        intro w'
        go_simp
        with_reducible rfl
       rotate_left
       ·
        simp only [Act.put, aput]
        rfl
       refine pure_ (i := 14) (N := some 27) (v := ?_) (a' := ?_) (bm 21 32767) rfl rfl (any_of HT_.out (by kernel_rfl)) (fun _ _ _ h => h) (Or.inl ⟨by rfl, ?_⟩) ?_ ?_
       rotate_left
       ·
        intro w'
        go_simp
        with_reducible rfl
       rotate_left
       ·
        simp only [Act.put, aput]
        rfl
       refine pure_ (i := 15) (N := some 28) (v := ?_) (a' := ?_) (bm 21 65535) rfl rfl (any_of HT_.out (by kernel_rfl)) (fun _ _ _ h => h) (Or.inl ⟨by rfl, ?_⟩) ?_ ?_
       rotate_left
       ·
        intro w'
        go_simp
        with_reducible rfl
       rotate_left
       ·
        simp only [Act.put, aput]
        rfl
       refine one_ (i := 16) (N := some 29) (bm 21 131071) rfl rfl (one_of HT_.out (by kernel_rfl)) (by decide) (fun K hK => ?_)
       refine goes_ Tryd.func37 (by kernel_rfl) rfl #[.int .u64 a0] (by rfl) rfl rfl (by (try simp only [List.map_toArray, List.map_cons, List.map_nil]); first | done | rfl | (simp only [List.length_drop, List.length_take]; rfl)) ?_
       with_reducible refine (shdr_TypeName.calls a0 t165 _ ?side1 ?side2 A30.out).mono ?_
       (case side1 => exact Laid_shdrn.below HLD_shdrn.out (by repeat (first | (with_reducible first | exact HB.out | apply below_alloc | apply pw_below_drewN | apply below_drew1) | exact HB.out)))
       (case side2 => exact Laid_strconv.below HLD_strconv.out (by repeat (first | (with_reducible first | exact HB.out | apply below_alloc | apply pw_below_drewN | apply below_drew1) | exact HB.out)))
       rintro e w35 ⟨rfl, hb⟩
       refine ⟨_, rfl, ?_⟩
       have n0_ := aS (Kd.R_below (by (with_reducible repeat (first | apply Kd.R_alloc | apply Kd.R_drewN | apply Kd.R_drew)); exact HO161.out) hb)
       have n1_ := aS (below_step (by repeat (first | (with_reducible first | exact HB.out | apply below_alloc | apply pw_below_drewN | apply below_drew1) | exact HB.out)) hb)
       clear HO161
       clear HB
       have HO161 := n0_
       have HB := n1_
       clear n0_ n1_
       (try clear hb)
       (try clear hb2)
       (try clear hk)
       (try clear hi)
       refine hK.out _ _ trivial (fun hHeld => ?_)
       clear hK K
       refine norm_ (a' := ?_) ?_ ?_
       rotate_left
       ·
        show Act.put _ (some 29) _ = _
        simp only [Act.put, aput]
        rfl
       refine pure_ (i := 17) (N := some 30) (v := ?_) (a' := ?_) (bm 21 262143) rfl rfl (any_of HT_.out (by kernel_rfl)) (fun _ _ _ h => h) (Or.inl ⟨by rfl, ?_⟩) ?_ ?_
       rotate_left
       ·
        intro w'
        go_simp
        with_reducible rfl
       rotate_left
       ·
        simp only [Act.put, aput]
        rfl
       refine pure_ (i := 18) (N := some 31) (v := ?_) (a' := ?_) (bm 21 524287) rfl rfl (any_of HT_.out (by kernel_rfl)) (fun _ _ _ h => h) (Or.inl ⟨by rfl, ?_⟩) ?_ ?_
       rotate_left
       ·
        intro w'
        go_simp
        with_reducible rfl
       rotate_left
       ·
        simp only [Act.put, aput]
        rfl
       refine pure_ (i := 19) (N := some 32) (v := ?_) (a' := ?_) (bm 21 1048575) rfl rfl (any_of HT_.out (by kernel_rfl)) (fun _ _ _ h => h) (Or.inl ⟨by rfl, ?_⟩) ?_ ?_
       rotate_left
       ·
        intro w'
        go_simp
        with_reducible rfl
       rotate_left
       ·
        simp only [Act.put, aput]
        rfl
       refine pure_ (i := 20) (N := some 33) (v := ?_) (a' := ?_) (bm 21 2097151) rfl rfl (any_of HT_.out (by kernel_rfl)) (fun _ _ _ h => h) (Or.inl ⟨by rfl, ?_⟩) ?_ ?_
       rotate_left
       ·
        intro w'
        go_simp
        with_reducible rfl
       rotate_left
       ·
        simp only [Act.put, aput]
        rfl
       refine done_ (done_of HT_.out (by kernel_rfl)) ?_
       try go_wp2
       go_meet
       case rel => exact ⟨_, ((sc33.toList != ([48, 120] : List UInt8))), (by first | rfl | (simp; done) | (simp [*]; done)), H', ⟨by first | omega | exact Nat.le_refl _⟩, ⟨by repeat (first | (with_reducible first | exact HB.out | apply below_alloc | apply pw_below_drewN | apply below_drew1) | exact HB.out)⟩⟩
      ·
       rw [if_neg c32] at H
       exact absurd H (by simp)
     ·
      rw [if_neg c31] at H
      exact absurd H (by simp)
    ·
     rw [if_neg c29] at H
     have c29b0 : decide (19 ≤ a0) = false := decide_eq_false c29
     clear c29
     have H' := aS H
     clear H
     try go_wp2
     have n0_ := aS (Kd.R_drew HO161.out)
     have n1_ := aS (below_drew1 HB.out)
     clear HO161
     clear HB
     have HO161 := n0_
     have HB := n1_
     clear n0_ n1_
     refine start_ (n := 21) (S := fun w' => True) (ds := []) #[false, false, false, false, false, false, false, false, false, false, false, false, false, false, false, false, false, false, false, false, false] (by kernel_rfl) rfl rfl trivial (fun hHeld => ?_); refine with_tabW graverlaw06_ShdrWords.tab4 graverlaw06_ShdrWords.bits4 (fun HT_ HW_ => ?_)
     generalize w7.drew = w36 at HO161 HB hHeld ⊢
     refine pure_ (i := 0) (N := some 13) (v := ?_) (a' := ?_) (bm 21 1) rfl rfl (any_of HT_.out (by kernel_rfl)) (fun _ _ _ h => h) (Or.inl ⟨by rfl, ?_⟩) ?_ ?_
     rotate_left
     ·
      intro w'
      go_simp
      with_reducible rfl
     rotate_left
     ·
      simp only [Act.put, aput]
      rfl
     refine pure_ (i := 1) (N := some 14) (v := ?_) (a' := ?_) (bm 21 3) rfl rfl (any_of HT_.out (by kernel_rfl)) (fun _ _ _ h => h) (Or.inl ⟨by rfl, ?_⟩) ?_ ?_
     rotate_left
     ·
      intro w'
      go_simp
      with_reducible rfl
     rotate_left
     ·
      simp only [Act.put, aput]
      rfl
     refine pure_ (i := 2) (N := some 15) (v := ?_) (a' := ?_) (bm 21 7) rfl rfl (any_of HT_.out (by kernel_rfl)) (fun _ _ _ h => h) (Or.inl ⟨by rfl, ?_⟩) ?_ ?_
     rotate_left
     ·
      intro w'
      go_simp
      with_reducible rfl
     rotate_left
     ·
      simp only [Act.put, aput]
      rfl
     refine pure_ (i := 3) (N := some 16) (v := undef) (a' := ?_) (bm 21 15) rfl rfl (any_of HT_.out (by kernel_rfl)) (fun _ _ _ h => h) (Or.inr ⟨by rfl, rfl⟩) ?_ ?_
     rotate_left
     ·
      simp only [Act.put, aput]
      rfl
     refine pure_ (i := 4) (N := some 17) (v := undef) (a' := ?_) (bm 21 31) rfl rfl (any_of HT_.out (by kernel_rfl)) (fun _ _ _ h => h) (Or.inr ⟨by rfl, rfl⟩) ?_ ?_
     rotate_left
     ·
      simp only [Act.put, aput]
      rfl
     refine pure_ (i := 5) (N := some 18) (v := undef) (a' := ?_) (bm 21 63) rfl rfl (any_of HT_.out (by kernel_rfl)) (fun _ _ _ h => h) (Or.inr ⟨by rfl, rfl⟩) ?_ ?_
     rotate_left
     ·
      simp only [Act.put, aput]
      rfl
     refine pure_ (i := 6) (N := some 19) (v := undef) (a' := ?_) (bm 21 127) rfl rfl (any_of HT_.out (by kernel_rfl)) (fun _ _ _ h => h) (Or.inr ⟨by rfl, rfl⟩) ?_ ?_
     rotate_left
     ·
      simp only [Act.put, aput]
      rfl
     refine pure_ (i := 7) (N := some 20) (v := undef) (a' := ?_) (bm 21 255) rfl rfl (any_of HT_.out (by kernel_rfl)) (fun _ _ _ h => h) (Or.inr ⟨by rfl, rfl⟩) ?_ ?_
     rotate_left
     ·
      simp only [Act.put, aput]
      rfl
     refine pure_ (i := 8) (N := some 21) (v := undef) (a' := ?_) (bm 21 511) rfl rfl (any_of HT_.out (by kernel_rfl)) (fun _ _ _ h => h) (Or.inr ⟨by rfl, rfl⟩) ?_ ?_
     rotate_left
     ·
      simp only [Act.put, aput]
      rfl
     refine pure_ (i := 9) (N := some 22) (v := undef) (a' := ?_) (bm 21 1023) rfl rfl (any_of HT_.out (by kernel_rfl)) (fun _ _ _ h => h) (Or.inr ⟨by rfl, rfl⟩) ?_ ?_
     rotate_left
     ·
      simp only [Act.put, aput]
      rfl
     refine pure_ (i := 10) (N := some 23) (v := ?_) (a' := ?_) (bm 21 2047) rfl rfl (any_of HT_.out (by kernel_rfl)) (fun _ _ _ h => h) (Or.inl ⟨by rfl, ?_⟩) ?_ ?_
     rotate_left
     ·
      intro w'
      go_simp
      with_reducible rfl
     rotate_left
     ·
      simp only [Act.put, aput]
      rfl
     refine pure_ (i := 11) (N := some 24) (v := ?_) (a' := ?_) (bm 21 4095) rfl rfl (any_of HT_.out (by kernel_rfl)) (fun _ _ _ h => h) (Or.inl ⟨by rfl, ?_⟩) ?_ ?_
     rotate_left
     ·
      intro w'
      go_simp
      with_reducible rfl
     rotate_left
     ·
      simp only [Act.put, aput]
      rfl
     refine pure_ (i := 12) (N := some 25) (v := ?_) (a' := ?_) (bm 21 8191) rfl rfl (any_of HT_.out (by kernel_rfl)) (fun _ _ _ h => h) (Or.inl ⟨by rfl, ?_⟩) ?_ ?_
     rotate_left
     ·
      intro w'
      go_simp
      with_reducible rfl
     rotate_left
     ·
      simp only [Act.put, aput]
      rfl
     refine pure_ (i := 13) (N := some 26) (v := ?_) (a' := ?_) (bm 21 16383) rfl rfl (any_of HT_.out (by kernel_rfl)) (fun _ _ _ h => h) (Or.inl ⟨by rfl, ?_⟩) ?_ ?_
     rotate_left
     ·
      intro w'
      go_simp
      with_reducible rfl
     rotate_left
     ·
      simp only [Act.put, aput]
      rfl
     refine pure_ (i := 14) (N := some 27) (v := ?_) (a' := ?_) (bm 21 32767) rfl rfl (any_of HT_.out (by kernel_rfl)) (fun _ _ _ h => h) (Or.inl ⟨by rfl, ?_⟩) ?_ ?_
     rotate_left
     ·
      intro w'
      go_simp
      with_reducible rfl
     rotate_left
     ·
      simp only [Act.put, aput]
      rfl
     refine pure_ (i := 15) (N := some 28) (v := undef) (a' := ?_) (bm 21 65535) rfl rfl (any_of HT_.out (by kernel_rfl)) (fun _ _ _ h => h) (Or.inr ⟨by rfl, rfl⟩) ?_ ?_
     rotate_left
     ·
      simp only [Act.put, aput]
      rfl
     refine pure_ (i := 16) (N := some 29) (v := undef) (a' := ?_) (bm 21 131071) rfl rfl (any_of HT_.out (by kernel_rfl)) (fun _ _ _ h => h) (Or.inr ⟨by rfl, rfl⟩) ?_ ?_
     rotate_left
     ·
      simp only [Act.put, aput]
      rfl
     refine pure_ (i := 17) (N := some 30) (v := undef) (a' := ?_) (bm 21 262143) rfl rfl (any_of HT_.out (by kernel_rfl)) (fun _ _ _ h => h) (Or.inr ⟨by rfl, rfl⟩) ?_ ?_
     rotate_left
     ·
      simp only [Act.put, aput]
      rfl
     refine pure_ (i := 18) (N := some 31) (v := undef) (a' := ?_) (bm 21 524287) rfl rfl (any_of HT_.out (by kernel_rfl)) (fun _ _ _ h => h) (Or.inr ⟨by rfl, rfl⟩) ?_ ?_
     rotate_left
     ·
      simp only [Act.put, aput]
      rfl
     refine pure_ (i := 19) (N := some 32) (v := ?_) (a' := ?_) (bm 21 1048575) rfl rfl (any_of HT_.out (by kernel_rfl)) (fun _ _ _ h => h) (Or.inl ⟨by rfl, ?_⟩) ?_ ?_
     rotate_left
     ·
      intro w'
      go_simp
      with_reducible rfl
     rotate_left
     ·
      simp only [Act.put, aput]
      rfl
     refine pure_ (i := 20) (N := some 33) (v := ?_) (a' := ?_) (bm 21 2097151) rfl rfl (any_of HT_.out (by kernel_rfl)) (fun _ _ _ h => h) (Or.inl ⟨by rfl, ?_⟩) ?_ ?_
     rotate_left
     ·
      intro w'
      go_simp
      with_reducible rfl
     rotate_left
     ·
      simp only [Act.put, aput]
      rfl
     refine done_ (done_of HT_.out (by kernel_rfl)) ?_
     try go_wp2
     go_meet
     case rel => exact ⟨_, (false), (by first | rfl | (simp; done) | (simp [*]; done)), H', ⟨by first | omega | exact Nat.le_refl _⟩, ⟨by repeat (first | (with_reducible first | exact HB.out | apply below_alloc | apply pw_below_drewN | apply below_drew1) | exact HB.out)⟩⟩
  case rest =>
   clear HC5
   try clear c1
   try clear p1
   try clear q1
   try clear hx1
   try clear c2
   try clear p2
   try clear c3
   try clear c9
   try clear c9b0
   try clear c11
   try clear c12
   try clear c13
   try clear c13b0
   try clear c13b1
   try clear p16
   try clear q16
   try clear hx16
   try clear c29
   try clear c29b0
   try clear c31
   try clear c31b0
   try clear c31b1
   try clear c32
   try clear c32b0
   try clear c32b1
   try clear c33
   try clear hx163_0
   try clear p163
   try clear q163
   obtain ⟨kq, x33_4, rfl, HA, HJ4, HB⟩ := hcut
   cases kq with
   | zero => exact absurd HA.out (by simp [graverlaw06_ShdrWords.j0])
   | succ kj4 =>
    have H := HA.out
    clear HA
    simp only [graverlaw06_ShdrWords.j0] at H
    by_cases c37 : x33_4 = true
    ·
     subst c37
     have H1 : (some false) = some r := by rw [if_pos rfl] at H; exact H
     clear H
     have H := H1
     clear H1
     exact absurd ((Option.some.inj H).trans HRT.out) (by decide)
    ·
     replace c37 := Bool.eq_false_iff.mpr c37
     subst c37
     have H1 : (graverlaw06_ShdrWords.l0 kj4 a0 a1 (⟨#[87, 65, 88, 46, 77, 83, 73, 76, 79, 71, 84, 67]⟩ : ByteArray) (⟨#[]⟩ : ByteArray) 0) = some r := by rw [if_neg (show ¬ (false = true) by decide)] at H; exact H
     clear H
     have H := H1
     clear H1
     have H' := aS H
     clear H
     go_wp2
     go_loopg [7, 8] kj4 (fun kq v7 v8 w' => ∃ (x7_2 : ByteArray) (x8_2 : Int), v7 = .string x7_2 ∧ v8 = .int .i64 x8_2 ∧ Aside0 (graverlaw06_ShdrWords.l0 kq a0 a1 (⟨#[87, 65, 88, 46, 77, 83, 73, 76, 79, 71, 84, 67]⟩ : ByteArray) x7_2 x8_2 = some r) ∧ Aside0 (kq ≤ kj4) ∧ Aside0 (Below w.heap.size w w'))
     case atStart => exact ⟨((⟨#[]⟩ : ByteArray)), (0), (by first | rfl | (simp; done) | (simp [*]; done)), (by first | rfl | (simp; done) | (simp [*]; done)), H', ⟨Nat.le_refl _⟩, ⟨by repeat (first | (with_reducible first | exact HB.out | apply below_alloc | apply pw_below_drewN | apply below_drew1) | exact HB.out)⟩⟩
     case round =>
      clear H'
      try clear c1
      try clear p1
      try clear q1
      try clear hx1
      try clear c2
      try clear p2
      try clear c3
      try clear c9
      try clear c9b0
      try clear c11
      try clear c12
      try clear c13
      try clear c13b0
      try clear c13b1
      try clear p16
      try clear q16
      try clear hx16
      try clear c29
      try clear c29b0
      try clear c31
      try clear c31b0
      try clear c31b1
      try clear c32
      try clear c32b0
      try clear c32b1
      try clear c33
      try clear c37
      try clear hx163_0
      try clear p1
      try clear p16
      try clear p163
      try clear p2
      try clear q1
      try clear q16
      try clear q163
      obtain ⟨x7_2, x8_2, rfl, rfl, HA, HK2, HB⟩ := hrel
      cases gk with
      | zero => exact absurd HA.out (by simp [graverlaw06_ShdrWords.l0])
      | succ k2 =>
       have H := HA.out
       clear HA
       simp only [graverlaw06_ShdrWords.l0] at H
       by_cases c38 : x8_2 < 12
       ·
        rw [if_pos c38] at H
        have c38b0 : decide (x8_2 < 12) = true := decide_eq_true c38
        clear c38
        by_cases c39 : 0 ≤ x8_2
        ·
         rw [if_pos c39] at H
         have c39b0 := eq_true c39
         have c39b1 : decide (0 ≤ x8_2) = true := decide_eq_true c39
         clear c39
         obtain ⟨ji40, hji40⟩ : ∃ j_ : Int, (shr .u64 a0 x8_2) = j_ := ⟨_, rfl⟩
         replace H : (if (Go.bits .and .u64 (ji40) 1) = 1 then (if x8_2 = 3 then (graverlaw06_ShdrWords.l0 k2 a0 a1 (⟨#[87, 65, 88, 46, 77, 83, 73, 76, 79, 71, 84, 67]⟩ : ByteArray) x7_2 (wrap64 (x8_2 + 1))) else (if x8_2 ≤ (wrap64 (x8_2 + 1)) then (if (wrap64 (x8_2 + 1)) ≤ ((⟨#[87, 65, 88, 46, 77, 83, 73, 76, 79, 71, 84, 67]⟩ : ByteArray).size : Int) then (if x7_2.size + ((⟨#[87, 65, 88, 46, 77, 83, 73, 76, 79, 71, 84, 67]⟩ : ByteArray).extract (x8_2 : Int).toNat ((wrap64 (x8_2 + 1)) : Int).toNat).size ≤ 9223372036854775807 then (graverlaw06_ShdrWords.l0 k2 a0 a1 (⟨#[87, 65, 88, 46, 77, 83, 73, 76, 79, 71, 84, 67]⟩ : ByteArray) (x7_2 ++ ((⟨#[87, 65, 88, 46, 77, 83, 73, 76, 79, 71, 84, 67]⟩ : ByteArray).extract (x8_2 : Int).toNat ((wrap64 (x8_2 + 1)) : Int).toNat)) (wrap64 (x8_2 + 1))) else (none)) else (none)) else (none))) else (graverlaw06_ShdrWords.l0 k2 a0 a1 (⟨#[87, 65, 88, 46, 77, 83, 73, 76, 79, 71, 84, 67]⟩ : ByteArray) x7_2 (wrap64 (x8_2 + 1)))) = some r := by first | (rw [hji40] at H; exact H) | (simp only [hji40] at H ⊢; exact H)
         have hji40_ : (a0 / 2 ^ min x8_2.toNat 64) = ji40 := hji40
         have hji40z : x8_2 ≤ 64 → (a0 / 2 ^ x8_2.toNat) = ji40 := shr_small hji40
         (try have hji40y := hji40z (by first | omega | (simp only [decide_eq_true_eq] at *; omega)))
         by_cases c41 : (Go.bits .and .u64 (ji40) 1) = 1
         ·
          rw [if_pos c41] at H
          have c41b0 : ((Go.bits .and .u64 (ji40) 1) == 1) = true := beq_iff_eq.mpr c41
          have c41b1 : ((Go.bits .and .u64 (ji40) 1) != 1) = false := bne_eq_false_iff_eq.mpr c41
          clear c41
          by_cases c42 : x8_2 = 3
          ·
           rw [if_pos c42] at H
           have c42b0 : (x8_2 == 3) = true := beq_iff_eq.mpr c42
           have c42b1 : (x8_2 != 3) = false := bne_eq_false_iff_eq.mpr c42
           clear c42
           have H' := aS H
           clear H
           go_wp2
           go_roundg k2
           case measure => have := HJ4.out; have := HK2.out; omega
           case rel => exact ⟨(x7_2), (wrap64 (x8_2 + 1)), (by first | rfl | (simp; done) | (simp [*]; done)), (by first | rfl | (simp; done) | (simp [*]; done)), H', ⟨by have := HJ4.out; have := HK2.out; omega⟩, ⟨by repeat (first | (with_reducible first | exact HB.out | apply below_alloc | apply pw_below_drewN | apply below_drew1) | exact HB.out)⟩⟩
          ·
           rw [if_neg c42] at H
           have c42b0 : (x8_2 == 3) = false := beq_eq_false_iff_ne.mpr c42
           have c42b1 : (x8_2 != 3) = true := bne_iff_ne.mpr c42
           have c43b0 := eq_true (of_decide_eq_true (by first | (with_reducible assumption) | assumption) : 0 ≤ x8_2)
           by_cases c44 : x8_2 ≤ (wrap64 (x8_2 + 1))
           ·
            rw [if_pos c44] at H
            have c44b0 := eq_true c44
            have c44b1 : decide (x8_2 ≤ (wrap64 (x8_2 + 1))) = true := decide_eq_true c44
            by_cases c45 : (wrap64 (x8_2 + 1)) ≤ ((⟨#[87, 65, 88, 46, 77, 83, 73, 76, 79, 71, 84, 67]⟩ : ByteArray).size : Int)
            ·
             rw [if_pos c45] at H
             (try (have c45y : (wrap64 (x8_2 + 1)) ≤ 12 := c45; have c45yb0 := eq_true c45y; have c45yb1 : decide ((wrap64 (x8_2 + 1)) ≤ 12) = true := decide_eq_true c45y))
             have c45b0 := eq_true c45
             have c45b1 : decide ((wrap64 (x8_2 + 1)) ≤ ((⟨#[87, 65, 88, 46, 77, 83, 73, 76, 79, 71, 84, 67]⟩ : ByteArray).size : Int)) = true := decide_eq_true c45
             obtain ⟨sc46, hsc46⟩ : ∃ s_ : ByteArray, ((⟨#[87, 65, 88, 46, 77, 83, 73, 76, 79, 71, 84, 67]⟩ : ByteArray).extract (x8_2 : Int).toNat ((wrap64 (x8_2 + 1)) : Int).toNat) = s_ := ⟨_, rfl⟩
             replace H : (if x7_2.size + sc46.size ≤ 9223372036854775807 then (graverlaw06_ShdrWords.l0 k2 a0 a1 (⟨#[87, 65, 88, 46, 77, 83, 73, 76, 79, 71, 84, 67]⟩ : ByteArray) (x7_2 ++ sc46) (wrap64 (x8_2 + 1))) else (none)) = some r := by first | (rw [hsc46] at H; exact H) | (simp only [hsc46] at H ⊢; exact H) | exact H
             (try (have hsc46n := hsc46; simp only [Int.toNat_natCast] at hsc46n))
             by_cases c47 : x7_2.size + sc46.size ≤ 9223372036854775807
             ·
              rw [if_pos c47] at H
              have c47b0 := eq_true c47
              have c47b1 : decide (x7_2.size + sc46.size ≤ 9223372036854775807) = true := decide_eq_true c47
              try have c47b2 : (9223372036854775807 < x7_2.size + sc46.size) = False := eq_false (Nat.not_lt.2 c47)
              have H' := aS H
              clear H
              go_wp2
              go_roundg k2
              case measure => have := HJ4.out; have := HK2.out; omega
              case rel => exact ⟨(x7_2 ++ sc46), (wrap64 (x8_2 + 1)), (by first | rfl | (simp; done) | (simp [*]; done)), (by first | rfl | (simp; done) | (simp [*]; done)), H', ⟨by have := HJ4.out; have := HK2.out; omega⟩, ⟨by repeat (first | (with_reducible first | exact HB.out | apply below_alloc | apply pw_below_drewN | apply below_drew1) | exact HB.out)⟩⟩
             ·
              rw [if_neg c47] at H
              exact absurd H (by simp)
            ·
             rw [if_neg c45] at H
             exact absurd H (by simp)
           ·
            rw [if_neg c44] at H
            exact absurd H (by simp)
         ·
          rw [if_neg c41] at H
          have c41b0 : ((Go.bits .and .u64 (ji40) 1) == 1) = false := beq_eq_false_iff_ne.mpr c41
          have c41b1 : ((Go.bits .and .u64 (ji40) 1) != 1) = true := bne_iff_ne.mpr c41
          have H' := aS H
          clear H
          go_wp2
          go_roundg k2
          case measure => have := HJ4.out; have := HK2.out; omega
          case rel => exact ⟨(x7_2), (wrap64 (x8_2 + 1)), (by first | rfl | (simp; done) | (simp [*]; done)), (by first | rfl | (simp; done) | (simp [*]; done)), H', ⟨by have := HJ4.out; have := HK2.out; omega⟩, ⟨by repeat (first | (with_reducible first | exact HB.out | apply below_alloc | apply pw_below_drewN | apply below_drew1) | exact HB.out)⟩⟩
        ·
         rw [if_neg c39] at H
         exact absurd H (by simp)
       ·
        rw [if_neg c38] at H
        have c38b0 : decide (x8_2 < 12) = false := decide_eq_false c38
        clear c38
        replace H := Option.bind_eq_some_iff.mp H
        obtain ⟨t166, A480, H⟩ := H
        replace H : (if (t166.size : Int) < (x7_2.size : Int) then (graverlaw06_ShdrWords.j2 k2 a0 a1 t166 true) else (if 0 ≤ (x7_2.size : Int) then (if (x7_2.size : Int) ≤ (t166.size : Int) then (if (t166.extract 0 ((x7_2.size : Int) : Int).toNat).toList = x7_2.toList then (if (a0 / 4096) > 0 then (graverlaw06_ShdrWords.j2 k2 a0 a1 t166 (!(decide ((t166.size : Int) > (x7_2.size : Int))))) else (if (t166.size : Int) > (x7_2.size : Int) then (graverlaw06_ShdrWords.j2 k2 a0 a1 t166 (!((Go.bits .and .u64 (a0 / 8) 1) == 1))) else (graverlaw06_ShdrWords.j2 k2 a0 a1 t166 ((Go.bits .and .u64 (a0 / 8) 1) == 1)))) else (graverlaw06_ShdrWords.j2 k2 a0 a1 t166 true)) else (none)) else (none))) = some r := H
        have A48 := aS A480
        clear A480
        have HC49 := aS H
        clear H
        go_upto_region 14 with (first | ((with_reducible refine gate_callee (f := 38) rfl ?_); refine goesL_ (some 55) rfl rfl Tryd.func38 (by kernel_rfl) rfl #[.int .u64 a0] rfl (by (try simp only [List.map_toArray, List.map_cons, List.map_nil]); first | done | rfl | (simp only [List.length_drop, List.length_take]; rfl)) ?_; (with_reducible refine (shdr_FlagLetters.calls k2 a0 t166 _ ?side1 A48.out).mono ?_); (case side1 => exact Laid_strconv.below HLD_strconv.out (by repeat (first | (with_reducible first | exact HB.out | apply below_alloc | apply pw_below_drewN | apply below_drew1) | exact HB.out))); rintro e w50 ⟨rfl, hb⟩; refine ⟨_, rfl, ?_⟩; have n0_ := aS (below_step (by repeat (first | (with_reducible first | exact HB.out | apply below_alloc | apply pw_below_drewN | apply below_drew1) | exact HB.out)) hb); clear HB; have HB := n0_; clear n0_; (try clear hb); (try clear hb2); (try clear hk); (try clear hi)))
        (try simp only [Act.put, List.setIfInBounds_toArray, List.set_cons_zero, List.set_cons_succ])
        go_cut [85] (fun v85 wc => ∃ (kq : Nat) (x85_48 : Bool), v85 = .bool x85_48 ∧ Aside0 (graverlaw06_ShdrWords.j2 kq a0 a1 t166 x85_48 = some r) ∧ Aside0 (kq ≤ k2) ∧ Aside0 (Below w.heap.size w wc))
        case first =>
         have H := HC49.out
         clear HC49
         by_cases c51 : (t166.size : Int) < (x7_2.size : Int)
         ·
          rw [if_pos c51] at H
          have c51b0 : decide ((t166.size : Int) < (x7_2.size : Int)) = true := decide_eq_true c51
          have c51b1 : decide (t166.size < x7_2.size) = true := decide_eq_true (Int.ofNat_lt.mp c51)
          clear c51
          (first | rw [c51b0] | (simp only [i64_w, i32_w]; rw [c51b0]) | skip)
          have H' := aS H
          clear H
          go_wp2
          go_meet
          case rel => exact ⟨_, (true), (by first | rfl | (simp; done) | (simp [*]; done)), H', ⟨by have := HJ4.out; have := HK2.out; first | omega | exact Nat.le_refl _⟩, ⟨by repeat (first | (with_reducible first | exact HB.out | apply below_alloc | apply pw_below_drewN | apply below_drew1) | exact HB.out)⟩⟩
         ·
          rw [if_neg c51] at H
          have c51b0 : decide ((t166.size : Int) < (x7_2.size : Int)) = false := decide_eq_false c51
          have c51b1 : decide (t166.size < x7_2.size) = false := decide_eq_false (fun h => c51 (Int.ofNat_lt.mpr h))
          clear c51
          (first | rw [c51b0] | (simp only [i64_w, i32_w]; rw [c51b0]) | skip)
          by_cases c52 : 0 ≤ (x7_2.size : Int)
          ·
           rw [if_pos c52] at H
           have c52b0 := eq_true c52
           have c52b1 : decide (0 ≤ (x7_2.size : Int)) = true := decide_eq_true c52
           clear c52
           by_cases c53 : (x7_2.size : Int) ≤ (t166.size : Int)
           ·
            rw [if_pos c53] at H
            have c53b0 := eq_true c53
            have c53b1 : decide ((x7_2.size : Int) ≤ (t166.size : Int)) = true := decide_eq_true c53
            clear c53
            obtain ⟨sc54, hsc54⟩ : ∃ s_ : ByteArray, (t166.extract 0 ((x7_2.size : Int) : Int).toNat) = s_ := ⟨_, rfl⟩
            replace H : (if sc54.toList = x7_2.toList then (if (a0 / 4096) > 0 then (graverlaw06_ShdrWords.j2 k2 a0 a1 t166 (!(decide ((t166.size : Int) > (x7_2.size : Int))))) else (if (t166.size : Int) > (x7_2.size : Int) then (graverlaw06_ShdrWords.j2 k2 a0 a1 t166 (!((Go.bits .and .u64 (a0 / 8) 1) == 1))) else (graverlaw06_ShdrWords.j2 k2 a0 a1 t166 ((Go.bits .and .u64 (a0 / 8) 1) == 1)))) else (graverlaw06_ShdrWords.j2 k2 a0 a1 t166 true)) = some r := by first | (rw [hsc54] at H; exact H) | (simp only [hsc54] at H ⊢; exact H) | exact H
            (try (have hsc54n := hsc54; simp only [Int.toNat_natCast] at hsc54n))
            by_cases c55 : sc54.toList = x7_2.toList
            ·
             rw [if_pos c55] at H
             have c55b0 : (sc54.toList == x7_2.toList) = true := beq_iff_eq.mpr c55
             have c55b1 : (sc54.toList != x7_2.toList) = false := bne_eq_false_iff_eq.mpr c55
             clear c55
             by_cases c56 : (a0 / 4096) > 0
             ·
              rw [if_pos c56] at H
              have c56b0 : decide (0 < (a0 / 4096)) = true := decide_eq_true c56
              clear c56
              have H' := aS H
              clear H
              go_wp2
              go_meet
              case rel => exact ⟨_, (!(decide ((t166.size : Int) > (x7_2.size : Int)))), (by first | rfl | (simp; done) | (simp [*]; done)), H', ⟨by have := HJ4.out; have := HK2.out; first | omega | exact Nat.le_refl _⟩, ⟨by repeat (first | (with_reducible first | exact HB.out | apply below_alloc | apply pw_below_drewN | apply below_drew1) | exact HB.out)⟩⟩
             ·
              rw [if_neg c56] at H
              have c56b0 : decide (0 < (a0 / 4096)) = false := decide_eq_false c56
              clear c56
              obtain ⟨bl57, hbl57⟩ : ∃ s_ : Bool, (((Go.bits .and .u64 (a0 / 8) 1) == 1)) = s_ := ⟨_, rfl⟩
              replace H : (if (t166.size : Int) > (x7_2.size : Int) then (graverlaw06_ShdrWords.j2 k2 a0 a1 t166 (!bl57)) else (graverlaw06_ShdrWords.j2 k2 a0 a1 t166 bl57)) = some r := by first | (rw [hbl57] at H; exact H) | (simp only [hbl57] at H ⊢; exact H) | exact H
              by_cases c58 : (t166.size : Int) > (x7_2.size : Int)
              ·
               rw [if_pos c58] at H
               have c58b0 : decide ((x7_2.size : Int) < (t166.size : Int)) = true := decide_eq_true c58
               have c58b1 : decide (x7_2.size < t166.size) = true := decide_eq_true (Int.ofNat_lt.mp c58)
               clear c58
               have H' := aS H
               clear H
               go_wp2
               go_meet
               case rel => exact ⟨_, (!bl57), (by first | rfl | (simp; done) | (simp [*]; done)), H', ⟨by have := HJ4.out; have := HK2.out; first | omega | exact Nat.le_refl _⟩, ⟨by repeat (first | (with_reducible first | exact HB.out | apply below_alloc | apply pw_below_drewN | apply below_drew1) | exact HB.out)⟩⟩
              ·
               rw [if_neg c58] at H
               have c58b0 : decide ((x7_2.size : Int) < (t166.size : Int)) = false := decide_eq_false c58
               have c58b1 : decide (x7_2.size < t166.size) = false := decide_eq_false (fun h => c58 (Int.ofNat_lt.mpr h))
               clear c58
               have H' := aS H
               clear H
               go_wp2
               go_meet
               case rel => exact ⟨_, (bl57), (by first | rfl | (simp; done) | (simp [*]; done)), H', ⟨by have := HJ4.out; have := HK2.out; first | omega | exact Nat.le_refl _⟩, ⟨by repeat (first | (with_reducible first | exact HB.out | apply below_alloc | apply pw_below_drewN | apply below_drew1) | exact HB.out)⟩⟩
            ·
             rw [if_neg c55] at H
             have c55b0 : (sc54.toList == x7_2.toList) = false := beq_eq_false_iff_ne.mpr c55
             have c55b1 : (sc54.toList != x7_2.toList) = true := bne_iff_ne.mpr c55
             have H' := aS H
             clear H
             go_wp2
             go_meet
             case rel => exact ⟨_, (true), (by first | rfl | (simp; done) | (simp [*]; done)), H', ⟨by have := HJ4.out; have := HK2.out; first | omega | exact Nat.le_refl _⟩, ⟨by repeat (first | (with_reducible first | exact HB.out | apply below_alloc | apply pw_below_drewN | apply below_drew1) | exact HB.out)⟩⟩
           ·
            rw [if_neg c53] at H
            exact absurd H (by simp)
          ·
           rw [if_neg c52] at H
           exact absurd H (by simp)
        case rest =>
         clear HC49
         try clear c1
         try clear p1
         try clear q1
         try clear hx1
         try clear c2
         try clear p2
         try clear c3
         try clear c4
         try clear c5
         try clear p6
         try clear c9
         try clear c9b0
         try clear c11
         try clear c12
         try clear c13
         try clear c13b0
         try clear c13b1
         try clear p16
         try clear q16
         try clear hx16
         try clear c29
         try clear c29b0
         try clear c31
         try clear c31b0
         try clear c31b1
         try clear c32
         try clear c32b0
         try clear c32b1
         try clear c33
         try clear c37
         try clear c38
         try clear c38b0
         try clear c39
         try clear c39b0
         try clear c39b1
         try clear c41
         try clear c41b0
         try clear c41b1
         try clear c42
         try clear c42b0
         try clear c42b1
         try clear c43
         try clear c43b0
         try clear c44
         try clear c44b0
         try clear c44b1
         try clear c45
         try clear c45b0
         try clear c45b1
         try clear c46
         try clear c47
         try clear c47b0
         try clear c47b1
         try clear c47b2
         try clear c51
         try clear c51b0
         try clear c51b1
         try clear c52
         try clear c52b0
         try clear c52b1
         try clear c53
         try clear c53b0
         try clear c53b1
         try clear c54
         try clear c55
         try clear c55b0
         try clear c55b1
         try clear c56
         try clear c56b0
         try clear c58
         try clear c58b0
         try clear c58b1
         try clear hx163_0
         try clear p1
         try clear p16
         try clear p163
         try clear p2
         try clear q1
         try clear q16
         try clear q163
         obtain ⟨kq, x85_48, rfl, HA, HJ48, HB⟩ := hcut
         cases kq with
         | zero => exact absurd HA.out (by simp [graverlaw06_ShdrWords.j2])
         | succ kj48 =>
          have H := HA.out
          clear HA
          simp only [graverlaw06_ShdrWords.j2] at H
          by_cases c59 : x85_48 = true
          ·
           subst c59
           have H1 : (some false) = some r := by rw [if_pos rfl] at H; exact H
           clear H
           have H := H1
           clear H1
           exact absurd ((Option.some.inj H).trans HRT.out) (by decide)
          ·
           replace c59 := Bool.eq_false_iff.mpr c59
           subst c59
           have H1 : ((shdr_TypeName.f a0).bind fun t167 => ((shdr_TypeName.f a1).bind fun t168 => (if t167.toList = t168.toList then (if a0 = a1 then ((shdr_FlagLetters.f kj48 a1).bind fun t169 => (if t166.toList = t169.toList then (some (a0 == a1)) else (some (!(a0 == a1))))) else (some false)) else (if a0 = a1 then (some false) else ((shdr_FlagLetters.f kj48 a1).bind fun t170 => (if t166.toList = t170.toList then (some (a0 == a1)) else (some (!(a0 == a1))))))))) = some r := by rw [if_neg (show ¬ (false = true) by decide)] at H; exact H
           clear H
           have H := H1
           clear H1
           replace H := Option.bind_eq_some_iff.mp H
           obtain ⟨t167, A600, H⟩ := H
           replace H : ((shdr_TypeName.f a1).bind fun t168 => (if t167.toList = t168.toList then (if a0 = a1 then ((shdr_FlagLetters.f kj48 a1).bind fun t169 => (if t166.toList = t169.toList then (some (a0 == a1)) else (some (!(a0 == a1))))) else (some false)) else (if a0 = a1 then (some false) else ((shdr_FlagLetters.f kj48 a1).bind fun t170 => (if t166.toList = t170.toList then (some (a0 == a1)) else (some (!(a0 == a1)))))))) = some r := H
           have A60 := aS A600
           clear A600
           replace H := Option.bind_eq_some_iff.mp H
           obtain ⟨t168, A610, H⟩ := H
           replace H : (if t167.toList = t168.toList then (if a0 = a1 then ((shdr_FlagLetters.f kj48 a1).bind fun t169 => (if t166.toList = t169.toList then (some (a0 == a1)) else (some (!(a0 == a1))))) else (some false)) else (if a0 = a1 then (some false) else ((shdr_FlagLetters.f kj48 a1).bind fun t170 => (if t166.toList = t170.toList then (some (a0 == a1)) else (some (!(a0 == a1))))))) = some r := H
           have A61 := aS A610
           clear A610
           by_cases c62 : t167.toList = t168.toList
           ·
            rw [if_pos c62] at H
            have c62b0 : (t167.toList == t168.toList) = true := beq_iff_eq.mpr c62
            have c62b1 : (t167.toList != t168.toList) = false := bne_eq_false_iff_eq.mpr c62
            clear c62
            by_cases c63 : a0 = a1
            ·
             rw [if_pos c63] at H
             have c63b0 : (a0 == a1) = true := beq_iff_eq.mpr c63
             have c63b1 : (a0 != a1) = false := bne_eq_false_iff_eq.mpr c63
             clear c63
             (try simp only [c63b0] at H)
             (try rw [c63b0] at A60)
             (try rw [c63b0] at A61)
             replace H := Option.bind_eq_some_iff.mp H
             obtain ⟨t169, A640, H⟩ := H
             replace H : (if t166.toList = t169.toList then (some true) else (some (!true))) = some r := H
             have A64 := aS A640
             clear A640
             by_cases c65 : t166.toList = t169.toList
             ·
              rw [if_pos c65] at H
              have c65b0 : (t166.toList == t169.toList) = true := beq_iff_eq.mpr c65
              have c65b1 : (t166.toList != t169.toList) = false := bne_eq_false_iff_eq.mpr c65
              clear c65
              obtain rfl := Option.some.inj H
              go_wp2_with (first | ((with_reducible refine gate_callee (f := 37) rfl ?_); refine goesL_ (some 87) rfl rfl Tryd.func37 (by kernel_rfl) rfl #[.int .u64 a0] rfl (by (try simp only [List.map_toArray, List.map_cons, List.map_nil]); first | done | rfl | (simp only [List.length_drop, List.length_take]; rfl)) ?_; (with_reducible refine (shdr_TypeName.calls a0 t167 _ ?side1 ?side2 A60.out).mono ?_); (case side1 => exact Laid_shdrn.below HLD_shdrn.out (by repeat (first | (with_reducible first | exact HB.out | apply below_alloc | apply pw_below_drewN | apply below_drew1) | exact HB.out))); (case side2 => exact Laid_strconv.below HLD_strconv.out (by repeat (first | (with_reducible first | exact HB.out | apply below_alloc | apply pw_below_drewN | apply below_drew1) | exact HB.out))); rintro e w66 ⟨rfl, hb⟩; refine ⟨_, rfl, ?_⟩; have n0_ := aS (below_step (by repeat (first | (with_reducible first | exact HB.out | apply below_alloc | apply pw_below_drewN | apply below_drew1) | exact HB.out)) hb); clear HB; have HB := n0_; clear n0_; (try clear hb); (try clear hb2); (try clear hk); (try clear hi)) | ((with_reducible refine gate_callee (f := 37) rfl ?_); refine goesL_ (some 89) rfl rfl Tryd.func37 (by kernel_rfl) rfl #[.int .u64 a1] rfl (by (try simp only [List.map_toArray, List.map_cons, List.map_nil]); first | done | rfl | (simp only [List.length_drop, List.length_take]; rfl)) ?_; (with_reducible refine (shdr_TypeName.calls a1 t168 _ ?side1 ?side2 A61.out).mono ?_); (case side1 => exact Laid_shdrn.below HLD_shdrn.out (by repeat (first | (with_reducible first | exact HB.out | apply below_alloc | apply pw_below_drewN | apply below_drew1) | exact HB.out))); (case side2 => exact Laid_strconv.below HLD_strconv.out (by repeat (first | (with_reducible first | exact HB.out | apply below_alloc | apply pw_below_drewN | apply below_drew1) | exact HB.out))); rintro e w67 ⟨rfl, hb⟩; refine ⟨_, rfl, ?_⟩; have n0_ := aS (below_step (by repeat (first | (with_reducible first | exact HB.out | apply below_alloc | apply pw_below_drewN | apply below_drew1) | exact HB.out)) hb); clear HB; have HB := n0_; clear n0_; (try clear hb); (try clear hb2); (try clear hk); (try clear hi)) | (go_at_call 38; (with_reducible refine (shdr_FlagLetters.calls kj48 a1 t169 _ ?side1 A64.out).mono ?_); (case side1 => exact Laid_strconv.below HLD_strconv.out (by repeat (first | (with_reducible first | exact HB.out | apply below_alloc | apply pw_below_drewN | apply below_drew1) | exact HB.out))); rintro e w68 ⟨rfl, hb⟩; have n0_ := aS (below_step (by repeat (first | (with_reducible first | exact HB.out | apply below_alloc | apply pw_below_drewN | apply below_drew1) | exact HB.out)) hb); clear HB; have HB := n0_; clear n0_; (try clear hb); (try clear hb2); (try clear hk); (try clear hi)))
              go_ret
              exact ⟨by first | rfl | (simp [errW_none, errW_some] <;> rfl) | (simp [*, errW_none, errW_some] <;> rfl), by repeat (first | (with_reducible first | exact HB.out | apply below_alloc | apply pw_below_drewN | apply below_drew1) | exact HB.out)⟩
             ·
              rw [if_neg c65] at H
              have c65b0 : (t166.toList == t169.toList) = false := beq_eq_false_iff_ne.mpr c65
              have c65b1 : (t166.toList != t169.toList) = true := bne_iff_ne.mpr c65
              obtain rfl := Option.some.inj H
              go_wp2_with (first | ((with_reducible refine gate_callee (f := 37) rfl ?_); refine goesL_ (some 87) rfl rfl Tryd.func37 (by kernel_rfl) rfl #[.int .u64 a0] rfl (by (try simp only [List.map_toArray, List.map_cons, List.map_nil]); first | done | rfl | (simp only [List.length_drop, List.length_take]; rfl)) ?_; (with_reducible refine (shdr_TypeName.calls a0 t167 _ ?side1 ?side2 A60.out).mono ?_); (case side1 => exact Laid_shdrn.below HLD_shdrn.out (by repeat (first | (with_reducible first | exact HB.out | apply below_alloc | apply pw_below_drewN | apply below_drew1) | exact HB.out))); (case side2 => exact Laid_strconv.below HLD_strconv.out (by repeat (first | (with_reducible first | exact HB.out | apply below_alloc | apply pw_below_drewN | apply below_drew1) | exact HB.out))); rintro e w69 ⟨rfl, hb⟩; refine ⟨_, rfl, ?_⟩; have n0_ := aS (below_step (by repeat (first | (with_reducible first | exact HB.out | apply below_alloc | apply pw_below_drewN | apply below_drew1) | exact HB.out)) hb); clear HB; have HB := n0_; clear n0_; (try clear hb); (try clear hb2); (try clear hk); (try clear hi)) | ((with_reducible refine gate_callee (f := 37) rfl ?_); refine goesL_ (some 89) rfl rfl Tryd.func37 (by kernel_rfl) rfl #[.int .u64 a1] rfl (by (try simp only [List.map_toArray, List.map_cons, List.map_nil]); first | done | rfl | (simp only [List.length_drop, List.length_take]; rfl)) ?_; (with_reducible refine (shdr_TypeName.calls a1 t168 _ ?side1 ?side2 A61.out).mono ?_); (case side1 => exact Laid_shdrn.below HLD_shdrn.out (by repeat (first | (with_reducible first | exact HB.out | apply below_alloc | apply pw_below_drewN | apply below_drew1) | exact HB.out))); (case side2 => exact Laid_strconv.below HLD_strconv.out (by repeat (first | (with_reducible first | exact HB.out | apply below_alloc | apply pw_below_drewN | apply below_drew1) | exact HB.out))); rintro e w70 ⟨rfl, hb⟩; refine ⟨_, rfl, ?_⟩; have n0_ := aS (below_step (by repeat (first | (with_reducible first | exact HB.out | apply below_alloc | apply pw_below_drewN | apply below_drew1) | exact HB.out)) hb); clear HB; have HB := n0_; clear n0_; (try clear hb); (try clear hb2); (try clear hk); (try clear hi)) | (go_at_call 38; (with_reducible refine (shdr_FlagLetters.calls kj48 a1 t169 _ ?side1 A64.out).mono ?_); (case side1 => exact Laid_strconv.below HLD_strconv.out (by repeat (first | (with_reducible first | exact HB.out | apply below_alloc | apply pw_below_drewN | apply below_drew1) | exact HB.out))); rintro e w71 ⟨rfl, hb⟩; have n0_ := aS (below_step (by repeat (first | (with_reducible first | exact HB.out | apply below_alloc | apply pw_below_drewN | apply below_drew1) | exact HB.out)) hb); clear HB; have HB := n0_; clear n0_; (try clear hb); (try clear hb2); (try clear hk); (try clear hi)))
              go_ret
              exact ⟨by first | rfl | (simp [errW_none, errW_some] <;> rfl) | (simp [*, errW_none, errW_some] <;> rfl), by repeat (first | (with_reducible first | exact HB.out | apply below_alloc | apply pw_below_drewN | apply below_drew1) | exact HB.out)⟩
            ·
             rw [if_neg c63] at H
             have c63b0 : (a0 == a1) = false := beq_eq_false_iff_ne.mpr c63
             have c63b1 : (a0 != a1) = true := bne_iff_ne.mpr c63
             exact absurd ((Option.some.inj H).trans HRT.out) (by decide)
           ·
            rw [if_neg c62] at H
            have c62b0 : (t167.toList == t168.toList) = false := beq_eq_false_iff_ne.mpr c62
            have c62b1 : (t167.toList != t168.toList) = true := bne_iff_ne.mpr c62
            by_cases c72 : a0 = a1
            ·
             rw [if_pos c72] at H
             have c72b0 : (a0 == a1) = true := beq_iff_eq.mpr c72
             have c72b1 : (a0 != a1) = false := bne_eq_false_iff_eq.mpr c72
             clear c72
             exact absurd ((Option.some.inj H).trans HRT.out) (by decide)
            ·
             rw [if_neg c72] at H
             have c72b0 : (a0 == a1) = false := beq_eq_false_iff_ne.mpr c72
             have c72b1 : (a0 != a1) = true := bne_iff_ne.mpr c72
             (try simp only [c72b0] at H)
             (try rw [c72b0] at A60)
             (try rw [c72b0] at A61)
             replace H := Option.bind_eq_some_iff.mp H
             obtain ⟨t170, A730, H⟩ := H
             replace H : (if t166.toList = t170.toList then (some false) else (some (!false))) = some r := H
             have A73 := aS A730
             clear A730
             by_cases c74 : t166.toList = t170.toList
             ·
              rw [if_pos c74] at H
              have c74b0 : (t166.toList == t170.toList) = true := beq_iff_eq.mpr c74
              have c74b1 : (t166.toList != t170.toList) = false := bne_eq_false_iff_eq.mpr c74
              clear c74
              exact absurd ((Option.some.inj H).trans HRT.out) (by decide)
             ·
              rw [if_neg c74] at H
              have c74b0 : (t166.toList == t170.toList) = false := beq_eq_false_iff_ne.mpr c74
              have c74b1 : (t166.toList != t170.toList) = true := bne_iff_ne.mpr c74
              obtain rfl := Option.some.inj H
              go_wp2_with (first | ((with_reducible refine gate_callee (f := 37) rfl ?_); refine goesL_ (some 87) rfl rfl Tryd.func37 (by kernel_rfl) rfl #[.int .u64 a0] rfl (by (try simp only [List.map_toArray, List.map_cons, List.map_nil]); first | done | rfl | (simp only [List.length_drop, List.length_take]; rfl)) ?_; (with_reducible refine (shdr_TypeName.calls a0 t167 _ ?side1 ?side2 A60.out).mono ?_); (case side1 => exact Laid_shdrn.below HLD_shdrn.out (by repeat (first | (with_reducible first | exact HB.out | apply below_alloc | apply pw_below_drewN | apply below_drew1) | exact HB.out))); (case side2 => exact Laid_strconv.below HLD_strconv.out (by repeat (first | (with_reducible first | exact HB.out | apply below_alloc | apply pw_below_drewN | apply below_drew1) | exact HB.out))); rintro e w75 ⟨rfl, hb⟩; refine ⟨_, rfl, ?_⟩; have n0_ := aS (below_step (by repeat (first | (with_reducible first | exact HB.out | apply below_alloc | apply pw_below_drewN | apply below_drew1) | exact HB.out)) hb); clear HB; have HB := n0_; clear n0_; (try clear hb); (try clear hb2); (try clear hk); (try clear hi)) | ((with_reducible refine gate_callee (f := 37) rfl ?_); refine goesL_ (some 89) rfl rfl Tryd.func37 (by kernel_rfl) rfl #[.int .u64 a1] rfl (by (try simp only [List.map_toArray, List.map_cons, List.map_nil]); first | done | rfl | (simp only [List.length_drop, List.length_take]; rfl)) ?_; (with_reducible refine (shdr_TypeName.calls a1 t168 _ ?side1 ?side2 A61.out).mono ?_); (case side1 => exact Laid_shdrn.below HLD_shdrn.out (by repeat (first | (with_reducible first | exact HB.out | apply below_alloc | apply pw_below_drewN | apply below_drew1) | exact HB.out))); (case side2 => exact Laid_strconv.below HLD_strconv.out (by repeat (first | (with_reducible first | exact HB.out | apply below_alloc | apply pw_below_drewN | apply below_drew1) | exact HB.out))); rintro e w76 ⟨rfl, hb⟩; refine ⟨_, rfl, ?_⟩; have n0_ := aS (below_step (by repeat (first | (with_reducible first | exact HB.out | apply below_alloc | apply pw_below_drewN | apply below_drew1) | exact HB.out)) hb); clear HB; have HB := n0_; clear n0_; (try clear hb); (try clear hb2); (try clear hk); (try clear hi)) | (go_at_call 38; (with_reducible refine (shdr_FlagLetters.calls kj48 a1 t170 _ ?side1 A73.out).mono ?_); (case side1 => exact Laid_strconv.below HLD_strconv.out (by repeat (first | (with_reducible first | exact HB.out | apply below_alloc | apply pw_below_drewN | apply below_drew1) | exact HB.out))); rintro e w77 ⟨rfl, hb⟩; have n0_ := aS (below_step (by repeat (first | (with_reducible first | exact HB.out | apply below_alloc | apply pw_below_drewN | apply below_drew1) | exact HB.out)) hb); clear HB; have HB := n0_; clear n0_; (try clear hb); (try clear hb2); (try clear hk); (try clear hi)))
              go_ret
              exact ⟨by first | rfl | (simp [errW_none, errW_some] <;> rfl) | (simp [*, errW_none, errW_some] <;> rfl), by repeat (first | (with_reducible first | exact HB.out | apply below_alloc | apply pw_below_drewN | apply below_drew1) | exact HB.out)⟩
 ·
  replace c4 := Bool.eq_false_iff.mpr c4
  subst c4
  have H1 : (some false) = some r := by rw [if_neg (show ¬ (false = true) by decide)] at H; exact H
  clear H
  have H := H1
  clear H1
  exact absurd ((Option.some.inj H).trans HRT.out) (by decide)

/-- THE ONE PURE STATEMENT of graverlaw06_ShdrWords: yours. -/
def graverlaw06_ShdrWords.Pure : Prop := ∀ (a0 : Int) (a1 : Int), (Lit.int .u64 a0).wf = true → (Lit.int .u64 a1).wf = true → ∃ k, graverlaw06_ShdrWords.f k a0 a1 = some true
theorem graverlaw06_ShdrWords.walk (P : graverlaw06_ShdrWords.Pure) (a0 : Int) (a1 : Int) (w : World) (hlaid_shdr : Laid_shdr w) (hlaid_shdrn : Laid_shdrn w) (hlaid_strconv : Laid_strconv w) (w0 : (Lit.int .u64 a0).wf = true) (w1 : (Lit.int .u64 a1).wf = true) :
  Calls Tryd.prog 5 #[.int .u64 a0, .int .u64 a1] w fun e w' => e = .returned (.bool true) ∧ Below w.heap.size w w' := by
 obtain ⟨k, h⟩ := P a0 a1 w0 w1
 refine (graverlaw06_ShdrWords.calls k a0 a1 true w hlaid_shdr hlaid_shdrn hlaid_strconv rfl h).mono ?_
 rintro e w' ⟨rfl, hd⟩
 exact ⟨rfl, hd⟩

end Go.Proofs.YteoeohkjomehoaaDoor.Q
