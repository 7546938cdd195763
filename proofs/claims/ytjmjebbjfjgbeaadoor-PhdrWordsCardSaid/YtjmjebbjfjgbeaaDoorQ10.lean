/- What Go functions of the program compute, each as a Lean function with the proof that the call returns just that. No condition but those in the statements. -/
import Derived.Test.YtjmjebbjfjgbeaaDoorQ0
import Derived.Test.YtjmjebbjfjgbeaaDoorMrk
import Derived.Test.YtjmjebbjfjgbeaaDoorQ7
import Derived.Test.YtjmjebbjfjgbeaaDoorQ9
namespace Go.Proofs.YtjmjebbjfjgbeaaDoor.Q
open Go.RowKit Go.Proofs.YtjmjebbjfjgbeaaDoorW.PrintWords Go.Proofs.YtjmjebbjfjgbeaaDoorW.PrintLast Go.Proofs.YtjmjebbjfjgbeaaDoorW.PrintMore
attribute [local go_sem] max2_int min2_int max_two min_two max_three min_three max_four min_four   -- for this text's walks alone
set_option linter.unusedVariables false
set_option linter.unusedSimpArgs false

/-! ### graverlaw07_PhdrWords: function 9 -/
mutual
def graverlaw07_PhdrWords.j0 : Nat → Int → Int → Bool → Option (Bool)
 | 0, _, _, _ => none
 | k + 1, x0, x1, x32 => if x32 = true then (some false) else (graverlaw07_PhdrWords.l0 k x0 x1 (([45, 45, 45] : List Int)) 0)
def graverlaw07_PhdrWords.l0 : Nat → Int → Int → List Int → Int → Option (Bool)
 | 0, _, _, _, _ => none
 | k + 1, x0, x1, x6, x7 => if x7 < 3 then (if 0 ≤ x7 then (if (Go.bits .and .u64 (shr .u64 x0 x7) 1) = 1 then (if 0 ≤ (wrap64 (2 - x7)) then (if (wrap64 (2 - x7)) < (x6.length : Int) then (graverlaw07_PhdrWords.l0 k x0 x1 (x6.set ((wrap64 (2 - x7)) : Int).toNat (bt (⟨#[88, 87, 82]⟩ : ByteArray) x7)) (wrap64 (x7 + 1))) else (none)) else (none)) else (graverlaw07_PhdrWords.l0 k x0 x1 x6 (wrap64 (x7 + 1)))) else (none)) else ((phdr_Letters.f k x0).bind fun t175 => (if 0 ≤ 3 then (if 3 ≤ (t175.size : Int) then (if (t175.extract 0 3).toList = (strOfNums x6).toList then (if (t175.size : Int) > 3 then (if x0 > 7 then ((phdr_TypeName.f x0).bind fun t176 => ((phdr_TypeName.f x1).bind fun t177 => (if t176.toList = t177.toList then (if x0 = x1 then ((phdr_Letters.f k x1).bind fun t178 => (if t175.toList = t178.toList then (some (x0 == x1)) else (some (!(x0 == x1))))) else (some false)) else (if x0 = x1 then (some false) else ((phdr_Letters.f k x1).bind fun t179 => (if t175.toList = t179.toList then (some (x0 == x1)) else (some (!(x0 == x1))))))))) else (some false)) else (if x0 > 7 then (some false) else ((phdr_TypeName.f x0).bind fun t180 => ((phdr_TypeName.f x1).bind fun t181 => (if t180.toList = t181.toList then (if x0 = x1 then ((phdr_Letters.f k x1).bind fun t182 => (if t175.toList = t182.toList then (some (x0 == x1)) else (some (!(x0 == x1))))) else (some false)) else (if x0 = x1 then (some false) else ((phdr_Letters.f k x1).bind fun t183 => (if t175.toList = t183.toList then (some (x0 == x1)) else (some (!(x0 == x1))))))))))) else (some false)) else (none)) else (none)))
end
def graverlaw07_PhdrWords.f (k : Nat) (a0 : Int) (a1 : Int) : Option (Bool) := (graverlaw07_speaks.f k).bind fun t163 => (if t163 = true then ((some (([(⟨#[78, 85, 76, 76]⟩ : ByteArray), (⟨#[76, 79, 65, 68]⟩ : ByteArray), (⟨#[68, 89, 78, 65, 77, 73, 67]⟩ : ByteArray), (⟨#[73, 78, 84, 69, 82, 80]⟩ : ByteArray), (⟨#[78, 79, 84, 69]⟩ : ByteArray), (⟨#[83, 72, 76, 73, 66]⟩ : ByteArray), (⟨#[80, 72, 68, 82]⟩ : ByteArray), (⟨#[84, 76, 83]⟩ : ByteArray)] : List ByteArray) : List ByteArray)).bind fun y164 => (if a0 < 8 then ((phdr_TypeName.f a0).bind fun t167 => (if 0 ≤ a0 then (if a0 < (y164.length : Int) then (if t167.toList = (rdOf ByteArray.empty y164 a0).toList then (if a0 ≥ 8 then ((phdr_TypeName.f a0).bind fun t169 => (if 0 ≤ 2 then (if 2 ≤ (t169.size : Int) then (graverlaw07_PhdrWords.j0 k a0 a1 ((t169.extract 0 2).toList != ([48, 120] : List UInt8))) else (none)) else (none))) else (graverlaw07_PhdrWords.j0 k a0 a1 false)) else (graverlaw07_PhdrWords.j0 k a0 a1 true)) else (none)) else (none))) else (if a0 ≥ 8 then ((phdr_TypeName.f a0).bind fun t170 => (if 0 ≤ 2 then (if 2 ≤ (t170.size : Int) then (graverlaw07_PhdrWords.j0 k a0 a1 ((t170.extract 0 2).toList != ([48, 120] : List UInt8))) else (none)) else (none))) else (graverlaw07_PhdrWords.j0 k a0 a1 false)))) else (some false))
theorem graverlaw07_PhdrWords.mono_l : ∀ k, (∀ y0 y1 y2, LeO (graverlaw07_PhdrWords.j0 k y0 y1 y2) (graverlaw07_PhdrWords.j0 (k + 1) y0 y1 y2)) ∧ (∀ y0 y1 y2 y3, LeO (graverlaw07_PhdrWords.l0 k y0 y1 y2 y3) (graverlaw07_PhdrWords.l0 (k + 1) y0 y1 y2 y3))
 | 0 => ⟨fun _ _ _ r h => by simp [graverlaw07_PhdrWords.j0] at h, fun _ _ _ _ r h => by simp [graverlaw07_PhdrWords.l0] at h⟩
 | k + 1 => by
  obtain ⟨ih0, ih1⟩ := graverlaw07_PhdrWords.mono_l k
  refine ⟨?_, ?_⟩
  ·
   intro y0 y1 y2
   unfold graverlaw07_PhdrWords.j0
   repeat' first
   | (with_reducible exact ih0 _ _ _)
   | (with_reducible exact ih1 _ _ _ _)
   | (with_reducible exact graverlaw07_speaks.mono _)
   | (with_reducible exact phdr_Letters.mono _ _)
   | (with_reducible exact LeO.refl _)
   | (with_reducible exact LeO.none _)
   | (with_reducible refine LeO.ite ?_ ?_)
   | (with_reducible refine LeO.bind ?_ (fun _ => ?_))
   | exact ih0 _ _ _
   | exact ih1 _ _ _ _
   | exact graverlaw07_speaks.mono _
   | exact phdr_Letters.mono _ _
   | exact LeO.none _
   | refine LeO.ite ?_ ?_
   | refine LeO.bind ?_ (fun _ => ?_)
  ·
   intro y0 y1 y2 y3
   unfold graverlaw07_PhdrWords.l0
   repeat' first
   | (with_reducible exact ih0 _ _ _)
   | (with_reducible exact ih1 _ _ _ _)
   | (with_reducible exact graverlaw07_speaks.mono _)
   | (with_reducible exact phdr_Letters.mono _ _)
   | (with_reducible exact LeO.refl _)
   | (with_reducible exact LeO.none _)
   | (with_reducible refine LeO.ite ?_ ?_)
   | (with_reducible refine LeO.bind ?_ (fun _ => ?_))
   | exact ih0 _ _ _
   | exact ih1 _ _ _ _
   | exact graverlaw07_speaks.mono _
   | exact phdr_Letters.mono _ _
   | exact LeO.none _
   | refine LeO.ite ?_ ?_
   | refine LeO.bind ?_ (fun _ => ?_)
theorem graverlaw07_PhdrWords.mono : ∀ a0 a1 k, LeO (graverlaw07_PhdrWords.f k a0 a1) (graverlaw07_PhdrWords.f (k + 1) a0 a1) := by
 intro a0 a1 k
 obtain ⟨ih0, ih1⟩ := graverlaw07_PhdrWords.mono_l k
 unfold graverlaw07_PhdrWords.f
 repeat' first
   | (with_reducible exact ih0 _ _ _)
   | (with_reducible exact ih1 _ _ _ _)
   | (with_reducible exact graverlaw07_speaks.mono _)
   | (with_reducible exact phdr_Letters.mono _ _)
   | (with_reducible exact LeO.refl _)
   | (with_reducible exact LeO.none _)
   | (with_reducible refine LeO.ite ?_ ?_)
   | (with_reducible refine LeO.bind ?_ (fun _ => ?_))
   | exact ih0 _ _ _
   | exact ih1 _ _ _ _
   | exact graverlaw07_speaks.mono _
   | exact phdr_Letters.mono _ _
   | exact LeO.none _
   | refine LeO.ite ?_ ?_
   | refine LeO.bind ?_ (fun _ => ?_)
def graverlaw07_PhdrWords.T4 : Bool × List (List Nat × List Nat) := (true, [([], []), ([0], [0]), ([1], [1]), ([2], [2]), ([3, 2, 2], [2, 3]), ([2], [2]), ([2], [2]), ([5, 6, 2], [2, 5, 6]), ([7, 2], [2, 7]), ([4, 8, 2], [2, 4, 8]), ([2, 9], [2, 9]), ([10, 4], [10]), ([11], [11]), ([12, 11], [11, 12]), ([13, 11, 11], [11, 13]), ([14], [14]), ([15, 14, 14], [14, 15]), ([16, 14], [14, 16]), ([17, 14], [14, 17]), ([14, 18, 11], [11, 14, 18]), ([11, 19], [11, 19])])
def graverlaw07_PhdrWords.B4 : List Nat := [0, 1, 3, 7, 15, 7, 7, 103, 231, 511, 1023, 2047, 4095, 8191, 16383, 32767, 65535, 131071, 262143, 524287, 1048575]
theorem graverlaw07_PhdrWords.tab4 : rtab .any (opsOf Tryd.f9 4) = graverlaw07_PhdrWords.T4 := by kernel_rfl
theorem graverlaw07_PhdrWords.bits4 : waitsOk graverlaw07_PhdrWords.T4.2 graverlaw07_PhdrWords.B4 = true := by kernel_rfl
def graverlaw07_PhdrWords.T13 : Bool × List (List Nat × List Nat) := (true, [([], []), ([0], [0]), ([], []), ([2], [2]), ([1, 3], [1, 3]), ([4], [4]), ([5], [5]), ([6, 5], [5, 6]), ([7, 5], [5, 7]), ([5], [5]), ([9, 5], [5, 9]), ([8, 10, 5], [5, 8, 10]), ([5, 11], [5, 11]), ([12, 5], [12]), ([13], [13]), ([14, 13, 13], [13, 14]), ([13], [13]), ([16, 15, 13], [13, 16]), ([15, 17, 13], [13, 15, 17]), ([13], [13]), ([13], [13]), ([19, 20, 13], [13, 19, 20]), ([18, 21, 13], [13, 18, 21]), ([13, 22], [13, 22]), ([23, 17], [23]), ([24], [24]), ([24], [24]), ([26, 24, 24], [24, 26]), ([25, 27, 24], [24, 25, 27]), ([24], [24]), ([24], [24]), ([29, 30, 24], [24, 29, 30]), ([28, 31, 24], [24, 28, 31]), ([24, 32], [24, 32]), ([33, 27, 0, 1, 2, 3, 4, 5, 6, 7, 8, 9, 10, 11, 12, 13, 14, 15, 16, 17, 18, 19, 20, 21, 22, 23, 24, 25, 26, 27, 28, 29, 30, 31, 32, 33], [33])])
def graverlaw07_PhdrWords.B13 : List Nat := [0, 1, 0, 4, 15, 31, 63, 127, 255, 63, 575, 2047, 4095, 8191, 16383, 32767, 16383, 131071, 262143, 16383, 16383, 1589247, 4194303, 8388607, 16777215, 33554431, 33554431, 100663295, 268435455, 33554431, 33554431, 1644167167, 4294967295, 8589934591, 17179869183]
theorem graverlaw07_PhdrWords.tab13 : rtab .any (opsOf Tryd.f9 13) = graverlaw07_PhdrWords.T13 := by kernel_rfl
theorem graverlaw07_PhdrWords.bits13 : waitsOk graverlaw07_PhdrWords.T13.2 graverlaw07_PhdrWords.B13 = true := by kernel_rfl
set_option maxHeartbeats 8000000 in
set_option maxRecDepth 100000 in
theorem graverlaw07_PhdrWords.calls (k : Nat) (a0 : Int) (a1 : Int) (r : Bool) (w : World) (hlaid_phdr : Laid_phdr w) (hlaid_phdrn : Laid_phdrn w) (hlaid_strconv : Laid_strconv w) (hrt : r = true) (h : graverlaw07_PhdrWords.f k a0 a1 = some r) :
  Calls Tryd.prog 9 #[.int .u64 a0, .int .u64 a1] w fun e w' => e = .returned (.bool r) ∧ Below w.heap.size w w' := by
 have HB := aS (Below.refl w.heap.size w)
 have HLD_phdr := aS hlaid_phdr
 clear hlaid_phdr
 have HLD_phdrn := aS hlaid_phdrn
 clear hlaid_phdrn
 have HLD_strconv := aS hlaid_strconv
 clear hlaid_strconv
 have HRT := aS hrt
 clear hrt
 have H : ((graverlaw07_speaks.f k).bind fun t163 => (if t163 = true then ((some (([(⟨#[78, 85, 76, 76]⟩ : ByteArray), (⟨#[76, 79, 65, 68]⟩ : ByteArray), (⟨#[68, 89, 78, 65, 77, 73, 67]⟩ : ByteArray), (⟨#[73, 78, 84, 69, 82, 80]⟩ : ByteArray), (⟨#[78, 79, 84, 69]⟩ : ByteArray), (⟨#[83, 72, 76, 73, 66]⟩ : ByteArray), (⟨#[80, 72, 68, 82]⟩ : ByteArray), (⟨#[84, 76, 83]⟩ : ByteArray)] : List ByteArray) : List ByteArray)).bind fun y164 => (if a0 < 8 then ((phdr_TypeName.f a0).bind fun t167 => (if 0 ≤ a0 then (if a0 < (y164.length : Int) then (if t167.toList = (rdOf ByteArray.empty y164 a0).toList then (if a0 ≥ 8 then ((phdr_TypeName.f a0).bind fun t169 => (if 0 ≤ 2 then (if 2 ≤ (t169.size : Int) then (graverlaw07_PhdrWords.j0 k a0 a1 ((t169.extract 0 2).toList != ([48, 120] : List UInt8))) else (none)) else (none))) else (graverlaw07_PhdrWords.j0 k a0 a1 false)) else (graverlaw07_PhdrWords.j0 k a0 a1 true)) else (none)) else (none))) else (if a0 ≥ 8 then ((phdr_TypeName.f a0).bind fun t170 => (if 0 ≤ 2 then (if 2 ≤ (t170.size : Int) then (graverlaw07_PhdrWords.j0 k a0 a1 ((t170.extract 0 2).toList != ([48, 120] : List UInt8))) else (none)) else (none))) else (graverlaw07_PhdrWords.j0 k a0 a1 false)))) else (some false))) = some r := h
 clear h
 replace H := Option.bind_eq_some_iff.mp H
 obtain ⟨t163, A30, H⟩ := H
 replace H : (if t163 = true then ((some (([(⟨#[78, 85, 76, 76]⟩ : ByteArray), (⟨#[76, 79, 65, 68]⟩ : ByteArray), (⟨#[68, 89, 78, 65, 77, 73, 67]⟩ : ByteArray), (⟨#[73, 78, 84, 69, 82, 80]⟩ : ByteArray), (⟨#[78, 79, 84, 69]⟩ : ByteArray), (⟨#[83, 72, 76, 73, 66]⟩ : ByteArray), (⟨#[80, 72, 68, 82]⟩ : ByteArray), (⟨#[84, 76, 83]⟩ : ByteArray)] : List ByteArray) : List ByteArray)).bind fun y164 => (if a0 < 8 then ((phdr_TypeName.f a0).bind fun t167 => (if 0 ≤ a0 then (if a0 < (y164.length : Int) then (if t167.toList = (rdOf ByteArray.empty y164 a0).toList then (if a0 ≥ 8 then ((phdr_TypeName.f a0).bind fun t169 => (if 0 ≤ 2 then (if 2 ≤ (t169.size : Int) then (graverlaw07_PhdrWords.j0 k a0 a1 ((t169.extract 0 2).toList != ([48, 120] : List UInt8))) else (none)) else (none))) else (graverlaw07_PhdrWords.j0 k a0 a1 false)) else (graverlaw07_PhdrWords.j0 k a0 a1 true)) else (none)) else (none))) else (if a0 ≥ 8 then ((phdr_TypeName.f a0).bind fun t170 => (if 0 ≤ 2 then (if 2 ≤ (t170.size : Int) then (graverlaw07_PhdrWords.j0 k a0 a1 ((t170.extract 0 2).toList != ([48, 120] : List UInt8))) else (none)) else (none))) else (graverlaw07_PhdrWords.j0 k a0 a1 false)))) else (some false)) = some r := H
 have A3 := aS A30
 clear A30
 by_cases c4 : t163 = true
 ·
  subst c4
  have H1 : ((some (([(⟨#[78, 85, 76, 76]⟩ : ByteArray), (⟨#[76, 79, 65, 68]⟩ : ByteArray), (⟨#[68, 89, 78, 65, 77, 73, 67]⟩ : ByteArray), (⟨#[73, 78, 84, 69, 82, 80]⟩ : ByteArray), (⟨#[78, 79, 84, 69]⟩ : ByteArray), (⟨#[83, 72, 76, 73, 66]⟩ : ByteArray), (⟨#[80, 72, 68, 82]⟩ : ByteArray), (⟨#[84, 76, 83]⟩ : ByteArray)] : List ByteArray) : List ByteArray)).bind fun y164 => (if a0 < 8 then ((phdr_TypeName.f a0).bind fun t167 => (if 0 ≤ a0 then (if a0 < (y164.length : Int) then (if t167.toList = (rdOf ByteArray.empty y164 a0).toList then (if a0 ≥ 8 then ((phdr_TypeName.f a0).bind fun t169 => (if 0 ≤ 2 then (if 2 ≤ (t169.size : Int) then (graverlaw07_PhdrWords.j0 k a0 a1 ((t169.extract 0 2).toList != ([48, 120] : List UInt8))) else (none)) else (none))) else (graverlaw07_PhdrWords.j0 k a0 a1 false)) else (graverlaw07_PhdrWords.j0 k a0 a1 true)) else (none)) else (none))) else (if a0 ≥ 8 then ((phdr_TypeName.f a0).bind fun t170 => (if 0 ≤ 2 then (if 2 ≤ (t170.size : Int) then (graverlaw07_PhdrWords.j0 k a0 a1 ((t170.extract 0 2).toList != ([48, 120] : List UInt8))) else (none)) else (none))) else (graverlaw07_PhdrWords.j0 k a0 a1 false)))) = some r := by rw [if_pos rfl] at H; exact H
  clear H
  have H := H1
  clear H1
  obtain ⟨y164, hy164⟩ : ∃ y_ : List ByteArray, y_ = (([(⟨#[78, 85, 76, 76]⟩ : ByteArray), (⟨#[76, 79, 65, 68]⟩ : ByteArray), (⟨#[68, 89, 78, 65, 77, 73, 67]⟩ : ByteArray), (⟨#[73, 78, 84, 69, 82, 80]⟩ : ByteArray), (⟨#[78, 79, 84, 69]⟩ : ByteArray), (⟨#[83, 72, 76, 73, 66]⟩ : ByteArray), (⟨#[80, 72, 68, 82]⟩ : ByteArray), (⟨#[84, 76, 83]⟩ : ByteArray)] : List ByteArray)) := ⟨_, rfl⟩
  replace H : (if a0 < 8 then ((phdr_TypeName.f a0).bind fun t167 => (if 0 ≤ a0 then (if a0 < (y164.length : Int) then (if t167.toList = (rdOf ByteArray.empty y164 a0).toList then (if a0 ≥ 8 then ((phdr_TypeName.f a0).bind fun t169 => (if 0 ≤ 2 then (if 2 ≤ (t169.size : Int) then (graverlaw07_PhdrWords.j0 k a0 a1 ((t169.extract 0 2).toList != ([48, 120] : List UInt8))) else (none)) else (none))) else (graverlaw07_PhdrWords.j0 k a0 a1 false)) else (graverlaw07_PhdrWords.j0 k a0 a1 true)) else (none)) else (none))) else (if a0 ≥ 8 then ((phdr_TypeName.f a0).bind fun t170 => (if 0 ≤ 2 then (if 2 ≤ (t170.size : Int) then (graverlaw07_PhdrWords.j0 k a0 a1 ((t170.extract 0 2).toList != ([48, 120] : List UInt8))) else (none)) else (none))) else (graverlaw07_PhdrWords.j0 k a0 a1 false))) = some r := by first | (rw [hy164]; with_reducible exact H) | (have H2_ := (Option.bind_some _ _).symm.trans H; rw [hy164]; with_reducible exact H2_) | (have H2_ := (Option.bind_some _ _).symm.trans H; with_reducible exact H2_) | with_reducible exact H | (rw [hy164]; exact H) | exact H
  have Ny164 := aS hy164
  clear hy164
  have HC5 := aS H
  clear H
  go_enter Tryd.func9, Tryd.ntmps9
  go_upto_region 4 with (first | ((with_reducible refine gate_callee (f := 29) rfl ?_); refine goesL_ (some 9) rfl rfl Tryd.func29 (by kernel_rfl) rfl #[] rfl (by (try simp only [List.map_toArray, List.map_cons, List.map_nil]); first | done | rfl | (simp only [List.length_drop, List.length_take]; rfl)) ?_; (with_reducible refine (graverlaw07_speaks.calls k  true _ ?side1 A3.out).mono ?_); (case side1 => exact Laid_phdr.below HLD_phdr.out (by repeat (first | (with_reducible first | exact HB.out | apply below_alloc | apply pw_below_drewN | apply below_drew1) | exact HB.out))); rintro e w6 ⟨rfl, hb⟩; refine ⟨_, rfl, ?_⟩; have n0_ := aS (below_step (by repeat (first | (with_reducible first | exact HB.out | apply below_alloc | apply pw_below_drewN | apply below_drew1) | exact HB.out)) hb); clear HB; have HB := n0_; clear n0_; (try clear hb); (try clear hb2); (try clear hk); (try clear hi)) | ((with_reducible refine gate_dst (N := 11) rfl ?_); (try (refine gate_guard (by rfl) ?_; dsimp only)); refine Kd.R_lit Kd.string _ 9 ?hg (N := 11) ?hd (xs := ([(⟨#[78, 85, 76, 76]⟩ : ByteArray), (⟨#[76, 79, 65, 68]⟩ : ByteArray), (⟨#[68, 89, 78, 65, 77, 73, 67]⟩ : ByteArray), (⟨#[73, 78, 84, 69, 82, 80]⟩ : ByteArray), (⟨#[78, 79, 84, 69]⟩ : ByteArray), (⟨#[83, 72, 76, 73, 66]⟩ : ByteArray), (⟨#[80, 72, 68, 82]⟩ : ByteArray), (⟨#[84, 76, 83]⟩ : ByteArray)] : List ByteArray)) (inner := [.string (⟨#[78, 85, 76, 76]⟩ : ByteArray), .string (⟨#[76, 79, 65, 68]⟩ : ByteArray), .string (⟨#[68, 89, 78, 65, 77, 73, 67]⟩ : ByteArray), .string (⟨#[73, 78, 84, 69, 82, 80]⟩ : ByteArray), .string (⟨#[78, 79, 84, 69]⟩ : ByteArray), .string (⟨#[83, 72, 76, 73, 66]⟩ : ByteArray), .string (⟨#[80, 72, 68, 82]⟩ : ByteArray), .string (⟨#[84, 76, 83]⟩ : ByteArray)]) (ok := fun _ => True) (okp := fun _ => True) ?hr ?hp (fun _ hk => hk) trivial (Below.refl _ _) (Nat.le_refl _) (by simp) ?_; (case hd => rfl); (case hg => rfl); (case hr => (go_simp; try rfl)); (case hp => exact (Reps.one (show Kd.M Kd.string _ _ _ (⟨#[78, 85, 76, 76]⟩ : ByteArray) [.string (⟨#[78, 85, 76, 76]⟩ : ByteArray)] from rfl) (Reps.one (show Kd.M Kd.string _ _ _ (⟨#[76, 79, 65, 68]⟩ : ByteArray) [.string (⟨#[76, 79, 65, 68]⟩ : ByteArray)] from rfl) (Reps.one (show Kd.M Kd.string _ _ _ (⟨#[68, 89, 78, 65, 77, 73, 67]⟩ : ByteArray) [.string (⟨#[68, 89, 78, 65, 77, 73, 67]⟩ : ByteArray)] from rfl) (Reps.one (show Kd.M Kd.string _ _ _ (⟨#[73, 78, 84, 69, 82, 80]⟩ : ByteArray) [.string (⟨#[73, 78, 84, 69, 82, 80]⟩ : ByteArray)] from rfl) (Reps.one (show Kd.M Kd.string _ _ _ (⟨#[78, 79, 84, 69]⟩ : ByteArray) [.string (⟨#[78, 79, 84, 69]⟩ : ByteArray)] from rfl) (Reps.one (show Kd.M Kd.string _ _ _ (⟨#[83, 72, 76, 73, 66]⟩ : ByteArray) [.string (⟨#[83, 72, 76, 73, 66]⟩ : ByteArray)] from rfl) (Reps.one (show Kd.M Kd.string _ _ _ (⟨#[80, 72, 68, 82]⟩ : ByteArray) [.string (⟨#[80, 72, 68, 82]⟩ : ByteArray)] from rfl) (Reps.one (show Kd.M Kd.string _ _ _ (⟨#[84, 76, 83]⟩ : ByteArray) [.string (⟨#[84, 76, 83]⟩ : ByteArray)] from rfl) (Reps.none _ _)))))))))); intro v165 w7 ho8 hb hg_ hnew_; clear hg_ hnew_; (first | rw [← Ny164.out] at ho8 | (simp only [Int.reduceToNat] at ho8; rw [← Ny164.out] at ho8)); have n0_ := aS (Kd.R_lower ho8 (below_size (by repeat (first | (with_reducible first | exact HB.out | apply below_alloc | apply pw_below_drewN | apply below_drew1) | exact HB.out)))); have n1_ := aS (below_step (by repeat (first | (with_reducible first | exact HB.out | apply below_alloc | apply pw_below_drewN | apply below_drew1) | exact HB.out)) hb); clear HB; have HO166 := n0_; have HB := n1_; clear n0_ n1_; clear hb ho8))
  (try simp only [Act.put, List.setIfInBounds_toArray, List.set_cons_zero, List.set_cons_succ])
  go_cut [32] (fun v32 wc => ∃ (kq : Nat) (x32_4 : Bool), v32 = .bool x32_4 ∧ Aside0 (graverlaw07_PhdrWords.j0 kq a0 a1 x32_4 = some r) ∧ Aside0 (kq ≤ k) ∧ Aside0 (Below w.heap.size w wc))
  case first =>
   have H := HC5.out
   clear HC5
   by_cases c9 : a0 < 8
   ·
    rw [if_pos c9] at H
    have c9b0 : decide (a0 < 8) = true := decide_eq_true c9
    clear c9
    (first | rw [c9b0] | (simp only [i64_w, i32_w]; rw [c9b0]) | skip)
    replace H := Option.bind_eq_some_iff.mp H
    obtain ⟨t167, A100, H⟩ := H
    replace H : (if 0 ≤ a0 then (if a0 < (y164.length : Int) then (if t167.toList = (rdOf ByteArray.empty y164 a0).toList then (if a0 ≥ 8 then ((phdr_TypeName.f a0).bind fun t169 => (if 0 ≤ 2 then (if 2 ≤ (t169.size : Int) then (graverlaw07_PhdrWords.j0 k a0 a1 ((t169.extract 0 2).toList != ([48, 120] : List UInt8))) else (none)) else (none))) else (graverlaw07_PhdrWords.j0 k a0 a1 false)) else (graverlaw07_PhdrWords.j0 k a0 a1 true)) else (none)) else (none)) = some r := H
    have A10 := aS A100
    clear A100
    by_cases c11 : 0 ≤ a0
    ·
     rw [if_pos c11] at H
     have c11b0 : decide (0 ≤ a0) = true := decide_eq_true c11
     clear c11
     by_cases c12 : a0 < (y164.length : Int)
     ·
      rw [if_pos c12] at H
      have c12b0 : decide (a0 < (y164.length : Int)) = true := decide_eq_true c12
      clear c12
      by_cases c13 : t167.toList = (rdOf ByteArray.empty y164 a0).toList
      ·
       rw [if_pos c13] at H
       have c13b0 : (t167.toList == (rdOf ByteArray.empty y164 a0).toList) = true := beq_iff_eq.mpr c13
       have c13b1 : (t167.toList != (rdOf ByteArray.empty y164 a0).toList) = false := bne_eq_false_iff_eq.mpr c13
       clear c13
       by_cases c14 : a0 ≥ 8
       ·
        rw [if_pos c14] at H
        have c14b0 : decide (8 ≤ a0) = true := decide_eq_true c14
        clear c14
        replace H := Option.bind_eq_some_iff.mp H
        obtain ⟨t169, A150, H⟩ := H
        replace H : (if 0 ≤ 2 then (if 2 ≤ (t169.size : Int) then (graverlaw07_PhdrWords.j0 k a0 a1 ((t169.extract 0 2).toList != ([48, 120] : List UInt8))) else (none)) else (none)) = some r := H
        have A15 := aS A150
        clear A150
        by_cases c16 : 0 ≤ 2
        ·
         rw [if_pos c16] at H
         have c16b0 := eq_true c16
         have c16b1 : decide (0 ≤ 2) = true := decide_eq_true c16
         clear c16
         by_cases c17 : 2 ≤ (t169.size : Int)
         ·
          rw [if_pos c17] at H
          have c17b0 := eq_true c17
          have c17b1 : decide (2 ≤ (t169.size : Int)) = true := decide_eq_true c17
          clear c17
          obtain ⟨sc18, hsc18⟩ : ∃ s_ : ByteArray, (t169.extract 0 2) = s_ := ⟨_, rfl⟩
          replace H : (graverlaw07_PhdrWords.j0 k a0 a1 (sc18.toList != ([48, 120] : List UInt8))) = some r := by first | (rw [hsc18] at H; exact H) | (simp only [hsc18] at H ⊢; exact H) | exact H
          (try (have hsc18n := hsc18; simp only [Int.toNat_natCast] at hsc18n))
          have H' := aS H
          clear H
          try go_wp2
          have n0_ := aS (Kd.R_drew HO166.out)
          have n1_ := aS (below_drew1 HB.out)
          clear HO166
          clear HB
          have HO166 := n0_
          have HB := n1_
          clear n0_ n1_
          obtain ⟨Ao20, co20, eo20⟩ := Kd.R_slice HO166.out
          (first | subst eo20 | (injection eo20 with f1_ f2_ f3_; have f4_ := f1_.symm; have f5_ := f3_.symm; clear f1_ f2_ f3_; subst f4_; subst f5_))
          have p168 : 0 ≤ (a0 : Int) := of_decide_eq_true (by first | (with_reducible assumption) | assumption)
          have q168 : a0 < (y164.length : Int) := of_decide_eq_true (by first | (with_reducible assumption) | assumption)
          obtain ⟨ad168, e168, hx168_0⟩ := Kd.at_string (Kd.R_reads' HO166.out).2.2 a0 p168 q168
          cases e168
          replace p168 := eq_true p168
          replace q168 := eq_true q168
          refine start_ (n := 21) (S := fun w' => w'.cell? (ad168.add (a0).toNat) = some (.string (rdOf ByteArray.empty y164 a0))) (ds := []) #[false, false, false, false, false, false, false, false, false, false, false, false, false, false, false, false, false, false, false, false, false] (by kernel_rfl) rfl rfl (hx168_0) (fun hHeld => ?_); refine with_tabW graverlaw07_PhdrWords.tab4 graverlaw07_PhdrWords.bits4 (fun HT_ HW_ => ?_)
          generalize w7.drew = w19 at HO166 HB hx168_0 hHeld ⊢
          refine pure_ (i := 0) (N := some 12) (v := ?_) (a' := ?_) (bm 21 1) rfl rfl (any_of HT_.out (by kernel_rfl)) (fun _ _ _ h => h) (Or.inl ⟨by rfl, ?_⟩) ?_ ?_
          rotate_left
          ·
           intro w'
           go_simp
           with_reducible rfl
          rotate_left
          ·
           simp only [Act.put, aput]
           rfl
          refine pure_ (i := 1) (N := some 13) (v := ?_) (a' := ?_) (bm 21 3) rfl rfl (any_of HT_.out (by kernel_rfl)) (fun _ _ _ h => h) (Or.inl ⟨by rfl, ?_⟩) ?_ ?_
          rotate_left
          ·
           intro w'
           go_simp
           with_reducible rfl
          rotate_left
          ·
           simp only [Act.put, aput]
           rfl
          refine pure_ (i := 2) (N := some 14) (v := ?_) (a' := ?_) (bm 21 7) rfl rfl (any_of HT_.out (by kernel_rfl)) (fun _ _ _ h => h) (Or.inl ⟨by rfl, ?_⟩) ?_ ?_
          rotate_left
          ·
           intro w'
           go_simp
           with_reducible rfl
          rotate_left
          ·
           simp only [Act.put, aput]
           rfl
          refine pure_ (i := 3) (N := some 15) (v := ?_) (a' := ?_) (bm 21 15) rfl rfl (any_of HT_.out (by kernel_rfl)) (fun _ _ _ h => h) (Or.inl ⟨by rfl, ?_⟩) ?_ ?_
          rotate_left
          ·
           intro w'
           go_simp
           with_reducible rfl
          rotate_left
          ·
           simp only [Act.put, aput]
           rfl
          refine pure_ (i := 5) (N := some 17) (v := ?_) (a' := ?_) (bm 21 47) rfl rfl (any_of HT_.out (by kernel_rfl)) (fun _ _ _ h => h) (Or.inl ⟨by rfl, ?_⟩) ?_ ?_
          rotate_left
          ·
           intro w'
           go_simp
           with_reducible rfl
          rotate_left
          ·
           simp only [Act.put, aput]
           rfl
          refine pure_ (i := 6) (N := some 18) (v := ?_) (a' := ?_) (bm 21 111) rfl rfl (any_of HT_.out (by kernel_rfl)) (fun _ _ _ h => h) (Or.inl ⟨by rfl, ?_⟩) ?_ ?_
          rotate_left
          ·
           intro w'
           go_simp
           with_reducible rfl
          rotate_left
          ·
           simp only [Act.put, aput]
           rfl
          refine pure_ (i := 7) (N := some 19) (v := ?_) (a' := ?_) (bm 21 239) rfl rfl (any_of HT_.out (by kernel_rfl)) (fun _ _ _ h => h) (Or.inl ⟨by rfl, ?_⟩) ?_ ?_
          rotate_left
          ·
           intro w'
           go_simp
           with_reducible rfl
          rotate_left
          ·
           simp only [Act.put, aput]
           rfl
          refine take_ (i := 8) (N := some 20) (v := ?_) (a' := ?_) (bm 21 495) rfl rfl (take_ofW HT_.out HW_.out (by kernel_rfl)) (fun _ _ _ h => h) (Or.inl ⟨by rfl, ?_⟩) hHeld ?_ ?_
          rotate_left
          ·
           intro w' s0
           go_simp
           with_reducible rfl
          rotate_left
          ·
           simp only [Act.put, aput]
           rfl
          refine one_ (i := 4) (N := some 16) (bm 21 511) rfl rfl (one_of HT_.out (by kernel_rfl)) (by decide) (fun K hK => ?_)
          refine goes_ Tryd.func30 (by kernel_rfl) rfl #[.int .u64 a0] (by rfl) rfl rfl (by (try simp only [List.map_toArray, List.map_cons, List.map_nil]); first | done | rfl | (simp only [List.length_drop, List.length_take]; rfl)) ?_
          with_reducible refine (phdr_TypeName.calls a0 t167 _ ?side1 ?side2 A10.out).mono ?_
          (case side1 => exact Laid_phdrn.below HLD_phdrn.out (by repeat (first | (with_reducible first | exact HB.out | apply below_alloc | apply pw_below_drewN | apply below_drew1) | exact HB.out)))
          (case side2 => exact Laid_strconv.below HLD_strconv.out (by repeat (first | (with_reducible first | exact HB.out | apply below_alloc | apply pw_below_drewN | apply below_drew1) | exact HB.out)))
          rintro e w21 ⟨rfl, hb⟩
          have HS0_ := (hb.cell (World.block_lt_of_cell? _ _ (hHeld))).trans (hHeld)
          refine ⟨_, rfl, ?_⟩
          have n0_ := aS (Kd.R_below (by (with_reducible repeat (first | apply Kd.R_alloc | apply Kd.R_drewN | apply Kd.R_drew)); exact HO166.out) hb)
          have n1_ := aS (below_step (by repeat (first | (with_reducible first | exact HB.out | apply below_alloc | apply pw_below_drewN | apply below_drew1) | exact HB.out)) hb)
          clear HO166
          clear HB
          have HO166 := n0_
          have HB := n1_
          clear n0_ n1_
          (try clear hb)
          (try clear hb2)
          (try clear hk)
          (try clear hi)
          refine hK.out _ _ (HS0_) (fun hHeld => ?_)
          clear hK K
          refine norm_ (a' := ?_) ?_ ?_
          rotate_left
          ·
           show Act.put _ (some 16) _ = _
           simp only [Act.put, aput]
           rfl
          refine pure_ (i := 9) (N := some 21) (v := ?_) (a' := ?_) (bm 21 1023) rfl rfl (any_of HT_.out (by kernel_rfl)) (fun _ _ _ h => h) (Or.inl ⟨by rfl, ?_⟩) ?_ ?_
          rotate_left
          ·
           intro w'
           go_simp
           with_reducible rfl
          rotate_left
          ·
           simp only [Act.put, aput]
           rfl
          refine pure_ (i := 10) (N := some 22) (v := ?_) (a' := ?_) (bm 21 2047) rfl rfl (any_of HT_.out (by kernel_rfl)) (fun _ _ _ h => h) (Or.inl ⟨by rfl, ?_⟩) ?_ ?_
          rotate_left
          ·
           intro w'
           go_simp
           with_reducible rfl
          rotate_left
          ·
           simp only [Act.put, aput]
           rfl
          refine pure_ (i := 11) (N := some 23) (v := ?_) (a' := ?_) (bm 21 4095) rfl rfl (any_of HT_.out (by kernel_rfl)) (fun _ _ _ h => h) (Or.inl ⟨by rfl, ?_⟩) ?_ ?_
          rotate_left
          ·
           intro w'
           go_simp
           with_reducible rfl
          rotate_left
          ·
           simp only [Act.put, aput]
           rfl
          refine pure_ (i := 12) (N := some 24) (v := ?_) (a' := ?_) (bm 21 8191) rfl rfl (any_of HT_.out (by kernel_rfl)) (fun _ _ _ h => h) (Or.inl ⟨by rfl, ?_⟩) ?_ ?_
          rotate_left
          ·
           intro w'
           go_simp
           with_reducible rfl
          rotate_left
          ·
           simp only [Act.put, aput]
           rfl
          refine pure_ (i := 13) (N := some 25) (v := ?_) (a' := ?_) (bm 21 16383) rfl rfl (any_of HT_.out (by kernel_rfl)) (fun _ _ _ h => h) (Or.inl ⟨by rfl, ?_⟩) ?_ ?_
          rotate_left
          ·
           intro w'
           go_simp
           with_reducible rfl
          rotate_left
          ·
           simp only [Act.put, aput]
           rfl
          refine pure_ (i := 14) (N := some 26) (v := ?_) (a' := ?_) (bm 21 32767) rfl rfl (any_of HT_.out (by kernel_rfl)) (fun _ _ _ h => h) (Or.inl ⟨by rfl, ?_⟩) ?_ ?_
          rotate_left
          ·
           intro w'
           go_simp
           with_reducible rfl
          rotate_left
          ·
           simp only [Act.put, aput]
           rfl
          refine pure_ (i := 15) (N := some 27) (v := ?_) (a' := ?_) (bm 21 65535) rfl rfl (any_of HT_.out (by kernel_rfl)) (fun _ _ _ h => h) (Or.inl ⟨by rfl, ?_⟩) ?_ ?_
          rotate_left
          ·
           intro w'
           go_simp
           with_reducible rfl
          rotate_left
          ·
           simp only [Act.put, aput]
           rfl
          refine one_ (i := 16) (N := some 28) (bm 21 131071) rfl rfl (one_of HT_.out (by kernel_rfl)) (by decide) (fun K hK => ?_)
          refine goes_ Tryd.func30 (by kernel_rfl) rfl #[.int .u64 a0] (by rfl) rfl rfl (by (try simp only [List.map_toArray, List.map_cons, List.map_nil]); first | done | rfl | (simp only [List.length_drop, List.length_take]; rfl)) ?_
          with_reducible refine (phdr_TypeName.calls a0 t169 _ ?side1 ?side2 A15.out).mono ?_
          (case side1 => exact Laid_phdrn.below HLD_phdrn.out (by repeat (first | (with_reducible first | exact HB.out | apply below_alloc | apply pw_below_drewN | apply below_drew1) | exact HB.out)))
          (case side2 => exact Laid_strconv.below HLD_strconv.out (by repeat (first | (with_reducible first | exact HB.out | apply below_alloc | apply pw_below_drewN | apply below_drew1) | exact HB.out)))
          rintro e w22 ⟨rfl, hb⟩
          have HS0_ := (hb.cell (World.block_lt_of_cell? _ _ (hHeld))).trans (hHeld)
          refine ⟨_, rfl, ?_⟩
          have n0_ := aS (Kd.R_below (by (with_reducible repeat (first | apply Kd.R_alloc | apply Kd.R_drewN | apply Kd.R_drew)); exact HO166.out) hb)
          have n1_ := aS (below_step (by repeat (first | (with_reducible first | exact HB.out | apply below_alloc | apply pw_below_drewN | apply below_drew1) | exact HB.out)) hb)
          clear HO166
          clear HB
          have HO166 := n0_
          have HB := n1_
          clear n0_ n1_
          (try clear hb)
          (try clear hb2)
          (try clear hk)
          (try clear hi)
          refine hK.out _ _ (HS0_) (fun hHeld => ?_)
          clear hK K
          refine norm_ (a' := ?_) ?_ ?_
          rotate_left
          ·
           show Act.put _ (some 28) _ = _
           simp only [Act.put, aput]
           rfl
          refine pure_ (i := 17) (N := some 29) (v := ?_) (a' := ?_) (bm 21 262143) rfl rfl (any_of HT_.out (by kernel_rfl)) (fun _ _ _ h => h) (Or.inl ⟨by rfl, ?_⟩) ?_ ?_
          rotate_left
          ·
           intro w'
           go_simp
           with_reducible rfl
          rotate_left
          ·
           simp only [Act.put, aput]
           rfl
          refine pure_ (i := 18) (N := some 30) (v := ?_) (a' := ?_) (bm 21 524287) rfl rfl (any_of HT_.out (by kernel_rfl)) (fun _ _ _ h => h) (Or.inl ⟨by rfl, ?_⟩) ?_ ?_
          rotate_left
          ·
           intro w'
           go_simp
           with_reducible rfl
          rotate_left
          ·
           simp only [Act.put, aput]
           rfl
          refine pure_ (i := 19) (N := some 31) (v := ?_) (a' := ?_) (bm 21 1048575) rfl rfl (any_of HT_.out (by kernel_rfl)) (fun _ _ _ h => h) (Or.inl ⟨by rfl, ?_⟩) ?_ ?_
          rotate_left
          ·
           intro w'
           go_simp
           with_reducible rfl
          rotate_left
          ·
           simp only [Act.put, aput]
           rfl
          refine pure_ (i := 20) (N := some 32) (v := ?_) (a' := ?_) (bm 21 2097151) rfl rfl (any_of HT_.out (by kernel_rfl)) (fun _ _ _ h => h) (Or.inl ⟨by rfl, ?_⟩) ?_ ?_
          rotate_left
          ·
           intro w'
           go_simp
           with_reducible rfl
          rotate_left
          ·
           simp only [Act.put, aput]
           rfl
          refine done_ (done_of HT_.out (by kernel_rfl)) ?_
          try go_wp2
          go_meet
          case rel => exact ⟨_, ((sc18.toList != ([48, 120] : List UInt8))), (by first | rfl | (simp; done) | (simp [*]; done)), H', ⟨by first | omega | exact Nat.le_refl _⟩, ⟨by repeat (first | (with_reducible first | exact HB.out | apply below_alloc | apply pw_below_drewN | apply below_drew1) | exact HB.out)⟩⟩
         ·
          rw [if_neg c17] at H
          exact absurd H (by simp)
        ·
         rw [if_neg c16] at H
         exact absurd H (by simp)
       ·
        rw [if_neg c14] at H
        have c14b0 : decide (8 ≤ a0) = false := decide_eq_false c14
        clear c14
        have H' := aS H
        clear H
        try go_wp2
        have n0_ := aS (Kd.R_drew HO166.out)
        have n1_ := aS (below_drew1 HB.out)
        clear HO166
        clear HB
        have HO166 := n0_
        have HB := n1_
        clear n0_ n1_
        obtain ⟨Ao24, co24, eo24⟩ := Kd.R_slice HO166.out
        (first | subst eo24 | (injection eo24 with f1_ f2_ f3_; have f4_ := f1_.symm; have f5_ := f3_.symm; clear f1_ f2_ f3_; subst f4_; subst f5_))
        have p168 : 0 ≤ (a0 : Int) := of_decide_eq_true (by first | (with_reducible assumption) | assumption)
        have q168 : a0 < (y164.length : Int) := of_decide_eq_true (by first | (with_reducible assumption) | assumption)
        obtain ⟨ad168, e168, hx168_0⟩ := Kd.at_string (Kd.R_reads' HO166.out).2.2 a0 p168 q168
        cases e168
        replace p168 := eq_true p168
        replace q168 := eq_true q168
        refine start_ (n := 21) (S := fun w' => w'.cell? (ad168.add (a0).toNat) = some (.string (rdOf ByteArray.empty y164 a0))) (ds := []) #[false, false, false, false, false, false, false, false, false, false, false, false, false, false, false, false, false, false, false, false, false] (by kernel_rfl) rfl rfl (hx168_0) (fun hHeld => ?_); refine with_tabW graverlaw07_PhdrWords.tab4 graverlaw07_PhdrWords.bits4 (fun HT_ HW_ => ?_)
        generalize w7.drew = w23 at HO166 HB hx168_0 hHeld ⊢
        refine pure_ (i := 0) (N := some 12) (v := ?_) (a' := ?_) (bm 21 1) rfl rfl (any_of HT_.out (by kernel_rfl)) (fun _ _ _ h => h) (Or.inl ⟨by rfl, ?_⟩) ?_ ?_
        rotate_left
        ·
         intro w'
         go_simp
         with_reducible rfl
        rotate_left
        ·
         simp only [Act.put, aput]
         rfl
        refine pure_ (i := 1) (N := some 13) (v := ?_) (a' := ?_) (bm 21 3) rfl rfl (any_of HT_.out (by kernel_rfl)) (fun _ _ _ h => h) (Or.inl ⟨by rfl, ?_⟩) ?_ ?_
        rotate_left
        ·
         intro w'
         go_simp
         with_reducible rfl
        rotate_left
        ·
         simp only [Act.put, aput]
         rfl
        refine pure_ (i := 2) (N := some 14) (v := ?_) (a' := ?_) (bm 21 7) rfl rfl (any_of HT_.out (by kernel_rfl)) (fun _ _ _ h => h) (Or.inl ⟨by rfl, ?_⟩) ?_ ?_
        rotate_left
        ·
         intro w'
         go_simp
         with_reducible rfl
        rotate_left
        ·
         simp only [Act.put, aput]
         rfl
        refine pure_ (i := 3) (N := some 15) (v := ?_) (a' := ?_) (bm 21 15) rfl rfl (any_of HT_.out (by kernel_rfl)) (fun _ _ _ h => h) (Or.inl ⟨by rfl, ?_⟩) ?_ ?_
        rotate_left
        ·
         intro w'
         go_simp
         with_reducible rfl
        rotate_left
        ·
         simp only [Act.put, aput]
         rfl
        refine pure_ (i := 5) (N := some 17) (v := ?_) (a' := ?_) (bm 21 47) rfl rfl (any_of HT_.out (by kernel_rfl)) (fun _ _ _ h => h) (Or.inl ⟨by rfl, ?_⟩) ?_ ?_
        rotate_left
        ·
         intro w'
         go_simp
         with_reducible rfl
        rotate_left
        ·
         simp only [Act.put, aput]
         rfl
        refine pure_ (i := 6) (N := some 18) (v := ?_) (a' := ?_) (bm 21 111) rfl rfl (any_of HT_.out (by kernel_rfl)) (fun _ _ _ h => h) (Or.inl ⟨by rfl, ?_⟩) ?_ ?_
        rotate_left
        ·
         intro w'
         go_simp
         with_reducible rfl
        rotate_left
        ·
         simp only [Act.put, aput]
         rfl
        refine pure_ (i := 7) (N := some 19) (v := ?_) (a' := ?_) (bm 21 239) rfl rfl (any_of HT_.out (by kernel_rfl)) (fun _ _ _ h => h) (Or.inl ⟨by rfl, ?_⟩) ?_ ?_
        rotate_left
        ·
         intro w'
         go_simp
         with_reducible rfl
        rotate_left
        ·
         simp only [Act.put, aput]
         rfl
        refine take_ (i := 8) (N := some 20) (v := ?_) (a' := ?_) (bm 21 495) rfl rfl (take_ofW HT_.out HW_.out (by kernel_rfl)) (fun _ _ _ h => h) (Or.inl ⟨by rfl, ?_⟩) hHeld ?_ ?_
        rotate_left
        ·
         intro w' s0
         go_simp
         with_reducible rfl
        rotate_left
        ·
         simp only [Act.put, aput]
         rfl
        refine one_ (i := 4) (N := some 16) (bm 21 511) rfl rfl (one_of HT_.out (by kernel_rfl)) (by decide) (fun K hK => ?_)
        refine goes_ Tryd.func30 (by kernel_rfl) rfl #[.int .u64 a0] (by rfl) rfl rfl (by (try simp only [List.map_toArray, List.map_cons, List.map_nil]); first | done | rfl | (simp only [List.length_drop, List.length_take]; rfl)) ?_
        with_reducible refine (phdr_TypeName.calls a0 t167 _ ?side1 ?side2 A10.out).mono ?_
        (case side1 => exact Laid_phdrn.below HLD_phdrn.out (by repeat (first | (with_reducible first | exact HB.out | apply below_alloc | apply pw_below_drewN | apply below_drew1) | exact HB.out)))
        (case side2 => exact Laid_strconv.below HLD_strconv.out (by repeat (first | (with_reducible first | exact HB.out | apply below_alloc | apply pw_below_drewN | apply below_drew1) | exact HB.out)))
        rintro e w25 ⟨rfl, hb⟩
        have HS0_ := (hb.cell (World.block_lt_of_cell? _ _ (hHeld))).trans (hHeld)
        refine ⟨_, rfl, ?_⟩
        have n0_ := aS (Kd.R_below (by (with_reducible repeat (first | apply Kd.R_alloc | apply Kd.R_drewN | apply Kd.R_drew)); exact HO166.out) hb)
        have n1_ := aS (below_step (by repeat (first | (with_reducible first | exact HB.out | apply below_alloc | apply pw_below_drewN | apply below_drew1) | exact HB.out)) hb)
        clear HO166
        clear HB
        have HO166 := n0_
        have HB := n1_
        clear n0_ n1_
        (try clear hb)
        (try clear hb2)
        (try clear hk)
        (try clear hi)
        refine hK.out _ _ (HS0_) (fun hHeld => ?_)
        clear hK K
        refine norm_ (a' := ?_) ?_ ?_
        rotate_left
        ·
         show Act.put _ (some 16) _ = _
         simp only [Act.put, aput]
         rfl
        refine pure_ (i := 9) (N := some 21) (v := ?_) (a' := ?_) (bm 21 1023) rfl rfl (any_of HT_.out (by kernel_rfl)) (fun _ _ _ h => h) (Or.inl ⟨by rfl, ?_⟩) ?_ ?_
        rotate_left
        ·
         intro w'
         go_simp
         with_reducible rfl
        rotate_left
        ·
         simp only [Act.put, aput]
         rfl
        refine pure_ (i := 10) (N := some 22) (v := ?_) (a' := ?_) (bm 21 2047) rfl rfl (any_of HT_.out (by kernel_rfl)) (fun _ _ _ h => h) (Or.inl ⟨by rfl, ?_⟩) ?_ ?_
        rotate_left
        ·
         intro w'
         go_simp
         with_reducible rfl
        rotate_left
        ·
         simp only [Act.put, aput]
         rfl
        refine pure_ (i := 11) (N := some 23) (v := ?_) (a' := ?_) (bm 21 4095) rfl rfl (any_of HT_.out (by kernel_rfl)) (fun _ _ _ h => h) (Or.inl ⟨by rfl, ?_⟩) ?_ ?_
        rotate_left
        ·
         intro w'
         go_simp
         with_reducible rfl
        rotate_left
        ·
         simp only [Act.put, aput]
         rfl
        refine pure_ (i := 12) (N := some 24) (v := ?_) (a' := ?_) (bm 21 8191) rfl rfl (any_of HT_.out (by kernel_rfl)) (fun _ _ _ h => h) (Or.inl ⟨by rfl, ?_⟩) ?_ ?_
        rotate_left
        ·
         intro w'
         go_simp
         with_reducible rfl
        rotate_left
        ·
         simp only [Act.put, aput]
         rfl
        refine pure_ (i := 13) (N := some 25) (v := ?_) (a' := ?_) (bm 21 16383) rfl rfl (any_of HT_.out (by kernel_rfl)) (fun _ _ _ h => h) (Or.inl ⟨by rfl, ?_⟩) ?_ ?_
        rotate_left
        ·
         intro w'
         go_simp
         with_reducible rfl
        rotate_left
        ·
         simp only [Act.put, aput]
         rfl
        refine pure_ (i := 14) (N := some 26) (v := ?_) (a' := ?_) (bm 21 32767) rfl rfl (any_of HT_.out (by kernel_rfl)) (fun _ _ _ h => h) (Or.inl ⟨by rfl, ?_⟩) ?_ ?_
        rotate_left
        ·
         intro w'
         go_simp
         with_reducible rfl
        rotate_left
        ·
         simp only [Act.put, aput]
         rfl
        refine pure_ (i := 15) (N := some 27) (v := undef) (a' := ?_) (bm 21 65535) rfl rfl (any_of HT_.out (by kernel_rfl)) (fun _ _ _ h => h) (Or.inr ⟨by rfl, rfl⟩) ?_ ?_
        rotate_left
        ·
         simp only [Act.put, aput]
         rfl
        refine pure_ (i := 16) (N := some 28) (v := undef) (a' := ?_) (bm 21 131071) rfl rfl (any_of HT_.out (by kernel_rfl)) (fun _ _ _ h => h) (Or.inr ⟨by rfl, rfl⟩) ?_ ?_
        rotate_left
        ·
         simp only [Act.put, aput]
         rfl
        refine pure_ (i := 17) (N := some 29) (v := undef) (a' := ?_) (bm 21 262143) rfl rfl (any_of HT_.out (by kernel_rfl)) (fun _ _ _ h => h) (Or.inr ⟨by rfl, rfl⟩) ?_ ?_
        rotate_left
        ·
         simp only [Act.put, aput]
         rfl
        refine pure_ (i := 18) (N := some 30) (v := undef) (a' := ?_) (bm 21 524287) rfl rfl (any_of HT_.out (by kernel_rfl)) (fun _ _ _ h => h) (Or.inr ⟨by rfl, rfl⟩) ?_ ?_
        rotate_left
        ·
         simp only [Act.put, aput]
         rfl
        refine pure_ (i := 19) (N := some 31) (v := ?_) (a' := ?_) (bm 21 1048575) rfl rfl (any_of HT_.out (by kernel_rfl)) (fun _ _ _ h => h) (Or.inl ⟨by rfl, ?_⟩) ?_ ?_
        rotate_left
        ·
         intro w'
         go_simp
         with_reducible rfl
        rotate_left
        ·
         simp only [Act.put, aput]
         rfl
        refine pure_ (i := 20) (N := some 32) (v := ?_) (a' := ?_) (bm 21 2097151) rfl rfl (any_of HT_.out (by kernel_rfl)) (fun _ _ _ h => h) (Or.inl ⟨by rfl, ?_⟩) ?_ ?_
        rotate_left
        ·
         intro w'
         go_simp
         with_reducible rfl
        rotate_left
        ·
         simp only [Act.put, aput]
         rfl
        refine done_ (done_of HT_.out (by kernel_rfl)) ?_
        try go_wp2
        go_meet
        case rel => exact ⟨_, (false), (by first | rfl | (simp; done) | (simp [*]; done)), H', ⟨by first | omega | exact Nat.le_refl _⟩, ⟨by repeat (first | (with_reducible first | exact HB.out | apply below_alloc | apply pw_below_drewN | apply below_drew1) | exact HB.out)⟩⟩
      ·
       rw [if_neg c13] at H
       have c13b0 : (t167.toList == (rdOf ByteArray.empty y164 a0).toList) = false := beq_eq_false_iff_ne.mpr c13
       have c13b1 : (t167.toList != (rdOf ByteArray.empty y164 a0).toList) = true := bne_iff_ne.mpr c13
       have H' := aS H
       clear H
       try go_wp2
       have n0_ := aS (Kd.R_drew HO166.out)
       have n1_ := aS (below_drew1 HB.out)
       clear HO166
       clear HB
       have HO166 := n0_
       have HB := n1_
       clear n0_ n1_
       obtain ⟨Ao27, co27, eo27⟩ := Kd.R_slice HO166.out
       (first | subst eo27 | (injection eo27 with f1_ f2_ f3_; have f4_ := f1_.symm; have f5_ := f3_.symm; clear f1_ f2_ f3_; subst f4_; subst f5_))
       have p168 : 0 ≤ (a0 : Int) := of_decide_eq_true (by first | (with_reducible assumption) | assumption)
       have q168 : a0 < (y164.length : Int) := of_decide_eq_true (by first | (with_reducible assumption) | assumption)
       obtain ⟨ad168, e168, hx168_0⟩ := Kd.at_string (Kd.R_reads' HO166.out).2.2 a0 p168 q168
       cases e168
       replace p168 := eq_true p168
       replace q168 := eq_true q168
       refine start_ (n := 21) (S := fun w' => w'.cell? (ad168.add (a0).toNat) = some (.string (rdOf ByteArray.empty y164 a0))) (ds := []) #[false, false, false, false, false, false, false, false, false, false, false, false, false, false, false, false, false, false, false, false, false] (by kernel_rfl) rfl rfl (hx168_0) (fun hHeld => ?_); refine with_tabW graverlaw07_PhdrWords.tab4 graverlaw07_PhdrWords.bits4 (fun HT_ HW_ => ?_)
       generalize w7.drew = w26 at HO166 HB hx168_0 hHeld ⊢
       refine pure_ (i := 0) (N := some 12) (v := ?_) (a' := ?_) (bm 21 1) rfl rfl (any_of HT_.out (by kernel_rfl)) (fun _ _ _ h => h) (Or.inl ⟨by rfl, ?_⟩) ?_ ?_
       rotate_left
       ·
        intro w'
        go_simp
        with_reducible rfl
       rotate_left
       ·
        simp only [Act.put, aput]
        rfl
       refine pure_ (i := 1) (N := some 13) (v := ?_) (a' := ?_) (bm 21 3) rfl rfl (any_of HT_.out (by kernel_rfl)) (fun _ _ _ h => h) (Or.inl ⟨by rfl, ?_⟩) ?_ ?_
       rotate_left
       ·
        intro w'
        go_simp
        with_reducible rfl
       rotate_left
       ·
        simp only [Act.put, aput]
        rfl
       refine pure_ (i := 2) (N := some 14) (v := ?_) (a' := ?_) (bm 21 7) rfl rfl (any_of HT_.out (by kernel_rfl)) (fun _ _ _ h => h) (Or.inl ⟨by rfl, ?_⟩) ?_ ?_
       rotate_left
       ·
        intro w'
        go_simp
        with_reducible rfl
       rotate_left
       ·
        simp only [Act.put, aput]
        rfl
       refine pure_ (i := 3) (N := some 15) (v := ?_) (a' := ?_) (bm 21 15) rfl rfl (any_of HT_.out (by kernel_rfl)) (fun _ _ _ h => h) (Or.inl ⟨by rfl, ?_⟩) ?_ ?_
       rotate_left
       ·
        intro w'
        go_simp
        with_reducible rfl
       rotate_left
       ·
        simp only [Act.put, aput]
        rfl
       refine pure_ (i := 5) (N := some 17) (v := ?_) (a' := ?_) (bm 21 47) rfl rfl (any_of HT_.out (by kernel_rfl)) (fun _ _ _ h => h) (Or.inl ⟨by rfl, ?_⟩) ?_ ?_
       rotate_left
       ·
        intro w'
        go_simp
        with_reducible rfl
       rotate_left
       ·
        simp only [Act.put, aput]
        rfl
       refine pure_ (i := 6) (N := some 18) (v := ?_) (a' := ?_) (bm 21 111) rfl rfl (any_of HT_.out (by kernel_rfl)) (fun _ _ _ h => h) (Or.inl ⟨by rfl, ?_⟩) ?_ ?_
       rotate_left
       ·
        intro w'
        go_simp
        with_reducible rfl
       rotate_left
       ·
        simp only [Act.put, aput]
        rfl
       refine pure_ (i := 7) (N := some 19) (v := ?_) (a' := ?_) (bm 21 239) rfl rfl (any_of HT_.out (by kernel_rfl)) (fun _ _ _ h => h) (Or.inl ⟨by rfl, ?_⟩) ?_ ?_
       rotate_left
       ·
        intro w'
        go_simp
        with_reducible rfl
       rotate_left
       ·
        simp only [Act.put, aput]
        rfl
       refine take_ (i := 8) (N := some 20) (v := ?_) (a' := ?_) (bm 21 495) rfl rfl (take_ofW HT_.out HW_.out (by kernel_rfl)) (fun _ _ _ h => h) (Or.inl ⟨by rfl, ?_⟩) hHeld ?_ ?_
       rotate_left
       ·
        intro w' s0
        go_simp
        with_reducible rfl
       rotate_left
       ·
        simp only [Act.put, aput]
        rfl
       refine one_ (i := 4) (N := some 16) (bm 21 511) rfl rfl (one_of HT_.out (by kernel_rfl)) (by decide) (fun K hK => ?_)
       refine goes_ Tryd.func30 (by kernel_rfl) rfl #[.int .u64 a0] (by rfl) rfl rfl (by (try simp only [List.map_toArray, List.map_cons, List.map_nil]); first | done | rfl | (simp only [List.length_drop, List.length_take]; rfl)) ?_
       with_reducible refine (phdr_TypeName.calls a0 t167 _ ?side1 ?side2 A10.out).mono ?_
       (case side1 => exact Laid_phdrn.below HLD_phdrn.out (by repeat (first | (with_reducible first | exact HB.out | apply below_alloc | apply pw_below_drewN | apply below_drew1) | exact HB.out)))
       (case side2 => exact Laid_strconv.below HLD_strconv.out (by repeat (first | (with_reducible first | exact HB.out | apply below_alloc | apply pw_below_drewN | apply below_drew1) | exact HB.out)))
       rintro e w28 ⟨rfl, hb⟩
       have HS0_ := (hb.cell (World.block_lt_of_cell? _ _ (hHeld))).trans (hHeld)
       refine ⟨_, rfl, ?_⟩
       have n0_ := aS (Kd.R_below (by (with_reducible repeat (first | apply Kd.R_alloc | apply Kd.R_drewN | apply Kd.R_drew)); exact HO166.out) hb)
       have n1_ := aS (below_step (by repeat (first | (with_reducible first | exact HB.out | apply below_alloc | apply pw_below_drewN | apply below_drew1) | exact HB.out)) hb)
       clear HO166
       clear HB
       have HO166 := n0_
       have HB := n1_
       clear n0_ n1_
       (try clear hb)
       (try clear hb2)
       (try clear hk)
       (try clear hi)
       refine hK.out _ _ (HS0_) (fun hHeld => ?_)
       clear hK K
       refine norm_ (a' := ?_) ?_ ?_
       rotate_left
       ·
        show Act.put _ (some 16) _ = _
        simp only [Act.put, aput]
        rfl
       refine pure_ (i := 9) (N := some 21) (v := ?_) (a' := ?_) (bm 21 1023) rfl rfl (any_of HT_.out (by kernel_rfl)) (fun _ _ _ h => h) (Or.inl ⟨by rfl, ?_⟩) ?_ ?_
       rotate_left
       ·
        intro w'
        go_simp
        with_reducible rfl
       rotate_left
       ·
        simp only [Act.put, aput]
        rfl
       refine pure_ (i := 10) (N := some 22) (v := ?_) (a' := ?_) (bm 21 2047) rfl rfl (any_of HT_.out (by kernel_rfl)) (fun _ _ _ h => h) (Or.inl ⟨by rfl, ?_⟩) ?_ ?_
       rotate_left
       ·
        intro w'
        go_simp
        with_reducible rfl
       rotate_left
       ·
        simp only [Act.put, aput]
        rfl
       refine pure_ (i := 11) (N := some 23) (v := ?_) (a' := ?_) (bm 21 4095) rfl rfl (any_of HT_.out (by kernel_rfl)) (fun _ _ _ h => h) (Or.inl ⟨by rfl, ?_⟩) ?_ ?_
       rotate_left
       ·
        intro w'
        go_simp
        with_reducible rfl
       rotate_left
       ·
        simp only [Act.put, aput]
        rfl
       refine pure_ (i := 12) (N := some 24) (v := undef) (a' := ?_) (bm 21 8191) rfl rfl (any_of HT_.out (by kernel_rfl)) (fun _ _ _ h => h) (Or.inr ⟨by rfl, rfl⟩) ?_ ?_
       rotate_left
       ·
        simp only [Act.put, aput]
        rfl
       refine pure_ (i := 13) (N := some 25) (v := undef) (a' := ?_) (bm 21 16383) rfl rfl (any_of HT_.out (by kernel_rfl)) (fun _ _ _ h => h) (Or.inr ⟨by rfl, rfl⟩) ?_ ?_
       rotate_left
       ·
        simp only [Act.put, aput]
        rfl
       refine pure_ (i := 14) (N := some 26) (v := undef) (a' := ?_) (bm 21 32767) rfl rfl (any_of HT_.out (by kernel_rfl)) (fun _ _ _ h => h) (Or.inr ⟨by rfl, rfl⟩) ?_ ?_
       rotate_left
       ·
        simp only [Act.put, aput]
        rfl
       refine pure_ (i := 15) (N := some 27) (v := undef) (a' := ?_) (bm 21 65535) rfl rfl (any_of HT_.out (by kernel_rfl)) (fun _ _ _ h => h) (Or.inr ⟨by rfl, rfl⟩) ?_ ?_
       rotate_left
       ·
        simp only [Act.put, aput]
        rfl
       refine pure_ (i := 16) (N := some 28) (v := undef) (a' := ?_) (bm 21 131071) rfl rfl (any_of HT_.out (by kernel_rfl)) (fun _ _ _ h => h) (Or.inr ⟨by rfl, rfl⟩) ?_ ?_
       rotate_left
       ·
        simp only [Act.put, aput]
        rfl
       refine pure_ (i := 17) (N := some 29) (v := undef) (a' := ?_) (bm 21 262143) rfl rfl (any_of HT_.out (by kernel_rfl)) (fun _ _ _ h => h) (Or.inr ⟨by rfl, rfl⟩) ?_ ?_
       rotate_left
       ·
        simp only [Act.put, aput]
        rfl
       refine pure_ (i := 18) (N := some 30) (v := undef) (a' := ?_) (bm 21 524287) rfl rfl (any_of HT_.out (by kernel_rfl)) (fun _ _ _ h => h) (Or.inr ⟨by rfl, rfl⟩) ?_ ?_
       rotate_left
       ·
        simp only [Act.put, aput]
        rfl
       refine pure_ (i := 19) (N := some 31) (v := undef) (a' := ?_) (bm 21 1048575) rfl rfl (any_of HT_.out (by kernel_rfl)) (fun _ _ _ h => h) (Or.inr ⟨by rfl, rfl⟩) ?_ ?_
       rotate_left
       ·
        simp only [Act.put, aput]
        rfl
       refine pure_ (i := 20) (N := some 32) (v := ?_) (a' := ?_) (bm 21 2097151) rfl rfl (any_of HT_.out (by kernel_rfl)) (fun _ _ _ h => h) (Or.inl ⟨by rfl, ?_⟩) ?_ ?_
       rotate_left
       ·
        intro w'
        go_simp
        with_reducible rfl
       rotate_left
       ·
        simp only [Act.put, aput]
        rfl
       refine done_ (done_of HT_.out (by kernel_rfl)) ?_
       try go_wp2
       go_meet
       case rel => exact ⟨_, (true), (by first | rfl | (simp; done) | (simp [*]; done)), H', ⟨by first | omega | exact Nat.le_refl _⟩, ⟨by repeat (first | (with_reducible first | exact HB.out | apply below_alloc | apply pw_below_drewN | apply below_drew1) | exact HB.out)⟩⟩
     ·
      rw [if_neg c12] at H
      exact absurd H (by simp)
    ·
     rw [if_neg c11] at H
     exact absurd H (by simp)
   ·
    rw [if_neg c9] at H
    have c9b0 : decide (a0 < 8) = false := decide_eq_false c9
    clear c9
    (first | rw [c9b0] | (simp only [i64_w, i32_w]; rw [c9b0]) | skip)
    by_cases c29 : a0 ≥ 8
    ·
     rw [if_pos c29] at H
     have c29b0 : decide (8 ≤ a0) = true := decide_eq_true c29
     clear c29
     replace H := Option.bind_eq_some_iff.mp H
     obtain ⟨t170, A300, H⟩ := H
     replace H : (if 0 ≤ 2 then (if 2 ≤ (t170.size : Int) then (graverlaw07_PhdrWords.j0 k a0 a1 ((t170.extract 0 2).toList != ([48, 120] : List UInt8))) else (none)) else (none)) = some r := H
     have A30 := aS A300
     clear A300
     by_cases c31 : 0 ≤ 2
     ·
      rw [if_pos c31] at H
      have c31b0 := eq_true c31
      have c31b1 : decide (0 ≤ 2) = true := decide_eq_true c31
      clear c31
      by_cases c32 : 2 ≤ (t170.size : Int)
      ·
       rw [if_pos c32] at H
       have c32b0 := eq_true c32
       have c32b1 : decide (2 ≤ (t170.size : Int)) = true := decide_eq_true c32
       clear c32
       obtain ⟨sc33, hsc33⟩ : ∃ s_ : ByteArray, (t170.extract 0 2) = s_ := ⟨_, rfl⟩
       replace H : (graverlaw07_PhdrWords.j0 k a0 a1 (sc33.toList != ([48, 120] : List UInt8))) = some r := by first | (rw [hsc33] at H; exact H) | (simp only [hsc33] at H ⊢; exact H) | exact H
       (try (have hsc33n := hsc33; simp only [Int.toNat_natCast] at hsc33n))
       have H' := aS H
       clear H
       try go_wp2
       have n0_ := aS (Kd.R_drew HO166.out)
       have n1_ := aS (below_drew1 HB.out)
       clear HO166
       clear HB
       have HO166 := n0_
       have HB := n1_
       clear n0_ n1_
       refine start_ (n := 21) (S := fun w' => True) (ds := []) #[false, false, false, false, false, false, false, false, false, false, false, false, false, false, false, false, false, false, false, false, false] (by kernel_rfl) rfl rfl trivial (fun hHeld => ?_); refine with_tabW graverlaw07_PhdrWords.tab4 graverlaw07_PhdrWords.bits4 (fun HT_ HW_ => ?_)
       generalize w7.drew = w34 at HO166 HB hHeld ⊢
       refine pure_ (i := 0) (N := some 12) (v := ?_) (a' := ?_) (bm 21 1) rfl rfl (any_of HT_.out (by kernel_rfl)) (fun _ _ _ h => h) (Or.inl ⟨by rfl, ?_⟩) ?_ ?_
       rotate_left
       ·
        intro w'
        go_simp
        with_reducible rfl
       rotate_left
       ·
        simp only [Act.put, aput]
        rfl
       refine pure_ (i := 1) (N := some 13) (v := ?_) (a' := ?_) (bm 21 3) rfl rfl (any_of HT_.out (by kernel_rfl)) (fun _ _ _ h => h) (Or.inl ⟨by rfl, ?_⟩) ?_ ?_
       rotate_left
       ·
        intro w'
        go_simp
        with_reducible rfl
       rotate_left
       ·
        simp only [Act.put, aput]
        rfl
       refine pure_ (i := 2) (N := some 14) (v := ?_) (a' := ?_) (bm 21 7) rfl rfl (any_of HT_.out (by kernel_rfl)) (fun _ _ _ h => h) (Or.inl ⟨by rfl, ?_⟩) ?_ ?_
       rotate_left
       ·
        intro w'
        go_simp
        with_reducible rfl
       rotate_left
       ·
        simp only [Act.put, aput]
        rfl
       refine pure_ (i := 3) (N := some 15) (v := undef) (a' := ?_) (bm 21 15) rfl rfl (any_of HT_.out (by kernel_rfl)) (fun _ _ _ h => h) (Or.inr ⟨by rfl, rfl⟩) ?_ ?_
       rotate_left
       ·
        simp only [Act.put, aput]
        rfl
       refine pure_ (i := 4) (N := some 16) (v := undef) (a' := ?_) (bm 21 31) rfl rfl (any_of HT_.out (by kernel_rfl)) (fun _ _ _ h => h) (Or.inr ⟨by rfl, rfl⟩) ?_ ?_
       rotate_left
       ·
        simp only [Act.put, aput]
        rfl
       refine pure_ (i := 5) (N := some 17) (v := undef) (a' := ?_) (bm 21 63) rfl rfl (any_of HT_.out (by kernel_rfl)) (fun _ _ _ h => h) (Or.inr ⟨by rfl, rfl⟩) ?_ ?_
       rotate_left
       ·
        simp only [Act.put, aput]
        rfl
       refine pure_ (i := 6) (N := some 18) (v := undef) (a' := ?_) (bm 21 127) rfl rfl (any_of HT_.out (by kernel_rfl)) (fun _ _ _ h => h) (Or.inr ⟨by rfl, rfl⟩) ?_ ?_
       rotate_left
       ·
        simp only [Act.put, aput]
        rfl
       refine pure_ (i := 7) (N := some 19) (v := undef) (a' := ?_) (bm 21 255) rfl rfl (any_of HT_.out (by kernel_rfl)) (fun _ _ _ h => h) (Or.inr ⟨by rfl, rfl⟩) ?_ ?_
       rotate_left
       ·
        simp only [Act.put, aput]
        rfl
       refine pure_ (i := 8) (N := some 20) (v := undef) (a' := ?_) (bm 21 511) rfl rfl (any_of HT_.out (by kernel_rfl)) (fun _ _ _ h => h) (Or.inr ⟨by rfl, rfl⟩) ?_ ?_
       rotate_left
       ·
        simp only [Act.put, aput]
        rfl
       refine pure_ (i := 9) (N := some 21) (v := undef) (a' := ?_) (bm 21 1023) rfl rfl (any_of HT_.out (by kernel_rfl)) (fun _ _ _ h => h) (Or.inr ⟨by rfl, rfl⟩) ?_ ?_
       rotate_left
       ·
        simp only [Act.put, aput]
        rfl
       refine pure_ (i := 10) (N := some 22) (v := ?_) (a' := ?_) (bm 21 2047) rfl rfl (any_of HT_.out (by kernel_rfl)) (fun _ _ _ h => h) (Or.inl ⟨by rfl, ?_⟩) ?_ ?_
       rotate_left
       ·
        intro w'
        go_simp
        with_reducible rfl
       rotate_left
       ·
        simp only [Act.put, aput]
        rfl
       refine pure_ (i := 11) (N := some 23) (v := ?_) (a' := ?_) (bm 21 4095) rfl rfl (any_of HT_.out (by kernel_rfl)) (fun _ _ _ h => h) (Or.inl ⟨by rfl, ?_⟩) ?_ ?_
       rotate_left
       ·
        intro w'
        go_simp
        with_reducible rfl
       rotate_left
       ·
        simp only [Act.put, aput]
        rfl
       refine pure_ (i := 12) (N := some 24) (v := ?_) (a' := ?_) (bm 21 8191) rfl rfl (any_of HT_.out (by kernel_rfl)) (fun _ _ _ h => h) (Or.inl ⟨by rfl, ?_⟩) ?_ ?_
       rotate_left
       ·
        intro w'
        go_simp
        with_reducible rfl
       rotate_left
       ·
        simp only [Act.put, aput]
        rfl
       refine pure_ (i := 13) (N := some 25) (v := ?_) (a' := ?_) (bm 21 16383) rfl rfl (any_of HT_.out (by kernel_rfl)) (fun _ _ _ h => h) (Or.inl ⟨by rfl, ?_⟩) ?_ ?_
       rotate_left
       ·
        intro w'
        go_simp
        with_reducible rfl
       rotate_left
       ·
        simp only [Act.put, aput]
        rfl
       refine pure_ (i := 14) (N := some 26) (v := ?_) (a' := ?_) (bm 21 32767) rfl rfl (any_of HT_.out (by kernel_rfl)) (fun _ _ _ h => h) (Or.inl ⟨by rfl, ?_⟩) ?_ ?_
       rotate_left
       ·
        intro w'
        go_simp
        with_reducible rfl
       rotate_left
       ·
        simp only [Act.put, aput]
        rfl
       refine pure_ (i := 15) (N := some 27) (v := ?_) (a' := ?_) (bm 21 65535) rfl rfl (any_of HT_.out (by kernel_rfl)) (fun _ _ _ h => h) (Or.inl ⟨by rfl, ?_⟩) ?_ ?_
       rotate_left
       ·
        intro w'
        go_simp
        with_reducible rfl
       rotate_left
       ·
        simp only [Act.put, aput]
        rfl
       refine one_ (i := 16) (N := some 28) (bm 21 131071) rfl rfl (one_of HT_.out (by kernel_rfl)) (by decide) (fun K hK => ?_)
       refine goes_ Tryd.func30 (by kernel_rfl) rfl #[.int .u64 a0] (by rfl) rfl rfl (by (try simp only [List.map_toArray, List.map_cons, List.map_nil]); first | done | rfl | (simp only [List.length_drop, List.length_take]; rfl)) ?_
       with_reducible refine (phdr_TypeName.calls a0 t170 _ ?side1 ?side2 A30.out).mono ?_
       (case side1 => exact Laid_phdrn.below HLD_phdrn.out (by repeat (first | (with_reducible first | exact HB.out | apply below_alloc | apply pw_below_drewN | apply below_drew1) | exact HB.out)))
       (case side2 => exact Laid_strconv.below HLD_strconv.out (by repeat (first | (with_reducible first | exact HB.out | apply below_alloc | apply pw_below_drewN | apply below_drew1) | exact HB.out)))
       rintro e w35 ⟨rfl, hb⟩
       refine ⟨_, rfl, ?_⟩
       have n0_ := aS (Kd.R_below (by (with_reducible repeat (first | apply Kd.R_alloc | apply Kd.R_drewN | apply Kd.R_drew)); exact HO166.out) hb)
       have n1_ := aS (below_step (by repeat (first | (with_reducible first | exact HB.out | apply below_alloc | apply pw_below_drewN | apply below_drew1) | exact HB.out)) hb)
       clear HO166
       clear HB
       have HO166 := n0_
       have HB := n1_
       clear n0_ n1_
       (try clear hb)
       (try clear hb2)
       (try clear hk)
       (try clear hi)
       refine hK.out _ _ trivial (fun hHeld => ?_)
       clear hK K
       refine norm_ (a' := ?_) ?_ ?_
       rotate_left
       ·
        show Act.put _ (some 28) _ = _
        simp only [Act.put, aput]
        rfl
       refine pure_ (i := 17) (N := some 29) (v := ?_) (a' := ?_) (bm 21 262143) rfl rfl (any_of HT_.out (by kernel_rfl)) (fun _ _ _ h => h) (Or.inl ⟨by rfl, ?_⟩) ?_ ?_
       rotate_left
       ·
        intro w'
        go_simp
        with_reducible rfl
       rotate_left
       ·
        simp only [Act.put, aput]
        rfl
       refine pure_ (i := 18) (N := some 30) (v := ?_) (a' := ?_) (bm 21 524287) rfl rfl (any_of HT_.out (by kernel_rfl)) (fun _ _ _ h => h) (Or.inl ⟨by rfl, ?_⟩) ?_ ?_
       rotate_left
       ·
        intro w'
        go_simp
        with_reducible rfl
       rotate_left
       ·
        simp only [Act.put, aput]
        rfl
       refine pure_ (i := 19) (N := some 31) (v := ?_) (a' := ?_) (bm 21 1048575) rfl rfl (any_of HT_.out (by kernel_rfl)) (fun _ _ _ h => h) (Or.inl ⟨by rfl, ?_⟩) ?_ ?_
       rotate_left
       ·
        intro w'
        go_simp
        with_reducible rfl
       rotate_left
       ·
        simp only [Act.put, aput]
        rfl
       refine pure_ (i := 20) (N := some 32) (v := ?_) (a' := ?_) (bm 21 2097151) rfl rfl (any_of HT_.out (by kernel_rfl)) (fun _ _ _ h => h) (Or.inl ⟨by rfl, ?_⟩) ?_ ?_
       rotate_left
       ·
        intro w'
        go_simp
        with_reducible rfl
       rotate_left
       ·
        simp only [Act.put, aput]
        rfl
       refine done_ (done_of HT_.out (by kernel_rfl)) ?_
       try go_wp2
       go_meet
       case rel => exact ⟨_, ((sc33.toList != ([48, 120] : List UInt8))), (by first | rfl | (simp; done) | (simp [*]; done)), H', ⟨by first | omega | exact Nat.le_refl _⟩, ⟨by repeat (first | (with_reducible first | exact HB.out | apply below_alloc | apply pw_below_drewN | apply below_drew1) | exact HB.out)⟩⟩
      ·
       rw [if_neg c32] at H
       exact absurd H (by simp)
     ·
      rw [if_neg c31] at H
      exact absurd H (by simp)
    ·
     rw [if_neg c29] at H
     have c29b0 : decide (8 ≤ a0) = false := decide_eq_false c29
     clear c29
     have H' := aS H
     clear H
     try go_wp2
     have n0_ := aS (Kd.R_drew HO166.out)
     have n1_ := aS (below_drew1 HB.out)
     clear HO166
     clear HB
     have HO166 := n0_
     have HB := n1_
     clear n0_ n1_
     refine start_ (n := 21) (S := fun w' => True) (ds := []) #[false, false, false, false, false, false, false, false, false, false, false, false, false, false, false, false, false, false, false, false, false] (by kernel_rfl) rfl rfl trivial (fun hHeld => ?_); refine with_tabW graverlaw07_PhdrWords.tab4 graverlaw07_PhdrWords.bits4 (fun HT_ HW_ => ?_)
     generalize w7.drew = w36 at HO166 HB hHeld ⊢
     refine pure_ (i := 0) (N := some 12) (v := ?_) (a' := ?_) (bm 21 1) rfl rfl (any_of HT_.out (by kernel_rfl)) (fun _ _ _ h => h) (Or.inl ⟨by rfl, ?_⟩) ?_ ?_
     rotate_left
     ·
      intro w'
      go_simp
      with_reducible rfl
     rotate_left
     ·
      simp only [Act.put, aput]
      rfl
     refine pure_ (i := 1) (N := some 13) (v := ?_) (a' := ?_) (bm 21 3) rfl rfl (any_of HT_.out (by kernel_rfl)) (fun _ _ _ h => h) (Or.inl ⟨by rfl, ?_⟩) ?_ ?_
     rotate_left
     ·
      intro w'
      go_simp
      with_reducible rfl
     rotate_left
     ·
      simp only [Act.put, aput]
      rfl
     refine pure_ (i := 2) (N := some 14) (v := ?_) (a' := ?_) (bm 21 7) rfl rfl (any_of HT_.out (by kernel_rfl)) (fun _ _ _ h => h) (Or.inl ⟨by rfl, ?_⟩) ?_ ?_
     rotate_left
     ·
      intro w'
      go_simp
      with_reducible rfl
     rotate_left
     ·
      simp only [Act.put, aput]
      rfl
     refine pure_ (i := 3) (N := some 15) (v := undef) (a' := ?_) (bm 21 15) rfl rfl (any_of HT_.out (by kernel_rfl)) (fun _ _ _ h => h) (Or.inr ⟨by rfl, rfl⟩) ?_ ?_
     rotate_left
     ·
      simp only [Act.put, aput]
      rfl
     refine pure_ (i := 4) (N := some 16) (v := undef) (a' := ?_) (bm 21 31) rfl rfl (any_of HT_.out (by kernel_rfl)) (fun _ _ _ h => h) (Or.inr ⟨by rfl, rfl⟩) ?_ ?_
     rotate_left
     ·
      simp only [Act.put, aput]
      rfl
     refine pure_ (i := 5) (N := some 17) (v := undef) (a' := ?_) (bm 21 63) rfl rfl (any_of HT_.out (by kernel_rfl)) (fun _ _ _ h => h) (Or.inr ⟨by rfl, rfl⟩) ?_ ?_
     rotate_left
     ·
      simp only [Act.put, aput]
      rfl
     refine pure_ (i := 6) (N := some 18) (v := undef) (a' := ?_) (bm 21 127) rfl rfl (any_of HT_.out (by kernel_rfl)) (fun _ _ _ h => h) (Or.inr ⟨by rfl, rfl⟩) ?_ ?_
     rotate_left
     ·
      simp only [Act.put, aput]
      rfl
     refine pure_ (i := 7) (N := some 19) (v := undef) (a' := ?_) (bm 21 255) rfl rfl (any_of HT_.out (by kernel_rfl)) (fun _ _ _ h => h) (Or.inr ⟨by rfl, rfl⟩) ?_ ?_
     rotate_left
     ·
      simp only [Act.put, aput]
      rfl
     refine pure_ (i := 8) (N := some 20) (v := undef) (a' := ?_) (bm 21 511) rfl rfl (any_of HT_.out (by kernel_rfl)) (fun _ _ _ h => h) (Or.inr ⟨by rfl, rfl⟩) ?_ ?_
     rotate_left
     ·
      simp only [Act.put, aput]
      rfl
     refine pure_ (i := 9) (N := some 21) (v := undef) (a' := ?_) (bm 21 1023) rfl rfl (any_of HT_.out (by kernel_rfl)) (fun _ _ _ h => h) (Or.inr ⟨by rfl, rfl⟩) ?_ ?_
     rotate_left
     ·
      simp only [Act.put, aput]
      rfl
     refine pure_ (i := 10) (N := some 22) (v := ?_) (a' := ?_) (bm 21 2047) rfl rfl (any_of HT_.out (by kernel_rfl)) (fun _ _ _ h => h) (Or.inl ⟨by rfl, ?_⟩) ?_ ?_
     rotate_left
     ·
      intro w'
      go_simp
      with_reducible rfl
     rotate_left
     ·
      simp only [Act.put, aput]
      rfl
     refine pure_ (i := 11) (N := some 23) (v := ?_) (a' := ?_) (bm 21 4095) rfl rfl (any_of HT_.out (by kernel_rfl)) (fun _ _ _ h => h) (Or.inl ⟨by rfl, ?_⟩) ?_ ?_
     rotate_left
     ·
      intro w'
      go_simp
      with_reducible rfl
     rotate_left
     ·
      simp only [Act.put, aput]
      rfl
     refine pure_ (i := 12) (N := some 24) (v := ?_) (a' := ?_) (bm 21 8191) rfl rfl (any_of HT_.out (by kernel_rfl)) (fun _ _ _ h => h) (Or.inl ⟨by rfl, ?_⟩) ?_ ?_
     rotate_left
     ·
      intro w'
      go_simp
      with_reducible rfl
     rotate_left
     ·
      simp only [Act.put, aput]
      rfl
     refine pure_ (i := 13) (N := some 25) (v := ?_) (a' := ?_) (bm 21 16383) rfl rfl (any_of HT_.out (by kernel_rfl)) (fun _ _ _ h => h) (Or.inl ⟨by rfl, ?_⟩) ?_ ?_
     rotate_left
     ·
      intro w'
      go_simp
      with_reducible rfl
     rotate_left
     ·
      simp only [Act.put, aput]
      rfl
     refine pure_ (i := 14) (N := some 26) (v := ?_) (a' := ?_) (bm 21 32767) rfl rfl (any_of HT_.out (by kernel_rfl)) (fun _ _ _ h => h) (Or.inl ⟨by rfl, ?_⟩) ?_ ?_
     rotate_left
     ·
      intro w'
      go_simp
      with_reducible rfl
     rotate_left
     ·
      simp only [Act.put, aput]
      rfl
     refine pure_ (i := 15) (N := some 27) (v := undef) (a' := ?_) (bm 21 65535) rfl rfl (any_of HT_.out (by kernel_rfl)) (fun _ _ _ h => h) (Or.inr ⟨by rfl, rfl⟩) ?_ ?_
     rotate_left
     ·
      simp only [Act.put, aput]
      rfl
     refine pure_ (i := 16) (N := some 28) (v := undef) (a' := ?_) (bm 21 131071) rfl rfl (any_of HT_.out (by kernel_rfl)) (fun _ _ _ h => h) (Or.inr ⟨by rfl, rfl⟩) ?_ ?_
     rotate_left
     ·
      simp only [Act.put, aput]
      rfl
     refine pure_ (i := 17) (N := some 29) (v := undef) (a' := ?_) (bm 21 262143) rfl rfl (any_of HT_.out (by kernel_rfl)) (fun _ _ _ h => h) (Or.inr ⟨by rfl, rfl⟩) ?_ ?_
     rotate_left
     ·
      simp only [Act.put, aput]
      rfl
     refine pure_ (i := 18) (N := some 30) (v := undef) (a' := ?_) (bm 21 524287) rfl rfl (any_of HT_.out (by kernel_rfl)) (fun _ _ _ h => h) (Or.inr ⟨by rfl, rfl⟩) ?_ ?_
     rotate_left
     ·
      simp only [Act.put, aput]
      rfl
     refine pure_ (i := 19) (N := some 31) (v := ?_) (a' := ?_) (bm 21 1048575) rfl rfl (any_of HT_.out (by kernel_rfl)) (fun _ _ _ h => h) (Or.inl ⟨by rfl, ?_⟩) ?_ ?_
     rotate_left
     ·
      intro w'
      go_simp
      with_reducible rfl
     rotate_left
     ·
      simp only [Act.put, aput]
      rfl
     refine pure_ (i := 20) (N := some 32) (v := ?_) (a' := ?_) (bm 21 2097151) rfl rfl (any_of HT_.out (by kernel_rfl)) (fun _ _ _ h => h) (Or.inl ⟨by rfl, ?_⟩) ?_ ?_
     rotate_left
     ·
      intro w'
      go_simp
      with_reducible rfl
     rotate_left
     ·
      simp only [Act.put, aput]
      rfl
     refine done_ (done_of HT_.out (by kernel_rfl)) ?_
     try go_wp2
     go_meet
     case rel => exact ⟨_, (false), (by first | rfl | (simp; done) | (simp [*]; done)), H', ⟨by first | omega | exact Nat.le_refl _⟩, ⟨by repeat (first | (with_reducible first | exact HB.out | apply below_alloc | apply pw_below_drewN | apply below_drew1) | exact HB.out)⟩⟩
  case rest =>
   clear HC5
   try clear c1
   try clear p1
   try clear q1
   try clear hx1
   try clear c2
   try clear p2
   try clear c3
   try clear c9
   try clear c9b0
   try clear c11
   try clear c12
   try clear c13
   try clear c13b0
   try clear c13b1
   try clear p16
   try clear q16
   try clear hx16
   try clear c29
   try clear c29b0
   try clear c30
   try clear c31
   try clear c31b0
   try clear c31b1
   try clear c32
   try clear c32b0
   try clear c32b1
   try clear c33
   try clear hx168_0
   try clear p168
   try clear q168
   obtain ⟨kq, x32_4, rfl, HA, HJ4, HB⟩ := hcut
   cases kq with
   | zero => exact absurd HA.out (by simp [graverlaw07_PhdrWords.j0])
   | succ kj4 =>
       as_aux_lemma =>
         have H := HA.out
         clear HA
         simp only [graverlaw07_PhdrWords.j0] at H
         by_cases c37 : x32_4 = true
         · subst c37
           have H1 : (some false) = some r := by rw [if_pos rfl] at H; exact H
           clear H
           have H := H1
           clear H1
           exact absurd ((Option.some.inj H).trans HRT.out) (by decide)
         · replace c37 := Bool.eq_false_iff.mpr c37
           subst c37
           have H1 : (graverlaw07_PhdrWords.l0 kj4 a0 a1 (([45, 45, 45] : List Int)) 0) = some r := by rw [if_neg (show ¬ (false = true) by decide)] at H; exact H
           clear H
           have H := H1
           clear H1
           obtain ⟨y171, hy171⟩ : ∃ y_ : List Int, y_ = (([45, 45, 45] : List Int)) := ⟨_, rfl⟩
           replace H : (graverlaw07_PhdrWords.l0 kj4 a0 a1 y171 0) = some r := by first | (rw [hy171]; with_reducible exact H) | (have H2_ := (Option.bind_some _ _).symm.trans H; rw [hy171]; with_reducible exact H2_) | (have H2_ := (Option.bind_some _ _).symm.trans H; with_reducible exact H2_) | with_reducible exact H | (rw [hy171]; exact H) | exact H
           have Ny171 := aS hy171
           clear hy171
           have H' := aS H
           clear H
           go_wp2_with (first | ((with_reducible refine gate_dst (N := 33) rfl ?_); (try (refine gate_guard (by rfl) ?_; dsimp only)); refine Mk.R_lit2 _ 5 62 ?hg ?hg2 (N := 33) ?hd (xs := ([45, 45, 45] : List Int)) (ok := fun _ => True) ?hr ?ho2 (fun _ => rfl) Tryd.underlying62 Tryd.underlying5 trivial (Below.refl _ _) (Nat.le_refl _) (by simp) ?_; (case hd => rfl); (case hg => rfl); (case hg2 => rfl); (case ho2 => rfl); (case hr => (go_simp; try rfl)); intro v172 w38 ho39 hb hg_ hnew_; clear hg_ hnew_; (first | rw [← Ny171.out] at ho39 | (simp only [Int.reduceToNat] at ho39; rw [← Ny171.out] at ho39)); have n0_ := aS (Mk.R_lower ho39 (below_size (by repeat (first | (with_reducible first | exact HB.out | apply below_alloc | apply pw_below_drewN | apply below_drew1) | exact HB.out)))); have n1_ := aS (below_step (by repeat (first | (with_reducible first | exact HB.out | apply below_alloc | apply pw_below_drewN | apply below_drew1) | exact HB.out)) hb); clear HB; have HO173 := n0_; have HB := n1_; clear n0_ n1_; clear hb ho39))
           go_loopg [7] kj4 (fun kq v7 w' => ∃ (x6_2 : List Int) (x7_2 : Int), v7 = .int .i64 x7_2 ∧ Aside0 (graverlaw07_PhdrWords.l0 kq a0 a1 x6_2 x7_2 = some r) ∧ Aside0 (kq ≤ kj4) ∧ Aside0 (Mk.R 5 w' w.heap.size (fun _ => True) v172 x6_2) ∧ Aside0 (Below w.heap.size w w'))
           case atStart => exact ⟨(y171), (0), (by first | rfl | (simp; done) | (simp [*]; done)), H', ⟨Nat.le_refl _⟩, ⟨by (with_reducible repeat (first | apply Mk.R_alloc | apply Mk.R_drewN | apply Mk.R_drew)); exact HO173.out⟩, ⟨by repeat (first | (with_reducible first | exact HB.out | apply below_alloc | apply pw_below_drewN | apply below_drew1) | exact HB.out)⟩⟩
           case round =>
             clear H'
             try clear c1
             try clear p1
             try clear q1
             try clear hx1
             try clear c2
             try clear p2
             try clear c3
             try clear c9
             try clear c9b0
             try clear c11
             try clear c12
             try clear c13
             try clear c13b0
             try clear c13b1
             try clear p16
             try clear q16
             try clear hx16
             try clear c29
             try clear c29b0
             try clear c30
             try clear c31
             try clear c31b0
             try clear c31b1
             try clear c32
             try clear c32b0
             try clear c32b1
             try clear c33
             try clear c37
             try clear hx168_0
             try clear p1
             try clear p16
             try clear p168
             try clear p2
             try clear q1
             try clear q16
             try clear q168
             obtain ⟨x6_2, x7_2, rfl, HA, HK2, HO_6, HB⟩ := hrel
             cases gk with
             | zero => exact absurd HA.out (by simp [graverlaw07_PhdrWords.l0])
             | succ k2 =>
               have H := HA.out
               clear HA
               simp only [graverlaw07_PhdrWords.l0] at H
               by_cases c40 : x7_2 < 3
               · rw [if_pos c40] at H
                 have c40b0 : decide (x7_2 < 3) = true := decide_eq_true c40
                 clear c40
                 by_cases c41 : 0 ≤ x7_2
                 · rw [if_pos c41] at H
                   have c41b0 := eq_true c41
                   have c41b1 : decide (0 ≤ x7_2) = true := decide_eq_true c41
                   clear c41
                   obtain ⟨ji42, hji42⟩ : ∃ j_ : Int, (shr .u64 a0 x7_2) = j_ := ⟨_, rfl⟩
                   replace H : (if (Go.bits .and .u64 (ji42) 1) = 1 then (if 0 ≤ (wrap64 (2 - x7_2)) then (if (wrap64 (2 - x7_2)) < (x6_2.length : Int) then (graverlaw07_PhdrWords.l0 k2 a0 a1 (x6_2.set ((wrap64 (2 - x7_2)) : Int).toNat (bt (⟨#[88, 87, 82]⟩ : ByteArray) x7_2)) (wrap64 (x7_2 + 1))) else (none)) else (none)) else (graverlaw07_PhdrWords.l0 k2 a0 a1 x6_2 (wrap64 (x7_2 + 1)))) = some r := by first | (rw [hji42] at H; exact H) | (simp only [hji42] at H ⊢; exact H)
                   have hji42_ : (a0 / 2 ^ min x7_2.toNat 64) = ji42 := hji42
                   have hji42z : x7_2 ≤ 64 → (a0 / 2 ^ x7_2.toNat) = ji42 := shr_small hji42
                   (try have hji42y := hji42z (by first | omega | (simp only [decide_eq_true_eq] at *; omega)))
                   by_cases c43 : (Go.bits .and .u64 (ji42) 1) = 1
                   · rw [if_pos c43] at H
                     have c43b0 : ((Go.bits .and .u64 (ji42) 1) == 1) = true := beq_iff_eq.mpr c43
                     have c43b1 : ((Go.bits .and .u64 (ji42) 1) != 1) = false := bne_eq_false_iff_eq.mpr c43
                     clear c43
                     obtain ⟨ji45, hji45⟩ : ∃ j_ : Int, (wrap64 (2 - x7_2)) = j_ := ⟨_, rfl⟩
                     replace H : (if 0 ≤ (ji45) then (if (ji45) < (x6_2.length : Int) then (graverlaw07_PhdrWords.l0 k2 a0 a1 (x6_2.set ((ji45) : Int).toNat (bt (⟨#[88, 87, 82]⟩ : ByteArray) x7_2)) (wrap64 (x7_2 + 1))) else (none)) else (none)) = some r := by first | (rw [hji45] at H; exact H) | (simp only [hji45] at H ⊢; exact H)
                     have hji45w : (IntKind.i64.wrap (2 - x7_2)) = ji45 := (i64_w _).trans hji45
                     by_cases c46 : 0 ≤ (ji45)
                     · rw [if_pos c46] at H
                       have c46b0 : decide (0 ≤ (ji45)) = true := decide_eq_true c46
                       clear c46
                       by_cases c47 : (ji45) < (x6_2.length : Int)
                       · rw [if_pos c47] at H
                         have c47b0 : decide ((ji45) < (x6_2.length : Int)) = true := decide_eq_true c47
                         clear c47
                         obtain ⟨y174, hy174⟩ : ∃ y_ : List Int, y_ = (x6_2.set ((ji45) : Int).toNat (bt (⟨#[88, 87, 82]⟩ : ByteArray) x7_2)) := ⟨_, rfl⟩
                         replace H : (graverlaw07_PhdrWords.l0 k2 a0 a1 y174 (wrap64 (x7_2 + 1))) = some r := by first | (rw [hy174]; with_reducible exact H) | (have H2_ := (Option.bind_some _ _).symm.trans H; rw [hy174]; with_reducible exact H2_) | (have H2_ := (Option.bind_some _ _).symm.trans H; with_reducible exact H2_) | with_reducible exact H | (rw [hy174]; exact H) | exact H
                         have Ny174 := aS hy174
                         clear hy174
                         have H' := aS H
                         clear H
                         have p44 : 0 ≤ (x7_2 : Int) := of_decide_eq_true (by first | (with_reducible assumption) | assumption)
                         have q44 : x7_2 < (3 : Int) := of_decide_eq_true (by first | (with_reducible assumption) | assumption)
                         have hx44 := bt_at (⟨#[88, 87, 82]⟩ : ByteArray) x7_2
                         replace p44 := eq_true p44
                         replace q44 := eq_true q44
                         have p48 : 0 ≤ ((ji45) : Int) := of_decide_eq_true (by first | (with_reducible assumption) | assumption)
                         have q48 : ((ji45) : Int) < ((x6_2.length : Int) : Int) := of_decide_eq_true (by first | (with_reducible assumption) | assumption)
                         obtain ⟨go48, co48, eo48, gb48, gl48, cl48, HG48⟩ := Mk.R_form HO_6.out (by omega)
                         (first | cases eo48 | (injection eo48 with ea_ en_ ec_; (first | subst ea_ | (injection ea_ with ea_; subst ea_)); subst ec_; clear en_))
                         have GB48 := aS gb48
                         have GG48 := aS HG48
                         clear gb48 gl48 HG48
                         obtain ⟨hx48_0, hf48_0⟩ := Mk.R_celln 0 HO_6.out ((ji45) : Int) p48 q48
                         replace p48 := eq_true p48
                         replace q48 := eq_true q48
                         have HP49 := Mk.R_putg HO_6.out ((ji45) : Int) (bt (⟨#[88, 87, 82]⟩ : ByteArray) x7_2)
                         go_wp2_with (first | ((with_reducible refine gate_store (t := 5) (p := 49) rfl ?_); refine store_event (t := 5) (p := 49) (v := ?vo_w50) (w1 := (wr.setCell ⟨go48, ((ji45) : Int).toNat, none⟩ (.int .u8 (bt (⟨#[88, 87, 82]⟩ : ByteArray) x7_2)))) ?hg ?ho ?hn ?hr ?_; (case ho => rfl); (case hg => rfl); (case hn => rfl); (case hr => (go_simp; try rfl)); intro w50 hw; have hg : wr.grownBy w50 (some go48) := (by rw [hw]; exact HP49.2); have hp_ : Mk.R 5 w50 w.heap.size (fun _ => True) (.slice (some ⟨go48, 0, none⟩) x6_2.length co48) y174 := (by rw [hw, Ny174.out]; exact HP49.1); clear HP49; have n0_ := aS (hp_); have n1_ := aS ((by rw [hw]; exact below_set (HB.out) GB48.out : Below w.heap.size w w50)); clear HO_6; clear HB; have HO_6 := n0_; have HB := n1_; clear n0_ n1_; clear hg hw hp_))
                         go_roundg k2
                         case measure => have := HJ4.out; have := HK2.out; omega
                         case rel => exact ⟨(y174), (wrap64 (x7_2 + 1)), (by first | rfl | (simp; done) | (simp [*]; done)), H', ⟨by have := HJ4.out; have := HK2.out; omega⟩, ⟨by (with_reducible repeat (first | apply Mk.R_alloc | apply Mk.R_drewN | apply Mk.R_drew)); exact HO_6.out⟩, ⟨by repeat (first | (with_reducible first | exact HB.out | apply below_alloc | apply pw_below_drewN | apply below_drew1) | exact HB.out)⟩⟩
                       · rw [if_neg c47] at H
                         exact absurd H (by simp)
                     · rw [if_neg c46] at H
                       exact absurd H (by simp)
                   · rw [if_neg c43] at H
                     have c43b0 : ((Go.bits .and .u64 (ji42) 1) == 1) = false := beq_eq_false_iff_ne.mpr c43
                     have c43b1 : ((Go.bits .and .u64 (ji42) 1) != 1) = true := bne_iff_ne.mpr c43
                     have H' := aS H
                     clear H
                     go_wp2
                     go_roundg k2
                     case measure => have := HJ4.out; have := HK2.out; omega
                     case rel => exact ⟨(x6_2), (wrap64 (x7_2 + 1)), (by first | rfl | (simp; done) | (simp [*]; done)), H', ⟨by have := HJ4.out; have := HK2.out; omega⟩, ⟨by (with_reducible repeat (first | apply Mk.R_alloc | apply Mk.R_drewN | apply Mk.R_drew)); exact HO_6.out⟩, ⟨by repeat (first | (with_reducible first | exact HB.out | apply below_alloc | apply pw_below_drewN | apply below_drew1) | exact HB.out)⟩⟩
                 · rw [if_neg c41] at H
                   exact absurd H (by simp)
               · rw [if_neg c40] at H
                 have c40b0 : decide (x7_2 < 3) = false := decide_eq_false c40
                 clear c40
                 replace H := Option.bind_eq_some_iff.mp H
                 obtain ⟨t175, A510, H⟩ := H
                 replace H : (if 0 ≤ 3 then (if 3 ≤ (t175.size : Int) then (if (t175.extract 0 3).toList = (strOfNums x6_2).toList then (if (t175.size : Int) > 3 then (if a0 > 7 then ((phdr_TypeName.f a0).bind fun t176 => ((phdr_TypeName.f a1).bind fun t177 => (if t176.toList = t177.toList then (if a0 = a1 then ((phdr_Letters.f k2 a1).bind fun t178 => (if t175.toList = t178.toList then (some (a0 == a1)) else (some (!(a0 == a1))))) else (some false)) else (if a0 = a1 then (some false) else ((phdr_Letters.f k2 a1).bind fun t179 => (if t175.toList = t179.toList then (some (a0 == a1)) else (some (!(a0 == a1))))))))) else (some false)) else (if a0 > 7 then (some false) else ((phdr_TypeName.f a0).bind fun t180 => ((phdr_TypeName.f a1).bind fun t181 => (if t180.toList = t181.toList then (if a0 = a1 then ((phdr_Letters.f k2 a1).bind fun t182 => (if t175.toList = t182.toList then (some (a0 == a1)) else (some (!(a0 == a1))))) else (some false)) else (if a0 = a1 then (some false) else ((phdr_Letters.f k2 a1).bind fun t183 => (if t175.toList = t183.toList then (some (a0 == a1)) else (some (!(a0 == a1))))))))))) else (some false)) else (none)) else (none)) = some r := H
                 have A51 := aS A510
                 clear A510
                 by_cases c52 : 0 ≤ 3
                 · rw [if_pos c52] at H
                   have c52b0 := eq_true c52
                   have c52b1 : decide (0 ≤ 3) = true := decide_eq_true c52
                   clear c52
                   by_cases c53 : 3 ≤ (t175.size : Int)
                   · rw [if_pos c53] at H
                     have c53b0 := eq_true c53
                     have c53b1 : decide (3 ≤ (t175.size : Int)) = true := decide_eq_true c53
                     clear c53
                     obtain ⟨sc54, hsc54⟩ : ∃ s_ : ByteArray, (t175.extract 0 3) = s_ := ⟨_, rfl⟩
                     replace H : (if sc54.toList = (strOfNums x6_2).toList then (if (t175.size : Int) > 3 then (if a0 > 7 then ((phdr_TypeName.f a0).bind fun t176 => ((phdr_TypeName.f a1).bind fun t177 => (if t176.toList = t177.toList then (if a0 = a1 then ((phdr_Letters.f k2 a1).bind fun t178 => (if t175.toList = t178.toList then (some (a0 == a1)) else (some (!(a0 == a1))))) else (some false)) else (if a0 = a1 then (some false) else ((phdr_Letters.f k2 a1).bind fun t179 => (if t175.toList = t179.toList then (some (a0 == a1)) else (some (!(a0 == a1))))))))) else (some false)) else (if a0 > 7 then (some false) else ((phdr_TypeName.f a0).bind fun t180 => ((phdr_TypeName.f a1).bind fun t181 => (if t180.toList = t181.toList then (if a0 = a1 then ((phdr_Letters.f k2 a1).bind fun t182 => (if t175.toList = t182.toList then (some (a0 == a1)) else (some (!(a0 == a1))))) else (some false)) else (if a0 = a1 then (some false) else ((phdr_Letters.f k2 a1).bind fun t183 => (if t175.toList = t183.toList then (some (a0 == a1)) else (some (!(a0 == a1))))))))))) else (some false)) = some r := by first | (rw [hsc54] at H; exact H) | (simp only [hsc54] at H ⊢; exact H) | exact H
                     (try (have hsc54n := hsc54; simp only [Int.toNat_natCast] at hsc54n))
                     by_cases c55 : sc54.toList = (strOfNums x6_2).toList
                     · rw [if_pos c55] at H
                       have c55b0 : (sc54.toList == (strOfNums x6_2).toList) = true := beq_iff_eq.mpr c55
                       have c55b1 : (sc54.toList != (strOfNums x6_2).toList) = false := bne_eq_false_iff_eq.mpr c55
                       clear c55
                       by_cases c56 : (t175.size : Int) > 3
                       · rw [if_pos c56] at H
                         have c56b0 : decide (3 < (t175.size : Int)) = true := decide_eq_true c56
                         have c56b1 : decide (3 < t175.size) = true := decide_eq_true (by omega)
                         clear c56
                         by_cases c57 : a0 > 7
                         · rw [if_pos c57] at H
                           have c57b0 : decide (7 < a0) = true := decide_eq_true c57
                           clear c57
                           replace H := Option.bind_eq_some_iff.mp H
                           obtain ⟨t176, A580, H⟩ := H
                           replace H : ((phdr_TypeName.f a1).bind fun t177 => (if t176.toList = t177.toList then (if a0 = a1 then ((phdr_Letters.f k2 a1).bind fun t178 => (if t175.toList = t178.toList then (some (a0 == a1)) else (some (!(a0 == a1))))) else (some false)) else (if a0 = a1 then (some false) else ((phdr_Letters.f k2 a1).bind fun t179 => (if t175.toList = t179.toList then (some (a0 == a1)) else (some (!(a0 == a1)))))))) = some r := H
                           have A58 := aS A580
                           clear A580
                           replace H := Option.bind_eq_some_iff.mp H
                           obtain ⟨t177, A590, H⟩ := H
                           replace H : (if t176.toList = t177.toList then (if a0 = a1 then ((phdr_Letters.f k2 a1).bind fun t178 => (if t175.toList = t178.toList then (some (a0 == a1)) else (some (!(a0 == a1))))) else (some false)) else (if a0 = a1 then (some false) else ((phdr_Letters.f k2 a1).bind fun t179 => (if t175.toList = t179.toList then (some (a0 == a1)) else (some (!(a0 == a1))))))) = some r := H
                           have A59 := aS A590
                           clear A590
                           by_cases c60 : t176.toList = t177.toList
                           · rw [if_pos c60] at H
                             have c60b0 : (t176.toList == t177.toList) = true := beq_iff_eq.mpr c60
                             have c60b1 : (t176.toList != t177.toList) = false := bne_eq_false_iff_eq.mpr c60
                             clear c60
                             by_cases c61 : a0 = a1
                             · rw [if_pos c61] at H
                               have c61b0 : (a0 == a1) = true := beq_iff_eq.mpr c61
                               have c61b1 : (a0 != a1) = false := bne_eq_false_iff_eq.mpr c61
                               clear c61
                               (try simp only [c61b0] at H)
                               (try rw [c61b0] at A51)
                               (try rw [c61b0] at A58)
                               (try rw [c61b0] at A59)
                               replace H := Option.bind_eq_some_iff.mp H
                               obtain ⟨t178, A620, H⟩ := H
                               replace H : (if t175.toList = t178.toList then (some true) else (some (!true))) = some r := H
                               have A62 := aS A620
                               clear A620
                               by_cases c63 : t175.toList = t178.toList
                               · rw [if_pos c63] at H
                                 have c63b0 : (t175.toList == t178.toList) = true := beq_iff_eq.mpr c63
                                 have c63b1 : (t175.toList != t178.toList) = false := bne_eq_false_iff_eq.mpr c63
                                 clear c63
                                 obtain rfl := Option.some.inj H
                                 try go_wp2_with (first | ((with_reducible refine gate_callee (f := 31) rfl ?_); refine goesL_ (some 51) rfl rfl Tryd.func31 (by kernel_rfl) rfl #[.int .u64 a0] rfl (by (try simp only [List.map_toArray, List.map_cons, List.map_nil]); first | done | rfl | (simp only [List.length_drop, List.length_take]; rfl)) ?_; (with_reducible refine (phdr_Letters.calls k2 a0 t175 _ ?side1 A51.out).mono ?_); (case side1 => exact Laid_strconv.below HLD_strconv.out (by repeat (first | (with_reducible first | exact HB.out | apply below_alloc | apply pw_below_drewN | apply below_drew1) | exact HB.out))); rintro e w64 ⟨rfl, hb⟩; refine ⟨_, rfl, ?_⟩; have n0_ := aS (Mk.R_below (by (with_reducible repeat (first | apply Mk.R_alloc | apply Mk.R_drewN | apply Mk.R_drew)); exact HO_6.out) hb); have n1_ := aS (below_step (by repeat (first | (with_reducible first | exact HB.out | apply below_alloc | apply pw_below_drewN | apply below_drew1) | exact HB.out)) hb); clear HO_6; clear HB; have HO_6 := n0_; have HB := n1_; clear n0_ n1_; (try clear hb); (try clear hb2); (try clear hk); (try clear hi)))
                                 have n0_ := aS (Mk.R_drew HO_6.out)
                                 have n1_ := aS (below_drew1 HB.out)
                                 clear HO_6
                                 clear HB
                                 have HO_6 := n0_
                                 have HB := n1_
                                 clear n0_ n1_
                                 have hcv66 := Mk.own_string (P := Tryd.prog) Tryd.underlying62 Tryd.underlying5 Tryd.underlying9 HO_6.out
                                 refine start_ (n := 35) (S := fun w' => (convert 62 9 _).run Tryd.prog w' = .ok (.string (strOfNums _)) w') (ds := []) #[false, false, false, false, false, false, false, false, false, false, false, false, false, false, false, false, false, false, false, false, false, false, false, false, false, false, false, false, false, false, false, false, false, false, false] (by kernel_rfl) rfl rfl hcv66 (fun hHeld => ?_); refine with_tabW graverlaw07_PhdrWords.tab13 graverlaw07_PhdrWords.bits13 (fun HT_ HW_ => ?_)
                                 generalize w64.drew = w65 at HO_6 HB hHeld ⊢
                                 refine pure_ (i := 0) (N := some 52) (v := ?_) (a' := ?_) (bm 35 1) rfl rfl (any_of HT_.out (by kernel_rfl)) (fun _ _ _ h => h) (Or.inl ⟨by rfl, ?_⟩) ?_ ?_
                                 rotate_left
                                 · intro w'
                                   go_simp
                                   with_reducible rfl
                                 rotate_left
                                 · simp only [Act.put, aput]
                                   rfl
                                 refine pure_ (i := 1) (N := some 53) (v := ?_) (a' := ?_) (bm 35 3) rfl rfl (any_of HT_.out (by kernel_rfl)) (fun _ _ _ h => h) (Or.inl ⟨by rfl, ?_⟩) ?_ ?_
                                 rotate_left
                                 · intro w'
                                   go_simp
                                   with_reducible rfl
                                 rotate_left
                                 · simp only [Act.put, aput]
                                   rfl
                                 refine pure_ (i := 2) (N := some 54) (v := ?_) (a' := ?_) (bm 35 7) rfl rfl (any_of HT_.out (by kernel_rfl)) (fun _ _ _ h => h) (Or.inl ⟨by rfl, ?_⟩) ?_ ?_
                                 rotate_left
                                 · intro w'
                                   go_simp
                                   with_reducible rfl
                                 rotate_left
                                 · simp only [Act.put, aput]
                                   rfl
                                 refine take_ (i := 3) (N := some 55) (v := ?_) (a' := ?_) (bm 35 15) rfl rfl (take_ofW HT_.out HW_.out (by kernel_rfl)) (fun _ _ _ h => h) (Or.inl ⟨by rfl, ?_⟩) hHeld ?_ ?_
                                 rotate_left
                                 · intro w' s0
                                   go_simp
                                   with_reducible rfl
                                 rotate_left
                                 · simp only [Act.put, aput]
                                   rfl
                                 refine pure_ (i := 4) (N := some 56) (v := ?_) (a' := ?_) (bm 35 31) rfl rfl (any_of HT_.out (by kernel_rfl)) (fun _ _ _ h => h) (Or.inl ⟨by rfl, ?_⟩) ?_ ?_
                                 rotate_left
                                 · intro w'
                                   go_simp
                                   with_reducible rfl
                                 rotate_left
                                 · simp only [Act.put, aput]
                                   rfl
                                 refine pure_ (i := 5) (N := some 57) (v := ?_) (a' := ?_) (bm 35 63) rfl rfl (any_of HT_.out (by kernel_rfl)) (fun _ _ _ h => h) (Or.inl ⟨by rfl, ?_⟩) ?_ ?_
                                 rotate_left
                                 · intro w'
                                   go_simp
                                   with_reducible rfl
                                 rotate_left
                                 · simp only [Act.put, aput]
                                   rfl
                                 refine pure_ (i := 6) (N := some 58) (v := ?_) (a' := ?_) (bm 35 127) rfl rfl (any_of HT_.out (by kernel_rfl)) (fun _ _ _ h => h) (Or.inl ⟨by rfl, ?_⟩) ?_ ?_
                                 rotate_left
                                 · intro w'
                                   go_simp
                                   with_reducible rfl
                                 rotate_left
                                 · simp only [Act.put, aput]
                                   rfl
                                 refine pure_ (i := 7) (N := some 59) (v := ?_) (a' := ?_) (bm 35 255) rfl rfl (any_of HT_.out (by kernel_rfl)) (fun _ _ _ h => h) (Or.inl ⟨by rfl, ?_⟩) ?_ ?_
                                 rotate_left
                                 · intro w'
                                   go_simp
                                   with_reducible rfl
                                 rotate_left
                                 · simp only [Act.put, aput]
                                   rfl
                                 refine pure_ (i := 8) (N := some 60) (v := ?_) (a' := ?_) (bm 35 511) rfl rfl (any_of HT_.out (by kernel_rfl)) (fun _ _ _ h => h) (Or.inl ⟨by rfl, ?_⟩) ?_ ?_
                                 rotate_left
                                 · intro w'
                                   go_simp
                                   with_reducible rfl
                                 rotate_left
                                 · simp only [Act.put, aput]
                                   rfl
                                 refine pure_ (i := 9) (N := some 61) (v := ?_) (a' := ?_) (bm 35 1023) rfl rfl (any_of HT_.out (by kernel_rfl)) (fun _ _ _ h => h) (Or.inl ⟨by rfl, ?_⟩) ?_ ?_
                                 rotate_left
                                 · intro w'
                                   go_simp
                                   with_reducible rfl
                                 rotate_left
                                 · simp only [Act.put, aput]
                                   rfl
                                 refine pure_ (i := 10) (N := some 62) (v := ?_) (a' := ?_) (bm 35 2047) rfl rfl (any_of HT_.out (by kernel_rfl)) (fun _ _ _ h => h) (Or.inl ⟨by rfl, ?_⟩) ?_ ?_
                                 rotate_left
                                 · intro w'
                                   go_simp
                                   with_reducible rfl
                                 rotate_left
                                 · simp only [Act.put, aput]
                                   rfl
                                 refine pure_ (i := 11) (N := some 63) (v := ?_) (a' := ?_) (bm 35 4095) rfl rfl (any_of HT_.out (by kernel_rfl)) (fun _ _ _ h => h) (Or.inl ⟨by rfl, ?_⟩) ?_ ?_
                                 rotate_left
                                 · intro w'
                                   go_simp
                                   with_reducible rfl
                                 rotate_left
                                 · simp only [Act.put, aput]
                                   rfl
                                 refine pure_ (i := 12) (N := some 64) (v := ?_) (a' := ?_) (bm 35 8191) rfl rfl (any_of HT_.out (by kernel_rfl)) (fun _ _ _ h => h) (Or.inl ⟨by rfl, ?_⟩) ?_ ?_
                                 rotate_left
                                 · intro w'
                                   go_simp
                                   with_reducible rfl
                                 rotate_left
                                 · simp only [Act.put, aput]
                                   rfl
                                 refine pure_ (i := 13) (N := some 65) (v := ?_) (a' := ?_) (bm 35 16383) rfl rfl (any_of HT_.out (by kernel_rfl)) (fun _ _ _ h => h) (Or.inl ⟨by rfl, ?_⟩) ?_ ?_
                                 rotate_left
                                 · intro w'
                                   go_simp
                                   with_reducible rfl
                                 rotate_left
                                 · simp only [Act.put, aput]
                                   rfl
                                 refine pure_ (i := 14) (N := some 66) (v := ?_) (a' := ?_) (bm 35 32767) rfl rfl (any_of HT_.out (by kernel_rfl)) (fun _ _ _ h => h) (Or.inl ⟨by rfl, ?_⟩) ?_ ?_
                                 rotate_left
                                 · intro w'
                                   go_simp
                                   with_reducible rfl
                                 rotate_left
                                 · simp only [Act.put, aput]
                                   rfl
                                 refine pure_ (i := 16) (N := some 68) (v := ?_) (a' := ?_) (bm 35 98303) rfl rfl (any_of HT_.out (by kernel_rfl)) (fun _ _ _ h => h) (Or.inl ⟨by rfl, ?_⟩) ?_ ?_
                                 rotate_left
                                 · intro w'
                                   go_simp
                                   with_reducible rfl
                                 rotate_left
                                 · simp only [Act.put, aput]
                                   rfl
                                 refine pure_ (i := 19) (N := some 71) (v := ?_) (a' := ?_) (bm 35 622591) rfl rfl (any_of HT_.out (by kernel_rfl)) (fun _ _ _ h => h) (Or.inl ⟨by rfl, ?_⟩) ?_ ?_
                                 rotate_left
                                 · intro w'
                                   go_simp
                                   with_reducible rfl
                                 rotate_left
                                 · simp only [Act.put, aput]
                                   rfl
                                 refine pure_ (i := 20) (N := some 72) (v := ?_) (a' := ?_) (bm 35 1671167) rfl rfl (any_of HT_.out (by kernel_rfl)) (fun _ _ _ h => h) (Or.inl ⟨by rfl, ?_⟩) ?_ ?_
                                 rotate_left
                                 · intro w'
                                   go_simp
                                   with_reducible rfl
                                 rotate_left
                                 · simp only [Act.put, aput]
                                   rfl
                                 refine pure_ (i := 21) (N := some 73) (v := ?_) (a' := ?_) (bm 35 3768319) rfl rfl (any_of HT_.out (by kernel_rfl)) (fun _ _ _ h => h) (Or.inl ⟨by rfl, ?_⟩) ?_ ?_
                                 rotate_left
                                 · intro w'
                                   go_simp
                                   with_reducible rfl
                                 rotate_left
                                 · simp only [Act.put, aput]
                                   rfl
                                 refine one_ (i := 15) (N := some 67) (bm 35 3801087) rfl rfl (one_of HT_.out (by kernel_rfl)) (by decide) (fun K hK => ?_)
                                 refine goes_ Tryd.func30 (by kernel_rfl) rfl #[.int .u64 a0] (by rfl) rfl rfl (by (try simp only [List.map_toArray, List.map_cons, List.map_nil]); first | done | rfl | (simp only [List.length_drop, List.length_take]; rfl)) ?_
                                 with_reducible refine (phdr_TypeName.calls a0 t176 _ ?side1 ?side2 A58.out).mono ?_
                                 (case side1 => exact Laid_phdrn.below HLD_phdrn.out (by repeat (first | (with_reducible first | exact HB.out | apply below_alloc | apply pw_below_drewN | apply below_drew1) | exact HB.out)))
                                 (case side2 => exact Laid_strconv.below HLD_strconv.out (by repeat (first | (with_reducible first | exact HB.out | apply below_alloc | apply pw_below_drewN | apply below_drew1) | exact HB.out)))
                                 rintro e w67 ⟨rfl, hb⟩
                                 refine ⟨_, rfl, ?_⟩
                                 have n0_ := aS (Mk.R_below (by (with_reducible repeat (first | apply Mk.R_alloc | apply Mk.R_drewN | apply Mk.R_drew)); exact HO_6.out) hb)
                                 have n1_ := aS (below_step (by repeat (first | (with_reducible first | exact HB.out | apply below_alloc | apply pw_below_drewN | apply below_drew1) | exact HB.out)) hb)
                                 clear HO_6
                                 clear HB
                                 have HO_6 := n0_
                                 have HB := n1_
                                 clear n0_ n1_
                                 (try clear hb)
                                 (try clear hb2)
                                 (try clear hk)
                                 (try clear hi)
                                 refine hK.out _ _ (Mk.own_string (P := Tryd.prog) Tryd.underlying62 Tryd.underlying5 Tryd.underlying9 HO_6.out) (fun hHeld => ?_)
                                 clear hK K
                                 refine norm_ (a' := ?_) ?_ ?_
                                 rotate_left
                                 · show Act.put _ (some 67) _ = _
                                   simp only [Act.put, aput]
                                   rfl
                                 refine one_ (i := 17) (N := some 69) (bm 35 3932159) rfl rfl (one_of HT_.out (by kernel_rfl)) (by decide) (fun K hK => ?_)
                                 refine goes_ Tryd.func30 (by kernel_rfl) rfl #[.int .u64 a1] (by rfl) rfl rfl (by (try simp only [List.map_toArray, List.map_cons, List.map_nil]); first | done | rfl | (simp only [List.length_drop, List.length_take]; rfl)) ?_
                                 with_reducible refine (phdr_TypeName.calls a1 t177 _ ?side1 ?side2 A59.out).mono ?_
                                 (case side1 => exact Laid_phdrn.below HLD_phdrn.out (by repeat (first | (with_reducible first | exact HB.out | apply below_alloc | apply pw_below_drewN | apply below_drew1) | exact HB.out)))
                                 (case side2 => exact Laid_strconv.below HLD_strconv.out (by repeat (first | (with_reducible first | exact HB.out | apply below_alloc | apply pw_below_drewN | apply below_drew1) | exact HB.out)))
                                 rintro e w68 ⟨rfl, hb⟩
                                 refine ⟨_, rfl, ?_⟩
                                 have n0_ := aS (Mk.R_below (by (with_reducible repeat (first | apply Mk.R_alloc | apply Mk.R_drewN | apply Mk.R_drew)); exact HO_6.out) hb)
                                 have n1_ := aS (below_step (by repeat (first | (with_reducible first | exact HB.out | apply below_alloc | apply pw_below_drewN | apply below_drew1) | exact HB.out)) hb)
                                 clear HO_6
                                 clear HB
                                 have HO_6 := n0_
                                 have HB := n1_
                                 clear n0_ n1_
                                 (try clear hb)
                                 (try clear hb2)
                                 (try clear hk)
                                 (try clear hi)
                                 refine hK.out _ _ (Mk.own_string (P := Tryd.prog) Tryd.underlying62 Tryd.underlying5 Tryd.underlying9 HO_6.out) (fun hHeld => ?_)
                                 clear hK K
                                 refine norm_ (a' := ?_) ?_ ?_
                                 rotate_left
                                 · show Act.put _ (some 69) _ = _
                                   simp only [Act.put, aput]
                                   rfl
                                 refine pure_ (i := 18) (N := some 70) (v := ?_) (a' := ?_) (bm 35 4194303) rfl rfl (any_of HT_.out (by kernel_rfl)) (fun _ _ _ h => h) (Or.inl ⟨by rfl, ?_⟩) ?_ ?_
                                 rotate_left
                                 · intro w'
                                   go_simp
                                   with_reducible rfl
                                 rotate_left
                                 · simp only [Act.put, aput]
                                   rfl
                                 refine pure_ (i := 22) (N := some 74) (v := ?_) (a' := ?_) (bm 35 8388607) rfl rfl (any_of HT_.out (by kernel_rfl)) (fun _ _ _ h => h) (Or.inl ⟨by rfl, ?_⟩) ?_ ?_
                                 rotate_left
                                 · intro w'
                                   go_simp
                                   with_reducible rfl
                                 rotate_left
                                 · simp only [Act.put, aput]
                                   rfl
                                 refine pure_ (i := 23) (N := some 75) (v := ?_) (a' := ?_) (bm 35 16777215) rfl rfl (any_of HT_.out (by kernel_rfl)) (fun _ _ _ h => h) (Or.inl ⟨by rfl, ?_⟩) ?_ ?_
                                 rotate_left
                                 · intro w'
                                   go_simp
                                   with_reducible rfl
                                 rotate_left
                                 · simp only [Act.put, aput]
                                   rfl
                                 refine pure_ (i := 24) (N := some 76) (v := ?_) (a' := ?_) (bm 35 33554431) rfl rfl (any_of HT_.out (by kernel_rfl)) (fun _ _ _ h => h) (Or.inl ⟨by rfl, ?_⟩) ?_ ?_
                                 rotate_left
                                 · intro w'
                                   go_simp
                                   with_reducible rfl
                                 rotate_left
                                 · simp only [Act.put, aput]
                                   rfl
                                 refine pure_ (i := 25) (N := some 77) (v := ?_) (a' := ?_) (bm 35 67108863) rfl rfl (any_of HT_.out (by kernel_rfl)) (fun _ _ _ h => h) (Or.inl ⟨by rfl, ?_⟩) ?_ ?_
                                 rotate_left
                                 · intro w'
                                   go_simp
                                   with_reducible rfl
                                 rotate_left
                                 · simp only [Act.put, aput]
                                   rfl
                                 refine pure_ (i := 26) (N := some 78) (v := ?_) (a' := ?_) (bm 35 134217727) rfl rfl (any_of HT_.out (by kernel_rfl)) (fun _ _ _ h => h) (Or.inl ⟨by rfl, ?_⟩) ?_ ?_
                                 rotate_left
                                 · intro w'
                                   go_simp
                                   with_reducible rfl
                                 rotate_left
                                 · simp only [Act.put, aput]
                                   rfl
                                 refine pure_ (i := 29) (N := some 81) (v := ?_) (a' := ?_) (bm 35 671088639) rfl rfl (any_of HT_.out (by kernel_rfl)) (fun _ _ _ h => h) (Or.inl ⟨by rfl, ?_⟩) ?_ ?_
                                 rotate_left
                                 · intro w'
                                   go_simp
                                   with_reducible rfl
                                 rotate_left
                                 · simp only [Act.put, aput]
                                   rfl
                                 refine pure_ (i := 30) (N := some 82) (v := ?_) (a' := ?_) (bm 35 1744830463) rfl rfl (any_of HT_.out (by kernel_rfl)) (fun _ _ _ h => h) (Or.inl ⟨by rfl, ?_⟩) ?_ ?_
                                 rotate_left
                                 · intro w'
                                   go_simp
                                   with_reducible rfl
                                 rotate_left
                                 · simp only [Act.put, aput]
                                   rfl
                                 refine pure_ (i := 31) (N := some 83) (v := ?_) (a' := ?_) (bm 35 3892314111) rfl rfl (any_of HT_.out (by kernel_rfl)) (fun _ _ _ h => h) (Or.inl ⟨by rfl, ?_⟩) ?_ ?_
                                 rotate_left
                                 · intro w'
                                   go_simp
                                   with_reducible rfl
                                 rotate_left
                                 · simp only [Act.put, aput]
                                   rfl
                                 refine one_ (i := 27) (N := some 79) (bm 35 4026531839) rfl rfl (one_of HT_.out (by kernel_rfl)) (by decide) (fun K hK => ?_)
                                 refine goes_ Tryd.func31 (by kernel_rfl) rfl #[.int .u64 a1] (by rfl) rfl rfl (by (try simp only [List.map_toArray, List.map_cons, List.map_nil]); first | done | rfl | (simp only [List.length_drop, List.length_take]; rfl)) ?_
                                 with_reducible refine (phdr_Letters.calls k2 a1 t178 _ ?side1 A62.out).mono ?_
                                 (case side1 => exact Laid_strconv.below HLD_strconv.out (by repeat (first | (with_reducible first | exact HB.out | apply below_alloc | apply pw_below_drewN | apply below_drew1) | exact HB.out)))
                                 rintro e w69 ⟨rfl, hb⟩
                                 refine ⟨_, rfl, ?_⟩
                                 have n0_ := aS (Mk.R_below (by (with_reducible repeat (first | apply Mk.R_alloc | apply Mk.R_drewN | apply Mk.R_drew)); exact HO_6.out) hb)
                                 have n1_ := aS (below_step (by repeat (first | (with_reducible first | exact HB.out | apply below_alloc | apply pw_below_drewN | apply below_drew1) | exact HB.out)) hb)
                                 clear HO_6
                                 clear HB
                                 have HO_6 := n0_
                                 have HB := n1_
                                 clear n0_ n1_
                                 (try clear hb)
                                 (try clear hb2)
                                 (try clear hk)
                                 (try clear hi)
                                 refine hK.out _ _ (Mk.own_string (P := Tryd.prog) Tryd.underlying62 Tryd.underlying5 Tryd.underlying9 HO_6.out) (fun hHeld => ?_)
                                 clear hK K
                                 refine norm_ (a' := ?_) ?_ ?_
                                 rotate_left
                                 · show Act.put _ (some 79) _ = _
                                   simp only [Act.put, aput]
                                   rfl
                                 refine pure_ (i := 28) (N := some 80) (v := ?_) (a' := ?_) (bm 35 4294967295) rfl rfl (any_of HT_.out (by kernel_rfl)) (fun _ _ _ h => h) (Or.inl ⟨by rfl, ?_⟩) ?_ ?_
                                 rotate_left
                                 · intro w'
                                   go_simp
                                   with_reducible rfl
                                 rotate_left
                                 · simp only [Act.put, aput]
                                   rfl
                                 refine pure_ (i := 32) (N := some 84) (v := ?_) (a' := ?_) (bm 35 8589934591) rfl rfl (any_of HT_.out (by kernel_rfl)) (fun _ _ _ h => h) (Or.inl ⟨by rfl, ?_⟩) ?_ ?_
                                 rotate_left
                                 · intro w'
                                   go_simp
                                   with_reducible rfl
                                 rotate_left
                                 · simp only [Act.put, aput]
                                   rfl
                                 refine pure_ (i := 33) (N := some 85) (v := ?_) (a' := ?_) (bm 35 17179869183) rfl rfl (any_of HT_.out (by kernel_rfl)) (fun _ _ _ h => h) (Or.inl ⟨by rfl, ?_⟩) ?_ ?_
                                 rotate_left
                                 · intro w'
                                   go_simp
                                   with_reducible rfl
                                 rotate_left
                                 · simp only [Act.put, aput]
                                   rfl
                                 refine pure_ (i := 34) (N := some 4) (v := ?_) (a' := ?_) (bm 35 34359738367) rfl rfl (any_of HT_.out (by kernel_rfl)) (fun _ _ _ h => h) (Or.inl ⟨by rfl, ?_⟩) ?_ ?_
                                 rotate_left
                                 · intro w'
                                   go_simp
                                   with_reducible rfl
                                 rotate_left
                                 · simp only [Act.put, aput]
                                   rfl
                                 refine done_ (done_of HT_.out (by kernel_rfl)) ?_
                                 try go_wp2
                                 go_ret
                                 exact ⟨by first | rfl | (simp [errW_none, errW_some] <;> rfl) | (simp [*, errW_none, errW_some] <;> rfl), by repeat (first | (with_reducible first | exact HB.out | apply below_alloc | apply pw_below_drewN | apply below_drew1) | exact HB.out)⟩
                               · rw [if_neg c63] at H
                                 have c63b0 : (t175.toList == t178.toList) = false := beq_eq_false_iff_ne.mpr c63
                                 have c63b1 : (t175.toList != t178.toList) = true := bne_iff_ne.mpr c63
                                 obtain rfl := Option.some.inj H
                                 try go_wp2_with (first | ((with_reducible refine gate_callee (f := 31) rfl ?_); refine goesL_ (some 51) rfl rfl Tryd.func31 (by kernel_rfl) rfl #[.int .u64 a0] rfl (by (try simp only [List.map_toArray, List.map_cons, List.map_nil]); first | done | rfl | (simp only [List.length_drop, List.length_take]; rfl)) ?_; (with_reducible refine (phdr_Letters.calls k2 a0 t175 _ ?side1 A51.out).mono ?_); (case side1 => exact Laid_strconv.below HLD_strconv.out (by repeat (first | (with_reducible first | exact HB.out | apply below_alloc | apply pw_below_drewN | apply below_drew1) | exact HB.out))); rintro e w70 ⟨rfl, hb⟩; refine ⟨_, rfl, ?_⟩; have n0_ := aS (Mk.R_below (by (with_reducible repeat (first | apply Mk.R_alloc | apply Mk.R_drewN | apply Mk.R_drew)); exact HO_6.out) hb); have n1_ := aS (below_step (by repeat (first | (with_reducible first | exact HB.out | apply below_alloc | apply pw_below_drewN | apply below_drew1) | exact HB.out)) hb); clear HO_6; clear HB; have HO_6 := n0_; have HB := n1_; clear n0_ n1_; (try clear hb); (try clear hb2); (try clear hk); (try clear hi)))
                                 have n0_ := aS (Mk.R_drew HO_6.out)
                                 have n1_ := aS (below_drew1 HB.out)
                                 clear HO_6
                                 clear HB
                                 have HO_6 := n0_
                                 have HB := n1_
                                 clear n0_ n1_
                                 have hcv72 := Mk.own_string (P := Tryd.prog) Tryd.underlying62 Tryd.underlying5 Tryd.underlying9 HO_6.out
                                 refine start_ (n := 35) (S := fun w' => (convert 62 9 _).run Tryd.prog w' = .ok (.string (strOfNums _)) w') (ds := []) #[false, false, false, false, false, false, false, false, false, false, false, false, false, false, false, false, false, false, false, false, false, false, false, false, false, false, false, false, false, false, false, false, false, false, false] (by kernel_rfl) rfl rfl hcv72 (fun hHeld => ?_); refine with_tabW graverlaw07_PhdrWords.tab13 graverlaw07_PhdrWords.bits13 (fun HT_ HW_ => ?_)
                                 generalize w70.drew = w71 at HO_6 HB hHeld ⊢
                                 refine pure_ (i := 0) (N := some 52) (v := ?_) (a' := ?_) (bm 35 1) rfl rfl (any_of HT_.out (by kernel_rfl)) (fun _ _ _ h => h) (Or.inl ⟨by rfl, ?_⟩) ?_ ?_
                                 rotate_left
                                 · intro w'
                                   go_simp
                                   with_reducible rfl
                                 rotate_left
                                 · simp only [Act.put, aput]
                                   rfl
                                 refine pure_ (i := 1) (N := some 53) (v := ?_) (a' := ?_) (bm 35 3) rfl rfl (any_of HT_.out (by kernel_rfl)) (fun _ _ _ h => h) (Or.inl ⟨by rfl, ?_⟩) ?_ ?_
                                 rotate_left
                                 · intro w'
                                   go_simp
                                   with_reducible rfl
                                 rotate_left
                                 · simp only [Act.put, aput]
                                   rfl
                                 refine pure_ (i := 2) (N := some 54) (v := ?_) (a' := ?_) (bm 35 7) rfl rfl (any_of HT_.out (by kernel_rfl)) (fun _ _ _ h => h) (Or.inl ⟨by rfl, ?_⟩) ?_ ?_
                                 rotate_left
                                 · intro w'
                                   go_simp
                                   with_reducible rfl
                                 rotate_left
                                 · simp only [Act.put, aput]
                                   rfl
                                 refine take_ (i := 3) (N := some 55) (v := ?_) (a' := ?_) (bm 35 15) rfl rfl (take_ofW HT_.out HW_.out (by kernel_rfl)) (fun _ _ _ h => h) (Or.inl ⟨by rfl, ?_⟩) hHeld ?_ ?_
                                 rotate_left
                                 · intro w' s0
                                   go_simp
                                   with_reducible rfl
                                 rotate_left
                                 · simp only [Act.put, aput]
                                   rfl
                                 refine pure_ (i := 4) (N := some 56) (v := ?_) (a' := ?_) (bm 35 31) rfl rfl (any_of HT_.out (by kernel_rfl)) (fun _ _ _ h => h) (Or.inl ⟨by rfl, ?_⟩) ?_ ?_
                                 rotate_left
                                 · intro w'
                                   go_simp
                                   with_reducible rfl
                                 rotate_left
                                 · simp only [Act.put, aput]
                                   rfl
                                 refine pure_ (i := 5) (N := some 57) (v := ?_) (a' := ?_) (bm 35 63) rfl rfl (any_of HT_.out (by kernel_rfl)) (fun _ _ _ h => h) (Or.inl ⟨by rfl, ?_⟩) ?_ ?_
                                 rotate_left
                                 · intro w'
                                   go_simp
                                   with_reducible rfl
                                 rotate_left
                                 · simp only [Act.put, aput]
                                   rfl
                                 refine pure_ (i := 6) (N := some 58) (v := ?_) (a' := ?_) (bm 35 127) rfl rfl (any_of HT_.out (by kernel_rfl)) (fun _ _ _ h => h) (Or.inl ⟨by rfl, ?_⟩) ?_ ?_
                                 rotate_left
                                 · intro w'
                                   go_simp
                                   with_reducible rfl
                                 rotate_left
                                 · simp only [Act.put, aput]
                                   rfl
                                 refine pure_ (i := 7) (N := some 59) (v := ?_) (a' := ?_) (bm 35 255) rfl rfl (any_of HT_.out (by kernel_rfl)) (fun _ _ _ h => h) (Or.inl ⟨by rfl, ?_⟩) ?_ ?_
                                 rotate_left
                                 · intro w'
                                   go_simp
                                   with_reducible rfl
                                 rotate_left
                                 · simp only [Act.put, aput]
                                   rfl
                                 refine pure_ (i := 8) (N := some 60) (v := ?_) (a' := ?_) (bm 35 511) rfl rfl (any_of HT_.out (by kernel_rfl)) (fun _ _ _ h => h) (Or.inl ⟨by rfl, ?_⟩) ?_ ?_
                                 rotate_left
                                 · intro w'
                                   go_simp
                                   with_reducible rfl
                                 rotate_left
                                 · simp only [Act.put, aput]
                                   rfl
                                 refine pure_ (i := 9) (N := some 61) (v := ?_) (a' := ?_) (bm 35 1023) rfl rfl (any_of HT_.out (by kernel_rfl)) (fun _ _ _ h => h) (Or.inl ⟨by rfl, ?_⟩) ?_ ?_
                                 rotate_left
                                 · intro w'
                                   go_simp
                                   with_reducible rfl
                                 rotate_left
                                 · simp only [Act.put, aput]
                                   rfl
                                 refine pure_ (i := 10) (N := some 62) (v := ?_) (a' := ?_) (bm 35 2047) rfl rfl (any_of HT_.out (by kernel_rfl)) (fun _ _ _ h => h) (Or.inl ⟨by rfl, ?_⟩) ?_ ?_
                                 rotate_left
                                 · intro w'
                                   go_simp
                                   with_reducible rfl
                                 rotate_left
                                 · simp only [Act.put, aput]
                                   rfl
                                 refine pure_ (i := 11) (N := some 63) (v := ?_) (a' := ?_) (bm 35 4095) rfl rfl (any_of HT_.out (by kernel_rfl)) (fun _ _ _ h => h) (Or.inl ⟨by rfl, ?_⟩) ?_ ?_
                                 rotate_left
                                 · intro w'
                                   go_simp
                                   with_reducible rfl
                                 rotate_left
                                 · simp only [Act.put, aput]
                                   rfl
                                 refine pure_ (i := 12) (N := some 64) (v := ?_) (a' := ?_) (bm 35 8191) rfl rfl (any_of HT_.out (by kernel_rfl)) (fun _ _ _ h => h) (Or.inl ⟨by rfl, ?_⟩) ?_ ?_
                                 rotate_left
                                 · intro w'
                                   go_simp
                                   with_reducible rfl
                                 rotate_left
                                 · simp only [Act.put, aput]
                                   rfl
                                 refine pure_ (i := 13) (N := some 65) (v := ?_) (a' := ?_) (bm 35 16383) rfl rfl (any_of HT_.out (by kernel_rfl)) (fun _ _ _ h => h) (Or.inl ⟨by rfl, ?_⟩) ?_ ?_
                                 rotate_left
                                 · intro w'
                                   go_simp
                                   with_reducible rfl
                                 rotate_left
                                 · simp only [Act.put, aput]
                                   rfl
                                 refine pure_ (i := 14) (N := some 66) (v := ?_) (a' := ?_) (bm 35 32767) rfl rfl (any_of HT_.out (by kernel_rfl)) (fun _ _ _ h => h) (Or.inl ⟨by rfl, ?_⟩) ?_ ?_
                                 rotate_left
                                 · intro w'
                                   go_simp
                                   with_reducible rfl
                                 rotate_left
                                 · simp only [Act.put, aput]
                                   rfl
                                 refine pure_ (i := 16) (N := some 68) (v := ?_) (a' := ?_) (bm 35 98303) rfl rfl (any_of HT_.out (by kernel_rfl)) (fun _ _ _ h => h) (Or.inl ⟨by rfl, ?_⟩) ?_ ?_
                                 rotate_left
                                 · intro w'
                                   go_simp
                                   with_reducible rfl
                                 rotate_left
                                 · simp only [Act.put, aput]
                                   rfl
                                 refine pure_ (i := 19) (N := some 71) (v := ?_) (a' := ?_) (bm 35 622591) rfl rfl (any_of HT_.out (by kernel_rfl)) (fun _ _ _ h => h) (Or.inl ⟨by rfl, ?_⟩) ?_ ?_
                                 rotate_left
                                 · intro w'
                                   go_simp
                                   with_reducible rfl
                                 rotate_left
                                 · simp only [Act.put, aput]
                                   rfl
                                 refine pure_ (i := 20) (N := some 72) (v := ?_) (a' := ?_) (bm 35 1671167) rfl rfl (any_of HT_.out (by kernel_rfl)) (fun _ _ _ h => h) (Or.inl ⟨by rfl, ?_⟩) ?_ ?_
                                 rotate_left
                                 · intro w'
                                   go_simp
                                   with_reducible rfl
                                 rotate_left
                                 · simp only [Act.put, aput]
                                   rfl
                                 refine pure_ (i := 21) (N := some 73) (v := ?_) (a' := ?_) (bm 35 3768319) rfl rfl (any_of HT_.out (by kernel_rfl)) (fun _ _ _ h => h) (Or.inl ⟨by rfl, ?_⟩) ?_ ?_
                                 rotate_left
                                 · intro w'
                                   go_simp
                                   with_reducible rfl
                                 rotate_left
                                 · simp only [Act.put, aput]
                                   rfl
                                 refine one_ (i := 15) (N := some 67) (bm 35 3801087) rfl rfl (one_of HT_.out (by kernel_rfl)) (by decide) (fun K hK => ?_)
                                 refine goes_ Tryd.func30 (by kernel_rfl) rfl #[.int .u64 a0] (by rfl) rfl rfl (by (try simp only [List.map_toArray, List.map_cons, List.map_nil]); first | done | rfl | (simp only [List.length_drop, List.length_take]; rfl)) ?_
                                 with_reducible refine (phdr_TypeName.calls a0 t176 _ ?side1 ?side2 A58.out).mono ?_
                                 (case side1 => exact Laid_phdrn.below HLD_phdrn.out (by repeat (first | (with_reducible first | exact HB.out | apply below_alloc | apply pw_below_drewN | apply below_drew1) | exact HB.out)))
                                 (case side2 => exact Laid_strconv.below HLD_strconv.out (by repeat (first | (with_reducible first | exact HB.out | apply below_alloc | apply pw_below_drewN | apply below_drew1) | exact HB.out)))
                                 rintro e w73 ⟨rfl, hb⟩
                                 refine ⟨_, rfl, ?_⟩
                                 have n0_ := aS (Mk.R_below (by (with_reducible repeat (first | apply Mk.R_alloc | apply Mk.R_drewN | apply Mk.R_drew)); exact HO_6.out) hb)
                                 have n1_ := aS (below_step (by repeat (first | (with_reducible first | exact HB.out | apply below_alloc | apply pw_below_drewN | apply below_drew1) | exact HB.out)) hb)
                                 clear HO_6
                                 clear HB
                                 have HO_6 := n0_
                                 have HB := n1_
                                 clear n0_ n1_
                                 (try clear hb)
                                 (try clear hb2)
                                 (try clear hk)
                                 (try clear hi)
                                 refine hK.out _ _ (Mk.own_string (P := Tryd.prog) Tryd.underlying62 Tryd.underlying5 Tryd.underlying9 HO_6.out) (fun hHeld => ?_)
                                 clear hK K
                                 refine norm_ (a' := ?_) ?_ ?_
                                 rotate_left
                                 · show Act.put _ (some 67) _ = _
                                   simp only [Act.put, aput]
                                   rfl
                                 refine one_ (i := 17) (N := some 69) (bm 35 3932159) rfl rfl (one_of HT_.out (by kernel_rfl)) (by decide) (fun K hK => ?_)
                                 refine goes_ Tryd.func30 (by kernel_rfl) rfl #[.int .u64 a1] (by rfl) rfl rfl (by (try simp only [List.map_toArray, List.map_cons, List.map_nil]); first | done | rfl | (simp only [List.length_drop, List.length_take]; rfl)) ?_
                                 with_reducible refine (phdr_TypeName.calls a1 t177 _ ?side1 ?side2 A59.out).mono ?_
                                 (case side1 => exact Laid_phdrn.below HLD_phdrn.out (by repeat (first | (with_reducible first | exact HB.out | apply below_alloc | apply pw_below_drewN | apply below_drew1) | exact HB.out)))
                                 (case side2 => exact Laid_strconv.below HLD_strconv.out (by repeat (first | (with_reducible first | exact HB.out | apply below_alloc | apply pw_below_drewN | apply below_drew1) | exact HB.out)))
                                 rintro e w74 ⟨rfl, hb⟩
                                 refine ⟨_, rfl, ?_⟩
                                 have n0_ := aS (Mk.R_below (by (with_reducible repeat (first | apply Mk.R_alloc | apply Mk.R_drewN | apply Mk.R_drew)); exact HO_6.out) hb)
                                 have n1_ := aS (below_step (by repeat (first | (with_reducible first | exact HB.out | apply below_alloc | apply pw_below_drewN | apply below_drew1) | exact HB.out)) hb)
                                 clear HO_6
                                 clear HB
                                 have HO_6 := n0_
                                 have HB := n1_
                                 clear n0_ n1_
                                 (try clear hb)
                                 (try clear hb2)
                                 (try clear hk)
                                 (try clear hi)
                                 refine hK.out _ _ (Mk.own_string (P := Tryd.prog) Tryd.underlying62 Tryd.underlying5 Tryd.underlying9 HO_6.out) (fun hHeld => ?_)
                                 clear hK K
                                 refine norm_ (a' := ?_) ?_ ?_
                                 rotate_left
                                 · show Act.put _ (some 69) _ = _
                                   simp only [Act.put, aput]
                                   rfl
                                 refine pure_ (i := 18) (N := some 70) (v := ?_) (a' := ?_) (bm 35 4194303) rfl rfl (any_of HT_.out (by kernel_rfl)) (fun _ _ _ h => h) (Or.inl ⟨by rfl, ?_⟩) ?_ ?_
                                 rotate_left
                                 · intro w'
                                   go_simp
                                   with_reducible rfl
                                 rotate_left
                                 · simp only [Act.put, aput]
                                   rfl
                                 refine pure_ (i := 22) (N := some 74) (v := ?_) (a' := ?_) (bm 35 8388607) rfl rfl (any_of HT_.out (by kernel_rfl)) (fun _ _ _ h => h) (Or.inl ⟨by rfl, ?_⟩) ?_ ?_
                                 rotate_left
                                 · intro w'
                                   go_simp
                                   with_reducible rfl
                                 rotate_left
                                 · simp only [Act.put, aput]
                                   rfl
                                 refine pure_ (i := 23) (N := some 75) (v := ?_) (a' := ?_) (bm 35 16777215) rfl rfl (any_of HT_.out (by kernel_rfl)) (fun _ _ _ h => h) (Or.inl ⟨by rfl, ?_⟩) ?_ ?_
                                 rotate_left
                                 · intro w'
                                   go_simp
                                   with_reducible rfl
                                 rotate_left
                                 · simp only [Act.put, aput]
                                   rfl
                                 refine pure_ (i := 24) (N := some 76) (v := ?_) (a' := ?_) (bm 35 33554431) rfl rfl (any_of HT_.out (by kernel_rfl)) (fun _ _ _ h => h) (Or.inl ⟨by rfl, ?_⟩) ?_ ?_
                                 rotate_left
                                 · intro w'
                                   go_simp
                                   with_reducible rfl
                                 rotate_left
                                 · simp only [Act.put, aput]
                                   rfl
                                 refine pure_ (i := 25) (N := some 77) (v := ?_) (a' := ?_) (bm 35 67108863) rfl rfl (any_of HT_.out (by kernel_rfl)) (fun _ _ _ h => h) (Or.inl ⟨by rfl, ?_⟩) ?_ ?_
                                 rotate_left
                                 · intro w'
                                   go_simp
                                   with_reducible rfl
                                 rotate_left
                                 · simp only [Act.put, aput]
                                   rfl
                                 refine pure_ (i := 26) (N := some 78) (v := ?_) (a' := ?_) (bm 35 134217727) rfl rfl (any_of HT_.out (by kernel_rfl)) (fun _ _ _ h => h) (Or.inl ⟨by rfl, ?_⟩) ?_ ?_
                                 rotate_left
                                 · intro w'
                                   go_simp
                                   with_reducible rfl
                                 rotate_left
                                 · simp only [Act.put, aput]
                                   rfl
                                 refine pure_ (i := 29) (N := some 81) (v := ?_) (a' := ?_) (bm 35 671088639) rfl rfl (any_of HT_.out (by kernel_rfl)) (fun _ _ _ h => h) (Or.inl ⟨by rfl, ?_⟩) ?_ ?_
                                 rotate_left
                                 · intro w'
                                   go_simp
                                   with_reducible rfl
                                 rotate_left
                                 · simp only [Act.put, aput]
                                   rfl
                                 refine pure_ (i := 30) (N := some 82) (v := ?_) (a' := ?_) (bm 35 1744830463) rfl rfl (any_of HT_.out (by kernel_rfl)) (fun _ _ _ h => h) (Or.inl ⟨by rfl, ?_⟩) ?_ ?_
                                 rotate_left
                                 · intro w'
                                   go_simp
                                   with_reducible rfl
                                 rotate_left
                                 · simp only [Act.put, aput]
                                   rfl
                                 refine pure_ (i := 31) (N := some 83) (v := ?_) (a' := ?_) (bm 35 3892314111) rfl rfl (any_of HT_.out (by kernel_rfl)) (fun _ _ _ h => h) (Or.inl ⟨by rfl, ?_⟩) ?_ ?_
                                 rotate_left
                                 · intro w'
                                   go_simp
                                   with_reducible rfl
                                 rotate_left
                                 · simp only [Act.put, aput]
                                   rfl
                                 refine one_ (i := 27) (N := some 79) (bm 35 4026531839) rfl rfl (one_of HT_.out (by kernel_rfl)) (by decide) (fun K hK => ?_)
                                 refine goes_ Tryd.func31 (by kernel_rfl) rfl #[.int .u64 a1] (by rfl) rfl rfl (by (try simp only [List.map_toArray, List.map_cons, List.map_nil]); first | done | rfl | (simp only [List.length_drop, List.length_take]; rfl)) ?_
                                 with_reducible refine (phdr_Letters.calls k2 a1 t178 _ ?side1 A62.out).mono ?_
                                 (case side1 => exact Laid_strconv.below HLD_strconv.out (by repeat (first | (with_reducible first | exact HB.out | apply below_alloc | apply pw_below_drewN | apply below_drew1) | exact HB.out)))
                                 rintro e w75 ⟨rfl, hb⟩
                                 refine ⟨_, rfl, ?_⟩
                                 have n0_ := aS (Mk.R_below (by (with_reducible repeat (first | apply Mk.R_alloc | apply Mk.R_drewN | apply Mk.R_drew)); exact HO_6.out) hb)
                                 have n1_ := aS (below_step (by repeat (first | (with_reducible first | exact HB.out | apply below_alloc | apply pw_below_drewN | apply below_drew1) | exact HB.out)) hb)
                                 clear HO_6
                                 clear HB
                                 have HO_6 := n0_
                                 have HB := n1_
                                 clear n0_ n1_
                                 (try clear hb)
                                 (try clear hb2)
                                 (try clear hk)
                                 (try clear hi)
                                 refine hK.out _ _ (Mk.own_string (P := Tryd.prog) Tryd.underlying62 Tryd.underlying5 Tryd.underlying9 HO_6.out) (fun hHeld => ?_)
                                 clear hK K
                                 refine norm_ (a' := ?_) ?_ ?_
                                 rotate_left
                                 · show Act.put _ (some 79) _ = _
                                   simp only [Act.put, aput]
                                   rfl
                                 refine pure_ (i := 28) (N := some 80) (v := ?_) (a' := ?_) (bm 35 4294967295) rfl rfl (any_of HT_.out (by kernel_rfl)) (fun _ _ _ h => h) (Or.inl ⟨by rfl, ?_⟩) ?_ ?_
                                 rotate_left
                                 · intro w'
                                   go_simp
                                   with_reducible rfl
                                 rotate_left
                                 · simp only [Act.put, aput]
                                   rfl
                                 refine pure_ (i := 32) (N := some 84) (v := ?_) (a' := ?_) (bm 35 8589934591) rfl rfl (any_of HT_.out (by kernel_rfl)) (fun _ _ _ h => h) (Or.inl ⟨by rfl, ?_⟩) ?_ ?_
                                 rotate_left
                                 · intro w'
                                   go_simp
                                   with_reducible rfl
                                 rotate_left
                                 · simp only [Act.put, aput]
                                   rfl
                                 refine pure_ (i := 33) (N := some 85) (v := ?_) (a' := ?_) (bm 35 17179869183) rfl rfl (any_of HT_.out (by kernel_rfl)) (fun _ _ _ h => h) (Or.inl ⟨by rfl, ?_⟩) ?_ ?_
                                 rotate_left
                                 · intro w'
                                   go_simp
                                   with_reducible rfl
                                 rotate_left
                                 · simp only [Act.put, aput]
                                   rfl
                                 refine pure_ (i := 34) (N := some 4) (v := ?_) (a' := ?_) (bm 35 34359738367) rfl rfl (any_of HT_.out (by kernel_rfl)) (fun _ _ _ h => h) (Or.inl ⟨by rfl, ?_⟩) ?_ ?_
                                 rotate_left
                                 · intro w'
                                   go_simp
                                   with_reducible rfl
                                 rotate_left
                                 · simp only [Act.put, aput]
                                   rfl
                                 refine done_ (done_of HT_.out (by kernel_rfl)) ?_
                                 try go_wp2
                                 go_ret
                                 exact ⟨by first | rfl | (simp [errW_none, errW_some] <;> rfl) | (simp [*, errW_none, errW_some] <;> rfl), by repeat (first | (with_reducible first | exact HB.out | apply below_alloc | apply pw_below_drewN | apply below_drew1) | exact HB.out)⟩
                             · rw [if_neg c61] at H
                               have c61b0 : (a0 == a1) = false := beq_eq_false_iff_ne.mpr c61
                               have c61b1 : (a0 != a1) = true := bne_iff_ne.mpr c61
                               exact absurd ((Option.some.inj H).trans HRT.out) (by decide)
                           · rw [if_neg c60] at H
                             have c60b0 : (t176.toList == t177.toList) = false := beq_eq_false_iff_ne.mpr c60
                             have c60b1 : (t176.toList != t177.toList) = true := bne_iff_ne.mpr c60
                             by_cases c76 : a0 = a1
                             · rw [if_pos c76] at H
                               have c76b0 : (a0 == a1) = true := beq_iff_eq.mpr c76
                               have c76b1 : (a0 != a1) = false := bne_eq_false_iff_eq.mpr c76
                               clear c76
                               exact absurd ((Option.some.inj H).trans HRT.out) (by decide)
                             · rw [if_neg c76] at H
                               have c76b0 : (a0 == a1) = false := beq_eq_false_iff_ne.mpr c76
                               have c76b1 : (a0 != a1) = true := bne_iff_ne.mpr c76
                               (try simp only [c76b0] at H)
                               (try rw [c76b0] at A51)
                               (try rw [c76b0] at A58)
                               (try rw [c76b0] at A59)
                               replace H := Option.bind_eq_some_iff.mp H
                               obtain ⟨t179, A770, H⟩ := H
                               replace H : (if t175.toList = t179.toList then (some false) else (some (!false))) = some r := H
                               have A77 := aS A770
                               clear A770
                               by_cases c78 : t175.toList = t179.toList
                               · rw [if_pos c78] at H
                                 have c78b0 : (t175.toList == t179.toList) = true := beq_iff_eq.mpr c78
                                 have c78b1 : (t175.toList != t179.toList) = false := bne_eq_false_iff_eq.mpr c78
                                 clear c78
                                 exact absurd ((Option.some.inj H).trans HRT.out) (by decide)
                               · rw [if_neg c78] at H
                                 have c78b0 : (t175.toList == t179.toList) = false := beq_eq_false_iff_ne.mpr c78
                                 have c78b1 : (t175.toList != t179.toList) = true := bne_iff_ne.mpr c78
                                 obtain rfl := Option.some.inj H
                                 try go_wp2_with (first | ((with_reducible refine gate_callee (f := 31) rfl ?_); refine goesL_ (some 51) rfl rfl Tryd.func31 (by kernel_rfl) rfl #[.int .u64 a0] rfl (by (try simp only [List.map_toArray, List.map_cons, List.map_nil]); first | done | rfl | (simp only [List.length_drop, List.length_take]; rfl)) ?_; (with_reducible refine (phdr_Letters.calls k2 a0 t175 _ ?side1 A51.out).mono ?_); (case side1 => exact Laid_strconv.below HLD_strconv.out (by repeat (first | (with_reducible first | exact HB.out | apply below_alloc | apply pw_below_drewN | apply below_drew1) | exact HB.out))); rintro e w79 ⟨rfl, hb⟩; refine ⟨_, rfl, ?_⟩; have n0_ := aS (Mk.R_below (by (with_reducible repeat (first | apply Mk.R_alloc | apply Mk.R_drewN | apply Mk.R_drew)); exact HO_6.out) hb); have n1_ := aS (below_step (by repeat (first | (with_reducible first | exact HB.out | apply below_alloc | apply pw_below_drewN | apply below_drew1) | exact HB.out)) hb); clear HO_6; clear HB; have HO_6 := n0_; have HB := n1_; clear n0_ n1_; (try clear hb); (try clear hb2); (try clear hk); (try clear hi)))
                                 have n0_ := aS (Mk.R_drew HO_6.out)
                                 have n1_ := aS (below_drew1 HB.out)
                                 clear HO_6
                                 clear HB
                                 have HO_6 := n0_
                                 have HB := n1_
                                 clear n0_ n1_
                                 have hcv81 := Mk.own_string (P := Tryd.prog) Tryd.underlying62 Tryd.underlying5 Tryd.underlying9 HO_6.out
                                 refine start_ (n := 35) (S := fun w' => (convert 62 9 _).run Tryd.prog w' = .ok (.string (strOfNums _)) w') (ds := []) #[false, false, false, false, false, false, false, false, false, false, false, false, false, false, false, false, false, false, false, false, false, false, false, false, false, false, false, false, false, false, false, false, false, false, false] (by kernel_rfl) rfl rfl hcv81 (fun hHeld => ?_); refine with_tabW graverlaw07_PhdrWords.tab13 graverlaw07_PhdrWords.bits13 (fun HT_ HW_ => ?_)
                                 generalize w79.drew = w80 at HO_6 HB hHeld ⊢
                                 refine pure_ (i := 0) (N := some 52) (v := ?_) (a' := ?_) (bm 35 1) rfl rfl (any_of HT_.out (by kernel_rfl)) (fun _ _ _ h => h) (Or.inl ⟨by rfl, ?_⟩) ?_ ?_
                                 rotate_left
                                 · intro w'
                                   go_simp
                                   with_reducible rfl
                                 rotate_left
                                 · simp only [Act.put, aput]
                                   rfl
                                 refine pure_ (i := 1) (N := some 53) (v := ?_) (a' := ?_) (bm 35 3) rfl rfl (any_of HT_.out (by kernel_rfl)) (fun _ _ _ h => h) (Or.inl ⟨by rfl, ?_⟩) ?_ ?_
                                 rotate_left
                                 · intro w'
                                   go_simp
                                   with_reducible rfl
                                 rotate_left
                                 · simp only [Act.put, aput]
                                   rfl
                                 refine pure_ (i := 2) (N := some 54) (v := ?_) (a' := ?_) (bm 35 7) rfl rfl (any_of HT_.out (by kernel_rfl)) (fun _ _ _ h => h) (Or.inl ⟨by rfl, ?_⟩) ?_ ?_
                                 rotate_left
                                 · intro w'
                                   go_simp
                                   with_reducible rfl
                                 rotate_left
                                 · simp only [Act.put, aput]
                                   rfl
                                 refine take_ (i := 3) (N := some 55) (v := ?_) (a' := ?_) (bm 35 15) rfl rfl (take_ofW HT_.out HW_.out (by kernel_rfl)) (fun _ _ _ h => h) (Or.inl ⟨by rfl, ?_⟩) hHeld ?_ ?_
                                 rotate_left
                                 · intro w' s0
                                   go_simp
                                   with_reducible rfl
                                 rotate_left
                                 · simp only [Act.put, aput]
                                   rfl
                                 refine pure_ (i := 4) (N := some 56) (v := ?_) (a' := ?_) (bm 35 31) rfl rfl (any_of HT_.out (by kernel_rfl)) (fun _ _ _ h => h) (Or.inl ⟨by rfl, ?_⟩) ?_ ?_
                                 rotate_left
                                 · intro w'
                                   go_simp
                                   with_reducible rfl
                                 rotate_left
                                 · simp only [Act.put, aput]
                                   rfl
                                 refine pure_ (i := 5) (N := some 57) (v := ?_) (a' := ?_) (bm 35 63) rfl rfl (any_of HT_.out (by kernel_rfl)) (fun _ _ _ h => h) (Or.inl ⟨by rfl, ?_⟩) ?_ ?_
                                 rotate_left
                                 · intro w'
                                   go_simp
                                   with_reducible rfl
                                 rotate_left
                                 · simp only [Act.put, aput]
                                   rfl
                                 refine pure_ (i := 6) (N := some 58) (v := ?_) (a' := ?_) (bm 35 127) rfl rfl (any_of HT_.out (by kernel_rfl)) (fun _ _ _ h => h) (Or.inl ⟨by rfl, ?_⟩) ?_ ?_
                                 rotate_left
                                 · intro w'
                                   go_simp
                                   with_reducible rfl
                                 rotate_left
                                 · simp only [Act.put, aput]
                                   rfl
                                 refine pure_ (i := 7) (N := some 59) (v := ?_) (a' := ?_) (bm 35 255) rfl rfl (any_of HT_.out (by kernel_rfl)) (fun _ _ _ h => h) (Or.inl ⟨by rfl, ?_⟩) ?_ ?_
                                 rotate_left
                                 · intro w'
                                   go_simp
                                   with_reducible rfl
                                 rotate_left
                                 · simp only [Act.put, aput]
                                   rfl
                                 refine pure_ (i := 8) (N := some 60) (v := ?_) (a' := ?_) (bm 35 511) rfl rfl (any_of HT_.out (by kernel_rfl)) (fun _ _ _ h => h) (Or.inl ⟨by rfl, ?_⟩) ?_ ?_
                                 rotate_left
                                 · intro w'
                                   go_simp
                                   with_reducible rfl
                                 rotate_left
                                 · simp only [Act.put, aput]
                                   rfl
                                 refine pure_ (i := 9) (N := some 61) (v := ?_) (a' := ?_) (bm 35 1023) rfl rfl (any_of HT_.out (by kernel_rfl)) (fun _ _ _ h => h) (Or.inl ⟨by rfl, ?_⟩) ?_ ?_
                                 rotate_left
                                 · intro w'
                                   go_simp
                                   with_reducible rfl
                                 rotate_left
                                 · simp only [Act.put, aput]
                                   rfl
                                 refine pure_ (i := 10) (N := some 62) (v := ?_) (a' := ?_) (bm 35 2047) rfl rfl (any_of HT_.out (by kernel_rfl)) (fun _ _ _ h => h) (Or.inl ⟨by rfl, ?_⟩) ?_ ?_
                                 rotate_left
                                 · intro w'
                                   go_simp
                                   with_reducible rfl
                                 rotate_left
                                 · simp only [Act.put, aput]
                                   rfl
                                 refine pure_ (i := 11) (N := some 63) (v := ?_) (a' := ?_) (bm 35 4095) rfl rfl (any_of HT_.out (by kernel_rfl)) (fun _ _ _ h => h) (Or.inl ⟨by rfl, ?_⟩) ?_ ?_
                                 rotate_left
                                 · intro w'
                                   go_simp
                                   with_reducible rfl
                                 rotate_left
                                 · simp only [Act.put, aput]
                                   rfl
                                 refine pure_ (i := 12) (N := some 64) (v := ?_) (a' := ?_) (bm 35 8191) rfl rfl (any_of HT_.out (by kernel_rfl)) (fun _ _ _ h => h) (Or.inl ⟨by rfl, ?_⟩) ?_ ?_
                                 rotate_left
                                 · intro w'
                                   go_simp
                                   with_reducible rfl
                                 rotate_left
                                 · simp only [Act.put, aput]
                                   rfl
                                 refine pure_ (i := 13) (N := some 65) (v := ?_) (a' := ?_) (bm 35 16383) rfl rfl (any_of HT_.out (by kernel_rfl)) (fun _ _ _ h => h) (Or.inl ⟨by rfl, ?_⟩) ?_ ?_
                                 rotate_left
                                 · intro w'
                                   go_simp
                                   with_reducible rfl
                                 rotate_left
                                 · simp only [Act.put, aput]
                                   rfl
                                 refine pure_ (i := 14) (N := some 66) (v := ?_) (a' := ?_) (bm 35 32767) rfl rfl (any_of HT_.out (by kernel_rfl)) (fun _ _ _ h => h) (Or.inl ⟨by rfl, ?_⟩) ?_ ?_
                                 rotate_left
                                 · intro w'
                                   go_simp
                                   with_reducible rfl
                                 rotate_left
                                 · simp only [Act.put, aput]
                                   rfl
                                 refine pure_ (i := 16) (N := some 68) (v := ?_) (a' := ?_) (bm 35 98303) rfl rfl (any_of HT_.out (by kernel_rfl)) (fun _ _ _ h => h) (Or.inl ⟨by rfl, ?_⟩) ?_ ?_
                                 rotate_left
                                 · intro w'
                                   go_simp
                                   with_reducible rfl
                                 rotate_left
                                 · simp only [Act.put, aput]
                                   rfl
                                 refine pure_ (i := 19) (N := some 71) (v := ?_) (a' := ?_) (bm 35 622591) rfl rfl (any_of HT_.out (by kernel_rfl)) (fun _ _ _ h => h) (Or.inl ⟨by rfl, ?_⟩) ?_ ?_
                                 rotate_left
                                 · intro w'
                                   go_simp
                                   with_reducible rfl
                                 rotate_left
                                 · simp only [Act.put, aput]
                                   rfl
                                 refine pure_ (i := 20) (N := some 72) (v := ?_) (a' := ?_) (bm 35 1671167) rfl rfl (any_of HT_.out (by kernel_rfl)) (fun _ _ _ h => h) (Or.inl ⟨by rfl, ?_⟩) ?_ ?_
                                 rotate_left
                                 · intro w'
                                   go_simp
                                   with_reducible rfl
                                 rotate_left
                                 · simp only [Act.put, aput]
                                   rfl
                                 refine pure_ (i := 21) (N := some 73) (v := ?_) (a' := ?_) (bm 35 3768319) rfl rfl (any_of HT_.out (by kernel_rfl)) (fun _ _ _ h => h) (Or.inl ⟨by rfl, ?_⟩) ?_ ?_
                                 rotate_left
                                 · intro w'
                                   go_simp
                                   with_reducible rfl
                                 rotate_left
                                 · simp only [Act.put, aput]
                                   rfl
                                 refine one_ (i := 15) (N := some 67) (bm 35 3801087) rfl rfl (one_of HT_.out (by kernel_rfl)) (by decide) (fun K hK => ?_)
                                 refine goes_ Tryd.func30 (by kernel_rfl) rfl #[.int .u64 a0] (by rfl) rfl rfl (by (try simp only [List.map_toArray, List.map_cons, List.map_nil]); first | done | rfl | (simp only [List.length_drop, List.length_take]; rfl)) ?_
                                 with_reducible refine (phdr_TypeName.calls a0 t176 _ ?side1 ?side2 A58.out).mono ?_
                                 (case side1 => exact Laid_phdrn.below HLD_phdrn.out (by repeat (first | (with_reducible first | exact HB.out | apply below_alloc | apply pw_below_drewN | apply below_drew1) | exact HB.out)))
                                 (case side2 => exact Laid_strconv.below HLD_strconv.out (by repeat (first | (with_reducible first | exact HB.out | apply below_alloc | apply pw_below_drewN | apply below_drew1) | exact HB.out)))
                                 rintro e w82 ⟨rfl, hb⟩
                                 refine ⟨_, rfl, ?_⟩
                                 have n0_ := aS (Mk.R_below (by (with_reducible repeat (first | apply Mk.R_alloc | apply Mk.R_drewN | apply Mk.R_drew)); exact HO_6.out) hb)
                                 have n1_ := aS (below_step (by repeat (first | (with_reducible first | exact HB.out | apply below_alloc | apply pw_below_drewN | apply below_drew1) | exact HB.out)) hb)
                                 clear HO_6
                                 clear HB
                                 have HO_6 := n0_
                                 have HB := n1_
                                 clear n0_ n1_
                                 (try clear hb)
                                 (try clear hb2)
                                 (try clear hk)
                                 (try clear hi)
                                 refine hK.out _ _ (Mk.own_string (P := Tryd.prog) Tryd.underlying62 Tryd.underlying5 Tryd.underlying9 HO_6.out) (fun hHeld => ?_)
                                 clear hK K
                                 refine norm_ (a' := ?_) ?_ ?_
                                 rotate_left
                                 · show Act.put _ (some 67) _ = _
                                   simp only [Act.put, aput]
                                   rfl
                                 refine one_ (i := 17) (N := some 69) (bm 35 3932159) rfl rfl (one_of HT_.out (by kernel_rfl)) (by decide) (fun K hK => ?_)
                                 refine goes_ Tryd.func30 (by kernel_rfl) rfl #[.int .u64 a1] (by rfl) rfl rfl (by (try simp only [List.map_toArray, List.map_cons, List.map_nil]); first | done | rfl | (simp only [List.length_drop, List.length_take]; rfl)) ?_
                                 with_reducible refine (phdr_TypeName.calls a1 t177 _ ?side1 ?side2 A59.out).mono ?_
                                 (case side1 => exact Laid_phdrn.below HLD_phdrn.out (by repeat (first | (with_reducible first | exact HB.out | apply below_alloc | apply pw_below_drewN | apply below_drew1) | exact HB.out)))
                                 (case side2 => exact Laid_strconv.below HLD_strconv.out (by repeat (first | (with_reducible first | exact HB.out | apply below_alloc | apply pw_below_drewN | apply below_drew1) | exact HB.out)))
                                 rintro e w83 ⟨rfl, hb⟩
                                 refine ⟨_, rfl, ?_⟩
                                 have n0_ := aS (Mk.R_below (by (with_reducible repeat (first | apply Mk.R_alloc | apply Mk.R_drewN | apply Mk.R_drew)); exact HO_6.out) hb)
                                 have n1_ := aS (below_step (by repeat (first | (with_reducible first | exact HB.out | apply below_alloc | apply pw_below_drewN | apply below_drew1) | exact HB.out)) hb)
                                 clear HO_6
                                 clear HB
                                 have HO_6 := n0_
                                 have HB := n1_
                                 clear n0_ n1_
                                 (try clear hb)
                                 (try clear hb2)
                                 (try clear hk)
                                 (try clear hi)
                                 refine hK.out _ _ (Mk.own_string (P := Tryd.prog) Tryd.underlying62 Tryd.underlying5 Tryd.underlying9 HO_6.out) (fun hHeld => ?_)
                                 clear hK K
                                 refine norm_ (a' := ?_) ?_ ?_
                                 rotate_left
                                 · show Act.put _ (some 69) _ = _
                                   simp only [Act.put, aput]
                                   rfl
                                 refine pure_ (i := 18) (N := some 70) (v := ?_) (a' := ?_) (bm 35 4194303) rfl rfl (any_of HT_.out (by kernel_rfl)) (fun _ _ _ h => h) (Or.inl ⟨by rfl, ?_⟩) ?_ ?_
                                 rotate_left
                                 · intro w'
                                   go_simp
                                   with_reducible rfl
                                 rotate_left
                                 · simp only [Act.put, aput]
                                   rfl
                                 refine pure_ (i := 22) (N := some 74) (v := ?_) (a' := ?_) (bm 35 8388607) rfl rfl (any_of HT_.out (by kernel_rfl)) (fun _ _ _ h => h) (Or.inl ⟨by rfl, ?_⟩) ?_ ?_
                                 rotate_left
                                 · intro w'
                                   go_simp
                                   with_reducible rfl
                                 rotate_left
                                 · simp only [Act.put, aput]
                                   rfl
                                 refine pure_ (i := 23) (N := some 75) (v := ?_) (a' := ?_) (bm 35 16777215) rfl rfl (any_of HT_.out (by kernel_rfl)) (fun _ _ _ h => h) (Or.inl ⟨by rfl, ?_⟩) ?_ ?_
                                 rotate_left
                                 · intro w'
                                   go_simp
                                   with_reducible rfl
                                 rotate_left
                                 · simp only [Act.put, aput]
                                   rfl
                                 refine pure_ (i := 24) (N := some 76) (v := ?_) (a' := ?_) (bm 35 33554431) rfl rfl (any_of HT_.out (by kernel_rfl)) (fun _ _ _ h => h) (Or.inl ⟨by rfl, ?_⟩) ?_ ?_
                                 rotate_left
                                 · intro w'
                                   go_simp
                                   with_reducible rfl
                                 rotate_left
                                 · simp only [Act.put, aput]
                                   rfl
                                 refine pure_ (i := 25) (N := some 77) (v := ?_) (a' := ?_) (bm 35 67108863) rfl rfl (any_of HT_.out (by kernel_rfl)) (fun _ _ _ h => h) (Or.inl ⟨by rfl, ?_⟩) ?_ ?_
                                 rotate_left
                                 · intro w'
                                   go_simp
                                   with_reducible rfl
                                 rotate_left
                                 · simp only [Act.put, aput]
                                   rfl
                                 refine pure_ (i := 26) (N := some 78) (v := ?_) (a' := ?_) (bm 35 134217727) rfl rfl (any_of HT_.out (by kernel_rfl)) (fun _ _ _ h => h) (Or.inl ⟨by rfl, ?_⟩) ?_ ?_
                                 rotate_left
                                 · intro w'
                                   go_simp
                                   with_reducible rfl
                                 rotate_left
                                 · simp only [Act.put, aput]
                                   rfl
                                 refine pure_ (i := 29) (N := some 81) (v := ?_) (a' := ?_) (bm 35 671088639) rfl rfl (any_of HT_.out (by kernel_rfl)) (fun _ _ _ h => h) (Or.inl ⟨by rfl, ?_⟩) ?_ ?_
                                 rotate_left
                                 · intro w'
                                   go_simp
                                   with_reducible rfl
                                 rotate_left
                                 · simp only [Act.put, aput]
                                   rfl
                                 refine pure_ (i := 30) (N := some 82) (v := ?_) (a' := ?_) (bm 35 1744830463) rfl rfl (any_of HT_.out (by kernel_rfl)) (fun _ _ _ h => h) (Or.inl ⟨by rfl, ?_⟩) ?_ ?_
                                 rotate_left
                                 · intro w'
                                   go_simp
                                   with_reducible rfl
                                 rotate_left
                                 · simp only [Act.put, aput]
                                   rfl
                                 refine pure_ (i := 31) (N := some 83) (v := ?_) (a' := ?_) (bm 35 3892314111) rfl rfl (any_of HT_.out (by kernel_rfl)) (fun _ _ _ h => h) (Or.inl ⟨by rfl, ?_⟩) ?_ ?_
                                 rotate_left
                                 · intro w'
                                   go_simp
                                   with_reducible rfl
                                 rotate_left
                                 · simp only [Act.put, aput]
                                   rfl
                                 refine one_ (i := 27) (N := some 79) (bm 35 4026531839) rfl rfl (one_of HT_.out (by kernel_rfl)) (by decide) (fun K hK => ?_)
                                 refine goes_ Tryd.func31 (by kernel_rfl) rfl #[.int .u64 a1] (by rfl) rfl rfl (by (try simp only [List.map_toArray, List.map_cons, List.map_nil]); first | done | rfl | (simp only [List.length_drop, List.length_take]; rfl)) ?_
                                 with_reducible refine (phdr_Letters.calls k2 a1 t179 _ ?side1 A77.out).mono ?_
                                 (case side1 => exact Laid_strconv.below HLD_strconv.out (by repeat (first | (with_reducible first | exact HB.out | apply below_alloc | apply pw_below_drewN | apply below_drew1) | exact HB.out)))
                                 rintro e w84 ⟨rfl, hb⟩
                                 refine ⟨_, rfl, ?_⟩
                                 have n0_ := aS (Mk.R_below (by (with_reducible repeat (first | apply Mk.R_alloc | apply Mk.R_drewN | apply Mk.R_drew)); exact HO_6.out) hb)
                                 have n1_ := aS (below_step (by repeat (first | (with_reducible first | exact HB.out | apply below_alloc | apply pw_below_drewN | apply below_drew1) | exact HB.out)) hb)
                                 clear HO_6
                                 clear HB
                                 have HO_6 := n0_
                                 have HB := n1_
                                 clear n0_ n1_
                                 (try clear hb)
                                 (try clear hb2)
                                 (try clear hk)
                                 (try clear hi)
                                 refine hK.out _ _ (Mk.own_string (P := Tryd.prog) Tryd.underlying62 Tryd.underlying5 Tryd.underlying9 HO_6.out) (fun hHeld => ?_)
                                 clear hK K
                                 refine norm_ (a' := ?_) ?_ ?_
                                 rotate_left
                                 · show Act.put _ (some 79) _ = _
                                   simp only [Act.put, aput]
                                   rfl
                                 refine pure_ (i := 28) (N := some 80) (v := ?_) (a' := ?_) (bm 35 4294967295) rfl rfl (any_of HT_.out (by kernel_rfl)) (fun _ _ _ h => h) (Or.inl ⟨by rfl, ?_⟩) ?_ ?_
                                 rotate_left
                                 · intro w'
                                   go_simp
                                   with_reducible rfl
                                 rotate_left
                                 · simp only [Act.put, aput]
                                   rfl
                                 refine pure_ (i := 32) (N := some 84) (v := ?_) (a' := ?_) (bm 35 8589934591) rfl rfl (any_of HT_.out (by kernel_rfl)) (fun _ _ _ h => h) (Or.inl ⟨by rfl, ?_⟩) ?_ ?_
                                 rotate_left
                                 · intro w'
                                   go_simp
                                   with_reducible rfl
                                 rotate_left
                                 · simp only [Act.put, aput]
                                   rfl
                                 refine pure_ (i := 33) (N := some 85) (v := ?_) (a' := ?_) (bm 35 17179869183) rfl rfl (any_of HT_.out (by kernel_rfl)) (fun _ _ _ h => h) (Or.inl ⟨by rfl, ?_⟩) ?_ ?_
                                 rotate_left
                                 · intro w'
                                   go_simp
                                   with_reducible rfl
                                 rotate_left
                                 · simp only [Act.put, aput]
                                   rfl
                                 refine pure_ (i := 34) (N := some 4) (v := ?_) (a' := ?_) (bm 35 34359738367) rfl rfl (any_of HT_.out (by kernel_rfl)) (fun _ _ _ h => h) (Or.inl ⟨by rfl, ?_⟩) ?_ ?_
                                 rotate_left
                                 · intro w'
                                   go_simp
                                   with_reducible rfl
                                 rotate_left
                                 · simp only [Act.put, aput]
                                   rfl
                                 refine done_ (done_of HT_.out (by kernel_rfl)) ?_
                                 try go_wp2
                                 go_ret
                                 exact ⟨by first | rfl | (simp [errW_none, errW_some] <;> rfl) | (simp [*, errW_none, errW_some] <;> rfl), by repeat (first | (with_reducible first | exact HB.out | apply below_alloc | apply pw_below_drewN | apply below_drew1) | exact HB.out)⟩
                         · rw [if_neg c57] at H
                           have c57b0 : decide (7 < a0) = false := decide_eq_false c57
                           clear c57
                           exact absurd ((Option.some.inj H).trans HRT.out) (by decide)
                       · rw [if_neg c56] at H
                         have c56b0 : decide (3 < (t175.size : Int)) = false := decide_eq_false c56
                         have c56b1 : decide (3 < t175.size) = false := decide_eq_false (by omega)
                         clear c56
                         by_cases c85 : a0 > 7
                         · rw [if_pos c85] at H
                           have c85b0 : decide (7 < a0) = true := decide_eq_true c85
                           clear c85
                           exact absurd ((Option.some.inj H).trans HRT.out) (by decide)
                         · rw [if_neg c85] at H
                           have c85b0 : decide (7 < a0) = false := decide_eq_false c85
                           clear c85
                           replace H := Option.bind_eq_some_iff.mp H
                           obtain ⟨t180, A860, H⟩ := H
                           replace H : ((phdr_TypeName.f a1).bind fun t181 => (if t180.toList = t181.toList then (if a0 = a1 then ((phdr_Letters.f k2 a1).bind fun t182 => (if t175.toList = t182.toList then (some (a0 == a1)) else (some (!(a0 == a1))))) else (some false)) else (if a0 = a1 then (some false) else ((phdr_Letters.f k2 a1).bind fun t183 => (if t175.toList = t183.toList then (some (a0 == a1)) else (some (!(a0 == a1)))))))) = some r := H
                           have A86 := aS A860
                           clear A860
                           replace H := Option.bind_eq_some_iff.mp H
                           obtain ⟨t181, A870, H⟩ := H
                           replace H : (if t180.toList = t181.toList then (if a0 = a1 then ((phdr_Letters.f k2 a1).bind fun t182 => (if t175.toList = t182.toList then (some (a0 == a1)) else (some (!(a0 == a1))))) else (some false)) else (if a0 = a1 then (some false) else ((phdr_Letters.f k2 a1).bind fun t183 => (if t175.toList = t183.toList then (some (a0 == a1)) else (some (!(a0 == a1))))))) = some r := H
                           have A87 := aS A870
                           clear A870
                           by_cases c88 : t180.toList = t181.toList
                           · rw [if_pos c88] at H
                             have c88b0 : (t180.toList == t181.toList) = true := beq_iff_eq.mpr c88
                             have c88b1 : (t180.toList != t181.toList) = false := bne_eq_false_iff_eq.mpr c88
                             clear c88
                             by_cases c89 : a0 = a1
                             · rw [if_pos c89] at H
                               have c89b0 : (a0 == a1) = true := beq_iff_eq.mpr c89
                               have c89b1 : (a0 != a1) = false := bne_eq_false_iff_eq.mpr c89
                               clear c89
                               (try simp only [c89b0] at H)
                               (try rw [c89b0] at A51)
                               (try rw [c89b0] at A86)
                               (try rw [c89b0] at A87)
                               replace H := Option.bind_eq_some_iff.mp H
                               obtain ⟨t182, A900, H⟩ := H
                               replace H : (if t175.toList = t182.toList then (some true) else (some (!true))) = some r := H
                               have A90 := aS A900
                               clear A900
                               by_cases c91 : t175.toList = t182.toList
                               · rw [if_pos c91] at H
                                 have c91b0 : (t175.toList == t182.toList) = true := beq_iff_eq.mpr c91
                                 have c91b1 : (t175.toList != t182.toList) = false := bne_eq_false_iff_eq.mpr c91
                                 clear c91
                                 obtain rfl := Option.some.inj H
                                 try go_wp2_with (first | ((with_reducible refine gate_callee (f := 31) rfl ?_); refine goesL_ (some 51) rfl rfl Tryd.func31 (by kernel_rfl) rfl #[.int .u64 a0] rfl (by (try simp only [List.map_toArray, List.map_cons, List.map_nil]); first | done | rfl | (simp only [List.length_drop, List.length_take]; rfl)) ?_; (with_reducible refine (phdr_Letters.calls k2 a0 t175 _ ?side1 A51.out).mono ?_); (case side1 => exact Laid_strconv.below HLD_strconv.out (by repeat (first | (with_reducible first | exact HB.out | apply below_alloc | apply pw_below_drewN | apply below_drew1) | exact HB.out))); rintro e w92 ⟨rfl, hb⟩; refine ⟨_, rfl, ?_⟩; have n0_ := aS (Mk.R_below (by (with_reducible repeat (first | apply Mk.R_alloc | apply Mk.R_drewN | apply Mk.R_drew)); exact HO_6.out) hb); have n1_ := aS (below_step (by repeat (first | (with_reducible first | exact HB.out | apply below_alloc | apply pw_below_drewN | apply below_drew1) | exact HB.out)) hb); clear HO_6; clear HB; have HO_6 := n0_; have HB := n1_; clear n0_ n1_; (try clear hb); (try clear hb2); (try clear hk); (try clear hi)))
                                 have n0_ := aS (Mk.R_drew HO_6.out)
                                 have n1_ := aS (below_drew1 HB.out)
                                 clear HO_6
                                 clear HB
                                 have HO_6 := n0_
                                 have HB := n1_
                                 clear n0_ n1_
                                 have hcv94 := Mk.own_string (P := Tryd.prog) Tryd.underlying62 Tryd.underlying5 Tryd.underlying9 HO_6.out
                                 refine start_ (n := 35) (S := fun w' => (convert 62 9 _).run Tryd.prog w' = .ok (.string (strOfNums _)) w') (ds := []) #[false, false, false, false, false, false, false, false, false, false, false, false, false, false, false, false, false, false, false, false, false, false, false, false, false, false, false, false, false, false, false, false, false, false, false] (by kernel_rfl) rfl rfl hcv94 (fun hHeld => ?_); refine with_tabW graverlaw07_PhdrWords.tab13 graverlaw07_PhdrWords.bits13 (fun HT_ HW_ => ?_)
                                 generalize w92.drew = w93 at HO_6 HB hHeld ⊢
                                 refine pure_ (i := 0) (N := some 52) (v := ?_) (a' := ?_) (bm 35 1) rfl rfl (any_of HT_.out (by kernel_rfl)) (fun _ _ _ h => h) (Or.inl ⟨by rfl, ?_⟩) ?_ ?_
                                 rotate_left
                                 · intro w'
                                   go_simp
                                   with_reducible rfl
                                 rotate_left
                                 · simp only [Act.put, aput]
                                   rfl
                                 refine pure_ (i := 1) (N := some 53) (v := ?_) (a' := ?_) (bm 35 3) rfl rfl (any_of HT_.out (by kernel_rfl)) (fun _ _ _ h => h) (Or.inl ⟨by rfl, ?_⟩) ?_ ?_
                                 rotate_left
                                 · intro w'
                                   go_simp
                                   with_reducible rfl
                                 rotate_left
                                 · simp only [Act.put, aput]
                                   rfl
                                 refine pure_ (i := 2) (N := some 54) (v := ?_) (a' := ?_) (bm 35 7) rfl rfl (any_of HT_.out (by kernel_rfl)) (fun _ _ _ h => h) (Or.inl ⟨by rfl, ?_⟩) ?_ ?_
                                 rotate_left
                                 · intro w'
                                   go_simp
                                   with_reducible rfl
                                 rotate_left
                                 · simp only [Act.put, aput]
                                   rfl
                                 refine take_ (i := 3) (N := some 55) (v := ?_) (a' := ?_) (bm 35 15) rfl rfl (take_ofW HT_.out HW_.out (by kernel_rfl)) (fun _ _ _ h => h) (Or.inl ⟨by rfl, ?_⟩) hHeld ?_ ?_
                                 rotate_left
                                 · intro w' s0
                                   go_simp
                                   with_reducible rfl
                                 rotate_left
                                 · simp only [Act.put, aput]
                                   rfl
                                 refine pure_ (i := 4) (N := some 56) (v := ?_) (a' := ?_) (bm 35 31) rfl rfl (any_of HT_.out (by kernel_rfl)) (fun _ _ _ h => h) (Or.inl ⟨by rfl, ?_⟩) ?_ ?_
                                 rotate_left
                                 · intro w'
                                   go_simp
                                   with_reducible rfl
                                 rotate_left
                                 · simp only [Act.put, aput]
                                   rfl
                                 refine pure_ (i := 5) (N := some 57) (v := ?_) (a' := ?_) (bm 35 63) rfl rfl (any_of HT_.out (by kernel_rfl)) (fun _ _ _ h => h) (Or.inl ⟨by rfl, ?_⟩) ?_ ?_
                                 rotate_left
                                 · intro w'
                                   go_simp
                                   with_reducible rfl
                                 rotate_left
                                 · simp only [Act.put, aput]
                                   rfl
                                 refine pure_ (i := 6) (N := some 58) (v := ?_) (a' := ?_) (bm 35 127) rfl rfl (any_of HT_.out (by kernel_rfl)) (fun _ _ _ h => h) (Or.inl ⟨by rfl, ?_⟩) ?_ ?_
                                 rotate_left
                                 · intro w'
                                   go_simp
                                   with_reducible rfl
                                 rotate_left
                                 · simp only [Act.put, aput]
                                   rfl
                                 refine pure_ (i := 7) (N := some 59) (v := ?_) (a' := ?_) (bm 35 255) rfl rfl (any_of HT_.out (by kernel_rfl)) (fun _ _ _ h => h) (Or.inl ⟨by rfl, ?_⟩) ?_ ?_
                                 rotate_left
                                 · intro w'
                                   go_simp
                                   with_reducible rfl
                                 rotate_left
                                 · simp only [Act.put, aput]
                                   rfl
                                 refine pure_ (i := 8) (N := some 60) (v := ?_) (a' := ?_) (bm 35 511) rfl rfl (any_of HT_.out (by kernel_rfl)) (fun _ _ _ h => h) (Or.inl ⟨by rfl, ?_⟩) ?_ ?_
                                 rotate_left
                                 · intro w'
                                   go_simp
                                   with_reducible rfl
                                 rotate_left
                                 · simp only [Act.put, aput]
                                   rfl
                                 refine pure_ (i := 9) (N := some 61) (v := ?_) (a' := ?_) (bm 35 1023) rfl rfl (any_of HT_.out (by kernel_rfl)) (fun _ _ _ h => h) (Or.inl ⟨by rfl, ?_⟩) ?_ ?_
                                 rotate_left
                                 · intro w'
                                   go_simp
                                   with_reducible rfl
                                 rotate_left
                                 · simp only [Act.put, aput]
                                   rfl
                                 refine pure_ (i := 10) (N := some 62) (v := ?_) (a' := ?_) (bm 35 2047) rfl rfl (any_of HT_.out (by kernel_rfl)) (fun _ _ _ h => h) (Or.inl ⟨by rfl, ?_⟩) ?_ ?_
                                 rotate_left
                                 · intro w'
                                   go_simp
                                   with_reducible rfl
                                 rotate_left
                                 · simp only [Act.put, aput]
                                   rfl
                                 refine pure_ (i := 11) (N := some 63) (v := ?_) (a' := ?_) (bm 35 4095) rfl rfl (any_of HT_.out (by kernel_rfl)) (fun _ _ _ h => h) (Or.inl ⟨by rfl, ?_⟩) ?_ ?_
                                 rotate_left
                                 · intro w'
                                   go_simp
                                   with_reducible rfl
                                 rotate_left
                                 · simp only [Act.put, aput]
                                   rfl
                                 refine pure_ (i := 12) (N := some 64) (v := ?_) (a' := ?_) (bm 35 8191) rfl rfl (any_of HT_.out (by kernel_rfl)) (fun _ _ _ h => h) (Or.inl ⟨by rfl, ?_⟩) ?_ ?_
                                 rotate_left
                                 · intro w'
                                   go_simp
                                   with_reducible rfl
                                 rotate_left
                                 · simp only [Act.put, aput]
                                   rfl
                                 refine pure_ (i := 13) (N := some 65) (v := ?_) (a' := ?_) (bm 35 16383) rfl rfl (any_of HT_.out (by kernel_rfl)) (fun _ _ _ h => h) (Or.inl ⟨by rfl, ?_⟩) ?_ ?_
                                 rotate_left
                                 · intro w'
                                   go_simp
                                   with_reducible rfl
                                 rotate_left
                                 · simp only [Act.put, aput]
                                   rfl
                                 refine pure_ (i := 14) (N := some 66) (v := ?_) (a' := ?_) (bm 35 32767) rfl rfl (any_of HT_.out (by kernel_rfl)) (fun _ _ _ h => h) (Or.inl ⟨by rfl, ?_⟩) ?_ ?_
                                 rotate_left
                                 · intro w'
                                   go_simp
                                   with_reducible rfl
                                 rotate_left
                                 · simp only [Act.put, aput]
                                   rfl
                                 refine pure_ (i := 16) (N := some 68) (v := ?_) (a' := ?_) (bm 35 98303) rfl rfl (any_of HT_.out (by kernel_rfl)) (fun _ _ _ h => h) (Or.inl ⟨by rfl, ?_⟩) ?_ ?_
                                 rotate_left
                                 · intro w'
                                   go_simp
                                   with_reducible rfl
                                 rotate_left
                                 · simp only [Act.put, aput]
                                   rfl
                                 refine pure_ (i := 19) (N := some 71) (v := ?_) (a' := ?_) (bm 35 622591) rfl rfl (any_of HT_.out (by kernel_rfl)) (fun _ _ _ h => h) (Or.inl ⟨by rfl, ?_⟩) ?_ ?_
                                 rotate_left
                                 · intro w'
                                   go_simp
                                   with_reducible rfl
                                 rotate_left
                                 · simp only [Act.put, aput]
                                   rfl
                                 refine pure_ (i := 20) (N := some 72) (v := ?_) (a' := ?_) (bm 35 1671167) rfl rfl (any_of HT_.out (by kernel_rfl)) (fun _ _ _ h => h) (Or.inl ⟨by rfl, ?_⟩) ?_ ?_
                                 rotate_left
                                 · intro w'
                                   go_simp
                                   with_reducible rfl
                                 rotate_left
                                 · simp only [Act.put, aput]
                                   rfl
                                 refine pure_ (i := 21) (N := some 73) (v := ?_) (a' := ?_) (bm 35 3768319) rfl rfl (any_of HT_.out (by kernel_rfl)) (fun _ _ _ h => h) (Or.inl ⟨by rfl, ?_⟩) ?_ ?_
                                 rotate_left
                                 · intro w'
                                   go_simp
                                   with_reducible rfl
                                 rotate_left
                                 · simp only [Act.put, aput]
                                   rfl
                                 refine one_ (i := 15) (N := some 67) (bm 35 3801087) rfl rfl (one_of HT_.out (by kernel_rfl)) (by decide) (fun K hK => ?_)
                                 refine goes_ Tryd.func30 (by kernel_rfl) rfl #[.int .u64 a0] (by rfl) rfl rfl (by (try simp only [List.map_toArray, List.map_cons, List.map_nil]); first | done | rfl | (simp only [List.length_drop, List.length_take]; rfl)) ?_
                                 with_reducible refine (phdr_TypeName.calls a0 t180 _ ?side1 ?side2 A86.out).mono ?_
                                 (case side1 => exact Laid_phdrn.below HLD_phdrn.out (by repeat (first | (with_reducible first | exact HB.out | apply below_alloc | apply pw_below_drewN | apply below_drew1) | exact HB.out)))
                                 (case side2 => exact Laid_strconv.below HLD_strconv.out (by repeat (first | (with_reducible first | exact HB.out | apply below_alloc | apply pw_below_drewN | apply below_drew1) | exact HB.out)))
                                 rintro e w95 ⟨rfl, hb⟩
                                 refine ⟨_, rfl, ?_⟩
                                 have n0_ := aS (Mk.R_below (by (with_reducible repeat (first | apply Mk.R_alloc | apply Mk.R_drewN | apply Mk.R_drew)); exact HO_6.out) hb)
                                 have n1_ := aS (below_step (by repeat (first | (with_reducible first | exact HB.out | apply below_alloc | apply pw_below_drewN | apply below_drew1) | exact HB.out)) hb)
                                 clear HO_6
                                 clear HB
                                 have HO_6 := n0_
                                 have HB := n1_
                                 clear n0_ n1_
                                 (try clear hb)
                                 (try clear hb2)
                                 (try clear hk)
                                 (try clear hi)
                                 refine hK.out _ _ (Mk.own_string (P := Tryd.prog) Tryd.underlying62 Tryd.underlying5 Tryd.underlying9 HO_6.out) (fun hHeld => ?_)
                                 clear hK K
                                 refine norm_ (a' := ?_) ?_ ?_
                                 rotate_left
                                 · show Act.put _ (some 67) _ = _
                                   simp only [Act.put, aput]
                                   rfl
                                 refine one_ (i := 17) (N := some 69) (bm 35 3932159) rfl rfl (one_of HT_.out (by kernel_rfl)) (by decide) (fun K hK => ?_)
                                 refine goes_ Tryd.func30 (by kernel_rfl) rfl #[.int .u64 a1] (by rfl) rfl rfl (by (try simp only [List.map_toArray, List.map_cons, List.map_nil]); first | done | rfl | (simp only [List.length_drop, List.length_take]; rfl)) ?_
                                 with_reducible refine (phdr_TypeName.calls a1 t181 _ ?side1 ?side2 A87.out).mono ?_
                                 (case side1 => exact Laid_phdrn.below HLD_phdrn.out (by repeat (first | (with_reducible first | exact HB.out | apply below_alloc | apply pw_below_drewN | apply below_drew1) | exact HB.out)))
                                 (case side2 => exact Laid_strconv.below HLD_strconv.out (by repeat (first | (with_reducible first | exact HB.out | apply below_alloc | apply pw_below_drewN | apply below_drew1) | exact HB.out)))
                                 rintro e w96 ⟨rfl, hb⟩
                                 refine ⟨_, rfl, ?_⟩
                                 have n0_ := aS (Mk.R_below (by (with_reducible repeat (first | apply Mk.R_alloc | apply Mk.R_drewN | apply Mk.R_drew)); exact HO_6.out) hb)
                                 have n1_ := aS (below_step (by repeat (first | (with_reducible first | exact HB.out | apply below_alloc | apply pw_below_drewN | apply below_drew1) | exact HB.out)) hb)
                                 clear HO_6
                                 clear HB
                                 have HO_6 := n0_
                                 have HB := n1_
                                 clear n0_ n1_
                                 (try clear hb)
                                 (try clear hb2)
                                 (try clear hk)
                                 (try clear hi)
                                 refine hK.out _ _ (Mk.own_string (P := Tryd.prog) Tryd.underlying62 Tryd.underlying5 Tryd.underlying9 HO_6.out) (fun hHeld => ?_)
                                 clear hK K
                                 refine norm_ (a' := ?_) ?_ ?_
                                 rotate_left
                                 · show Act.put _ (some 69) _ = _
                                   simp only [Act.put, aput]
                                   rfl
                                 refine pure_ (i := 18) (N := some 70) (v := ?_) (a' := ?_) (bm 35 4194303) rfl rfl (any_of HT_.out (by kernel_rfl)) (fun _ _ _ h => h) (Or.inl ⟨by rfl, ?_⟩) ?_ ?_
                                 rotate_left
                                 · intro w'
                                   go_simp
                                   with_reducible rfl
                                 rotate_left
                                 · simp only [Act.put, aput]
                                   rfl
                                 refine pure_ (i := 22) (N := some 74) (v := ?_) (a' := ?_) (bm 35 8388607) rfl rfl (any_of HT_.out (by kernel_rfl)) (fun _ _ _ h => h) (Or.inl ⟨by rfl, ?_⟩) ?_ ?_
                                 rotate_left
                                 · intro w'
                                   go_simp
                                   with_reducible rfl
                                 rotate_left
                                 · simp only [Act.put, aput]
                                   rfl
                                 refine pure_ (i := 23) (N := some 75) (v := ?_) (a' := ?_) (bm 35 16777215) rfl rfl (any_of HT_.out (by kernel_rfl)) (fun _ _ _ h => h) (Or.inl ⟨by rfl, ?_⟩) ?_ ?_
                                 rotate_left
                                 · intro w'
                                   go_simp
                                   with_reducible rfl
                                 rotate_left
                                 · simp only [Act.put, aput]
                                   rfl
                                 refine pure_ (i := 24) (N := some 76) (v := ?_) (a' := ?_) (bm 35 33554431) rfl rfl (any_of HT_.out (by kernel_rfl)) (fun _ _ _ h => h) (Or.inl ⟨by rfl, ?_⟩) ?_ ?_
                                 rotate_left
                                 · intro w'
                                   go_simp
                                   with_reducible rfl
                                 rotate_left
                                 · simp only [Act.put, aput]
                                   rfl
                                 refine pure_ (i := 25) (N := some 77) (v := ?_) (a' := ?_) (bm 35 67108863) rfl rfl (any_of HT_.out (by kernel_rfl)) (fun _ _ _ h => h) (Or.inl ⟨by rfl, ?_⟩) ?_ ?_
                                 rotate_left
                                 · intro w'
                                   go_simp
                                   with_reducible rfl
                                 rotate_left
                                 · simp only [Act.put, aput]
                                   rfl
                                 refine pure_ (i := 26) (N := some 78) (v := ?_) (a' := ?_) (bm 35 134217727) rfl rfl (any_of HT_.out (by kernel_rfl)) (fun _ _ _ h => h) (Or.inl ⟨by rfl, ?_⟩) ?_ ?_
                                 rotate_left
                                 · intro w'
                                   go_simp
                                   with_reducible rfl
                                 rotate_left
                                 · simp only [Act.put, aput]
                                   rfl
                                 refine pure_ (i := 29) (N := some 81) (v := ?_) (a' := ?_) (bm 35 671088639) rfl rfl (any_of HT_.out (by kernel_rfl)) (fun _ _ _ h => h) (Or.inl ⟨by rfl, ?_⟩) ?_ ?_
                                 rotate_left
                                 · intro w'
                                   go_simp
                                   with_reducible rfl
                                 rotate_left
                                 · simp only [Act.put, aput]
                                   rfl
                                 refine pure_ (i := 30) (N := some 82) (v := ?_) (a' := ?_) (bm 35 1744830463) rfl rfl (any_of HT_.out (by kernel_rfl)) (fun _ _ _ h => h) (Or.inl ⟨by rfl, ?_⟩) ?_ ?_
                                 rotate_left
                                 · intro w'
                                   go_simp
                                   with_reducible rfl
                                 rotate_left
                                 · simp only [Act.put, aput]
                                   rfl
                                 refine pure_ (i := 31) (N := some 83) (v := ?_) (a' := ?_) (bm 35 3892314111) rfl rfl (any_of HT_.out (by kernel_rfl)) (fun _ _ _ h => h) (Or.inl ⟨by rfl, ?_⟩) ?_ ?_
                                 rotate_left
                                 · intro w'
                                   go_simp
                                   with_reducible rfl
                                 rotate_left
                                 · simp only [Act.put, aput]
                                   rfl
                                 refine one_ (i := 27) (N := some 79) (bm 35 4026531839) rfl rfl (one_of HT_.out (by kernel_rfl)) (by decide) (fun K hK => ?_)
                                 refine goes_ Tryd.func31 (by kernel_rfl) rfl #[.int .u64 a1] (by rfl) rfl rfl (by (try simp only [List.map_toArray, List.map_cons, List.map_nil]); first | done | rfl | (simp only [List.length_drop, List.length_take]; rfl)) ?_
                                 with_reducible refine (phdr_Letters.calls k2 a1 t182 _ ?side1 A90.out).mono ?_
                                 (case side1 => exact Laid_strconv.below HLD_strconv.out (by repeat (first | (with_reducible first | exact HB.out | apply below_alloc | apply pw_below_drewN | apply below_drew1) | exact HB.out)))
                                 rintro e w97 ⟨rfl, hb⟩
                                 refine ⟨_, rfl, ?_⟩
                                 have n0_ := aS (Mk.R_below (by (with_reducible repeat (first | apply Mk.R_alloc | apply Mk.R_drewN | apply Mk.R_drew)); exact HO_6.out) hb)
                                 have n1_ := aS (below_step (by repeat (first | (with_reducible first | exact HB.out | apply below_alloc | apply pw_below_drewN | apply below_drew1) | exact HB.out)) hb)
                                 clear HO_6
                                 clear HB
                                 have HO_6 := n0_
                                 have HB := n1_
                                 clear n0_ n1_
                                 (try clear hb)
                                 (try clear hb2)
                                 (try clear hk)
                                 (try clear hi)
                                 refine hK.out _ _ (Mk.own_string (P := Tryd.prog) Tryd.underlying62 Tryd.underlying5 Tryd.underlying9 HO_6.out) (fun hHeld => ?_)
                                 clear hK K
                                 refine norm_ (a' := ?_) ?_ ?_
                                 rotate_left
                                 · show Act.put _ (some 79) _ = _
                                   simp only [Act.put, aput]
                                   rfl
                                 refine pure_ (i := 28) (N := some 80) (v := ?_) (a' := ?_) (bm 35 4294967295) rfl rfl (any_of HT_.out (by kernel_rfl)) (fun _ _ _ h => h) (Or.inl ⟨by rfl, ?_⟩) ?_ ?_
                                 rotate_left
                                 · intro w'
                                   go_simp
                                   with_reducible rfl
                                 rotate_left
                                 · simp only [Act.put, aput]
                                   rfl
                                 refine pure_ (i := 32) (N := some 84) (v := ?_) (a' := ?_) (bm 35 8589934591) rfl rfl (any_of HT_.out (by kernel_rfl)) (fun _ _ _ h => h) (Or.inl ⟨by rfl, ?_⟩) ?_ ?_
                                 rotate_left
                                 · intro w'
                                   go_simp
                                   with_reducible rfl
                                 rotate_left
                                 · simp only [Act.put, aput]
                                   rfl
                                 refine pure_ (i := 33) (N := some 85) (v := ?_) (a' := ?_) (bm 35 17179869183) rfl rfl (any_of HT_.out (by kernel_rfl)) (fun _ _ _ h => h) (Or.inl ⟨by rfl, ?_⟩) ?_ ?_
                                 rotate_left
                                 · intro w'
                                   go_simp
                                   with_reducible rfl
                                 rotate_left
                                 · simp only [Act.put, aput]
                                   rfl
                                 refine pure_ (i := 34) (N := some 4) (v := ?_) (a' := ?_) (bm 35 34359738367) rfl rfl (any_of HT_.out (by kernel_rfl)) (fun _ _ _ h => h) (Or.inl ⟨by rfl, ?_⟩) ?_ ?_
                                 rotate_left
                                 · intro w'
                                   go_simp
                                   with_reducible rfl
                                 rotate_left
                                 · simp only [Act.put, aput]
                                   rfl
                                 refine done_ (done_of HT_.out (by kernel_rfl)) ?_
                                 try go_wp2
                                 go_ret
                                 exact ⟨by first | rfl | (simp [errW_none, errW_some] <;> rfl) | (simp [*, errW_none, errW_some] <;> rfl), by repeat (first | (with_reducible first | exact HB.out | apply below_alloc | apply pw_below_drewN | apply below_drew1) | exact HB.out)⟩
                               · rw [if_neg c91] at H
                                 have c91b0 : (t175.toList == t182.toList) = false := beq_eq_false_iff_ne.mpr c91
                                 have c91b1 : (t175.toList != t182.toList) = true := bne_iff_ne.mpr c91
                                 obtain rfl := Option.some.inj H
                                 try go_wp2_with (first | ((with_reducible refine gate_callee (f := 31) rfl ?_); refine goesL_ (some 51) rfl rfl Tryd.func31 (by kernel_rfl) rfl #[.int .u64 a0] rfl (by (try simp only [List.map_toArray, List.map_cons, List.map_nil]); first | done | rfl | (simp only [List.length_drop, List.length_take]; rfl)) ?_; (with_reducible refine (phdr_Letters.calls k2 a0 t175 _ ?side1 A51.out).mono ?_); (case side1 => exact Laid_strconv.below HLD_strconv.out (by repeat (first | (with_reducible first | exact HB.out | apply below_alloc | apply pw_below_drewN | apply below_drew1) | exact HB.out))); rintro e w98 ⟨rfl, hb⟩; refine ⟨_, rfl, ?_⟩; have n0_ := aS (Mk.R_below (by (with_reducible repeat (first | apply Mk.R_alloc | apply Mk.R_drewN | apply Mk.R_drew)); exact HO_6.out) hb); have n1_ := aS (below_step (by repeat (first | (with_reducible first | exact HB.out | apply below_alloc | apply pw_below_drewN | apply below_drew1) | exact HB.out)) hb); clear HO_6; clear HB; have HO_6 := n0_; have HB := n1_; clear n0_ n1_; (try clear hb); (try clear hb2); (try clear hk); (try clear hi)))
                                 have n0_ := aS (Mk.R_drew HO_6.out)
                                 have n1_ := aS (below_drew1 HB.out)
                                 clear HO_6
                                 clear HB
                                 have HO_6 := n0_
                                 have HB := n1_
                                 clear n0_ n1_
                                 have hcv100 := Mk.own_string (P := Tryd.prog) Tryd.underlying62 Tryd.underlying5 Tryd.underlying9 HO_6.out
                                 refine start_ (n := 35) (S := fun w' => (convert 62 9 _).run Tryd.prog w' = .ok (.string (strOfNums _)) w') (ds := []) #[false, false, false, false, false, false, false, false, false, false, false, false, false, false, false, false, false, false, false, false, false, false, false, false, false, false, false, false, false, false, false, false, false, false, false] (by kernel_rfl) rfl rfl hcv100 (fun hHeld => ?_); refine with_tabW graverlaw07_PhdrWords.tab13 graverlaw07_PhdrWords.bits13 (fun HT_ HW_ => ?_)
                                 generalize w98.drew = w99 at HO_6 HB hHeld ⊢
                                 refine pure_ (i := 0) (N := some 52) (v := ?_) (a' := ?_) (bm 35 1) rfl rfl (any_of HT_.out (by kernel_rfl)) (fun _ _ _ h => h) (Or.inl ⟨by rfl, ?_⟩) ?_ ?_
                                 rotate_left
                                 · intro w'
                                   go_simp
                                   with_reducible rfl
                                 rotate_left
                                 · simp only [Act.put, aput]
                                   rfl
                                 refine pure_ (i := 1) (N := some 53) (v := ?_) (a' := ?_) (bm 35 3) rfl rfl (any_of HT_.out (by kernel_rfl)) (fun _ _ _ h => h) (Or.inl ⟨by rfl, ?_⟩) ?_ ?_
                                 rotate_left
                                 · intro w'
                                   go_simp
                                   with_reducible rfl
                                 rotate_left
                                 · simp only [Act.put, aput]
                                   rfl
                                 refine pure_ (i := 2) (N := some 54) (v := ?_) (a' := ?_) (bm 35 7) rfl rfl (any_of HT_.out (by kernel_rfl)) (fun _ _ _ h => h) (Or.inl ⟨by rfl, ?_⟩) ?_ ?_
                                 rotate_left
                                 · intro w'
                                   go_simp
                                   with_reducible rfl
                                 rotate_left
                                 · simp only [Act.put, aput]
                                   rfl
                                 refine take_ (i := 3) (N := some 55) (v := ?_) (a' := ?_) (bm 35 15) rfl rfl (take_ofW HT_.out HW_.out (by kernel_rfl)) (fun _ _ _ h => h) (Or.inl ⟨by rfl, ?_⟩) hHeld ?_ ?_
                                 rotate_left
                                 · intro w' s0
                                   go_simp
                                   with_reducible rfl
                                 rotate_left
                                 · simp only [Act.put, aput]
                                   rfl
                                 refine pure_ (i := 4) (N := some 56) (v := ?_) (a' := ?_) (bm 35 31) rfl rfl (any_of HT_.out (by kernel_rfl)) (fun _ _ _ h => h) (Or.inl ⟨by rfl, ?_⟩) ?_ ?_
                                 rotate_left
                                 · intro w'
                                   go_simp
                                   with_reducible rfl
                                 rotate_left
                                 · simp only [Act.put, aput]
                                   rfl
                                 refine pure_ (i := 5) (N := some 57) (v := ?_) (a' := ?_) (bm 35 63) rfl rfl (any_of HT_.out (by kernel_rfl)) (fun _ _ _ h => h) (Or.inl ⟨by rfl, ?_⟩) ?_ ?_
                                 rotate_left
                                 · intro w'
                                   go_simp
                                   with_reducible rfl
                                 rotate_left
                                 · simp only [Act.put, aput]
                                   rfl
                                 refine pure_ (i := 6) (N := some 58) (v := ?_) (a' := ?_) (bm 35 127) rfl rfl (any_of HT_.out (by kernel_rfl)) (fun _ _ _ h => h) (Or.inl ⟨by rfl, ?_⟩) ?_ ?_
                                 rotate_left
                                 · intro w'
                                   go_simp
                                   with_reducible rfl
                                 rotate_left
                                 · simp only [Act.put, aput]
                                   rfl
                                 refine pure_ (i := 7) (N := some 59) (v := ?_) (a' := ?_) (bm 35 255) rfl rfl (any_of HT_.out (by kernel_rfl)) (fun _ _ _ h => h) (Or.inl ⟨by rfl, ?_⟩) ?_ ?_
                                 rotate_left
                                 · intro w'
                                   go_simp
                                   with_reducible rfl
                                 rotate_left
                                 · simp only [Act.put, aput]
                                   rfl
                                 refine pure_ (i := 8) (N := some 60) (v := ?_) (a' := ?_) (bm 35 511) rfl rfl (any_of HT_.out (by kernel_rfl)) (fun _ _ _ h => h) (Or.inl ⟨by rfl, ?_⟩) ?_ ?_
                                 rotate_left
                                 · intro w'
                                   go_simp
                                   with_reducible rfl
                                 rotate_left
                                 · simp only [Act.put, aput]
                                   rfl
                                 refine pure_ (i := 9) (N := some 61) (v := ?_) (a' := ?_) (bm 35 1023) rfl rfl (any_of HT_.out (by kernel_rfl)) (fun _ _ _ h => h) (Or.inl ⟨by rfl, ?_⟩) ?_ ?_
                                 rotate_left
                                 · intro w'
                                   go_simp
                                   with_reducible rfl
                                 rotate_left
                                 · simp only [Act.put, aput]
                                   rfl
                                 refine pure_ (i := 10) (N := some 62) (v := ?_) (a' := ?_) (bm 35 2047) rfl rfl (any_of HT_.out (by kernel_rfl)) (fun _ _ _ h => h) (Or.inl ⟨by rfl, ?_⟩) ?_ ?_
                                 rotate_left
                                 · intro w'
                                   go_simp
                                   with_reducible rfl
                                 rotate_left
                                 · simp only [Act.put, aput]
                                   rfl
                                 refine pure_ (i := 11) (N := some 63) (v := ?_) (a' := ?_) (bm 35 4095) rfl rfl (any_of HT_.out (by kernel_rfl)) (fun _ _ _ h => h) (Or.inl ⟨by rfl, ?_⟩) ?_ ?_
                                 rotate_left
                                 · intro w'
                                   go_simp
                                   with_reducible rfl
                                 rotate_left
                                 · simp only [Act.put, aput]
                                   rfl
                                 refine pure_ (i := 12) (N := some 64) (v := ?_) (a' := ?_) (bm 35 8191) rfl rfl (any_of HT_.out (by kernel_rfl)) (fun _ _ _ h => h) (Or.inl ⟨by rfl, ?_⟩) ?_ ?_
                                 rotate_left
                                 · intro w'
                                   go_simp
                                   with_reducible rfl
                                 rotate_left
                                 · simp only [Act.put, aput]
                                   rfl
                                 refine pure_ (i := 13) (N := some 65) (v := ?_) (a' := ?_) (bm 35 16383) rfl rfl (any_of HT_.out (by kernel_rfl)) (fun _ _ _ h => h) (Or.inl ⟨by rfl, ?_⟩) ?_ ?_
                                 rotate_left
                                 · intro w'
                                   go_simp
                                   with_reducible rfl
                                 rotate_left
                                 · simp only [Act.put, aput]
                                   rfl
                                 refine pure_ (i := 14) (N := some 66) (v := ?_) (a' := ?_) (bm 35 32767) rfl rfl (any_of HT_.out (by kernel_rfl)) (fun _ _ _ h => h) (Or.inl ⟨by rfl, ?_⟩) ?_ ?_
                                 rotate_left
                                 · intro w'
                                   go_simp
                                   with_reducible rfl
                                 rotate_left
                                 · simp only [Act.put, aput]
                                   rfl
                                 refine pure_ (i := 16) (N := some 68) (v := ?_) (a' := ?_) (bm 35 98303) rfl rfl (any_of HT_.out (by kernel_rfl)) (fun _ _ _ h => h) (Or.inl ⟨by rfl, ?_⟩) ?_ ?_
                                 rotate_left
                                 · intro w'
                                   go_simp
                                   with_reducible rfl
                                 rotate_left
                                 · simp only [Act.put, aput]
                                   rfl
                                 refine pure_ (i := 19) (N := some 71) (v := ?_) (a' := ?_) (bm 35 622591) rfl rfl (any_of HT_.out (by kernel_rfl)) (fun _ _ _ h => h) (Or.inl ⟨by rfl, ?_⟩) ?_ ?_
                                 rotate_left
                                 · intro w'
                                   go_simp
                                   with_reducible rfl
                                 rotate_left
                                 · simp only [Act.put, aput]
                                   rfl
                                 refine pure_ (i := 20) (N := some 72) (v := ?_) (a' := ?_) (bm 35 1671167) rfl rfl (any_of HT_.out (by kernel_rfl)) (fun _ _ _ h => h) (Or.inl ⟨by rfl, ?_⟩) ?_ ?_
                                 rotate_left
                                 · intro w'
                                   go_simp
                                   with_reducible rfl
                                 rotate_left
                                 · simp only [Act.put, aput]
                                   rfl
                                 refine pure_ (i := 21) (N := some 73) (v := ?_) (a' := ?_) (bm 35 3768319) rfl rfl (any_of HT_.out (by kernel_rfl)) (fun _ _ _ h => h) (Or.inl ⟨by rfl, ?_⟩) ?_ ?_
                                 rotate_left
                                 · intro w'
                                   go_simp
                                   with_reducible rfl
                                 rotate_left
                                 · simp only [Act.put, aput]
                                   rfl
                                 refine one_ (i := 15) (N := some 67) (bm 35 3801087) rfl rfl (one_of HT_.out (by kernel_rfl)) (by decide) (fun K hK => ?_)
                                 refine goes_ Tryd.func30 (by kernel_rfl) rfl #[.int .u64 a0] (by rfl) rfl rfl (by (try simp only [List.map_toArray, List.map_cons, List.map_nil]); first | done | rfl | (simp only [List.length_drop, List.length_take]; rfl)) ?_
                                 with_reducible refine (phdr_TypeName.calls a0 t180 _ ?side1 ?side2 A86.out).mono ?_
                                 (case side1 => exact Laid_phdrn.below HLD_phdrn.out (by repeat (first | (with_reducible first | exact HB.out | apply below_alloc | apply pw_below_drewN | apply below_drew1) | exact HB.out)))
                                 (case side2 => exact Laid_strconv.below HLD_strconv.out (by repeat (first | (with_reducible first | exact HB.out | apply below_alloc | apply pw_below_drewN | apply below_drew1) | exact HB.out)))
                                 rintro e w101 ⟨rfl, hb⟩
                                 refine ⟨_, rfl, ?_⟩
                                 have n0_ := aS (Mk.R_below (by (with_reducible repeat (first | apply Mk.R_alloc | apply Mk.R_drewN | apply Mk.R_drew)); exact HO_6.out) hb)
                                 have n1_ := aS (below_step (by repeat (first | (with_reducible first | exact HB.out | apply below_alloc | apply pw_below_drewN | apply below_drew1) | exact HB.out)) hb)
                                 clear HO_6
                                 clear HB
                                 have HO_6 := n0_
                                 have HB := n1_
                                 clear n0_ n1_
                                 (try clear hb)
                                 (try clear hb2)
                                 (try clear hk)
                                 (try clear hi)
                                 refine hK.out _ _ (Mk.own_string (P := Tryd.prog) Tryd.underlying62 Tryd.underlying5 Tryd.underlying9 HO_6.out) (fun hHeld => ?_)
                                 clear hK K
                                 refine norm_ (a' := ?_) ?_ ?_
                                 rotate_left
                                 · show Act.put _ (some 67) _ = _
                                   simp only [Act.put, aput]
                                   rfl
                                 refine one_ (i := 17) (N := some 69) (bm 35 3932159) rfl rfl (one_of HT_.out (by kernel_rfl)) (by decide) (fun K hK => ?_)
                                 refine goes_ Tryd.func30 (by kernel_rfl) rfl #[.int .u64 a1] (by rfl) rfl rfl (by (try simp only [List.map_toArray, List.map_cons, List.map_nil]); first | done | rfl | (simp only [List.length_drop, List.length_take]; rfl)) ?_
                                 with_reducible refine (phdr_TypeName.calls a1 t181 _ ?side1 ?side2 A87.out).mono ?_
                                 (case side1 => exact Laid_phdrn.below HLD_phdrn.out (by repeat (first | (with_reducible first | exact HB.out | apply below_alloc | apply pw_below_drewN | apply below_drew1) | exact HB.out)))
                                 (case side2 => exact Laid_strconv.below HLD_strconv.out (by repeat (first | (with_reducible first | exact HB.out | apply below_alloc | apply pw_below_drewN | apply below_drew1) | exact HB.out)))
                                 rintro e w102 ⟨rfl, hb⟩
                                 refine ⟨_, rfl, ?_⟩
                                 have n0_ := aS (Mk.R_below (by (with_reducible repeat (first | apply Mk.R_alloc | apply Mk.R_drewN | apply Mk.R_drew)); exact HO_6.out) hb)
                                 have n1_ := aS (below_step (by repeat (first | (with_reducible first | exact HB.out | apply below_alloc | apply pw_below_drewN | apply below_drew1) | exact HB.out)) hb)
                                 clear HO_6
                                 clear HB
                                 have HO_6 := n0_
                                 have HB := n1_
                                 clear n0_ n1_
                                 (try clear hb)
                                 (try clear hb2)
                                 (try clear hk)
                                 (try clear hi)
                                 refine hK.out _ _ (Mk.own_string (P := Tryd.prog) Tryd.underlying62 Tryd.underlying5 Tryd.underlying9 HO_6.out) (fun hHeld => ?_)
                                 clear hK K
                                 refine norm_ (a' := ?_) ?_ ?_
                                 rotate_left
                                 · show Act.put _ (some 69) _ = _
                                   simp only [Act.put, aput]
                                   rfl
                                 refine pure_ (i := 18) (N := some 70) (v := ?_) (a' := ?_) (bm 35 4194303) rfl rfl (any_of HT_.out (by kernel_rfl)) (fun _ _ _ h => h) (Or.inl ⟨by rfl, ?_⟩) ?_ ?_
                                 rotate_left
                                 · intro w'
                                   go_simp
                                   with_reducible rfl
                                 rotate_left
                                 · simp only [Act.put, aput]
                                   rfl
                                 refine pure_ (i := 22) (N := some 74) (v := ?_) (a' := ?_) (bm 35 8388607) rfl rfl (any_of HT_.out (by kernel_rfl)) (fun _ _ _ h => h) (Or.inl ⟨by rfl, ?_⟩) ?_ ?_
                                 rotate_left
                                 · intro w'
                                   go_simp
                                   with_reducible rfl
                                 rotate_left
                                 · simp only [Act.put, aput]
                                   rfl
                                 refine pure_ (i := 23) (N := some 75) (v := ?_) (a' := ?_) (bm 35 16777215) rfl rfl (any_of HT_.out (by kernel_rfl)) (fun _ _ _ h => h) (Or.inl ⟨by rfl, ?_⟩) ?_ ?_
                                 rotate_left
                                 · intro w'
                                   go_simp
                                   with_reducible rfl
                                 rotate_left
                                 · simp only [Act.put, aput]
                                   rfl
                                 refine pure_ (i := 24) (N := some 76) (v := ?_) (a' := ?_) (bm 35 33554431) rfl rfl (any_of HT_.out (by kernel_rfl)) (fun _ _ _ h => h) (Or.inl ⟨by rfl, ?_⟩) ?_ ?_
                                 rotate_left
                                 · intro w'
                                   go_simp
                                   with_reducible rfl
                                 rotate_left
                                 · simp only [Act.put, aput]
                                   rfl
                                 refine pure_ (i := 25) (N := some 77) (v := ?_) (a' := ?_) (bm 35 67108863) rfl rfl (any_of HT_.out (by kernel_rfl)) (fun _ _ _ h => h) (Or.inl ⟨by rfl, ?_⟩) ?_ ?_
                                 rotate_left
                                 · intro w'
                                   go_simp
                                   with_reducible rfl
                                 rotate_left
                                 · simp only [Act.put, aput]
                                   rfl
                                 refine pure_ (i := 26) (N := some 78) (v := ?_) (a' := ?_) (bm 35 134217727) rfl rfl (any_of HT_.out (by kernel_rfl)) (fun _ _ _ h => h) (Or.inl ⟨by rfl, ?_⟩) ?_ ?_
                                 rotate_left
                                 · intro w'
                                   go_simp
                                   with_reducible rfl
                                 rotate_left
                                 · simp only [Act.put, aput]
                                   rfl
                                 refine pure_ (i := 29) (N := some 81) (v := ?_) (a' := ?_) (bm 35 671088639) rfl rfl (any_of HT_.out (by kernel_rfl)) (fun _ _ _ h => h) (Or.inl ⟨by rfl, ?_⟩) ?_ ?_
                                 rotate_left
                                 · intro w'
                                   go_simp
                                   with_reducible rfl
                                 rotate_left
                                 · simp only [Act.put, aput]
                                   rfl
                                 refine pure_ (i := 30) (N := some 82) (v := ?_) (a' := ?_) (bm 35 1744830463) rfl rfl (any_of HT_.out (by kernel_rfl)) (fun _ _ _ h => h) (Or.inl ⟨by rfl, ?_⟩) ?_ ?_
                                 rotate_left
                                 · intro w'
                                   go_simp
                                   with_reducible rfl
                                 rotate_left
                                 · simp only [Act.put, aput]
                                   rfl
                                 refine pure_ (i := 31) (N := some 83) (v := ?_) (a' := ?_) (bm 35 3892314111) rfl rfl (any_of HT_.out (by kernel_rfl)) (fun _ _ _ h => h) (Or.inl ⟨by rfl, ?_⟩) ?_ ?_
                                 rotate_left
                                 · intro w'
                                   go_simp
                                   with_reducible rfl
                                 rotate_left
                                 · simp only [Act.put, aput]
                                   rfl
                                 refine one_ (i := 27) (N := some 79) (bm 35 4026531839) rfl rfl (one_of HT_.out (by kernel_rfl)) (by decide) (fun K hK => ?_)
                                 refine goes_ Tryd.func31 (by kernel_rfl) rfl #[.int .u64 a1] (by rfl) rfl rfl (by (try simp only [List.map_toArray, List.map_cons, List.map_nil]); first | done | rfl | (simp only [List.length_drop, List.length_take]; rfl)) ?_
                                 with_reducible refine (phdr_Letters.calls k2 a1 t182 _ ?side1 A90.out).mono ?_
                                 (case side1 => exact Laid_strconv.below HLD_strconv.out (by repeat (first | (with_reducible first | exact HB.out | apply below_alloc | apply pw_below_drewN | apply below_drew1) | exact HB.out)))
                                 rintro e w103 ⟨rfl, hb⟩
                                 refine ⟨_, rfl, ?_⟩
                                 have n0_ := aS (Mk.R_below (by (with_reducible repeat (first | apply Mk.R_alloc | apply Mk.R_drewN | apply Mk.R_drew)); exact HO_6.out) hb)
                                 have n1_ := aS (below_step (by repeat (first | (with_reducible first | exact HB.out | apply below_alloc | apply pw_below_drewN | apply below_drew1) | exact HB.out)) hb)
                                 clear HO_6
                                 clear HB
                                 have HO_6 := n0_
                                 have HB := n1_
                                 clear n0_ n1_
                                 (try clear hb)
                                 (try clear hb2)
                                 (try clear hk)
                                 (try clear hi)
                                 refine hK.out _ _ (Mk.own_string (P := Tryd.prog) Tryd.underlying62 Tryd.underlying5 Tryd.underlying9 HO_6.out) (fun hHeld => ?_)
                                 clear hK K
                                 refine norm_ (a' := ?_) ?_ ?_
                                 rotate_left
                                 · show Act.put _ (some 79) _ = _
                                   simp only [Act.put, aput]
                                   rfl
                                 refine pure_ (i := 28) (N := some 80) (v := ?_) (a' := ?_) (bm 35 4294967295) rfl rfl (any_of HT_.out (by kernel_rfl)) (fun _ _ _ h => h) (Or.inl ⟨by rfl, ?_⟩) ?_ ?_
                                 rotate_left
                                 · intro w'
                                   go_simp
                                   with_reducible rfl
                                 rotate_left
                                 · simp only [Act.put, aput]
                                   rfl
                                 refine pure_ (i := 32) (N := some 84) (v := ?_) (a' := ?_) (bm 35 8589934591) rfl rfl (any_of HT_.out (by kernel_rfl)) (fun _ _ _ h => h) (Or.inl ⟨by rfl, ?_⟩) ?_ ?_
                                 rotate_left
                                 · intro w'
                                   go_simp
                                   with_reducible rfl
                                 rotate_left
                                 · simp only [Act.put, aput]
                                   rfl
                                 refine pure_ (i := 33) (N := some 85) (v := ?_) (a' := ?_) (bm 35 17179869183) rfl rfl (any_of HT_.out (by kernel_rfl)) (fun _ _ _ h => h) (Or.inl ⟨by rfl, ?_⟩) ?_ ?_
                                 rotate_left
                                 · intro w'
                                   go_simp
                                   with_reducible rfl
                                 rotate_left
                                 · simp only [Act.put, aput]
                                   rfl
                                 refine pure_ (i := 34) (N := some 4) (v := ?_) (a' := ?_) (bm 35 34359738367) rfl rfl (any_of HT_.out (by kernel_rfl)) (fun _ _ _ h => h) (Or.inl ⟨by rfl, ?_⟩) ?_ ?_
                                 rotate_left
                                 · intro w'
                                   go_simp
                                   with_reducible rfl
                                 rotate_left
                                 · simp only [Act.put, aput]
                                   rfl
                                 refine done_ (done_of HT_.out (by kernel_rfl)) ?_
                                 try go_wp2
                                 go_ret
                                 exact ⟨by first | rfl | (simp [errW_none, errW_some] <;> rfl) | (simp [*, errW_none, errW_some] <;> rfl), by repeat (first | (with_reducible first | exact HB.out | apply below_alloc | apply pw_below_drewN | apply below_drew1) | exact HB.out)⟩
                             · rw [if_neg c89] at H
                               have c89b0 : (a0 == a1) = false := beq_eq_false_iff_ne.mpr c89
                               have c89b1 : (a0 != a1) = true := bne_iff_ne.mpr c89
                               exact absurd ((Option.some.inj H).trans HRT.out) (by decide)
                           · rw [if_neg c88] at H
                             have c88b0 : (t180.toList == t181.toList) = false := beq_eq_false_iff_ne.mpr c88
                             have c88b1 : (t180.toList != t181.toList) = true := bne_iff_ne.mpr c88
                             by_cases c104 : a0 = a1
                             · rw [if_pos c104] at H
                               have c104b0 : (a0 == a1) = true := beq_iff_eq.mpr c104
                               have c104b1 : (a0 != a1) = false := bne_eq_false_iff_eq.mpr c104
                               clear c104
                               exact absurd ((Option.some.inj H).trans HRT.out) (by decide)
                             · rw [if_neg c104] at H
                               have c104b0 : (a0 == a1) = false := beq_eq_false_iff_ne.mpr c104
                               have c104b1 : (a0 != a1) = true := bne_iff_ne.mpr c104
                               (try simp only [c104b0] at H)
                               (try rw [c104b0] at A51)
                               (try rw [c104b0] at A86)
                               (try rw [c104b0] at A87)
                               replace H := Option.bind_eq_some_iff.mp H
                               obtain ⟨t183, A1050, H⟩ := H
                               replace H : (if t175.toList = t183.toList then (some false) else (some (!false))) = some r := H
                               have A105 := aS A1050
                               clear A1050
                               by_cases c106 : t175.toList = t183.toList
                               · rw [if_pos c106] at H
                                 have c106b0 : (t175.toList == t183.toList) = true := beq_iff_eq.mpr c106
                                 have c106b1 : (t175.toList != t183.toList) = false := bne_eq_false_iff_eq.mpr c106
                                 clear c106
                                 exact absurd ((Option.some.inj H).trans HRT.out) (by decide)
                               · rw [if_neg c106] at H
                                 have c106b0 : (t175.toList == t183.toList) = false := beq_eq_false_iff_ne.mpr c106
                                 have c106b1 : (t175.toList != t183.toList) = true := bne_iff_ne.mpr c106
                                 obtain rfl := Option.some.inj H
                                 try go_wp2_with (first | ((with_reducible refine gate_callee (f := 31) rfl ?_); refine goesL_ (some 51) rfl rfl Tryd.func31 (by kernel_rfl) rfl #[.int .u64 a0] rfl (by (try simp only [List.map_toArray, List.map_cons, List.map_nil]); first | done | rfl | (simp only [List.length_drop, List.length_take]; rfl)) ?_; (with_reducible refine (phdr_Letters.calls k2 a0 t175 _ ?side1 A51.out).mono ?_); (case side1 => exact Laid_strconv.below HLD_strconv.out (by repeat (first | (with_reducible first | exact HB.out | apply below_alloc | apply pw_below_drewN | apply below_drew1) | exact HB.out))); rintro e w107 ⟨rfl, hb⟩; refine ⟨_, rfl, ?_⟩; have n0_ := aS (Mk.R_below (by (with_reducible repeat (first | apply Mk.R_alloc | apply Mk.R_drewN | apply Mk.R_drew)); exact HO_6.out) hb); have n1_ := aS (below_step (by repeat (first | (with_reducible first | exact HB.out | apply below_alloc | apply pw_below_drewN | apply below_drew1) | exact HB.out)) hb); clear HO_6; clear HB; have HO_6 := n0_; have HB := n1_; clear n0_ n1_; (try clear hb); (try clear hb2); (try clear hk); (try clear hi)))
                                 have n0_ := aS (Mk.R_drew HO_6.out)
                                 have n1_ := aS (below_drew1 HB.out)
                                 clear HO_6
                                 clear HB
                                 have HO_6 := n0_
                                 have HB := n1_
                                 clear n0_ n1_
                                 have hcv109 := Mk.own_string (P := Tryd.prog) Tryd.underlying62 Tryd.underlying5 Tryd.underlying9 HO_6.out
                                 refine start_ (n := 35) (S := fun w' => (convert 62 9 _).run Tryd.prog w' = .ok (.string (strOfNums _)) w') (ds := []) #[false, false, false, false, false, false, false, false, false, false, false, false, false, false, false, false, false, false, false, false, false, false, false, false, false, false, false, false, false, false, false, false, false, false, false] (by kernel_rfl) rfl rfl hcv109 (fun hHeld => ?_); refine with_tabW graverlaw07_PhdrWords.tab13 graverlaw07_PhdrWords.bits13 (fun HT_ HW_ => ?_)
                                 generalize w107.drew = w108 at HO_6 HB hHeld ⊢
                                 refine pure_ (i := 0) (N := some 52) (v := ?_) (a' := ?_) (bm 35 1) rfl rfl (any_of HT_.out (by kernel_rfl)) (fun _ _ _ h => h) (Or.inl ⟨by rfl, ?_⟩) ?_ ?_
                                 rotate_left
                                 · intro w'
                                   go_simp
                                   with_reducible rfl
                                 rotate_left
                                 · simp only [Act.put, aput]
                                   rfl
                                 refine pure_ (i := 1) (N := some 53) (v := ?_) (a' := ?_) (bm 35 3) rfl rfl (any_of HT_.out (by kernel_rfl)) (fun _ _ _ h => h) (Or.inl ⟨by rfl, ?_⟩) ?_ ?_
                                 rotate_left
                                 · intro w'
                                   go_simp
                                   with_reducible rfl
                                 rotate_left
                                 · simp only [Act.put, aput]
                                   rfl
                                 refine pure_ (i := 2) (N := some 54) (v := ?_) (a' := ?_) (bm 35 7) rfl rfl (any_of HT_.out (by kernel_rfl)) (fun _ _ _ h => h) (Or.inl ⟨by rfl, ?_⟩) ?_ ?_
                                 rotate_left
                                 · intro w'
                                   go_simp
                                   with_reducible rfl
                                 rotate_left
                                 · simp only [Act.put, aput]
                                   rfl
                                 refine take_ (i := 3) (N := some 55) (v := ?_) (a' := ?_) (bm 35 15) rfl rfl (take_ofW HT_.out HW_.out (by kernel_rfl)) (fun _ _ _ h => h) (Or.inl ⟨by rfl, ?_⟩) hHeld ?_ ?_
                                 rotate_left
                                 · intro w' s0
                                   go_simp
                                   with_reducible rfl
                                 rotate_left
                                 · simp only [Act.put, aput]
                                   rfl
                                 refine pure_ (i := 4) (N := some 56) (v := ?_) (a' := ?_) (bm 35 31) rfl rfl (any_of HT_.out (by kernel_rfl)) (fun _ _ _ h => h) (Or.inl ⟨by rfl, ?_⟩) ?_ ?_
                                 rotate_left
                                 · intro w'
                                   go_simp
                                   with_reducible rfl
                                 rotate_left
                                 · simp only [Act.put, aput]
                                   rfl
                                 refine pure_ (i := 5) (N := some 57) (v := ?_) (a' := ?_) (bm 35 63) rfl rfl (any_of HT_.out (by kernel_rfl)) (fun _ _ _ h => h) (Or.inl ⟨by rfl, ?_⟩) ?_ ?_
                                 rotate_left
                                 · intro w'
                                   go_simp
                                   with_reducible rfl
                                 rotate_left
                                 · simp only [Act.put, aput]
                                   rfl
                                 refine pure_ (i := 6) (N := some 58) (v := ?_) (a' := ?_) (bm 35 127) rfl rfl (any_of HT_.out (by kernel_rfl)) (fun _ _ _ h => h) (Or.inl ⟨by rfl, ?_⟩) ?_ ?_
                                 rotate_left
                                 · intro w'
                                   go_simp
                                   with_reducible rfl
                                 rotate_left
                                 · simp only [Act.put, aput]
                                   rfl
                                 refine pure_ (i := 7) (N := some 59) (v := ?_) (a' := ?_) (bm 35 255) rfl rfl (any_of HT_.out (by kernel_rfl)) (fun _ _ _ h => h) (Or.inl ⟨by rfl, ?_⟩) ?_ ?_
                                 rotate_left
                                 · intro w'
                                   go_simp
                                   with_reducible rfl
                                 rotate_left
                                 · simp only [Act.put, aput]
                                   rfl
                                 refine pure_ (i := 8) (N := some 60) (v := ?_) (a' := ?_) (bm 35 511) rfl rfl (any_of HT_.out (by kernel_rfl)) (fun _ _ _ h => h) (Or.inl ⟨by rfl, ?_⟩) ?_ ?_
                                 rotate_left
                                 · intro w'
                                   go_simp
                                   with_reducible rfl
                                 rotate_left
                                 · simp only [Act.put, aput]
                                   rfl
                                 refine pure_ (i := 9) (N := some 61) (v := ?_) (a' := ?_) (bm 35 1023) rfl rfl (any_of HT_.out (by kernel_rfl)) (fun _ _ _ h => h) (Or.inl ⟨by rfl, ?_⟩) ?_ ?_
                                 rotate_left
                                 · intro w'
                                   go_simp
                                   with_reducible rfl
                                 rotate_left
                                 · simp only [Act.put, aput]
                                   rfl
                                 refine pure_ (i := 10) (N := some 62) (v := ?_) (a' := ?_) (bm 35 2047) rfl rfl (any_of HT_.out (by kernel_rfl)) (fun _ _ _ h => h) (Or.inl ⟨by rfl, ?_⟩) ?_ ?_
                                 rotate_left
                                 · intro w'
                                   go_simp
                                   with_reducible rfl
                                 rotate_left
                                 · simp only [Act.put, aput]
                                   rfl
                                 refine pure_ (i := 11) (N := some 63) (v := ?_) (a' := ?_) (bm 35 4095) rfl rfl (any_of HT_.out (by kernel_rfl)) (fun _ _ _ h => h) (Or.inl ⟨by rfl, ?_⟩) ?_ ?_
                                 rotate_left
                                 · intro w'
                                   go_simp
                                   with_reducible rfl
                                 rotate_left
                                 · simp only [Act.put, aput]
                                   rfl
                                 refine pure_ (i := 12) (N := some 64) (v := ?_) (a' := ?_) (bm 35 8191) rfl rfl (any_of HT_.out (by kernel_rfl)) (fun _ _ _ h => h) (Or.inl ⟨by rfl, ?_⟩) ?_ ?_
                                 rotate_left
                                 · intro w'
                                   go_simp
                                   with_reducible rfl
                                 rotate_left
                                 · simp only [Act.put, aput]
                                   rfl
                                 refine pure_ (i := 13) (N := some 65) (v := ?_) (a' := ?_) (bm 35 16383) rfl rfl (any_of HT_.out (by kernel_rfl)) (fun _ _ _ h => h) (Or.inl ⟨by rfl, ?_⟩) ?_ ?_
                                 rotate_left
                                 · intro w'
                                   go_simp
                                   with_reducible rfl
                                 rotate_left
                                 · simp only [Act.put, aput]
                                   rfl
                                 refine pure_ (i := 14) (N := some 66) (v := ?_) (a' := ?_) (bm 35 32767) rfl rfl (any_of HT_.out (by kernel_rfl)) (fun _ _ _ h => h) (Or.inl ⟨by rfl, ?_⟩) ?_ ?_
                                 rotate_left
                                 · intro w'
                                   go_simp
                                   with_reducible rfl
                                 rotate_left
                                 · simp only [Act.put, aput]
                                   rfl
                                 refine pure_ (i := 16) (N := some 68) (v := ?_) (a' := ?_) (bm 35 98303) rfl rfl (any_of HT_.out (by kernel_rfl)) (fun _ _ _ h => h) (Or.inl ⟨by rfl, ?_⟩) ?_ ?_
                                 rotate_left
                                 · intro w'
                                   go_simp
                                   with_reducible rfl
                                 rotate_left
                                 · simp only [Act.put, aput]
                                   rfl
                                 refine pure_ (i := 19) (N := some 71) (v := ?_) (a' := ?_) (bm 35 622591) rfl rfl (any_of HT_.out (by kernel_rfl)) (fun _ _ _ h => h) (Or.inl ⟨by rfl, ?_⟩) ?_ ?_
                                 rotate_left
                                 · intro w'
                                   go_simp
                                   with_reducible rfl
                                 rotate_left
                                 · simp only [Act.put, aput]
                                   rfl
                                 refine pure_ (i := 20) (N := some 72) (v := ?_) (a' := ?_) (bm 35 1671167) rfl rfl (any_of HT_.out (by kernel_rfl)) (fun _ _ _ h => h) (Or.inl ⟨by rfl, ?_⟩) ?_ ?_
                                 rotate_left
                                 · intro w'
                                   go_simp
                                   with_reducible rfl
                                 rotate_left
                                 · simp only [Act.put, aput]
                                   rfl
                                 refine pure_ (i := 21) (N := some 73) (v := ?_) (a' := ?_) (bm 35 3768319) rfl rfl (any_of HT_.out (by kernel_rfl)) (fun _ _ _ h => h) (Or.inl ⟨by rfl, ?_⟩) ?_ ?_
                                 rotate_left
                                 · intro w'
                                   go_simp
                                   with_reducible rfl
                                 rotate_left
                                 · simp only [Act.put, aput]
                                   rfl
                                 refine one_ (i := 15) (N := some 67) (bm 35 3801087) rfl rfl (one_of HT_.out (by kernel_rfl)) (by decide) (fun K hK => ?_)
                                 refine goes_ Tryd.func30 (by kernel_rfl) rfl #[.int .u64 a0] (by rfl) rfl rfl (by (try simp only [List.map_toArray, List.map_cons, List.map_nil]); first | done | rfl | (simp only [List.length_drop, List.length_take]; rfl)) ?_
                                 with_reducible refine (phdr_TypeName.calls a0 t180 _ ?side1 ?side2 A86.out).mono ?_
                                 (case side1 => exact Laid_phdrn.below HLD_phdrn.out (by repeat (first | (with_reducible first | exact HB.out | apply below_alloc | apply pw_below_drewN | apply below_drew1) | exact HB.out)))
                                 (case side2 => exact Laid_strconv.below HLD_strconv.out (by repeat (first | (with_reducible first | exact HB.out | apply below_alloc | apply pw_below_drewN | apply below_drew1) | exact HB.out)))
                                 rintro e w110 ⟨rfl, hb⟩
                                 refine ⟨_, rfl, ?_⟩
                                 have n0_ := aS (Mk.R_below (by (with_reducible repeat (first | apply Mk.R_alloc | apply Mk.R_drewN | apply Mk.R_drew)); exact HO_6.out) hb)
                                 have n1_ := aS (below_step (by repeat (first | (with_reducible first | exact HB.out | apply below_alloc | apply pw_below_drewN | apply below_drew1) | exact HB.out)) hb)
                                 clear HO_6
                                 clear HB
                                 have HO_6 := n0_
                                 have HB := n1_
                                 clear n0_ n1_
                                 (try clear hb)
                                 (try clear hb2)
                                 (try clear hk)
                                 (try clear hi)
                                 refine hK.out _ _ (Mk.own_string (P := Tryd.prog) Tryd.underlying62 Tryd.underlying5 Tryd.underlying9 HO_6.out) (fun hHeld => ?_)
                                 clear hK K
                                 refine norm_ (a' := ?_) ?_ ?_
                                 rotate_left
                                 · show Act.put _ (some 67) _ = _
                                   simp only [Act.put, aput]
                                   rfl
                                 refine one_ (i := 17) (N := some 69) (bm 35 3932159) rfl rfl (one_of HT_.out (by kernel_rfl)) (by decide) (fun K hK => ?_)
                                 refine goes_ Tryd.func30 (by kernel_rfl) rfl #[.int .u64 a1] (by rfl) rfl rfl (by (try simp only [List.map_toArray, List.map_cons, List.map_nil]); first | done | rfl | (simp only [List.length_drop, List.length_take]; rfl)) ?_
                                 with_reducible refine (phdr_TypeName.calls a1 t181 _ ?side1 ?side2 A87.out).mono ?_
                                 (case side1 => exact Laid_phdrn.below HLD_phdrn.out (by repeat (first | (with_reducible first | exact HB.out | apply below_alloc | apply pw_below_drewN | apply below_drew1) | exact HB.out)))
                                 (case side2 => exact Laid_strconv.below HLD_strconv.out (by repeat (first | (with_reducible first | exact HB.out | apply below_alloc | apply pw_below_drewN | apply below_drew1) | exact HB.out)))
                                 rintro e w111 ⟨rfl, hb⟩
                                 refine ⟨_, rfl, ?_⟩
                                 have n0_ := aS (Mk.R_below (by (with_reducible repeat (first | apply Mk.R_alloc | apply Mk.R_drewN | apply Mk.R_drew)); exact HO_6.out) hb)
                                 have n1_ := aS (below_step (by repeat (first | (with_reducible first | exact HB.out | apply below_alloc | apply pw_below_drewN | apply below_drew1) | exact HB.out)) hb)
                                 clear HO_6
                                 clear HB
                                 have HO_6 := n0_
                                 have HB := n1_
                                 clear n0_ n1_
                                 (try clear hb)
                                 (try clear hb2)
                                 (try clear hk)
                                 (try clear hi)
                                 refine hK.out _ _ (Mk.own_string (P := Tryd.prog) Tryd.underlying62 Tryd.underlying5 Tryd.underlying9 HO_6.out) (fun hHeld => ?_)
                                 clear hK K
                                 refine norm_ (a' := ?_) ?_ ?_
                                 rotate_left
                                 · show Act.put _ (some 69) _ = _
                                   simp only [Act.put, aput]
                                   rfl
                                 refine pure_ (i := 18) (N := some 70) (v := ?_) (a' := ?_) (bm 35 4194303) rfl rfl (any_of HT_.out (by kernel_rfl)) (fun _ _ _ h => h) (Or.inl ⟨by rfl, ?_⟩) ?_ ?_
                                 rotate_left
                                 · intro w'
                                   go_simp
                                   with_reducible rfl
                                 rotate_left
                                 · simp only [Act.put, aput]
                                   rfl
                                 refine pure_ (i := 22) (N := some 74) (v := ?_) (a' := ?_) (bm 35 8388607) rfl rfl (any_of HT_.out (by kernel_rfl)) (fun _ _ _ h => h) (Or.inl ⟨by rfl, ?_⟩) ?_ ?_
                                 rotate_left
                                 · intro w'
                                   go_simp
                                   with_reducible rfl
                                 rotate_left
                                 · simp only [Act.put, aput]
                                   rfl
                                 refine pure_ (i := 23) (N := some 75) (v := ?_) (a' := ?_) (bm 35 16777215) rfl rfl (any_of HT_.out (by kernel_rfl)) (fun _ _ _ h => h) (Or.inl ⟨by rfl, ?_⟩) ?_ ?_
                                 rotate_left
                                 · intro w'
                                   go_simp
                                   with_reducible rfl
                                 rotate_left
                                 · simp only [Act.put, aput]
                                   rfl
                                 refine pure_ (i := 24) (N := some 76) (v := ?_) (a' := ?_) (bm 35 33554431) rfl rfl (any_of HT_.out (by kernel_rfl)) (fun _ _ _ h => h) (Or.inl ⟨by rfl, ?_⟩) ?_ ?_
                                 rotate_left
                                 · intro w'
                                   go_simp
                                   with_reducible rfl
                                 rotate_left
                                 · simp only [Act.put, aput]
                                   rfl
                                 refine pure_ (i := 25) (N := some 77) (v := ?_) (a' := ?_) (bm 35 67108863) rfl rfl (any_of HT_.out (by kernel_rfl)) (fun _ _ _ h => h) (Or.inl ⟨by rfl, ?_⟩) ?_ ?_
                                 rotate_left
                                 · intro w'
                                   go_simp
                                   with_reducible rfl
                                 rotate_left
                                 · simp only [Act.put, aput]
                                   rfl
                                 refine pure_ (i := 26) (N := some 78) (v := ?_) (a' := ?_) (bm 35 134217727) rfl rfl (any_of HT_.out (by kernel_rfl)) (fun _ _ _ h => h) (Or.inl ⟨by rfl, ?_⟩) ?_ ?_
                                 rotate_left
                                 · intro w'
                                   go_simp
                                   with_reducible rfl
                                 rotate_left
                                 · simp only [Act.put, aput]
                                   rfl
                                 refine pure_ (i := 29) (N := some 81) (v := ?_) (a' := ?_) (bm 35 671088639) rfl rfl (any_of HT_.out (by kernel_rfl)) (fun _ _ _ h => h) (Or.inl ⟨by rfl, ?_⟩) ?_ ?_
                                 rotate_left
                                 · intro w'
                                   go_simp
                                   with_reducible rfl
                                 rotate_left
                                 · simp only [Act.put, aput]
                                   rfl
                                 refine pure_ (i := 30) (N := some 82) (v := ?_) (a' := ?_) (bm 35 1744830463) rfl rfl (any_of HT_.out (by kernel_rfl)) (fun _ _ _ h => h) (Or.inl ⟨by rfl, ?_⟩) ?_ ?_
                                 rotate_left
                                 · intro w'
                                   go_simp
                                   with_reducible rfl
                                 rotate_left
                                 · simp only [Act.put, aput]
                                   rfl
                                 refine pure_ (i := 31) (N := some 83) (v := ?_) (a' := ?_) (bm 35 3892314111) rfl rfl (any_of HT_.out (by kernel_rfl)) (fun _ _ _ h => h) (Or.inl ⟨by rfl, ?_⟩) ?_ ?_
                                 rotate_left
                                 · intro w'
                                   go_simp
                                   with_reducible rfl
                                 rotate_left
                                 · simp only [Act.put, aput]
                                   rfl
                                 refine one_ (i := 27) (N := some 79) (bm 35 4026531839) rfl rfl (one_of HT_.out (by kernel_rfl)) (by decide) (fun K hK => ?_)
                                 refine goes_ Tryd.func31 (by kernel_rfl) rfl #[.int .u64 a1] (by rfl) rfl rfl (by (try simp only [List.map_toArray, List.map_cons, List.map_nil]); first | done | rfl | (simp only [List.length_drop, List.length_take]; rfl)) ?_
                                 with_reducible refine (phdr_Letters.calls k2 a1 t183 _ ?side1 A105.out).mono ?_
                                 (case side1 => exact Laid_strconv.below HLD_strconv.out (by repeat (first | (with_reducible first | exact HB.out | apply below_alloc | apply pw_below_drewN | apply below_drew1) | exact HB.out)))
                                 rintro e w112 ⟨rfl, hb⟩
                                 refine ⟨_, rfl, ?_⟩
                                 have n0_ := aS (Mk.R_below (by (with_reducible repeat (first | apply Mk.R_alloc | apply Mk.R_drewN | apply Mk.R_drew)); exact HO_6.out) hb)
                                 have n1_ := aS (below_step (by repeat (first | (with_reducible first | exact HB.out | apply below_alloc | apply pw_below_drewN | apply below_drew1) | exact HB.out)) hb)
                                 clear HO_6
                                 clear HB
                                 have HO_6 := n0_
                                 have HB := n1_
                                 clear n0_ n1_
                                 (try clear hb)
                                 (try clear hb2)
                                 (try clear hk)
                                 (try clear hi)
                                 refine hK.out _ _ (Mk.own_string (P := Tryd.prog) Tryd.underlying62 Tryd.underlying5 Tryd.underlying9 HO_6.out) (fun hHeld => ?_)
                                 clear hK K
                                 refine norm_ (a' := ?_) ?_ ?_
                                 rotate_left
                                 · show Act.put _ (some 79) _ = _
                                   simp only [Act.put, aput]
                                   rfl
                                 refine pure_ (i := 28) (N := some 80) (v := ?_) (a' := ?_) (bm 35 4294967295) rfl rfl (any_of HT_.out (by kernel_rfl)) (fun _ _ _ h => h) (Or.inl ⟨by rfl, ?_⟩) ?_ ?_
                                 rotate_left
                                 · intro w'
                                   go_simp
                                   with_reducible rfl
                                 rotate_left
                                 · simp only [Act.put, aput]
                                   rfl
                                 refine pure_ (i := 32) (N := some 84) (v := ?_) (a' := ?_) (bm 35 8589934591) rfl rfl (any_of HT_.out (by kernel_rfl)) (fun _ _ _ h => h) (Or.inl ⟨by rfl, ?_⟩) ?_ ?_
                                 rotate_left
                                 · intro w'
                                   go_simp
                                   with_reducible rfl
                                 rotate_left
                                 · simp only [Act.put, aput]
                                   rfl
                                 refine pure_ (i := 33) (N := some 85) (v := ?_) (a' := ?_) (bm 35 17179869183) rfl rfl (any_of HT_.out (by kernel_rfl)) (fun _ _ _ h => h) (Or.inl ⟨by rfl, ?_⟩) ?_ ?_
                                 rotate_left
                                 · intro w'
                                   go_simp
                                   with_reducible rfl
                                 rotate_left
                                 · simp only [Act.put, aput]
                                   rfl
                                 refine pure_ (i := 34) (N := some 4) (v := ?_) (a' := ?_) (bm 35 34359738367) rfl rfl (any_of HT_.out (by kernel_rfl)) (fun _ _ _ h => h) (Or.inl ⟨by rfl, ?_⟩) ?_ ?_
                                 rotate_left
                                 · intro w'
                                   go_simp
                                   with_reducible rfl
                                 rotate_left
                                 · simp only [Act.put, aput]
                                   rfl
                                 refine done_ (done_of HT_.out (by kernel_rfl)) ?_
                                 try go_wp2
                                 go_ret
                                 exact ⟨by first | rfl | (simp [errW_none, errW_some] <;> rfl) | (simp [*, errW_none, errW_some] <;> rfl), by repeat (first | (with_reducible first | exact HB.out | apply below_alloc | apply pw_below_drewN | apply below_drew1) | exact HB.out)⟩
                     · rw [if_neg c55] at H
                       have c55b0 : (sc54.toList == (strOfNums x6_2).toList) = false := beq_eq_false_iff_ne.mpr c55
                       have c55b1 : (sc54.toList != (strOfNums x6_2).toList) = true := bne_iff_ne.mpr c55
                       exact absurd ((Option.some.inj H).trans HRT.out) (by decide)
                   · rw [if_neg c53] at H
                     exact absurd H (by simp)
                 · rw [if_neg c52] at H
                   exact absurd H (by simp)
 ·
  replace c4 := Bool.eq_false_iff.mpr c4
  subst c4
  have H1 : (some false) = some r := by rw [if_neg (show ¬ (false = true) by decide)] at H; exact H
  clear H
  have H := H1
  clear H1
  exact absurd ((Option.some.inj H).trans HRT.out) (by decide)

/-- THE ONE PURE STATEMENT of graverlaw07_PhdrWords: yours. -/
def graverlaw07_PhdrWords.Pure : Prop := ∀ (a0 : Int) (a1 : Int), (Lit.int .u64 a0).wf = true → (Lit.int .u64 a1).wf = true → ∃ k, graverlaw07_PhdrWords.f k a0 a1 = some true
theorem graverlaw07_PhdrWords.walk (P : graverlaw07_PhdrWords.Pure) (a0 : Int) (a1 : Int) (w : World) (hlaid_phdr : Laid_phdr w) (hlaid_phdrn : Laid_phdrn w) (hlaid_strconv : Laid_strconv w) (w0 : (Lit.int .u64 a0).wf = true) (w1 : (Lit.int .u64 a1).wf = true) :
  Calls Tryd.prog 9 #[.int .u64 a0, .int .u64 a1] w fun e w' => e = .returned (.bool true) ∧ Below w.heap.size w w' := by
 obtain ⟨k, h⟩ := P a0 a1 w0 w1
 refine (graverlaw07_PhdrWords.calls k a0 a1 true w hlaid_phdr hlaid_phdrn hlaid_strconv rfl h).mono ?_
 rintro e w' ⟨rfl, hd⟩
 exact ⟨rfl, hd⟩

end Go.Proofs.YtjmjebbjfjgbeaaDoor.Q
