/- What Go functions of the program compute, each as a Lean function with the proof that the call returns just that. No condition but those in the statements. -/
import Derived.Test.YteoeohkjomehoaaDoorQ0
import Derived.Test.YteoeohkjomehoaaDoorQ7
import Derived.Test.YteoeohkjomehoaaDoorQ9
namespace Go.Proofs.YteoeohkjomehoaaDoor.Q
open Go.RowKit Go.Proofs.YteoeohkjomehoaaDoorW.PrintWords Go.Proofs.YteoeohkjomehoaaDoorW.PrintLast Go.Proofs.YteoeohkjomehoaaDoorW.PrintMore
attribute [local go_sem] max2_int min2_int max_two min_two max_three min_three max_four min_four   -- for this text's walks alone
set_option linter.unusedVariables false
set_option linter.unusedSimpArgs false

/-! ### graverlaw08_SymrecWords: function 4 -/
def graverlaw08_SymrecWords.j0 : Nat → Int → Int → ByteArray → ByteArray → ByteArray → Bool → Option (Bool)
 | 0, _, _, _, _, _, _ => none
 | k + 1, x0, x1, x7, x8, x9, x62 => if x62 = true then (some false) else ((symrec_BindName.f x1).bind fun t168 => (if x7.toList = t168.toList then (if x0 = x1 then ((symrec_KindName.f x1).bind fun t169 => (if x8.toList = t169.toList then ((symrec_PlaceName.f x1).bind fun t170 => (if x9.toList = t170.toList then (if x0 < 7 then (some true) else (some (x7.toList == x8.toList))) else (some false))) else (some false))) else (some false)) else (if x0 = x1 then (some false) else ((symrec_KindName.f x1).bind fun t171 => (if x8.toList = t171.toList then (some false) else ((symrec_PlaceName.f x1).bind fun t172 => (if x9.toList = t172.toList then (some false) else (if x0 < 7 then (some true) else (some (x7.toList == x8.toList))))))))))
def graverlaw08_SymrecWords.f (k : Nat) (a0 : Int) (a1 : Int) : Option (Bool) := (graverlaw08_speaks.f k).bind fun t155 => (if t155 = true then ((some (([(⟨#[76, 79, 67, 65, 76]⟩ : ByteArray), (⟨#[71, 76, 79, 66, 65, 76]⟩ : ByteArray), (⟨#[87, 69, 65, 75]⟩ : ByteArray)] : List ByteArray) : List ByteArray)).bind fun y156 => ((some (([(⟨#[78, 79, 84, 89, 80, 69]⟩ : ByteArray), (⟨#[79, 66, 74, 69, 67, 84]⟩ : ByteArray), (⟨#[70, 85, 78, 67]⟩ : ByteArray), (⟨#[83, 69, 67, 84, 73, 79, 78]⟩ : ByteArray), (⟨#[70, 73, 76, 69]⟩ : ByteArray), (⟨#[67, 79, 77, 77, 79, 78]⟩ : ByteArray), (⟨#[84, 76, 83]⟩ : ByteArray)] : List ByteArray) : List ByteArray)).bind fun y159 => ((symrec_BindName.f a0).bind fun t162 => ((symrec_KindName.f a0).bind fun t163 => ((symrec_PlaceName.f a0).bind fun t164 => (if a0 < 3 then (if 0 ≤ a0 then (if a0 < (y156.length : Int) then (if t162.toList = (rdOf ByteArray.empty y156 a0).toList then (if a0 < 7 then (if a0 < (y159.length : Int) then (if t163.toList = (rdOf ByteArray.empty y159 a0).toList then (if a0 = 0 then (if t164.toList = ([85, 78, 68] : List UInt8) then (if a0 = 65521 then (if t164.toList = ([65, 66, 83] : List UInt8) then (if a0 = 65522 then (graverlaw08_SymrecWords.j0 k a0 a1 t162 t163 t164 (!(t164.toList == ([67, 79, 77] : List UInt8)))) else (graverlaw08_SymrecWords.j0 k a0 a1 t162 t163 t164 (t164.toList == ([67, 79, 77] : List UInt8)))) else (graverlaw08_SymrecWords.j0 k a0 a1 t162 t163 t164 true)) else (if t164.toList = ([65, 66, 83] : List UInt8) then (graverlaw08_SymrecWords.j0 k a0 a1 t162 t163 t164 true) else (if a0 = 65522 then (graverlaw08_SymrecWords.j0 k a0 a1 t162 t163 t164 (!(t164.toList == ([67, 79, 77] : List UInt8)))) else (graverlaw08_SymrecWords.j0 k a0 a1 t162 t163 t164 (t164.toList == ([67, 79, 77] : List UInt8)))))) else (graverlaw08_SymrecWords.j0 k a0 a1 t162 t163 t164 true)) else (if t164.toList = ([85, 78, 68] : List UInt8) then (graverlaw08_SymrecWords.j0 k a0 a1 t162 t163 t164 true) else (if a0 = 65521 then (if t164.toList = ([65, 66, 83] : List UInt8) then (if a0 = 65522 then (graverlaw08_SymrecWords.j0 k a0 a1 t162 t163 t164 (!(t164.toList == ([67, 79, 77] : List UInt8)))) else (graverlaw08_SymrecWords.j0 k a0 a1 t162 t163 t164 (t164.toList == ([67, 79, 77] : List UInt8)))) else (graverlaw08_SymrecWords.j0 k a0 a1 t162 t163 t164 true)) else (if t164.toList = ([65, 66, 83] : List UInt8) then (graverlaw08_SymrecWords.j0 k a0 a1 t162 t163 t164 true) else (if a0 = 65522 then (graverlaw08_SymrecWords.j0 k a0 a1 t162 t163 t164 (!(t164.toList == ([67, 79, 77] : List UInt8)))) else (graverlaw08_SymrecWords.j0 k a0 a1 t162 t163 t164 (t164.toList == ([67, 79, 77] : List UInt8)))))))) else (graverlaw08_SymrecWords.j0 k a0 a1 t162 t163 t164 true)) else (none)) else (if a0 = 0 then (if t164.toList = ([85, 78, 68] : List UInt8) then (if a0 = 65521 then (if t164.toList = ([65, 66, 83] : List UInt8) then (if a0 = 65522 then (graverlaw08_SymrecWords.j0 k a0 a1 t162 t163 t164 (!(t164.toList == ([67, 79, 77] : List UInt8)))) else (graverlaw08_SymrecWords.j0 k a0 a1 t162 t163 t164 (t164.toList == ([67, 79, 77] : List UInt8)))) else (graverlaw08_SymrecWords.j0 k a0 a1 t162 t163 t164 true)) else (if t164.toList = ([65, 66, 83] : List UInt8) then (graverlaw08_SymrecWords.j0 k a0 a1 t162 t163 t164 true) else (if a0 = 65522 then (graverlaw08_SymrecWords.j0 k a0 a1 t162 t163 t164 (!(t164.toList == ([67, 79, 77] : List UInt8)))) else (graverlaw08_SymrecWords.j0 k a0 a1 t162 t163 t164 (t164.toList == ([67, 79, 77] : List UInt8)))))) else (graverlaw08_SymrecWords.j0 k a0 a1 t162 t163 t164 true)) else (if t164.toList = ([85, 78, 68] : List UInt8) then (graverlaw08_SymrecWords.j0 k a0 a1 t162 t163 t164 true) else (if a0 = 65521 then (if t164.toList = ([65, 66, 83] : List UInt8) then (if a0 = 65522 then (graverlaw08_SymrecWords.j0 k a0 a1 t162 t163 t164 (!(t164.toList == ([67, 79, 77] : List UInt8)))) else (graverlaw08_SymrecWords.j0 k a0 a1 t162 t163 t164 (t164.toList == ([67, 79, 77] : List UInt8)))) else (graverlaw08_SymrecWords.j0 k a0 a1 t162 t163 t164 true)) else (if t164.toList = ([65, 66, 83] : List UInt8) then (graverlaw08_SymrecWords.j0 k a0 a1 t162 t163 t164 true) else (if a0 = 65522 then (graverlaw08_SymrecWords.j0 k a0 a1 t162 t163 t164 (!(t164.toList == ([67, 79, 77] : List UInt8)))) else (graverlaw08_SymrecWords.j0 k a0 a1 t162 t163 t164 (t164.toList == ([67, 79, 77] : List UInt8))))))))) else (graverlaw08_SymrecWords.j0 k a0 a1 t162 t163 t164 true)) else (none)) else (none)) else (if a0 < 7 then (if 0 ≤ a0 then (if a0 < (y159.length : Int) then (if t163.toList = (rdOf ByteArray.empty y159 a0).toList then (if a0 = 0 then (if t164.toList = ([85, 78, 68] : List UInt8) then (if a0 = 65521 then (if t164.toList = ([65, 66, 83] : List UInt8) then (if a0 = 65522 then (graverlaw08_SymrecWords.j0 k a0 a1 t162 t163 t164 (!(t164.toList == ([67, 79, 77] : List UInt8)))) else (graverlaw08_SymrecWords.j0 k a0 a1 t162 t163 t164 (t164.toList == ([67, 79, 77] : List UInt8)))) else (graverlaw08_SymrecWords.j0 k a0 a1 t162 t163 t164 true)) else (if t164.toList = ([65, 66, 83] : List UInt8) then (graverlaw08_SymrecWords.j0 k a0 a1 t162 t163 t164 true) else (if a0 = 65522 then (graverlaw08_SymrecWords.j0 k a0 a1 t162 t163 t164 (!(t164.toList == ([67, 79, 77] : List UInt8)))) else (graverlaw08_SymrecWords.j0 k a0 a1 t162 t163 t164 (t164.toList == ([67, 79, 77] : List UInt8)))))) else (graverlaw08_SymrecWords.j0 k a0 a1 t162 t163 t164 true)) else (if t164.toList = ([85, 78, 68] : List UInt8) then (graverlaw08_SymrecWords.j0 k a0 a1 t162 t163 t164 true) else (if a0 = 65521 then (if t164.toList = ([65, 66, 83] : List UInt8) then (if a0 = 65522 then (graverlaw08_SymrecWords.j0 k a0 a1 t162 t163 t164 (!(t164.toList == ([67, 79, 77] : List UInt8)))) else (graverlaw08_SymrecWords.j0 k a0 a1 t162 t163 t164 (t164.toList == ([67, 79, 77] : List UInt8)))) else (graverlaw08_SymrecWords.j0 k a0 a1 t162 t163 t164 true)) else (if t164.toList = ([65, 66, 83] : List UInt8) then (graverlaw08_SymrecWords.j0 k a0 a1 t162 t163 t164 true) else (if a0 = 65522 then (graverlaw08_SymrecWords.j0 k a0 a1 t162 t163 t164 (!(t164.toList == ([67, 79, 77] : List UInt8)))) else (graverlaw08_SymrecWords.j0 k a0 a1 t162 t163 t164 (t164.toList == ([67, 79, 77] : List UInt8)))))))) else (graverlaw08_SymrecWords.j0 k a0 a1 t162 t163 t164 true)) else (none)) else (none)) else (if a0 = 0 then (if t164.toList = ([85, 78, 68] : List UInt8) then (if a0 = 65521 then (if t164.toList = ([65, 66, 83] : List UInt8) then (if a0 = 65522 then (graverlaw08_SymrecWords.j0 k a0 a1 t162 t163 t164 (!(t164.toList == ([67, 79, 77] : List UInt8)))) else (graverlaw08_SymrecWords.j0 k a0 a1 t162 t163 t164 (t164.toList == ([67, 79, 77] : List UInt8)))) else (graverlaw08_SymrecWords.j0 k a0 a1 t162 t163 t164 true)) else (if t164.toList = ([65, 66, 83] : List UInt8) then (graverlaw08_SymrecWords.j0 k a0 a1 t162 t163 t164 true) else (if a0 = 65522 then (graverlaw08_SymrecWords.j0 k a0 a1 t162 t163 t164 (!(t164.toList == ([67, 79, 77] : List UInt8)))) else (graverlaw08_SymrecWords.j0 k a0 a1 t162 t163 t164 (t164.toList == ([67, 79, 77] : List UInt8)))))) else (graverlaw08_SymrecWords.j0 k a0 a1 t162 t163 t164 true)) else (if t164.toList = ([85, 78, 68] : List UInt8) then (graverlaw08_SymrecWords.j0 k a0 a1 t162 t163 t164 true) else (if a0 = 65521 then (if t164.toList = ([65, 66, 83] : List UInt8) then (if a0 = 65522 then (graverlaw08_SymrecWords.j0 k a0 a1 t162 t163 t164 (!(t164.toList == ([67, 79, 77] : List UInt8)))) else (graverlaw08_SymrecWords.j0 k a0 a1 t162 t163 t164 (t164.toList == ([67, 79, 77] : List UInt8)))) else (graverlaw08_SymrecWords.j0 k a0 a1 t162 t163 t164 true)) else (if t164.toList = ([65, 66, 83] : List UInt8) then (graverlaw08_SymrecWords.j0 k a0 a1 t162 t163 t164 true) else (if a0 = 65522 then (graverlaw08_SymrecWords.j0 k a0 a1 t162 t163 t164 (!(t164.toList == ([67, 79, 77] : List UInt8)))) else (graverlaw08_SymrecWords.j0 k a0 a1 t162 t163 t164 (t164.toList == ([67, 79, 77] : List UInt8))))))))))))))) else (some false))
theorem graverlaw08_SymrecWords.mono_l : ∀ k, (∀ y0 y1 y2 y3 y4 y5, LeO (graverlaw08_SymrecWords.j0 k y0 y1 y2 y3 y4 y5) (graverlaw08_SymrecWords.j0 (k + 1) y0 y1 y2 y3 y4 y5))
 | 0 => fun _ _ _ _ _ _ r h => by simp [graverlaw08_SymrecWords.j0] at h
 | k + 1 => by
  have ih0 := graverlaw08_SymrecWords.mono_l k
  ·
   intro y0 y1 y2 y3 y4 y5
   unfold graverlaw08_SymrecWords.j0
   repeat' first
   | (with_reducible exact ih0 _ _ _ _ _ _)
   | (with_reducible exact graverlaw08_speaks.mono _)
   | (with_reducible exact LeO.refl _)
   | (with_reducible exact LeO.none _)
   | (with_reducible refine LeO.ite ?_ ?_)
   | (with_reducible refine LeO.bind ?_ (fun _ => ?_))
   | exact ih0 _ _ _ _ _ _
   | exact graverlaw08_speaks.mono _
   | exact LeO.none _
   | refine LeO.ite ?_ ?_
   | refine LeO.bind ?_ (fun _ => ?_)
theorem graverlaw08_SymrecWords.mono : ∀ a0 a1 k, LeO (graverlaw08_SymrecWords.f k a0 a1) (graverlaw08_SymrecWords.f (k + 1) a0 a1) := by
 intro a0 a1 k
 have ih0 := graverlaw08_SymrecWords.mono_l k
 unfold graverlaw08_SymrecWords.f
 repeat' first
   | (with_reducible exact ih0 _ _ _ _ _ _)
   | (with_reducible exact graverlaw08_speaks.mono _)
   | (with_reducible exact LeO.refl _)
   | (with_reducible exact LeO.none _)
   | (with_reducible refine LeO.ite ?_ ?_)
   | (with_reducible refine LeO.bind ?_ (fun _ => ?_))
   | exact ih0 _ _ _ _ _ _
   | exact graverlaw08_speaks.mono _
   | exact LeO.none _
   | refine LeO.ite ?_ ?_
   | refine LeO.bind ?_ (fun _ => ?_)
set_option maxHeartbeats 8000000 in
set_option maxRecDepth 100000 in
theorem graverlaw08_SymrecWords.calls (k : Nat) (a0 : Int) (a1 : Int) (r : Bool) (w : World) (hlaid_strconv : Laid_strconv w) (hlaid_symrec : Laid_symrec w) (hlaid_symrecn : Laid_symrecn w) (hrt : r = true) (h : graverlaw08_SymrecWords.f k a0 a1 = some r) :
  Calls Tryd.prog 4 #[.int .u64 a0, .int .u64 a1] w fun e w' => e = .returned (.bool r) ∧ Below w.heap.size w w' := by
 have HB := aS (Below.refl w.heap.size w)
 have HLD_strconv := aS hlaid_strconv
 clear hlaid_strconv
 have HLD_symrec := aS hlaid_symrec
 clear hlaid_symrec
 have HLD_symrecn := aS hlaid_symrecn
 clear hlaid_symrecn
 have HRT := aS hrt
 clear hrt
 have H : ((graverlaw08_speaks.f k).bind fun t155 => (if t155 = true then ((some (([(⟨#[76, 79, 67, 65, 76]⟩ : ByteArray), (⟨#[71, 76, 79, 66, 65, 76]⟩ : ByteArray), (⟨#[87, 69, 65, 75]⟩ : ByteArray)] : List ByteArray) : List ByteArray)).bind fun y156 => ((some (([(⟨#[78, 79, 84, 89, 80, 69]⟩ : ByteArray), (⟨#[79, 66, 74, 69, 67, 84]⟩ : ByteArray), (⟨#[70, 85, 78, 67]⟩ : ByteArray), (⟨#[83, 69, 67, 84, 73, 79, 78]⟩ : ByteArray), (⟨#[70, 73, 76, 69]⟩ : ByteArray), (⟨#[67, 79, 77, 77, 79, 78]⟩ : ByteArray), (⟨#[84, 76, 83]⟩ : ByteArray)] : List ByteArray) : List ByteArray)).bind fun y159 => ((symrec_BindName.f a0).bind fun t162 => ((symrec_KindName.f a0).bind fun t163 => ((symrec_PlaceName.f a0).bind fun t164 => (if a0 < 3 then (if 0 ≤ a0 then (if a0 < (y156.length : Int) then (if t162.toList = (rdOf ByteArray.empty y156 a0).toList then (if a0 < 7 then (if a0 < (y159.length : Int) then (if t163.toList = (rdOf ByteArray.empty y159 a0).toList then (if a0 = 0 then (if t164.toList = ([85, 78, 68] : List UInt8) then (if a0 = 65521 then (if t164.toList = ([65, 66, 83] : List UInt8) then (if a0 = 65522 then (graverlaw08_SymrecWords.j0 k a0 a1 t162 t163 t164 (!(t164.toList == ([67, 79, 77] : List UInt8)))) else (graverlaw08_SymrecWords.j0 k a0 a1 t162 t163 t164 (t164.toList == ([67, 79, 77] : List UInt8)))) else (graverlaw08_SymrecWords.j0 k a0 a1 t162 t163 t164 true)) else (if t164.toList = ([65, 66, 83] : List UInt8) then (graverlaw08_SymrecWords.j0 k a0 a1 t162 t163 t164 true) else (if a0 = 65522 then (graverlaw08_SymrecWords.j0 k a0 a1 t162 t163 t164 (!(t164.toList == ([67, 79, 77] : List UInt8)))) else (graverlaw08_SymrecWords.j0 k a0 a1 t162 t163 t164 (t164.toList == ([67, 79, 77] : List UInt8)))))) else (graverlaw08_SymrecWords.j0 k a0 a1 t162 t163 t164 true)) else (if t164.toList = ([85, 78, 68] : List UInt8) then (graverlaw08_SymrecWords.j0 k a0 a1 t162 t163 t164 true) else (if a0 = 65521 then (if t164.toList = ([65, 66, 83] : List UInt8) then (if a0 = 65522 then (graverlaw08_SymrecWords.j0 k a0 a1 t162 t163 t164 (!(t164.toList == ([67, 79, 77] : List UInt8)))) else (graverlaw08_SymrecWords.j0 k a0 a1 t162 t163 t164 (t164.toList == ([67, 79, 77] : List UInt8)))) else (graverlaw08_SymrecWords.j0 k a0 a1 t162 t163 t164 true)) else (if t164.toList = ([65, 66, 83] : List UInt8) then (graverlaw08_SymrecWords.j0 k a0 a1 t162 t163 t164 true) else (if a0 = 65522 then (graverlaw08_SymrecWords.j0 k a0 a1 t162 t163 t164 (!(t164.toList == ([67, 79, 77] : List UInt8)))) else (graverlaw08_SymrecWords.j0 k a0 a1 t162 t163 t164 (t164.toList == ([67, 79, 77] : List UInt8)))))))) else (graverlaw08_SymrecWords.j0 k a0 a1 t162 t163 t164 true)) else (none)) else (if a0 = 0 then (if t164.toList = ([85, 78, 68] : List UInt8) then (if a0 = 65521 then (if t164.toList = ([65, 66, 83] : List UInt8) then (if a0 = 65522 then (graverlaw08_SymrecWords.j0 k a0 a1 t162 t163 t164 (!(t164.toList == ([67, 79, 77] : List UInt8)))) else (graverlaw08_SymrecWords.j0 k a0 a1 t162 t163 t164 (t164.toList == ([67, 79, 77] : List UInt8)))) else (graverlaw08_SymrecWords.j0 k a0 a1 t162 t163 t164 true)) else (if t164.toList = ([65, 66, 83] : List UInt8) then (graverlaw08_SymrecWords.j0 k a0 a1 t162 t163 t164 true) else (if a0 = 65522 then (graverlaw08_SymrecWords.j0 k a0 a1 t162 t163 t164 (!(t164.toList == ([67, 79, 77] : List UInt8)))) else (graverlaw08_SymrecWords.j0 k a0 a1 t162 t163 t164 (t164.toList == ([67, 79, 77] : List UInt8)))))) else (graverlaw08_SymrecWords.j0 k a0 a1 t162 t163 t164 true)) else (if t164.toList = ([85, 78, 68] : List UInt8) then (graverlaw08_SymrecWords.j0 k a0 a1 t162 t163 t164 true) else (if a0 = 65521 then (if t164.toList = ([65, 66, 83] : List UInt8) then (if a0 = 65522 then (graverlaw08_SymrecWords.j0 k a0 a1 t162 t163 t164 (!(t164.toList == ([67, 79, 77] : List UInt8)))) else (graverlaw08_SymrecWords.j0 k a0 a1 t162 t163 t164 (t164.toList == ([67, 79, 77] : List UInt8)))) else (graverlaw08_SymrecWords.j0 k a0 a1 t162 t163 t164 true)) else (if t164.toList = ([65, 66, 83] : List UInt8) then (graverlaw08_SymrecWords.j0 k a0 a1 t162 t163 t164 true) else (if a0 = 65522 then (graverlaw08_SymrecWords.j0 k a0 a1 t162 t163 t164 (!(t164.toList == ([67, 79, 77] : List UInt8)))) else (graverlaw08_SymrecWords.j0 k a0 a1 t162 t163 t164 (t164.toList == ([67, 79, 77] : List UInt8))))))))) else (graverlaw08_SymrecWords.j0 k a0 a1 t162 t163 t164 true)) else (none)) else (none)) else (if a0 < 7 then (if 0 ≤ a0 then (if a0 < (y159.length : Int) then (if t163.toList = (rdOf ByteArray.empty y159 a0).toList then (if a0 = 0 then (if t164.toList = ([85, 78, 68] : List UInt8) then (if a0 = 65521 then (if t164.toList = ([65, 66, 83] : List UInt8) then (if a0 = 65522 then (graverlaw08_SymrecWords.j0 k a0 a1 t162 t163 t164 (!(t164.toList == ([67, 79, 77] : List UInt8)))) else (graverlaw08_SymrecWords.j0 k a0 a1 t162 t163 t164 (t164.toList == ([67, 79, 77] : List UInt8)))) else (graverlaw08_SymrecWords.j0 k a0 a1 t162 t163 t164 true)) else (if t164.toList = ([65, 66, 83] : List UInt8) then (graverlaw08_SymrecWords.j0 k a0 a1 t162 t163 t164 true) else (if a0 = 65522 then (graverlaw08_SymrecWords.j0 k a0 a1 t162 t163 t164 (!(t164.toList == ([67, 79, 77] : List UInt8)))) else (graverlaw08_SymrecWords.j0 k a0 a1 t162 t163 t164 (t164.toList == ([67, 79, 77] : List UInt8)))))) else (graverlaw08_SymrecWords.j0 k a0 a1 t162 t163 t164 true)) else (if t164.toList = ([85, 78, 68] : List UInt8) then (graverlaw08_SymrecWords.j0 k a0 a1 t162 t163 t164 true) else (if a0 = 65521 then (if t164.toList = ([65, 66, 83] : List UInt8) then (if a0 = 65522 then (graverlaw08_SymrecWords.j0 k a0 a1 t162 t163 t164 (!(t164.toList == ([67, 79, 77] : List UInt8)))) else (graverlaw08_SymrecWords.j0 k a0 a1 t162 t163 t164 (t164.toList == ([67, 79, 77] : List UInt8)))) else (graverlaw08_SymrecWords.j0 k a0 a1 t162 t163 t164 true)) else (if t164.toList = ([65, 66, 83] : List UInt8) then (graverlaw08_SymrecWords.j0 k a0 a1 t162 t163 t164 true) else (if a0 = 65522 then (graverlaw08_SymrecWords.j0 k a0 a1 t162 t163 t164 (!(t164.toList == ([67, 79, 77] : List UInt8)))) else (graverlaw08_SymrecWords.j0 k a0 a1 t162 t163 t164 (t164.toList == ([67, 79, 77] : List UInt8)))))))) else (graverlaw08_SymrecWords.j0 k a0 a1 t162 t163 t164 true)) else (none)) else (none)) else (if a0 = 0 then (if t164.toList = ([85, 78, 68] : List UInt8) then (if a0 = 65521 then (if t164.toList = ([65, 66, 83] : List UInt8) then (if a0 = 65522 then (graverlaw08_SymrecWords.j0 k a0 a1 t162 t163 t164 (!(t164.toList == ([67, 79, 77] : List UInt8)))) else (graverlaw08_SymrecWords.j0 k a0 a1 t162 t163 t164 (t164.toList == ([67, 79, 77] : List UInt8)))) else (graverlaw08_SymrecWords.j0 k a0 a1 t162 t163 t164 true)) else (if t164.toList = ([65, 66, 83] : List UInt8) then (graverlaw08_SymrecWords.j0 k a0 a1 t162 t163 t164 true) else (if a0 = 65522 then (graverlaw08_SymrecWords.j0 k a0 a1 t162 t163 t164 (!(t164.toList == ([67, 79, 77] : List UInt8)))) else (graverlaw08_SymrecWords.j0 k a0 a1 t162 t163 t164 (t164.toList == ([67, 79, 77] : List UInt8)))))) else (graverlaw08_SymrecWords.j0 k a0 a1 t162 t163 t164 true)) else (if t164.toList = ([85, 78, 68] : List UInt8) then (graverlaw08_SymrecWords.j0 k a0 a1 t162 t163 t164 true) else (if a0 = 65521 then (if t164.toList = ([65, 66, 83] : List UInt8) then (if a0 = 65522 then (graverlaw08_SymrecWords.j0 k a0 a1 t162 t163 t164 (!(t164.toList == ([67, 79, 77] : List UInt8)))) else (graverlaw08_SymrecWords.j0 k a0 a1 t162 t163 t164 (t164.toList == ([67, 79, 77] : List UInt8)))) else (graverlaw08_SymrecWords.j0 k a0 a1 t162 t163 t164 true)) else (if t164.toList = ([65, 66, 83] : List UInt8) then (graverlaw08_SymrecWords.j0 k a0 a1 t162 t163 t164 true) else (if a0 = 65522 then (graverlaw08_SymrecWords.j0 k a0 a1 t162 t163 t164 (!(t164.toList == ([67, 79, 77] : List UInt8)))) else (graverlaw08_SymrecWords.j0 k a0 a1 t162 t163 t164 (t164.toList == ([67, 79, 77] : List UInt8))))))))))))))) else (some false))) = some r := h
 clear h
 replace H := Option.bind_eq_some_iff.mp H
 obtain ⟨t155, A30, H⟩ := H
 replace H : (if t155 = true then ((some (([(⟨#[76, 79, 67, 65, 76]⟩ : ByteArray), (⟨#[71, 76, 79, 66, 65, 76]⟩ : ByteArray), (⟨#[87, 69, 65, 75]⟩ : ByteArray)] : List ByteArray) : List ByteArray)).bind fun y156 => ((some (([(⟨#[78, 79, 84, 89, 80, 69]⟩ : ByteArray), (⟨#[79, 66, 74, 69, 67, 84]⟩ : ByteArray), (⟨#[70, 85, 78, 67]⟩ : ByteArray), (⟨#[83, 69, 67, 84, 73, 79, 78]⟩ : ByteArray), (⟨#[70, 73, 76, 69]⟩ : ByteArray), (⟨#[67, 79, 77, 77, 79, 78]⟩ : ByteArray), (⟨#[84, 76, 83]⟩ : ByteArray)] : List ByteArray) : List ByteArray)).bind fun y159 => ((symrec_BindName.f a0).bind fun t162 => ((symrec_KindName.f a0).bind fun t163 => ((symrec_PlaceName.f a0).bind fun t164 => (if a0 < 3 then (if 0 ≤ a0 then (if a0 < (y156.length : Int) then (if t162.toList = (rdOf ByteArray.empty y156 a0).toList then (if a0 < 7 then (if a0 < (y159.length : Int) then (if t163.toList = (rdOf ByteArray.empty y159 a0).toList then (if a0 = 0 then (if t164.toList = ([85, 78, 68] : List UInt8) then (if a0 = 65521 then (if t164.toList = ([65, 66, 83] : List UInt8) then (if a0 = 65522 then (graverlaw08_SymrecWords.j0 k a0 a1 t162 t163 t164 (!(t164.toList == ([67, 79, 77] : List UInt8)))) else (graverlaw08_SymrecWords.j0 k a0 a1 t162 t163 t164 (t164.toList == ([67, 79, 77] : List UInt8)))) else (graverlaw08_SymrecWords.j0 k a0 a1 t162 t163 t164 true)) else (if t164.toList = ([65, 66, 83] : List UInt8) then (graverlaw08_SymrecWords.j0 k a0 a1 t162 t163 t164 true) else (if a0 = 65522 then (graverlaw08_SymrecWords.j0 k a0 a1 t162 t163 t164 (!(t164.toList == ([67, 79, 77] : List UInt8)))) else (graverlaw08_SymrecWords.j0 k a0 a1 t162 t163 t164 (t164.toList == ([67, 79, 77] : List UInt8)))))) else (graverlaw08_SymrecWords.j0 k a0 a1 t162 t163 t164 true)) else (if t164.toList = ([85, 78, 68] : List UInt8) then (graverlaw08_SymrecWords.j0 k a0 a1 t162 t163 t164 true) else (if a0 = 65521 then (if t164.toList = ([65, 66, 83] : List UInt8) then (if a0 = 65522 then (graverlaw08_SymrecWords.j0 k a0 a1 t162 t163 t164 (!(t164.toList == ([67, 79, 77] : List UInt8)))) else (graverlaw08_SymrecWords.j0 k a0 a1 t162 t163 t164 (t164.toList == ([67, 79, 77] : List UInt8)))) else (graverlaw08_SymrecWords.j0 k a0 a1 t162 t163 t164 true)) else (if t164.toList = ([65, 66, 83] : List UInt8) then (graverlaw08_SymrecWords.j0 k a0 a1 t162 t163 t164 true) else (if a0 = 65522 then (graverlaw08_SymrecWords.j0 k a0 a1 t162 t163 t164 (!(t164.toList == ([67, 79, 77] : List UInt8)))) else (graverlaw08_SymrecWords.j0 k a0 a1 t162 t163 t164 (t164.toList == ([67, 79, 77] : List UInt8)))))))) else (graverlaw08_SymrecWords.j0 k a0 a1 t162 t163 t164 true)) else (none)) else (if a0 = 0 then (if t164.toList = ([85, 78, 68] : List UInt8) then (if a0 = 65521 then (if t164.toList = ([65, 66, 83] : List UInt8) then (if a0 = 65522 then (graverlaw08_SymrecWords.j0 k a0 a1 t162 t163 t164 (!(t164.toList == ([67, 79, 77] : List UInt8)))) else (graverlaw08_SymrecWords.j0 k a0 a1 t162 t163 t164 (t164.toList == ([67, 79, 77] : List UInt8)))) else (graverlaw08_SymrecWords.j0 k a0 a1 t162 t163 t164 true)) else (if t164.toList = ([65, 66, 83] : List UInt8) then (graverlaw08_SymrecWords.j0 k a0 a1 t162 t163 t164 true) else (if a0 = 65522 then (graverlaw08_SymrecWords.j0 k a0 a1 t162 t163 t164 (!(t164.toList == ([67, 79, 77] : List UInt8)))) else (graverlaw08_SymrecWords.j0 k a0 a1 t162 t163 t164 (t164.toList == ([67, 79, 77] : List UInt8)))))) else (graverlaw08_SymrecWords.j0 k a0 a1 t162 t163 t164 true)) else (if t164.toList = ([85, 78, 68] : List UInt8) then (graverlaw08_SymrecWords.j0 k a0 a1 t162 t163 t164 true) else (if a0 = 65521 then (if t164.toList = ([65, 66, 83] : List UInt8) then (if a0 = 65522 then (graverlaw08_SymrecWords.j0 k a0 a1 t162 t163 t164 (!(t164.toList == ([67, 79, 77] : List UInt8)))) else (graverlaw08_SymrecWords.j0 k a0 a1 t162 t163 t164 (t164.toList == ([67, 79, 77] : List UInt8)))) else (graverlaw08_SymrecWords.j0 k a0 a1 t162 t163 t164 true)) else (if t164.toList = ([65, 66, 83] : List UInt8) then (graverlaw08_SymrecWords.j0 k a0 a1 t162 t163 t164 true) else (if a0 = 65522 then (graverlaw08_SymrecWords.j0 k a0 a1 t162 t163 t164 (!(t164.toList == ([67, 79, 77] : List UInt8)))) else (graverlaw08_SymrecWords.j0 k a0 a1 t162 t163 t164 (t164.toList == ([67, 79, 77] : List UInt8))))))))) else (graverlaw08_SymrecWords.j0 k a0 a1 t162 t163 t164 true)) else (none)) else (none)) else (if a0 < 7 then (if 0 ≤ a0 then (if a0 < (y159.length : Int) then (if t163.toList = (rdOf ByteArray.empty y159 a0).toList then (if a0 = 0 then (if t164.toList = ([85, 78, 68] : List UInt8) then (if a0 = 65521 then (if t164.toList = ([65, 66, 83] : List UInt8) then (if a0 = 65522 then (graverlaw08_SymrecWords.j0 k a0 a1 t162 t163 t164 (!(t164.toList == ([67, 79, 77] : List UInt8)))) else (graverlaw08_SymrecWords.j0 k a0 a1 t162 t163 t164 (t164.toList == ([67, 79, 77] : List UInt8)))) else (graverlaw08_SymrecWords.j0 k a0 a1 t162 t163 t164 true)) else (if t164.toList = ([65, 66, 83] : List UInt8) then (graverlaw08_SymrecWords.j0 k a0 a1 t162 t163 t164 true) else (if a0 = 65522 then (graverlaw08_SymrecWords.j0 k a0 a1 t162 t163 t164 (!(t164.toList == ([67, 79, 77] : List UInt8)))) else (graverlaw08_SymrecWords.j0 k a0 a1 t162 t163 t164 (t164.toList == ([67, 79, 77] : List UInt8)))))) else (graverlaw08_SymrecWords.j0 k a0 a1 t162 t163 t164 true)) else (if t164.toList = ([85, 78, 68] : List UInt8) then (graverlaw08_SymrecWords.j0 k a0 a1 t162 t163 t164 true) else (if a0 = 65521 then (if t164.toList = ([65, 66, 83] : List UInt8) then (if a0 = 65522 then (graverlaw08_SymrecWords.j0 k a0 a1 t162 t163 t164 (!(t164.toList == ([67, 79, 77] : List UInt8)))) else (graverlaw08_SymrecWords.j0 k a0 a1 t162 t163 t164 (t164.toList == ([67, 79, 77] : List UInt8)))) else (graverlaw08_SymrecWords.j0 k a0 a1 t162 t163 t164 true)) else (if t164.toList = ([65, 66, 83] : List UInt8) then (graverlaw08_SymrecWords.j0 k a0 a1 t162 t163 t164 true) else (if a0 = 65522 then (graverlaw08_SymrecWords.j0 k a0 a1 t162 t163 t164 (!(t164.toList == ([67, 79, 77] : List UInt8)))) else (graverlaw08_SymrecWords.j0 k a0 a1 t162 t163 t164 (t164.toList == ([67, 79, 77] : List UInt8)))))))) else (graverlaw08_SymrecWords.j0 k a0 a1 t162 t163 t164 true)) else (none)) else (none)) else (if a0 = 0 then (if t164.toList = ([85, 78, 68] : List UInt8) then (if a0 = 65521 then (if t164.toList = ([65, 66, 83] : List UInt8) then (if a0 = 65522 then (graverlaw08_SymrecWords.j0 k a0 a1 t162 t163 t164 (!(t164.toList == ([67, 79, 77] : List UInt8)))) else (graverlaw08_SymrecWords.j0 k a0 a1 t162 t163 t164 (t164.toList == ([67, 79, 77] : List UInt8)))) else (graverlaw08_SymrecWords.j0 k a0 a1 t162 t163 t164 true)) else (if t164.toList = ([65, 66, 83] : List UInt8) then (graverlaw08_SymrecWords.j0 k a0 a1 t162 t163 t164 true) else (if a0 = 65522 then (graverlaw08_SymrecWords.j0 k a0 a1 t162 t163 t164 (!(t164.toList == ([67, 79, 77] : List UInt8)))) else (graverlaw08_SymrecWords.j0 k a0 a1 t162 t163 t164 (t164.toList == ([67, 79, 77] : List UInt8)))))) else (graverlaw08_SymrecWords.j0 k a0 a1 t162 t163 t164 true)) else (if t164.toList = ([85, 78, 68] : List UInt8) then (graverlaw08_SymrecWords.j0 k a0 a1 t162 t163 t164 true) else (if a0 = 65521 then (if t164.toList = ([65, 66, 83] : List UInt8) then (if a0 = 65522 then (graverlaw08_SymrecWords.j0 k a0 a1 t162 t163 t164 (!(t164.toList == ([67, 79, 77] : List UInt8)))) else (graverlaw08_SymrecWords.j0 k a0 a1 t162 t163 t164 (t164.toList == ([67, 79, 77] : List UInt8)))) else (graverlaw08_SymrecWords.j0 k a0 a1 t162 t163 t164 true)) else (if t164.toList = ([65, 66, 83] : List UInt8) then (graverlaw08_SymrecWords.j0 k a0 a1 t162 t163 t164 true) else (if a0 = 65522 then (graverlaw08_SymrecWords.j0 k a0 a1 t162 t163 t164 (!(t164.toList == ([67, 79, 77] : List UInt8)))) else (graverlaw08_SymrecWords.j0 k a0 a1 t162 t163 t164 (t164.toList == ([67, 79, 77] : List UInt8))))))))))))))) else (some false)) = some r := H
 have A3 := aS A30
 clear A30
 by_cases c4 : t155 = true
 ·
  subst c4
  have H1 : ((some (([(⟨#[76, 79, 67, 65, 76]⟩ : ByteArray), (⟨#[71, 76, 79, 66, 65, 76]⟩ : ByteArray), (⟨#[87, 69, 65, 75]⟩ : ByteArray)] : List ByteArray) : List ByteArray)).bind fun y156 => ((some (([(⟨#[78, 79, 84, 89, 80, 69]⟩ : ByteArray), (⟨#[79, 66, 74, 69, 67, 84]⟩ : ByteArray), (⟨#[70, 85, 78, 67]⟩ : ByteArray), (⟨#[83, 69, 67, 84, 73, 79, 78]⟩ : ByteArray), (⟨#[70, 73, 76, 69]⟩ : ByteArray), (⟨#[67, 79, 77, 77, 79, 78]⟩ : ByteArray), (⟨#[84, 76, 83]⟩ : ByteArray)] : List ByteArray) : List ByteArray)).bind fun y159 => ((symrec_BindName.f a0).bind fun t162 => ((symrec_KindName.f a0).bind fun t163 => ((symrec_PlaceName.f a0).bind fun t164 => (if a0 < 3 then (if 0 ≤ a0 then (if a0 < (y156.length : Int) then (if t162.toList = (rdOf ByteArray.empty y156 a0).toList then (if a0 < 7 then (if a0 < (y159.length : Int) then (if t163.toList = (rdOf ByteArray.empty y159 a0).toList then (if a0 = 0 then (if t164.toList = ([85, 78, 68] : List UInt8) then (if a0 = 65521 then (if t164.toList = ([65, 66, 83] : List UInt8) then (if a0 = 65522 then (graverlaw08_SymrecWords.j0 k a0 a1 t162 t163 t164 (!(t164.toList == ([67, 79, 77] : List UInt8)))) else (graverlaw08_SymrecWords.j0 k a0 a1 t162 t163 t164 (t164.toList == ([67, 79, 77] : List UInt8)))) else (graverlaw08_SymrecWords.j0 k a0 a1 t162 t163 t164 true)) else (if t164.toList = ([65, 66, 83] : List UInt8) then (graverlaw08_SymrecWords.j0 k a0 a1 t162 t163 t164 true) else (if a0 = 65522 then (graverlaw08_SymrecWords.j0 k a0 a1 t162 t163 t164 (!(t164.toList == ([67, 79, 77] : List UInt8)))) else (graverlaw08_SymrecWords.j0 k a0 a1 t162 t163 t164 (t164.toList == ([67, 79, 77] : List UInt8)))))) else (graverlaw08_SymrecWords.j0 k a0 a1 t162 t163 t164 true)) else (if t164.toList = ([85, 78, 68] : List UInt8) then (graverlaw08_SymrecWords.j0 k a0 a1 t162 t163 t164 true) else (if a0 = 65521 then (if t164.toList = ([65, 66, 83] : List UInt8) then (if a0 = 65522 then (graverlaw08_SymrecWords.j0 k a0 a1 t162 t163 t164 (!(t164.toList == ([67, 79, 77] : List UInt8)))) else (graverlaw08_SymrecWords.j0 k a0 a1 t162 t163 t164 (t164.toList == ([67, 79, 77] : List UInt8)))) else (graverlaw08_SymrecWords.j0 k a0 a1 t162 t163 t164 true)) else (if t164.toList = ([65, 66, 83] : List UInt8) then (graverlaw08_SymrecWords.j0 k a0 a1 t162 t163 t164 true) else (if a0 = 65522 then (graverlaw08_SymrecWords.j0 k a0 a1 t162 t163 t164 (!(t164.toList == ([67, 79, 77] : List UInt8)))) else (graverlaw08_SymrecWords.j0 k a0 a1 t162 t163 t164 (t164.toList == ([67, 79, 77] : List UInt8)))))))) else (graverlaw08_SymrecWords.j0 k a0 a1 t162 t163 t164 true)) else (none)) else (if a0 = 0 then (if t164.toList = ([85, 78, 68] : List UInt8) then (if a0 = 65521 then (if t164.toList = ([65, 66, 83] : List UInt8) then (if a0 = 65522 then (graverlaw08_SymrecWords.j0 k a0 a1 t162 t163 t164 (!(t164.toList == ([67, 79, 77] : List UInt8)))) else (graverlaw08_SymrecWords.j0 k a0 a1 t162 t163 t164 (t164.toList == ([67, 79, 77] : List UInt8)))) else (graverlaw08_SymrecWords.j0 k a0 a1 t162 t163 t164 true)) else (if t164.toList = ([65, 66, 83] : List UInt8) then (graverlaw08_SymrecWords.j0 k a0 a1 t162 t163 t164 true) else (if a0 = 65522 then (graverlaw08_SymrecWords.j0 k a0 a1 t162 t163 t164 (!(t164.toList == ([67, 79, 77] : List UInt8)))) else (graverlaw08_SymrecWords.j0 k a0 a1 t162 t163 t164 (t164.toList == ([67, 79, 77] : List UInt8)))))) else (graverlaw08_SymrecWords.j0 k a0 a1 t162 t163 t164 true)) else (if t164.toList = ([85, 78, 68] : List UInt8) then (graverlaw08_SymrecWords.j0 k a0 a1 t162 t163 t164 true) else (if a0 = 65521 then (if t164.toList = ([65, 66, 83] : List UInt8) then (if a0 = 65522 then (graverlaw08_SymrecWords.j0 k a0 a1 t162 t163 t164 (!(t164.toList == ([67, 79, 77] : List UInt8)))) else (graverlaw08_SymrecWords.j0 k a0 a1 t162 t163 t164 (t164.toList == ([67, 79, 77] : List UInt8)))) else (graverlaw08_SymrecWords.j0 k a0 a1 t162 t163 t164 true)) else (if t164.toList = ([65, 66, 83] : List UInt8) then (graverlaw08_SymrecWords.j0 k a0 a1 t162 t163 t164 true) else (if a0 = 65522 then (graverlaw08_SymrecWords.j0 k a0 a1 t162 t163 t164 (!(t164.toList == ([67, 79, 77] : List UInt8)))) else (graverlaw08_SymrecWords.j0 k a0 a1 t162 t163 t164 (t164.toList == ([67, 79, 77] : List UInt8))))))))) else (graverlaw08_SymrecWords.j0 k a0 a1 t162 t163 t164 true)) else (none)) else (none)) else (if a0 < 7 then (if 0 ≤ a0 then (if a0 < (y159.length : Int) then (if t163.toList = (rdOf ByteArray.empty y159 a0).toList then (if a0 = 0 then (if t164.toList = ([85, 78, 68] : List UInt8) then (if a0 = 65521 then (if t164.toList = ([65, 66, 83] : List UInt8) then (if a0 = 65522 then (graverlaw08_SymrecWords.j0 k a0 a1 t162 t163 t164 (!(t164.toList == ([67, 79, 77] : List UInt8)))) else (graverlaw08_SymrecWords.j0 k a0 a1 t162 t163 t164 (t164.toList == ([67, 79, 77] : List UInt8)))) else (graverlaw08_SymrecWords.j0 k a0 a1 t162 t163 t164 true)) else (if t164.toList = ([65, 66, 83] : List UInt8) then (graverlaw08_SymrecWords.j0 k a0 a1 t162 t163 t164 true) else (if a0 = 65522 then (graverlaw08_SymrecWords.j0 k a0 a1 t162 t163 t164 (!(t164.toList == ([67, 79, 77] : List UInt8)))) else (graverlaw08_SymrecWords.j0 k a0 a1 t162 t163 t164 (t164.toList == ([67, 79, 77] : List UInt8)))))) else (graverlaw08_SymrecWords.j0 k a0 a1 t162 t163 t164 true)) else (if t164.toList = ([85, 78, 68] : List UInt8) then (graverlaw08_SymrecWords.j0 k a0 a1 t162 t163 t164 true) else (if a0 = 65521 then (if t164.toList = ([65, 66, 83] : List UInt8) then (if a0 = 65522 then (graverlaw08_SymrecWords.j0 k a0 a1 t162 t163 t164 (!(t164.toList == ([67, 79, 77] : List UInt8)))) else (graverlaw08_SymrecWords.j0 k a0 a1 t162 t163 t164 (t164.toList == ([67, 79, 77] : List UInt8)))) else (graverlaw08_SymrecWords.j0 k a0 a1 t162 t163 t164 true)) else (if t164.toList = ([65, 66, 83] : List UInt8) then (graverlaw08_SymrecWords.j0 k a0 a1 t162 t163 t164 true) else (if a0 = 65522 then (graverlaw08_SymrecWords.j0 k a0 a1 t162 t163 t164 (!(t164.toList == ([67, 79, 77] : List UInt8)))) else (graverlaw08_SymrecWords.j0 k a0 a1 t162 t163 t164 (t164.toList == ([67, 79, 77] : List UInt8)))))))) else (graverlaw08_SymrecWords.j0 k a0 a1 t162 t163 t164 true)) else (none)) else (none)) else (if a0 = 0 then (if t164.toList = ([85, 78, 68] : List UInt8) then (if a0 = 65521 then (if t164.toList = ([65, 66, 83] : List UInt8) then (if a0 = 65522 then (graverlaw08_SymrecWords.j0 k a0 a1 t162 t163 t164 (!(t164.toList == ([67, 79, 77] : List UInt8)))) else (graverlaw08_SymrecWords.j0 k a0 a1 t162 t163 t164 (t164.toList == ([67, 79, 77] : List UInt8)))) else (graverlaw08_SymrecWords.j0 k a0 a1 t162 t163 t164 true)) else (if t164.toList = ([65, 66, 83] : List UInt8) then (graverlaw08_SymrecWords.j0 k a0 a1 t162 t163 t164 true) else (if a0 = 65522 then (graverlaw08_SymrecWords.j0 k a0 a1 t162 t163 t164 (!(t164.toList == ([67, 79, 77] : List UInt8)))) else (graverlaw08_SymrecWords.j0 k a0 a1 t162 t163 t164 (t164.toList == ([67, 79, 77] : List UInt8)))))) else (graverlaw08_SymrecWords.j0 k a0 a1 t162 t163 t164 true)) else (if t164.toList = ([85, 78, 68] : List UInt8) then (graverlaw08_SymrecWords.j0 k a0 a1 t162 t163 t164 true) else (if a0 = 65521 then (if t164.toList = ([65, 66, 83] : List UInt8) then (if a0 = 65522 then (graverlaw08_SymrecWords.j0 k a0 a1 t162 t163 t164 (!(t164.toList == ([67, 79, 77] : List UInt8)))) else (graverlaw08_SymrecWords.j0 k a0 a1 t162 t163 t164 (t164.toList == ([67, 79, 77] : List UInt8)))) else (graverlaw08_SymrecWords.j0 k a0 a1 t162 t163 t164 true)) else (if t164.toList = ([65, 66, 83] : List UInt8) then (graverlaw08_SymrecWords.j0 k a0 a1 t162 t163 t164 true) else (if a0 = 65522 then (graverlaw08_SymrecWords.j0 k a0 a1 t162 t163 t164 (!(t164.toList == ([67, 79, 77] : List UInt8)))) else (graverlaw08_SymrecWords.j0 k a0 a1 t162 t163 t164 (t164.toList == ([67, 79, 77] : List UInt8))))))))))))))) = some r := by rw [if_pos rfl] at H; exact H
  clear H
  have H := H1
  clear H1
  obtain ⟨y156, hy156⟩ : ∃ y_ : List ByteArray, y_ = (([(⟨#[76, 79, 67, 65, 76]⟩ : ByteArray), (⟨#[71, 76, 79, 66, 65, 76]⟩ : ByteArray), (⟨#[87, 69, 65, 75]⟩ : ByteArray)] : List ByteArray)) := ⟨_, rfl⟩
  replace H : ((some (([(⟨#[78, 79, 84, 89, 80, 69]⟩ : ByteArray), (⟨#[79, 66, 74, 69, 67, 84]⟩ : ByteArray), (⟨#[70, 85, 78, 67]⟩ : ByteArray), (⟨#[83, 69, 67, 84, 73, 79, 78]⟩ : ByteArray), (⟨#[70, 73, 76, 69]⟩ : ByteArray), (⟨#[67, 79, 77, 77, 79, 78]⟩ : ByteArray), (⟨#[84, 76, 83]⟩ : ByteArray)] : List ByteArray) : List ByteArray)).bind fun y159 => ((symrec_BindName.f a0).bind fun t162 => ((symrec_KindName.f a0).bind fun t163 => ((symrec_PlaceName.f a0).bind fun t164 => (if a0 < 3 then (if 0 ≤ a0 then (if a0 < (y156.length : Int) then (if t162.toList = (rdOf ByteArray.empty y156 a0).toList then (if a0 < 7 then (if a0 < (y159.length : Int) then (if t163.toList = (rdOf ByteArray.empty y159 a0).toList then (if a0 = 0 then (if t164.toList = ([85, 78, 68] : List UInt8) then (if a0 = 65521 then (if t164.toList = ([65, 66, 83] : List UInt8) then (if a0 = 65522 then (graverlaw08_SymrecWords.j0 k a0 a1 t162 t163 t164 (!(t164.toList == ([67, 79, 77] : List UInt8)))) else (graverlaw08_SymrecWords.j0 k a0 a1 t162 t163 t164 (t164.toList == ([67, 79, 77] : List UInt8)))) else (graverlaw08_SymrecWords.j0 k a0 a1 t162 t163 t164 true)) else (if t164.toList = ([65, 66, 83] : List UInt8) then (graverlaw08_SymrecWords.j0 k a0 a1 t162 t163 t164 true) else (if a0 = 65522 then (graverlaw08_SymrecWords.j0 k a0 a1 t162 t163 t164 (!(t164.toList == ([67, 79, 77] : List UInt8)))) else (graverlaw08_SymrecWords.j0 k a0 a1 t162 t163 t164 (t164.toList == ([67, 79, 77] : List UInt8)))))) else (graverlaw08_SymrecWords.j0 k a0 a1 t162 t163 t164 true)) else (if t164.toList = ([85, 78, 68] : List UInt8) then (graverlaw08_SymrecWords.j0 k a0 a1 t162 t163 t164 true) else (if a0 = 65521 then (if t164.toList = ([65, 66, 83] : List UInt8) then (if a0 = 65522 then (graverlaw08_SymrecWords.j0 k a0 a1 t162 t163 t164 (!(t164.toList == ([67, 79, 77] : List UInt8)))) else (graverlaw08_SymrecWords.j0 k a0 a1 t162 t163 t164 (t164.toList == ([67, 79, 77] : List UInt8)))) else (graverlaw08_SymrecWords.j0 k a0 a1 t162 t163 t164 true)) else (if t164.toList = ([65, 66, 83] : List UInt8) then (graverlaw08_SymrecWords.j0 k a0 a1 t162 t163 t164 true) else (if a0 = 65522 then (graverlaw08_SymrecWords.j0 k a0 a1 t162 t163 t164 (!(t164.toList == ([67, 79, 77] : List UInt8)))) else (graverlaw08_SymrecWords.j0 k a0 a1 t162 t163 t164 (t164.toList == ([67, 79, 77] : List UInt8)))))))) else (graverlaw08_SymrecWords.j0 k a0 a1 t162 t163 t164 true)) else (none)) else (if a0 = 0 then (if t164.toList = ([85, 78, 68] : List UInt8) then (if a0 = 65521 then (if t164.toList = ([65, 66, 83] : List UInt8) then (if a0 = 65522 then (graverlaw08_SymrecWords.j0 k a0 a1 t162 t163 t164 (!(t164.toList == ([67, 79, 77] : List UInt8)))) else (graverlaw08_SymrecWords.j0 k a0 a1 t162 t163 t164 (t164.toList == ([67, 79, 77] : List UInt8)))) else (graverlaw08_SymrecWords.j0 k a0 a1 t162 t163 t164 true)) else (if t164.toList = ([65, 66, 83] : List UInt8) then (graverlaw08_SymrecWords.j0 k a0 a1 t162 t163 t164 true) else (if a0 = 65522 then (graverlaw08_SymrecWords.j0 k a0 a1 t162 t163 t164 (!(t164.toList == ([67, 79, 77] : List UInt8)))) else (graverlaw08_SymrecWords.j0 k a0 a1 t162 t163 t164 (t164.toList == ([67, 79, 77] : List UInt8)))))) else (graverlaw08_SymrecWords.j0 k a0 a1 t162 t163 t164 true)) else (if t164.toList = ([85, 78, 68] : List UInt8) then (graverlaw08_SymrecWords.j0 k a0 a1 t162 t163 t164 true) else (if a0 = 65521 then (if t164.toList = ([65, 66, 83] : List UInt8) then (if a0 = 65522 then (graverlaw08_SymrecWords.j0 k a0 a1 t162 t163 t164 (!(t164.toList == ([67, 79, 77] : List UInt8)))) else (graverlaw08_SymrecWords.j0 k a0 a1 t162 t163 t164 (t164.toList == ([67, 79, 77] : List UInt8)))) else (graverlaw08_SymrecWords.j0 k a0 a1 t162 t163 t164 true)) else (if t164.toList = ([65, 66, 83] : List UInt8) then (graverlaw08_SymrecWords.j0 k a0 a1 t162 t163 t164 true) else (if a0 = 65522 then (graverlaw08_SymrecWords.j0 k a0 a1 t162 t163 t164 (!(t164.toList == ([67, 79, 77] : List UInt8)))) else (graverlaw08_SymrecWords.j0 k a0 a1 t162 t163 t164 (t164.toList == ([67, 79, 77] : List UInt8))))))))) else (graverlaw08_SymrecWords.j0 k a0 a1 t162 t163 t164 true)) else (none)) else (none)) else (if a0 < 7 then (if 0 ≤ a0 then (if a0 < (y159.length : Int) then (if t163.toList = (rdOf ByteArray.empty y159 a0).toList then (if a0 = 0 then (if t164.toList = ([85, 78, 68] : List UInt8) then (if a0 = 65521 then (if t164.toList = ([65, 66, 83] : List UInt8) then (if a0 = 65522 then (graverlaw08_SymrecWords.j0 k a0 a1 t162 t163 t164 (!(t164.toList == ([67, 79, 77] : List UInt8)))) else (graverlaw08_SymrecWords.j0 k a0 a1 t162 t163 t164 (t164.toList == ([67, 79, 77] : List UInt8)))) else (graverlaw08_SymrecWords.j0 k a0 a1 t162 t163 t164 true)) else (if t164.toList = ([65, 66, 83] : List UInt8) then (graverlaw08_SymrecWords.j0 k a0 a1 t162 t163 t164 true) else (if a0 = 65522 then (graverlaw08_SymrecWords.j0 k a0 a1 t162 t163 t164 (!(t164.toList == ([67, 79, 77] : List UInt8)))) else (graverlaw08_SymrecWords.j0 k a0 a1 t162 t163 t164 (t164.toList == ([67, 79, 77] : List UInt8)))))) else (graverlaw08_SymrecWords.j0 k a0 a1 t162 t163 t164 true)) else (if t164.toList = ([85, 78, 68] : List UInt8) then (graverlaw08_SymrecWords.j0 k a0 a1 t162 t163 t164 true) else (if a0 = 65521 then (if t164.toList = ([65, 66, 83] : List UInt8) then (if a0 = 65522 then (graverlaw08_SymrecWords.j0 k a0 a1 t162 t163 t164 (!(t164.toList == ([67, 79, 77] : List UInt8)))) else (graverlaw08_SymrecWords.j0 k a0 a1 t162 t163 t164 (t164.toList == ([67, 79, 77] : List UInt8)))) else (graverlaw08_SymrecWords.j0 k a0 a1 t162 t163 t164 true)) else (if t164.toList = ([65, 66, 83] : List UInt8) then (graverlaw08_SymrecWords.j0 k a0 a1 t162 t163 t164 true) else (if a0 = 65522 then (graverlaw08_SymrecWords.j0 k a0 a1 t162 t163 t164 (!(t164.toList == ([67, 79, 77] : List UInt8)))) else (graverlaw08_SymrecWords.j0 k a0 a1 t162 t163 t164 (t164.toList == ([67, 79, 77] : List UInt8)))))))) else (graverlaw08_SymrecWords.j0 k a0 a1 t162 t163 t164 true)) else (none)) else (none)) else (if a0 = 0 then (if t164.toList = ([85, 78, 68] : List UInt8) then (if a0 = 65521 then (if t164.toList = ([65, 66, 83] : List UInt8) then (if a0 = 65522 then (graverlaw08_SymrecWords.j0 k a0 a1 t162 t163 t164 (!(t164.toList == ([67, 79, 77] : List UInt8)))) else (graverlaw08_SymrecWords.j0 k a0 a1 t162 t163 t164 (t164.toList == ([67, 79, 77] : List UInt8)))) else (graverlaw08_SymrecWords.j0 k a0 a1 t162 t163 t164 true)) else (if t164.toList = ([65, 66, 83] : List UInt8) then (graverlaw08_SymrecWords.j0 k a0 a1 t162 t163 t164 true) else (if a0 = 65522 then (graverlaw08_SymrecWords.j0 k a0 a1 t162 t163 t164 (!(t164.toList == ([67, 79, 77] : List UInt8)))) else (graverlaw08_SymrecWords.j0 k a0 a1 t162 t163 t164 (t164.toList == ([67, 79, 77] : List UInt8)))))) else (graverlaw08_SymrecWords.j0 k a0 a1 t162 t163 t164 true)) else (if t164.toList = ([85, 78, 68] : List UInt8) then (graverlaw08_SymrecWords.j0 k a0 a1 t162 t163 t164 true) else (if a0 = 65521 then (if t164.toList = ([65, 66, 83] : List UInt8) then (if a0 = 65522 then (graverlaw08_SymrecWords.j0 k a0 a1 t162 t163 t164 (!(t164.toList == ([67, 79, 77] : List UInt8)))) else (graverlaw08_SymrecWords.j0 k a0 a1 t162 t163 t164 (t164.toList == ([67, 79, 77] : List UInt8)))) else (graverlaw08_SymrecWords.j0 k a0 a1 t162 t163 t164 true)) else (if t164.toList = ([65, 66, 83] : List UInt8) then (graverlaw08_SymrecWords.j0 k a0 a1 t162 t163 t164 true) else (if a0 = 65522 then (graverlaw08_SymrecWords.j0 k a0 a1 t162 t163 t164 (!(t164.toList == ([67, 79, 77] : List UInt8)))) else (graverlaw08_SymrecWords.j0 k a0 a1 t162 t163 t164 (t164.toList == ([67, 79, 77] : List UInt8)))))))))))))) = some r := by first | (rw [hy156]; with_reducible exact H) | (have H2_ := (Option.bind_some _ _).symm.trans H; rw [hy156]; with_reducible exact H2_) | (have H2_ := (Option.bind_some _ _).symm.trans H; with_reducible exact H2_) | with_reducible exact H | (rw [hy156]; exact H) | exact H
  have Ny156 := aS hy156
  clear hy156
  obtain ⟨y159, hy159⟩ : ∃ y_ : List ByteArray, y_ = (([(⟨#[78, 79, 84, 89, 80, 69]⟩ : ByteArray), (⟨#[79, 66, 74, 69, 67, 84]⟩ : ByteArray), (⟨#[70, 85, 78, 67]⟩ : ByteArray), (⟨#[83, 69, 67, 84, 73, 79, 78]⟩ : ByteArray), (⟨#[70, 73, 76, 69]⟩ : ByteArray), (⟨#[67, 79, 77, 77, 79, 78]⟩ : ByteArray), (⟨#[84, 76, 83]⟩ : ByteArray)] : List ByteArray)) := ⟨_, rfl⟩
  replace H : ((symrec_BindName.f a0).bind fun t162 => ((symrec_KindName.f a0).bind fun t163 => ((symrec_PlaceName.f a0).bind fun t164 => (if a0 < 3 then (if 0 ≤ a0 then (if a0 < (y156.length : Int) then (if t162.toList = (rdOf ByteArray.empty y156 a0).toList then (if a0 < 7 then (if a0 < (y159.length : Int) then (if t163.toList = (rdOf ByteArray.empty y159 a0).toList then (if a0 = 0 then (if t164.toList = ([85, 78, 68] : List UInt8) then (if a0 = 65521 then (if t164.toList = ([65, 66, 83] : List UInt8) then (if a0 = 65522 then (graverlaw08_SymrecWords.j0 k a0 a1 t162 t163 t164 (!(t164.toList == ([67, 79, 77] : List UInt8)))) else (graverlaw08_SymrecWords.j0 k a0 a1 t162 t163 t164 (t164.toList == ([67, 79, 77] : List UInt8)))) else (graverlaw08_SymrecWords.j0 k a0 a1 t162 t163 t164 true)) else (if t164.toList = ([65, 66, 83] : List UInt8) then (graverlaw08_SymrecWords.j0 k a0 a1 t162 t163 t164 true) else (if a0 = 65522 then (graverlaw08_SymrecWords.j0 k a0 a1 t162 t163 t164 (!(t164.toList == ([67, 79, 77] : List UInt8)))) else (graverlaw08_SymrecWords.j0 k a0 a1 t162 t163 t164 (t164.toList == ([67, 79, 77] : List UInt8)))))) else (graverlaw08_SymrecWords.j0 k a0 a1 t162 t163 t164 true)) else (if t164.toList = ([85, 78, 68] : List UInt8) then (graverlaw08_SymrecWords.j0 k a0 a1 t162 t163 t164 true) else (if a0 = 65521 then (if t164.toList = ([65, 66, 83] : List UInt8) then (if a0 = 65522 then (graverlaw08_SymrecWords.j0 k a0 a1 t162 t163 t164 (!(t164.toList == ([67, 79, 77] : List UInt8)))) else (graverlaw08_SymrecWords.j0 k a0 a1 t162 t163 t164 (t164.toList == ([67, 79, 77] : List UInt8)))) else (graverlaw08_SymrecWords.j0 k a0 a1 t162 t163 t164 true)) else (if t164.toList = ([65, 66, 83] : List UInt8) then (graverlaw08_SymrecWords.j0 k a0 a1 t162 t163 t164 true) else (if a0 = 65522 then (graverlaw08_SymrecWords.j0 k a0 a1 t162 t163 t164 (!(t164.toList == ([67, 79, 77] : List UInt8)))) else (graverlaw08_SymrecWords.j0 k a0 a1 t162 t163 t164 (t164.toList == ([67, 79, 77] : List UInt8)))))))) else (graverlaw08_SymrecWords.j0 k a0 a1 t162 t163 t164 true)) else (none)) else (if a0 = 0 then (if t164.toList = ([85, 78, 68] : List UInt8) then (if a0 = 65521 then (if t164.toList = ([65, 66, 83] : List UInt8) then (if a0 = 65522 then (graverlaw08_SymrecWords.j0 k a0 a1 t162 t163 t164 (!(t164.toList == ([67, 79, 77] : List UInt8)))) else (graverlaw08_SymrecWords.j0 k a0 a1 t162 t163 t164 (t164.toList == ([67, 79, 77] : List UInt8)))) else (graverlaw08_SymrecWords.j0 k a0 a1 t162 t163 t164 true)) else (if t164.toList = ([65, 66, 83] : List UInt8) then (graverlaw08_SymrecWords.j0 k a0 a1 t162 t163 t164 true) else (if a0 = 65522 then (graverlaw08_SymrecWords.j0 k a0 a1 t162 t163 t164 (!(t164.toList == ([67, 79, 77] : List UInt8)))) else (graverlaw08_SymrecWords.j0 k a0 a1 t162 t163 t164 (t164.toList == ([67, 79, 77] : List UInt8)))))) else (graverlaw08_SymrecWords.j0 k a0 a1 t162 t163 t164 true)) else (if t164.toList = ([85, 78, 68] : List UInt8) then (graverlaw08_SymrecWords.j0 k a0 a1 t162 t163 t164 true) else (if a0 = 65521 then (if t164.toList = ([65, 66, 83] : List UInt8) then (if a0 = 65522 then (graverlaw08_SymrecWords.j0 k a0 a1 t162 t163 t164 (!(t164.toList == ([67, 79, 77] : List UInt8)))) else (graverlaw08_SymrecWords.j0 k a0 a1 t162 t163 t164 (t164.toList == ([67, 79, 77] : List UInt8)))) else (graverlaw08_SymrecWords.j0 k a0 a1 t162 t163 t164 true)) else (if t164.toList = ([65, 66, 83] : List UInt8) then (graverlaw08_SymrecWords.j0 k a0 a1 t162 t163 t164 true) else (if a0 = 65522 then (graverlaw08_SymrecWords.j0 k a0 a1 t162 t163 t164 (!(t164.toList == ([67, 79, 77] : List UInt8)))) else (graverlaw08_SymrecWords.j0 k a0 a1 t162 t163 t164 (t164.toList == ([67, 79, 77] : List UInt8))))))))) else (graverlaw08_SymrecWords.j0 k a0 a1 t162 t163 t164 true)) else (none)) else (none)) else (if a0 < 7 then (if 0 ≤ a0 then (if a0 < (y159.length : Int) then (if t163.toList = (rdOf ByteArray.empty y159 a0).toList then (if a0 = 0 then (if t164.toList = ([85, 78, 68] : List UInt8) then (if a0 = 65521 then (if t164.toList = ([65, 66, 83] : List UInt8) then (if a0 = 65522 then (graverlaw08_SymrecWords.j0 k a0 a1 t162 t163 t164 (!(t164.toList == ([67, 79, 77] : List UInt8)))) else (graverlaw08_SymrecWords.j0 k a0 a1 t162 t163 t164 (t164.toList == ([67, 79, 77] : List UInt8)))) else (graverlaw08_SymrecWords.j0 k a0 a1 t162 t163 t164 true)) else (if t164.toList = ([65, 66, 83] : List UInt8) then (graverlaw08_SymrecWords.j0 k a0 a1 t162 t163 t164 true) else (if a0 = 65522 then (graverlaw08_SymrecWords.j0 k a0 a1 t162 t163 t164 (!(t164.toList == ([67, 79, 77] : List UInt8)))) else (graverlaw08_SymrecWords.j0 k a0 a1 t162 t163 t164 (t164.toList == ([67, 79, 77] : List UInt8)))))) else (graverlaw08_SymrecWords.j0 k a0 a1 t162 t163 t164 true)) else (if t164.toList = ([85, 78, 68] : List UInt8) then (graverlaw08_SymrecWords.j0 k a0 a1 t162 t163 t164 true) else (if a0 = 65521 then (if t164.toList = ([65, 66, 83] : List UInt8) then (if a0 = 65522 then (graverlaw08_SymrecWords.j0 k a0 a1 t162 t163 t164 (!(t164.toList == ([67, 79, 77] : List UInt8)))) else (graverlaw08_SymrecWords.j0 k a0 a1 t162 t163 t164 (t164.toList == ([67, 79, 77] : List UInt8)))) else (graverlaw08_SymrecWords.j0 k a0 a1 t162 t163 t164 true)) else (if t164.toList = ([65, 66, 83] : List UInt8) then (graverlaw08_SymrecWords.j0 k a0 a1 t162 t163 t164 true) else (if a0 = 65522 then (graverlaw08_SymrecWords.j0 k a0 a1 t162 t163 t164 (!(t164.toList == ([67, 79, 77] : List UInt8)))) else (graverlaw08_SymrecWords.j0 k a0 a1 t162 t163 t164 (t164.toList == ([67, 79, 77] : List UInt8)))))))) else (graverlaw08_SymrecWords.j0 k a0 a1 t162 t163 t164 true)) else (none)) else (none)) else (if a0 = 0 then (if t164.toList = ([85, 78, 68] : List UInt8) then (if a0 = 65521 then (if t164.toList = ([65, 66, 83] : List UInt8) then (if a0 = 65522 then (graverlaw08_SymrecWords.j0 k a0 a1 t162 t163 t164 (!(t164.toList == ([67, 79, 77] : List UInt8)))) else (graverlaw08_SymrecWords.j0 k a0 a1 t162 t163 t164 (t164.toList == ([67, 79, 77] : List UInt8)))) else (graverlaw08_SymrecWords.j0 k a0 a1 t162 t163 t164 true)) else (if t164.toList = ([65, 66, 83] : List UInt8) then (graverlaw08_SymrecWords.j0 k a0 a1 t162 t163 t164 true) else (if a0 = 65522 then (graverlaw08_SymrecWords.j0 k a0 a1 t162 t163 t164 (!(t164.toList == ([67, 79, 77] : List UInt8)))) else (graverlaw08_SymrecWords.j0 k a0 a1 t162 t163 t164 (t164.toList == ([67, 79, 77] : List UInt8)))))) else (graverlaw08_SymrecWords.j0 k a0 a1 t162 t163 t164 true)) else (if t164.toList = ([85, 78, 68] : List UInt8) then (graverlaw08_SymrecWords.j0 k a0 a1 t162 t163 t164 true) else (if a0 = 65521 then (if t164.toList = ([65, 66, 83] : List UInt8) then (if a0 = 65522 then (graverlaw08_SymrecWords.j0 k a0 a1 t162 t163 t164 (!(t164.toList == ([67, 79, 77] : List UInt8)))) else (graverlaw08_SymrecWords.j0 k a0 a1 t162 t163 t164 (t164.toList == ([67, 79, 77] : List UInt8)))) else (graverlaw08_SymrecWords.j0 k a0 a1 t162 t163 t164 true)) else (if t164.toList = ([65, 66, 83] : List UInt8) then (graverlaw08_SymrecWords.j0 k a0 a1 t162 t163 t164 true) else (if a0 = 65522 then (graverlaw08_SymrecWords.j0 k a0 a1 t162 t163 t164 (!(t164.toList == ([67, 79, 77] : List UInt8)))) else (graverlaw08_SymrecWords.j0 k a0 a1 t162 t163 t164 (t164.toList == ([67, 79, 77] : List UInt8))))))))))))) = some r := by first | (rw [hy159]; with_reducible exact H) | (have H2_ := (Option.bind_some _ _).symm.trans H; rw [hy159]; with_reducible exact H2_) | (have H2_ := (Option.bind_some _ _).symm.trans H; with_reducible exact H2_) | with_reducible exact H | (rw [hy159]; exact H) | exact H
  have Ny159 := aS hy159
  clear hy159
  replace H := Option.bind_eq_some_iff.mp H
  obtain ⟨t162, A50, H⟩ := H
  replace H : ((symrec_KindName.f a0).bind fun t163 => ((symrec_PlaceName.f a0).bind fun t164 => (if a0 < 3 then (if 0 ≤ a0 then (if a0 < (y156.length : Int) then (if t162.toList = (rdOf ByteArray.empty y156 a0).toList then (if a0 < 7 then (if a0 < (y159.length : Int) then (if t163.toList = (rdOf ByteArray.empty y159 a0).toList then (if a0 = 0 then (if t164.toList = ([85, 78, 68] : List UInt8) then (if a0 = 65521 then (if t164.toList = ([65, 66, 83] : List UInt8) then (if a0 = 65522 then (graverlaw08_SymrecWords.j0 k a0 a1 t162 t163 t164 (!(t164.toList == ([67, 79, 77] : List UInt8)))) else (graverlaw08_SymrecWords.j0 k a0 a1 t162 t163 t164 (t164.toList == ([67, 79, 77] : List UInt8)))) else (graverlaw08_SymrecWords.j0 k a0 a1 t162 t163 t164 true)) else (if t164.toList = ([65, 66, 83] : List UInt8) then (graverlaw08_SymrecWords.j0 k a0 a1 t162 t163 t164 true) else (if a0 = 65522 then (graverlaw08_SymrecWords.j0 k a0 a1 t162 t163 t164 (!(t164.toList == ([67, 79, 77] : List UInt8)))) else (graverlaw08_SymrecWords.j0 k a0 a1 t162 t163 t164 (t164.toList == ([67, 79, 77] : List UInt8)))))) else (graverlaw08_SymrecWords.j0 k a0 a1 t162 t163 t164 true)) else (if t164.toList = ([85, 78, 68] : List UInt8) then (graverlaw08_SymrecWords.j0 k a0 a1 t162 t163 t164 true) else (if a0 = 65521 then (if t164.toList = ([65, 66, 83] : List UInt8) then (if a0 = 65522 then (graverlaw08_SymrecWords.j0 k a0 a1 t162 t163 t164 (!(t164.toList == ([67, 79, 77] : List UInt8)))) else (graverlaw08_SymrecWords.j0 k a0 a1 t162 t163 t164 (t164.toList == ([67, 79, 77] : List UInt8)))) else (graverlaw08_SymrecWords.j0 k a0 a1 t162 t163 t164 true)) else (if t164.toList = ([65, 66, 83] : List UInt8) then (graverlaw08_SymrecWords.j0 k a0 a1 t162 t163 t164 true) else (if a0 = 65522 then (graverlaw08_SymrecWords.j0 k a0 a1 t162 t163 t164 (!(t164.toList == ([67, 79, 77] : List UInt8)))) else (graverlaw08_SymrecWords.j0 k a0 a1 t162 t163 t164 (t164.toList == ([67, 79, 77] : List UInt8)))))))) else (graverlaw08_SymrecWords.j0 k a0 a1 t162 t163 t164 true)) else (none)) else (if a0 = 0 then (if t164.toList = ([85, 78, 68] : List UInt8) then (if a0 = 65521 then (if t164.toList = ([65, 66, 83] : List UInt8) then (if a0 = 65522 then (graverlaw08_SymrecWords.j0 k a0 a1 t162 t163 t164 (!(t164.toList == ([67, 79, 77] : List UInt8)))) else (graverlaw08_SymrecWords.j0 k a0 a1 t162 t163 t164 (t164.toList == ([67, 79, 77] : List UInt8)))) else (graverlaw08_SymrecWords.j0 k a0 a1 t162 t163 t164 true)) else (if t164.toList = ([65, 66, 83] : List UInt8) then (graverlaw08_SymrecWords.j0 k a0 a1 t162 t163 t164 true) else (if a0 = 65522 then (graverlaw08_SymrecWords.j0 k a0 a1 t162 t163 t164 (!(t164.toList == ([67, 79, 77] : List UInt8)))) else (graverlaw08_SymrecWords.j0 k a0 a1 t162 t163 t164 (t164.toList == ([67, 79, 77] : List UInt8)))))) else (graverlaw08_SymrecWords.j0 k a0 a1 t162 t163 t164 true)) else (if t164.toList = ([85, 78, 68] : List UInt8) then (graverlaw08_SymrecWords.j0 k a0 a1 t162 t163 t164 true) else (if a0 = 65521 then (if t164.toList = ([65, 66, 83] : List UInt8) then (if a0 = 65522 then (graverlaw08_SymrecWords.j0 k a0 a1 t162 t163 t164 (!(t164.toList == ([67, 79, 77] : List UInt8)))) else (graverlaw08_SymrecWords.j0 k a0 a1 t162 t163 t164 (t164.toList == ([67, 79, 77] : List UInt8)))) else (graverlaw08_SymrecWords.j0 k a0 a1 t162 t163 t164 true)) else (if t164.toList = ([65, 66, 83] : List UInt8) then (graverlaw08_SymrecWords.j0 k a0 a1 t162 t163 t164 true) else (if a0 = 65522 then (graverlaw08_SymrecWords.j0 k a0 a1 t162 t163 t164 (!(t164.toList == ([67, 79, 77] : List UInt8)))) else (graverlaw08_SymrecWords.j0 k a0 a1 t162 t163 t164 (t164.toList == ([67, 79, 77] : List UInt8))))))))) else (graverlaw08_SymrecWords.j0 k a0 a1 t162 t163 t164 true)) else (none)) else (none)) else (if a0 < 7 then (if 0 ≤ a0 then (if a0 < (y159.length : Int) then (if t163.toList = (rdOf ByteArray.empty y159 a0).toList then (if a0 = 0 then (if t164.toList = ([85, 78, 68] : List UInt8) then (if a0 = 65521 then (if t164.toList = ([65, 66, 83] : List UInt8) then (if a0 = 65522 then (graverlaw08_SymrecWords.j0 k a0 a1 t162 t163 t164 (!(t164.toList == ([67, 79, 77] : List UInt8)))) else (graverlaw08_SymrecWords.j0 k a0 a1 t162 t163 t164 (t164.toList == ([67, 79, 77] : List UInt8)))) else (graverlaw08_SymrecWords.j0 k a0 a1 t162 t163 t164 true)) else (if t164.toList = ([65, 66, 83] : List UInt8) then (graverlaw08_SymrecWords.j0 k a0 a1 t162 t163 t164 true) else (if a0 = 65522 then (graverlaw08_SymrecWords.j0 k a0 a1 t162 t163 t164 (!(t164.toList == ([67, 79, 77] : List UInt8)))) else (graverlaw08_SymrecWords.j0 k a0 a1 t162 t163 t164 (t164.toList == ([67, 79, 77] : List UInt8)))))) else (graverlaw08_SymrecWords.j0 k a0 a1 t162 t163 t164 true)) else (if t164.toList = ([85, 78, 68] : List UInt8) then (graverlaw08_SymrecWords.j0 k a0 a1 t162 t163 t164 true) else (if a0 = 65521 then (if t164.toList = ([65, 66, 83] : List UInt8) then (if a0 = 65522 then (graverlaw08_SymrecWords.j0 k a0 a1 t162 t163 t164 (!(t164.toList == ([67, 79, 77] : List UInt8)))) else (graverlaw08_SymrecWords.j0 k a0 a1 t162 t163 t164 (t164.toList == ([67, 79, 77] : List UInt8)))) else (graverlaw08_SymrecWords.j0 k a0 a1 t162 t163 t164 true)) else (if t164.toList = ([65, 66, 83] : List UInt8) then (graverlaw08_SymrecWords.j0 k a0 a1 t162 t163 t164 true) else (if a0 = 65522 then (graverlaw08_SymrecWords.j0 k a0 a1 t162 t163 t164 (!(t164.toList == ([67, 79, 77] : List UInt8)))) else (graverlaw08_SymrecWords.j0 k a0 a1 t162 t163 t164 (t164.toList == ([67, 79, 77] : List UInt8)))))))) else (graverlaw08_SymrecWords.j0 k a0 a1 t162 t163 t164 true)) else (none)) else (none)) else (if a0 = 0 then (if t164.toList = ([85, 78, 68] : List UInt8) then (if a0 = 65521 then (if t164.toList = ([65, 66, 83] : List UInt8) then (if a0 = 65522 then (graverlaw08_SymrecWords.j0 k a0 a1 t162 t163 t164 (!(t164.toList == ([67, 79, 77] : List UInt8)))) else (graverlaw08_SymrecWords.j0 k a0 a1 t162 t163 t164 (t164.toList == ([67, 79, 77] : List UInt8)))) else (graverlaw08_SymrecWords.j0 k a0 a1 t162 t163 t164 true)) else (if t164.toList = ([65, 66, 83] : List UInt8) then (graverlaw08_SymrecWords.j0 k a0 a1 t162 t163 t164 true) else (if a0 = 65522 then (graverlaw08_SymrecWords.j0 k a0 a1 t162 t163 t164 (!(t164.toList == ([67, 79, 77] : List UInt8)))) else (graverlaw08_SymrecWords.j0 k a0 a1 t162 t163 t164 (t164.toList == ([67, 79, 77] : List UInt8)))))) else (graverlaw08_SymrecWords.j0 k a0 a1 t162 t163 t164 true)) else (if t164.toList = ([85, 78, 68] : List UInt8) then (graverlaw08_SymrecWords.j0 k a0 a1 t162 t163 t164 true) else (if a0 = 65521 then (if t164.toList = ([65, 66, 83] : List UInt8) then (if a0 = 65522 then (graverlaw08_SymrecWords.j0 k a0 a1 t162 t163 t164 (!(t164.toList == ([67, 79, 77] : List UInt8)))) else (graverlaw08_SymrecWords.j0 k a0 a1 t162 t163 t164 (t164.toList == ([67, 79, 77] : List UInt8)))) else (graverlaw08_SymrecWords.j0 k a0 a1 t162 t163 t164 true)) else (if t164.toList = ([65, 66, 83] : List UInt8) then (graverlaw08_SymrecWords.j0 k a0 a1 t162 t163 t164 true) else (if a0 = 65522 then (graverlaw08_SymrecWords.j0 k a0 a1 t162 t163 t164 (!(t164.toList == ([67, 79, 77] : List UInt8)))) else (graverlaw08_SymrecWords.j0 k a0 a1 t162 t163 t164 (t164.toList == ([67, 79, 77] : List UInt8)))))))))))) = some r := H
  have A5 := aS A50
  clear A50
  replace H := Option.bind_eq_some_iff.mp H
  obtain ⟨t163, A60, H⟩ := H
  replace H : ((symrec_PlaceName.f a0).bind fun t164 => (if a0 < 3 then (if 0 ≤ a0 then (if a0 < (y156.length : Int) then (if t162.toList = (rdOf ByteArray.empty y156 a0).toList then (if a0 < 7 then (if a0 < (y159.length : Int) then (if t163.toList = (rdOf ByteArray.empty y159 a0).toList then (if a0 = 0 then (if t164.toList = ([85, 78, 68] : List UInt8) then (if a0 = 65521 then (if t164.toList = ([65, 66, 83] : List UInt8) then (if a0 = 65522 then (graverlaw08_SymrecWords.j0 k a0 a1 t162 t163 t164 (!(t164.toList == ([67, 79, 77] : List UInt8)))) else (graverlaw08_SymrecWords.j0 k a0 a1 t162 t163 t164 (t164.toList == ([67, 79, 77] : List UInt8)))) else (graverlaw08_SymrecWords.j0 k a0 a1 t162 t163 t164 true)) else (if t164.toList = ([65, 66, 83] : List UInt8) then (graverlaw08_SymrecWords.j0 k a0 a1 t162 t163 t164 true) else (if a0 = 65522 then (graverlaw08_SymrecWords.j0 k a0 a1 t162 t163 t164 (!(t164.toList == ([67, 79, 77] : List UInt8)))) else (graverlaw08_SymrecWords.j0 k a0 a1 t162 t163 t164 (t164.toList == ([67, 79, 77] : List UInt8)))))) else (graverlaw08_SymrecWords.j0 k a0 a1 t162 t163 t164 true)) else (if t164.toList = ([85, 78, 68] : List UInt8) then (graverlaw08_SymrecWords.j0 k a0 a1 t162 t163 t164 true) else (if a0 = 65521 then (if t164.toList = ([65, 66, 83] : List UInt8) then (if a0 = 65522 then (graverlaw08_SymrecWords.j0 k a0 a1 t162 t163 t164 (!(t164.toList == ([67, 79, 77] : List UInt8)))) else (graverlaw08_SymrecWords.j0 k a0 a1 t162 t163 t164 (t164.toList == ([67, 79, 77] : List UInt8)))) else (graverlaw08_SymrecWords.j0 k a0 a1 t162 t163 t164 true)) else (if t164.toList = ([65, 66, 83] : List UInt8) then (graverlaw08_SymrecWords.j0 k a0 a1 t162 t163 t164 true) else (if a0 = 65522 then (graverlaw08_SymrecWords.j0 k a0 a1 t162 t163 t164 (!(t164.toList == ([67, 79, 77] : List UInt8)))) else (graverlaw08_SymrecWords.j0 k a0 a1 t162 t163 t164 (t164.toList == ([67, 79, 77] : List UInt8)))))))) else (graverlaw08_SymrecWords.j0 k a0 a1 t162 t163 t164 true)) else (none)) else (if a0 = 0 then (if t164.toList = ([85, 78, 68] : List UInt8) then (if a0 = 65521 then (if t164.toList = ([65, 66, 83] : List UInt8) then (if a0 = 65522 then (graverlaw08_SymrecWords.j0 k a0 a1 t162 t163 t164 (!(t164.toList == ([67, 79, 77] : List UInt8)))) else (graverlaw08_SymrecWords.j0 k a0 a1 t162 t163 t164 (t164.toList == ([67, 79, 77] : List UInt8)))) else (graverlaw08_SymrecWords.j0 k a0 a1 t162 t163 t164 true)) else (if t164.toList = ([65, 66, 83] : List UInt8) then (graverlaw08_SymrecWords.j0 k a0 a1 t162 t163 t164 true) else (if a0 = 65522 then (graverlaw08_SymrecWords.j0 k a0 a1 t162 t163 t164 (!(t164.toList == ([67, 79, 77] : List UInt8)))) else (graverlaw08_SymrecWords.j0 k a0 a1 t162 t163 t164 (t164.toList == ([67, 79, 77] : List UInt8)))))) else (graverlaw08_SymrecWords.j0 k a0 a1 t162 t163 t164 true)) else (if t164.toList = ([85, 78, 68] : List UInt8) then (graverlaw08_SymrecWords.j0 k a0 a1 t162 t163 t164 true) else (if a0 = 65521 then (if t164.toList = ([65, 66, 83] : List UInt8) then (if a0 = 65522 then (graverlaw08_SymrecWords.j0 k a0 a1 t162 t163 t164 (!(t164.toList == ([67, 79, 77] : List UInt8)))) else (graverlaw08_SymrecWords.j0 k a0 a1 t162 t163 t164 (t164.toList == ([67, 79, 77] : List UInt8)))) else (graverlaw08_SymrecWords.j0 k a0 a1 t162 t163 t164 true)) else (if t164.toList = ([65, 66, 83] : List UInt8) then (graverlaw08_SymrecWords.j0 k a0 a1 t162 t163 t164 true) else (if a0 = 65522 then (graverlaw08_SymrecWords.j0 k a0 a1 t162 t163 t164 (!(t164.toList == ([67, 79, 77] : List UInt8)))) else (graverlaw08_SymrecWords.j0 k a0 a1 t162 t163 t164 (t164.toList == ([67, 79, 77] : List UInt8))))))))) else (graverlaw08_SymrecWords.j0 k a0 a1 t162 t163 t164 true)) else (none)) else (none)) else (if a0 < 7 then (if 0 ≤ a0 then (if a0 < (y159.length : Int) then (if t163.toList = (rdOf ByteArray.empty y159 a0).toList then (if a0 = 0 then (if t164.toList = ([85, 78, 68] : List UInt8) then (if a0 = 65521 then (if t164.toList = ([65, 66, 83] : List UInt8) then (if a0 = 65522 then (graverlaw08_SymrecWords.j0 k a0 a1 t162 t163 t164 (!(t164.toList == ([67, 79, 77] : List UInt8)))) else (graverlaw08_SymrecWords.j0 k a0 a1 t162 t163 t164 (t164.toList == ([67, 79, 77] : List UInt8)))) else (graverlaw08_SymrecWords.j0 k a0 a1 t162 t163 t164 true)) else (if t164.toList = ([65, 66, 83] : List UInt8) then (graverlaw08_SymrecWords.j0 k a0 a1 t162 t163 t164 true) else (if a0 = 65522 then (graverlaw08_SymrecWords.j0 k a0 a1 t162 t163 t164 (!(t164.toList == ([67, 79, 77] : List UInt8)))) else (graverlaw08_SymrecWords.j0 k a0 a1 t162 t163 t164 (t164.toList == ([67, 79, 77] : List UInt8)))))) else (graverlaw08_SymrecWords.j0 k a0 a1 t162 t163 t164 true)) else (if t164.toList = ([85, 78, 68] : List UInt8) then (graverlaw08_SymrecWords.j0 k a0 a1 t162 t163 t164 true) else (if a0 = 65521 then (if t164.toList = ([65, 66, 83] : List UInt8) then (if a0 = 65522 then (graverlaw08_SymrecWords.j0 k a0 a1 t162 t163 t164 (!(t164.toList == ([67, 79, 77] : List UInt8)))) else (graverlaw08_SymrecWords.j0 k a0 a1 t162 t163 t164 (t164.toList == ([67, 79, 77] : List UInt8)))) else (graverlaw08_SymrecWords.j0 k a0 a1 t162 t163 t164 true)) else (if t164.toList = ([65, 66, 83] : List UInt8) then (graverlaw08_SymrecWords.j0 k a0 a1 t162 t163 t164 true) else (if a0 = 65522 then (graverlaw08_SymrecWords.j0 k a0 a1 t162 t163 t164 (!(t164.toList == ([67, 79, 77] : List UInt8)))) else (graverlaw08_SymrecWords.j0 k a0 a1 t162 t163 t164 (t164.toList == ([67, 79, 77] : List UInt8)))))))) else (graverlaw08_SymrecWords.j0 k a0 a1 t162 t163 t164 true)) else (none)) else (none)) else (if a0 = 0 then (if t164.toList = ([85, 78, 68] : List UInt8) then (if a0 = 65521 then (if t164.toList = ([65, 66, 83] : List UInt8) then (if a0 = 65522 then (graverlaw08_SymrecWords.j0 k a0 a1 t162 t163 t164 (!(t164.toList == ([67, 79, 77] : List UInt8)))) else (graverlaw08_SymrecWords.j0 k a0 a1 t162 t163 t164 (t164.toList == ([67, 79, 77] : List UInt8)))) else (graverlaw08_SymrecWords.j0 k a0 a1 t162 t163 t164 true)) else (if t164.toList = ([65, 66, 83] : List UInt8) then (graverlaw08_SymrecWords.j0 k a0 a1 t162 t163 t164 true) else (if a0 = 65522 then (graverlaw08_SymrecWords.j0 k a0 a1 t162 t163 t164 (!(t164.toList == ([67, 79, 77] : List UInt8)))) else (graverlaw08_SymrecWords.j0 k a0 a1 t162 t163 t164 (t164.toList == ([67, 79, 77] : List UInt8)))))) else (graverlaw08_SymrecWords.j0 k a0 a1 t162 t163 t164 true)) else (if t164.toList = ([85, 78, 68] : List UInt8) then (graverlaw08_SymrecWords.j0 k a0 a1 t162 t163 t164 true) else (if a0 = 65521 then (if t164.toList = ([65, 66, 83] : List UInt8) then (if a0 = 65522 then (graverlaw08_SymrecWords.j0 k a0 a1 t162 t163 t164 (!(t164.toList == ([67, 79, 77] : List UInt8)))) else (graverlaw08_SymrecWords.j0 k a0 a1 t162 t163 t164 (t164.toList == ([67, 79, 77] : List UInt8)))) else (graverlaw08_SymrecWords.j0 k a0 a1 t162 t163 t164 true)) else (if t164.toList = ([65, 66, 83] : List UInt8) then (graverlaw08_SymrecWords.j0 k a0 a1 t162 t163 t164 true) else (if a0 = 65522 then (graverlaw08_SymrecWords.j0 k a0 a1 t162 t163 t164 (!(t164.toList == ([67, 79, 77] : List UInt8)))) else (graverlaw08_SymrecWords.j0 k a0 a1 t162 t163 t164 (t164.toList == ([67, 79, 77] : List UInt8))))))))))) = some r := H
  have A6 := aS A60
  clear A60
  replace H := Option.bind_eq_some_iff.mp H
  obtain ⟨t164, A70, H⟩ := H
  replace H : (if a0 < 3 then (if 0 ≤ a0 then (if a0 < (y156.length : Int) then (if t162.toList = (rdOf ByteArray.empty y156 a0).toList then (if a0 < 7 then (if a0 < (y159.length : Int) then (if t163.toList = (rdOf ByteArray.empty y159 a0).toList then (if a0 = 0 then (if t164.toList = ([85, 78, 68] : List UInt8) then (if a0 = 65521 then (if t164.toList = ([65, 66, 83] : List UInt8) then (if a0 = 65522 then (graverlaw08_SymrecWords.j0 k a0 a1 t162 t163 t164 (!(t164.toList == ([67, 79, 77] : List UInt8)))) else (graverlaw08_SymrecWords.j0 k a0 a1 t162 t163 t164 (t164.toList == ([67, 79, 77] : List UInt8)))) else (graverlaw08_SymrecWords.j0 k a0 a1 t162 t163 t164 true)) else (if t164.toList = ([65, 66, 83] : List UInt8) then (graverlaw08_SymrecWords.j0 k a0 a1 t162 t163 t164 true) else (if a0 = 65522 then (graverlaw08_SymrecWords.j0 k a0 a1 t162 t163 t164 (!(t164.toList == ([67, 79, 77] : List UInt8)))) else (graverlaw08_SymrecWords.j0 k a0 a1 t162 t163 t164 (t164.toList == ([67, 79, 77] : List UInt8)))))) else (graverlaw08_SymrecWords.j0 k a0 a1 t162 t163 t164 true)) else (if t164.toList = ([85, 78, 68] : List UInt8) then (graverlaw08_SymrecWords.j0 k a0 a1 t162 t163 t164 true) else (if a0 = 65521 then (if t164.toList = ([65, 66, 83] : List UInt8) then (if a0 = 65522 then (graverlaw08_SymrecWords.j0 k a0 a1 t162 t163 t164 (!(t164.toList == ([67, 79, 77] : List UInt8)))) else (graverlaw08_SymrecWords.j0 k a0 a1 t162 t163 t164 (t164.toList == ([67, 79, 77] : List UInt8)))) else (graverlaw08_SymrecWords.j0 k a0 a1 t162 t163 t164 true)) else (if t164.toList = ([65, 66, 83] : List UInt8) then (graverlaw08_SymrecWords.j0 k a0 a1 t162 t163 t164 true) else (if a0 = 65522 then (graverlaw08_SymrecWords.j0 k a0 a1 t162 t163 t164 (!(t164.toList == ([67, 79, 77] : List UInt8)))) else (graverlaw08_SymrecWords.j0 k a0 a1 t162 t163 t164 (t164.toList == ([67, 79, 77] : List UInt8)))))))) else (graverlaw08_SymrecWords.j0 k a0 a1 t162 t163 t164 true)) else (none)) else (if a0 = 0 then (if t164.toList = ([85, 78, 68] : List UInt8) then (if a0 = 65521 then (if t164.toList = ([65, 66, 83] : List UInt8) then (if a0 = 65522 then (graverlaw08_SymrecWords.j0 k a0 a1 t162 t163 t164 (!(t164.toList == ([67, 79, 77] : List UInt8)))) else (graverlaw08_SymrecWords.j0 k a0 a1 t162 t163 t164 (t164.toList == ([67, 79, 77] : List UInt8)))) else (graverlaw08_SymrecWords.j0 k a0 a1 t162 t163 t164 true)) else (if t164.toList = ([65, 66, 83] : List UInt8) then (graverlaw08_SymrecWords.j0 k a0 a1 t162 t163 t164 true) else (if a0 = 65522 then (graverlaw08_SymrecWords.j0 k a0 a1 t162 t163 t164 (!(t164.toList == ([67, 79, 77] : List UInt8)))) else (graverlaw08_SymrecWords.j0 k a0 a1 t162 t163 t164 (t164.toList == ([67, 79, 77] : List UInt8)))))) else (graverlaw08_SymrecWords.j0 k a0 a1 t162 t163 t164 true)) else (if t164.toList = ([85, 78, 68] : List UInt8) then (graverlaw08_SymrecWords.j0 k a0 a1 t162 t163 t164 true) else (if a0 = 65521 then (if t164.toList = ([65, 66, 83] : List UInt8) then (if a0 = 65522 then (graverlaw08_SymrecWords.j0 k a0 a1 t162 t163 t164 (!(t164.toList == ([67, 79, 77] : List UInt8)))) else (graverlaw08_SymrecWords.j0 k a0 a1 t162 t163 t164 (t164.toList == ([67, 79, 77] : List UInt8)))) else (graverlaw08_SymrecWords.j0 k a0 a1 t162 t163 t164 true)) else (if t164.toList = ([65, 66, 83] : List UInt8) then (graverlaw08_SymrecWords.j0 k a0 a1 t162 t163 t164 true) else (if a0 = 65522 then (graverlaw08_SymrecWords.j0 k a0 a1 t162 t163 t164 (!(t164.toList == ([67, 79, 77] : List UInt8)))) else (graverlaw08_SymrecWords.j0 k a0 a1 t162 t163 t164 (t164.toList == ([67, 79, 77] : List UInt8))))))))) else (graverlaw08_SymrecWords.j0 k a0 a1 t162 t163 t164 true)) else (none)) else (none)) else (if a0 < 7 then (if 0 ≤ a0 then (if a0 < (y159.length : Int) then (if t163.toList = (rdOf ByteArray.empty y159 a0).toList then (if a0 = 0 then (if t164.toList = ([85, 78, 68] : List UInt8) then (if a0 = 65521 then (if t164.toList = ([65, 66, 83] : List UInt8) then (if a0 = 65522 then (graverlaw08_SymrecWords.j0 k a0 a1 t162 t163 t164 (!(t164.toList == ([67, 79, 77] : List UInt8)))) else (graverlaw08_SymrecWords.j0 k a0 a1 t162 t163 t164 (t164.toList == ([67, 79, 77] : List UInt8)))) else (graverlaw08_SymrecWords.j0 k a0 a1 t162 t163 t164 true)) else (if t164.toList = ([65, 66, 83] : List UInt8) then (graverlaw08_SymrecWords.j0 k a0 a1 t162 t163 t164 true) else (if a0 = 65522 then (graverlaw08_SymrecWords.j0 k a0 a1 t162 t163 t164 (!(t164.toList == ([67, 79, 77] : List UInt8)))) else (graverlaw08_SymrecWords.j0 k a0 a1 t162 t163 t164 (t164.toList == ([67, 79, 77] : List UInt8)))))) else (graverlaw08_SymrecWords.j0 k a0 a1 t162 t163 t164 true)) else (if t164.toList = ([85, 78, 68] : List UInt8) then (graverlaw08_SymrecWords.j0 k a0 a1 t162 t163 t164 true) else (if a0 = 65521 then (if t164.toList = ([65, 66, 83] : List UInt8) then (if a0 = 65522 then (graverlaw08_SymrecWords.j0 k a0 a1 t162 t163 t164 (!(t164.toList == ([67, 79, 77] : List UInt8)))) else (graverlaw08_SymrecWords.j0 k a0 a1 t162 t163 t164 (t164.toList == ([67, 79, 77] : List UInt8)))) else (graverlaw08_SymrecWords.j0 k a0 a1 t162 t163 t164 true)) else (if t164.toList = ([65, 66, 83] : List UInt8) then (graverlaw08_SymrecWords.j0 k a0 a1 t162 t163 t164 true) else (if a0 = 65522 then (graverlaw08_SymrecWords.j0 k a0 a1 t162 t163 t164 (!(t164.toList == ([67, 79, 77] : List UInt8)))) else (graverlaw08_SymrecWords.j0 k a0 a1 t162 t163 t164 (t164.toList == ([67, 79, 77] : List UInt8)))))))) else (graverlaw08_SymrecWords.j0 k a0 a1 t162 t163 t164 true)) else (none)) else (none)) else (if a0 = 0 then (if t164.toList = ([85, 78, 68] : List UInt8) then (if a0 = 65521 then (if t164.toList = ([65, 66, 83] : List UInt8) then (if a0 = 65522 then (graverlaw08_SymrecWords.j0 k a0 a1 t162 t163 t164 (!(t164.toList == ([67, 79, 77] : List UInt8)))) else (graverlaw08_SymrecWords.j0 k a0 a1 t162 t163 t164 (t164.toList == ([67, 79, 77] : List UInt8)))) else (graverlaw08_SymrecWords.j0 k a0 a1 t162 t163 t164 true)) else (if t164.toList = ([65, 66, 83] : List UInt8) then (graverlaw08_SymrecWords.j0 k a0 a1 t162 t163 t164 true) else (if a0 = 65522 then (graverlaw08_SymrecWords.j0 k a0 a1 t162 t163 t164 (!(t164.toList == ([67, 79, 77] : List UInt8)))) else (graverlaw08_SymrecWords.j0 k a0 a1 t162 t163 t164 (t164.toList == ([67, 79, 77] : List UInt8)))))) else (graverlaw08_SymrecWords.j0 k a0 a1 t162 t163 t164 true)) else (if t164.toList = ([85, 78, 68] : List UInt8) then (graverlaw08_SymrecWords.j0 k a0 a1 t162 t163 t164 true) else (if a0 = 65521 then (if t164.toList = ([65, 66, 83] : List UInt8) then (if a0 = 65522 then (graverlaw08_SymrecWords.j0 k a0 a1 t162 t163 t164 (!(t164.toList == ([67, 79, 77] : List UInt8)))) else (graverlaw08_SymrecWords.j0 k a0 a1 t162 t163 t164 (t164.toList == ([67, 79, 77] : List UInt8)))) else (graverlaw08_SymrecWords.j0 k a0 a1 t162 t163 t164 true)) else (if t164.toList = ([65, 66, 83] : List UInt8) then (graverlaw08_SymrecWords.j0 k a0 a1 t162 t163 t164 true) else (if a0 = 65522 then (graverlaw08_SymrecWords.j0 k a0 a1 t162 t163 t164 (!(t164.toList == ([67, 79, 77] : List UInt8)))) else (graverlaw08_SymrecWords.j0 k a0 a1 t162 t163 t164 (t164.toList == ([67, 79, 77] : List UInt8)))))))))) = some r := H
  have A7 := aS A70
  clear A70
  have HC8 := aS H
  clear H
  go_enter Tryd.func4, Tryd.ntmps4
  go_upto_region 5 with (first | ((with_reducible refine gate_callee (f := 32) rfl ?_); refine goesL_ (some 10) rfl rfl Tryd.func32 (by kernel_rfl) rfl #[] rfl (by (try simp only [List.map_toArray, List.map_cons, List.map_nil]); first | done | rfl | (simp only [List.length_drop, List.length_take]; rfl)) ?_; (with_reducible refine (graverlaw08_speaks.calls k  true _ ?side1 A3.out).mono ?_); (case side1 => exact Laid_symrec.below HLD_symrec.out (by repeat (first | (with_reducible first | exact HB.out | apply below_alloc | apply pw_below_drewN | apply below_drew1) | exact HB.out))); rintro e w9 ⟨rfl, hb⟩; refine ⟨_, rfl, ?_⟩; have n0_ := aS (below_step (by repeat (first | (with_reducible first | exact HB.out | apply below_alloc | apply pw_below_drewN | apply below_drew1) | exact HB.out)) hb); clear HB; have HB := n0_; clear n0_; (try clear hb); (try clear hb2); (try clear hk); (try clear hi)) | ((with_reducible refine gate_dst (N := 12) rfl ?_); refine Kd.R_lit Kd.string _ 9 ?hg (N := 12) ?hd (xs := ([(⟨#[76, 79, 67, 65, 76]⟩ : ByteArray), (⟨#[71, 76, 79, 66, 65, 76]⟩ : ByteArray), (⟨#[87, 69, 65, 75]⟩ : ByteArray)] : List ByteArray)) (inner := [.string (⟨#[76, 79, 67, 65, 76]⟩ : ByteArray), .string (⟨#[71, 76, 79, 66, 65, 76]⟩ : ByteArray), .string (⟨#[87, 69, 65, 75]⟩ : ByteArray)]) (ok := fun _ => True) (okp := fun _ => True) ?hr ?hp (fun _ hk => hk) trivial (Below.refl _ _) (Nat.le_refl _) (by simp) ?_; (case hd => rfl); (case hg => rfl); (case hr => (go_simp; try rfl)); (case hp => exact (Reps.one (show Kd.M Kd.string _ _ _ (⟨#[76, 79, 67, 65, 76]⟩ : ByteArray) [.string (⟨#[76, 79, 67, 65, 76]⟩ : ByteArray)] from rfl) (Reps.one (show Kd.M Kd.string _ _ _ (⟨#[71, 76, 79, 66, 65, 76]⟩ : ByteArray) [.string (⟨#[71, 76, 79, 66, 65, 76]⟩ : ByteArray)] from rfl) (Reps.one (show Kd.M Kd.string _ _ _ (⟨#[87, 69, 65, 75]⟩ : ByteArray) [.string (⟨#[87, 69, 65, 75]⟩ : ByteArray)] from rfl) (Reps.none _ _))))); intro v157 w10 ho11 hb hg_ hnew_; clear hg_ hnew_; (first | rw [← Ny156.out] at ho11 | (simp only [Int.reduceToNat] at ho11; rw [← Ny156.out] at ho11)); have n0_ := aS (Kd.R_lower ho11 (below_size (by repeat (first | (with_reducible first | exact HB.out | apply below_alloc | apply pw_below_drewN | apply below_drew1) | exact HB.out)))); have n1_ := aS (below_step (by repeat (first | (with_reducible first | exact HB.out | apply below_alloc | apply pw_below_drewN | apply below_drew1) | exact HB.out)) hb); clear HB; have HO158 := n0_; have HB := n1_; clear n0_ n1_; clear hb ho11) | ((with_reducible refine gate_dst (N := 13) rfl ?_); refine Kd.R_lit Kd.string _ 9 ?hg (N := 13) ?hd (xs := ([(⟨#[78, 79, 84, 89, 80, 69]⟩ : ByteArray), (⟨#[79, 66, 74, 69, 67, 84]⟩ : ByteArray), (⟨#[70, 85, 78, 67]⟩ : ByteArray), (⟨#[83, 69, 67, 84, 73, 79, 78]⟩ : ByteArray), (⟨#[70, 73, 76, 69]⟩ : ByteArray), (⟨#[67, 79, 77, 77, 79, 78]⟩ : ByteArray), (⟨#[84, 76, 83]⟩ : ByteArray)] : List ByteArray)) (inner := [.string (⟨#[78, 79, 84, 89, 80, 69]⟩ : ByteArray), .string (⟨#[79, 66, 74, 69, 67, 84]⟩ : ByteArray), .string (⟨#[70, 85, 78, 67]⟩ : ByteArray), .string (⟨#[83, 69, 67, 84, 73, 79, 78]⟩ : ByteArray), .string (⟨#[70, 73, 76, 69]⟩ : ByteArray), .string (⟨#[67, 79, 77, 77, 79, 78]⟩ : ByteArray), .string (⟨#[84, 76, 83]⟩ : ByteArray)]) (ok := fun _ => True) (okp := fun _ => True) ?hr ?hp (fun _ hk => hk) trivial (Below.refl _ _) (Nat.le_refl _) (by simp) ?_; (case hd => rfl); (case hg => rfl); (case hr => (go_simp; try rfl)); (case hp => exact (Reps.one (show Kd.M Kd.string _ _ _ (⟨#[78, 79, 84, 89, 80, 69]⟩ : ByteArray) [.string (⟨#[78, 79, 84, 89, 80, 69]⟩ : ByteArray)] from rfl) (Reps.one (show Kd.M Kd.string _ _ _ (⟨#[79, 66, 74, 69, 67, 84]⟩ : ByteArray) [.string (⟨#[79, 66, 74, 69, 67, 84]⟩ : ByteArray)] from rfl) (Reps.one (show Kd.M Kd.string _ _ _ (⟨#[70, 85, 78, 67]⟩ : ByteArray) [.string (⟨#[70, 85, 78, 67]⟩ : ByteArray)] from rfl) (Reps.one (show Kd.M Kd.string _ _ _ (⟨#[83, 69, 67, 84, 73, 79, 78]⟩ : ByteArray) [.string (⟨#[83, 69, 67, 84, 73, 79, 78]⟩ : ByteArray)] from rfl) (Reps.one (show Kd.M Kd.string _ _ _ (⟨#[70, 73, 76, 69]⟩ : ByteArray) [.string (⟨#[70, 73, 76, 69]⟩ : ByteArray)] from rfl) (Reps.one (show Kd.M Kd.string _ _ _ (⟨#[67, 79, 77, 77, 79, 78]⟩ : ByteArray) [.string (⟨#[67, 79, 77, 77, 79, 78]⟩ : ByteArray)] from rfl) (Reps.one (show Kd.M Kd.string _ _ _ (⟨#[84, 76, 83]⟩ : ByteArray) [.string (⟨#[84, 76, 83]⟩ : ByteArray)] from rfl) (Reps.none _ _))))))))); intro v160 w12 ho13 hb hg_ hnew_; clear hg_ hnew_; (first | rw [← Ny159.out] at ho13 | (simp only [Int.reduceToNat] at ho13; rw [← Ny159.out] at ho13)); have n0_ := aS (Kd.R_elder' (by (with_reducible repeat (first | apply Kd.R_alloc | apply Kd.R_drewN | apply Kd.R_drew)); exact HO158.out) (Kd.R_base ho13) hb); have n1_ := aS (Kd.R_lower (Kd.R_new' ho13 (Kd.R_lt (by (with_reducible repeat (first | apply Kd.R_alloc | apply Kd.R_drewN | apply Kd.R_drew)); exact HO158.out))) (below_size (by repeat (first | (with_reducible first | exact HB.out | apply below_alloc | apply pw_below_drewN | apply below_drew1) | exact HB.out)))); have n2_ := aS (below_step (by repeat (first | (with_reducible first | exact HB.out | apply below_alloc | apply pw_below_drewN | apply below_drew1) | exact HB.out)) hb); clear HO158; clear HB; have HO158 := n0_; have HO161 := n1_; have HB := n2_; clear n0_ n1_ n2_; clear hb ho13) | ((with_reducible refine gate_callee (f := 33) rfl ?_); refine goesL_ (some 15) rfl rfl Tryd.func33 (by kernel_rfl) rfl #[.int .u64 a0] rfl (by (try simp only [List.map_toArray, List.map_cons, List.map_nil]); first | done | rfl | (simp only [List.length_drop, List.length_take]; rfl)) ?_; (with_reducible refine (symrec_BindName.calls a0 t162 _ ?side1 ?side2 A5.out).mono ?_); (case side1 => exact Laid_strconv.below HLD_strconv.out (by repeat (first | (with_reducible first | exact HB.out | apply below_alloc | apply pw_below_drewN | apply below_drew1) | exact HB.out))); (case side2 => exact Laid_symrecn.below HLD_symrecn.out (by repeat (first | (with_reducible first | exact HB.out | apply below_alloc | apply pw_below_drewN | apply below_drew1) | exact HB.out))); rintro e w14 ⟨rfl, hb⟩; refine ⟨_, rfl, ?_⟩; have n0_ := aS (Kd.R_below (by (with_reducible repeat (first | apply Kd.R_alloc | apply Kd.R_drewN | apply Kd.R_drew)); exact HO158.out) hb); have n1_ := aS (Kd.R_below (by (with_reducible repeat (first | apply Kd.R_alloc | apply Kd.R_drewN | apply Kd.R_drew)); exact HO161.out) hb); have n2_ := aS (below_step (by repeat (first | (with_reducible first | exact HB.out | apply below_alloc | apply pw_below_drewN | apply below_drew1) | exact HB.out)) hb); clear HO158; clear HO161; clear HB; have HO158 := n0_; have HO161 := n1_; have HB := n2_; clear n0_ n1_ n2_; (try clear hb); (try clear hb2); (try clear hk); (try clear hi)) | ((with_reducible refine gate_callee (f := 34) rfl ?_); refine goesL_ (some 17) rfl rfl Tryd.func34 (by kernel_rfl) rfl #[.int .u64 a0] rfl (by (try simp only [List.map_toArray, List.map_cons, List.map_nil]); first | done | rfl | (simp only [List.length_drop, List.length_take]; rfl)) ?_; (with_reducible refine (symrec_KindName.calls a0 t163 _ ?side1 ?side2 A6.out).mono ?_); (case side1 => exact Laid_strconv.below HLD_strconv.out (by repeat (first | (with_reducible first | exact HB.out | apply below_alloc | apply pw_below_drewN | apply below_drew1) | exact HB.out))); (case side2 => exact Laid_symrecn.below HLD_symrecn.out (by repeat (first | (with_reducible first | exact HB.out | apply below_alloc | apply pw_below_drewN | apply below_drew1) | exact HB.out))); rintro e w15 ⟨rfl, hb⟩; refine ⟨_, rfl, ?_⟩; have n0_ := aS (Kd.R_below (by (with_reducible repeat (first | apply Kd.R_alloc | apply Kd.R_drewN | apply Kd.R_drew)); exact HO158.out) hb); have n1_ := aS (Kd.R_below (by (with_reducible repeat (first | apply Kd.R_alloc | apply Kd.R_drewN | apply Kd.R_drew)); exact HO161.out) hb); have n2_ := aS (below_step (by repeat (first | (with_reducible first | exact HB.out | apply below_alloc | apply pw_below_drewN | apply below_drew1) | exact HB.out)) hb); clear HO158; clear HO161; clear HB; have HO158 := n0_; have HO161 := n1_; have HB := n2_; clear n0_ n1_ n2_; (try clear hb); (try clear hb2); (try clear hk); (try clear hi)) | ((with_reducible refine gate_callee (f := 35) rfl ?_); refine goesL_ (some 19) rfl rfl Tryd.func35 (by kernel_rfl) rfl #[.int .u64 a0] rfl (by (try simp only [List.map_toArray, List.map_cons, List.map_nil]); first | done | rfl | (simp only [List.length_drop, List.length_take]; rfl)) ?_; (with_reducible refine (symrec_PlaceName.calls a0 t164 _ ?side1 A7.out).mono ?_); (case side1 => exact Laid_strconv.below HLD_strconv.out (by repeat (first | (with_reducible first | exact HB.out | apply below_alloc | apply pw_below_drewN | apply below_drew1) | exact HB.out))); rintro e w16 ⟨rfl, hb⟩; refine ⟨_, rfl, ?_⟩; have n0_ := aS (Kd.R_below (by (with_reducible repeat (first | apply Kd.R_alloc | apply Kd.R_drewN | apply Kd.R_drew)); exact HO158.out) hb); have n1_ := aS (Kd.R_below (by (with_reducible repeat (first | apply Kd.R_alloc | apply Kd.R_drewN | apply Kd.R_drew)); exact HO161.out) hb); have n2_ := aS (below_step (by repeat (first | (with_reducible first | exact HB.out | apply below_alloc | apply pw_below_drewN | apply below_drew1) | exact HB.out)) hb); clear HO158; clear HO161; clear HB; have HO158 := n0_; have HO161 := n1_; have HB := n2_; clear n0_ n1_ n2_; (try clear hb); (try clear hb2); (try clear hk); (try clear hi)))
  (try simp only [Act.put, List.setIfInBounds_toArray, List.set_cons_zero, List.set_cons_succ])
  go_cut [62] (fun v62 wc => ∃ (kq : Nat) (x62_7 : Bool), v62 = .bool x62_7 ∧ Aside0 (graverlaw08_SymrecWords.j0 kq a0 a1 t162 t163 t164 x62_7 = some r) ∧ Aside0 (kq ≤ k) ∧ Aside0 (Below w.heap.size w wc))
  case first =>
   have H := HC8.out
   clear HC8
   by_cases c17 : a0 < 3
   ·
    rw [if_pos c17] at H
    have c17b0 : decide (a0 < 3) = true := decide_eq_true c17
    clear c17
    (first | rw [c17b0] | (simp only [i64_w, i32_w]; rw [c17b0]) | skip)
    by_cases c18 : 0 ≤ a0
    ·
     rw [if_pos c18] at H
     have c18b0 : decide (0 ≤ a0) = true := decide_eq_true c18
     clear c18
     by_cases c19 : a0 < (y156.length : Int)
     ·
      rw [if_pos c19] at H
      have c19b0 : decide (a0 < (y156.length : Int)) = true := decide_eq_true c19
      clear c19
      by_cases c20 : t162.toList = (rdOf ByteArray.empty y156 a0).toList
      ·
       rw [if_pos c20] at H
       have c20b0 : (t162.toList == (rdOf ByteArray.empty y156 a0).toList) = true := beq_iff_eq.mpr c20
       have c20b1 : (t162.toList != (rdOf ByteArray.empty y156 a0).toList) = false := bne_eq_false_iff_eq.mpr c20
       clear c20
       by_cases c21 : a0 < 7
       ·
        rw [if_pos c21] at H
        have c21b0 : decide (a0 < 7) = true := decide_eq_true c21
        clear c21
        by_cases c22 : a0 < (y159.length : Int)
        ·
         rw [if_pos c22] at H
         have c22b0 : decide (a0 < (y159.length : Int)) = true := decide_eq_true c22
         clear c22
         by_cases c23 : t163.toList = (rdOf ByteArray.empty y159 a0).toList
         ·
          rw [if_pos c23] at H
          have c23b0 : (t163.toList == (rdOf ByteArray.empty y159 a0).toList) = true := beq_iff_eq.mpr c23
          have c23b1 : (t163.toList != (rdOf ByteArray.empty y159 a0).toList) = false := bne_eq_false_iff_eq.mpr c23
          clear c23
          by_cases c24 : a0 = 0
          ·
           rw [if_pos c24] at H
           have c24b0 : (a0 == 0) = true := beq_iff_eq.mpr c24
           have c24b1 : (a0 != 0) = false := bne_eq_false_iff_eq.mpr c24
           clear c24
           by_cases c25 : t164.toList = ([85, 78, 68] : List UInt8)
           ·
            rw [if_pos c25] at H
            have c25b0 : (t164.toList == ([85, 78, 68] : List UInt8)) = true := beq_iff_eq.mpr c25
            have c25b1 : (t164.toList != ([85, 78, 68] : List UInt8)) = false := bne_eq_false_iff_eq.mpr c25
            clear c25
            by_cases c26 : a0 = 65521
            ·
             rw [if_pos c26] at H
             have c26b0 : (a0 == 65521) = true := beq_iff_eq.mpr c26
             have c26b1 : (a0 != 65521) = false := bne_eq_false_iff_eq.mpr c26
             clear c26
             by_cases c27 : t164.toList = ([65, 66, 83] : List UInt8)
             ·
              rw [if_pos c27] at H
              have c27b0 : (t164.toList == ([65, 66, 83] : List UInt8)) = true := beq_iff_eq.mpr c27
              have c27b1 : (t164.toList != ([65, 66, 83] : List UInt8)) = false := bne_eq_false_iff_eq.mpr c27
              clear c27
              by_cases c28 : a0 = 65522
              ·
               rw [if_pos c28] at H
               have c28b0 : (a0 == 65522) = true := beq_iff_eq.mpr c28
               have c28b1 : (a0 != 65522) = false := bne_eq_false_iff_eq.mpr c28
               clear c28
               have H' := aS H
               clear H
               obtain ⟨Ao29, co29, eo29⟩ := Kd.R_slice HO158.out
               subst eo29
               have p165 : 0 ≤ (a0 : Int) := of_decide_eq_true (by first | (with_reducible assumption) | assumption)
               have q165 : a0 < (y156.length : Int) := of_decide_eq_true (by first | (with_reducible assumption) | assumption)
               obtain ⟨ad165, e165, hx165_0⟩ := Kd.at_string (Kd.R_reads' HO158.out).2.2 a0 p165 q165
               cases e165
               replace p165 := eq_true p165
               replace q165 := eq_true q165
               obtain ⟨Ao30, co30, eo30⟩ := Kd.R_slice HO161.out
               subst eo30
               have p166 : 0 ≤ (a0 : Int) := of_decide_eq_true (by first | (with_reducible assumption) | assumption)
               have q166 : a0 < (y159.length : Int) := of_decide_eq_true (by first | (with_reducible assumption) | assumption)
               obtain ⟨ad166, e166, hx166_0⟩ := Kd.at_string (Kd.R_reads' HO161.out).2.2 a0 p166 q166
               cases e166
               replace p166 := eq_true p166
               replace q166 := eq_true q166
               go_wp2
               go_meet
               case rel => exact ⟨_, (!(t164.toList == ([67, 79, 77] : List UInt8))), (by first | rfl | (simp; done) | (simp [*]; done)), H', ⟨by first | omega | exact Nat.le_refl _⟩, ⟨by repeat (first | (with_reducible first | exact HB.out | apply below_alloc | apply pw_below_drewN | apply below_drew1) | exact HB.out)⟩⟩
              ·
               rw [if_neg c28] at H
               have c28b0 : (a0 == 65522) = false := beq_eq_false_iff_ne.mpr c28
               have c28b1 : (a0 != 65522) = true := bne_iff_ne.mpr c28
               have H' := aS H
               clear H
               obtain ⟨Ao31, co31, eo31⟩ := Kd.R_slice HO158.out
               subst eo31
               have p165 : 0 ≤ (a0 : Int) := of_decide_eq_true (by first | (with_reducible assumption) | assumption)
               have q165 : a0 < (y156.length : Int) := of_decide_eq_true (by first | (with_reducible assumption) | assumption)
               obtain ⟨ad165, e165, hx165_0⟩ := Kd.at_string (Kd.R_reads' HO158.out).2.2 a0 p165 q165
               cases e165
               replace p165 := eq_true p165
               replace q165 := eq_true q165
               obtain ⟨Ao32, co32, eo32⟩ := Kd.R_slice HO161.out
               subst eo32
               have p166 : 0 ≤ (a0 : Int) := of_decide_eq_true (by first | (with_reducible assumption) | assumption)
               have q166 : a0 < (y159.length : Int) := of_decide_eq_true (by first | (with_reducible assumption) | assumption)
               obtain ⟨ad166, e166, hx166_0⟩ := Kd.at_string (Kd.R_reads' HO161.out).2.2 a0 p166 q166
               cases e166
               replace p166 := eq_true p166
               replace q166 := eq_true q166
               go_wp2
               go_meet
               case rel => exact ⟨_, ((t164.toList == ([67, 79, 77] : List UInt8))), (by first | rfl | (simp; done) | (simp [*]; done)), H', ⟨by first | omega | exact Nat.le_refl _⟩, ⟨by repeat (first | (with_reducible first | exact HB.out | apply below_alloc | apply pw_below_drewN | apply below_drew1) | exact HB.out)⟩⟩
             ·
              rw [if_neg c27] at H
              have c27b0 : (t164.toList == ([65, 66, 83] : List UInt8)) = false := beq_eq_false_iff_ne.mpr c27
              have c27b1 : (t164.toList != ([65, 66, 83] : List UInt8)) = true := bne_iff_ne.mpr c27
              have H' := aS H
              clear H
              obtain ⟨Ao33, co33, eo33⟩ := Kd.R_slice HO158.out
              subst eo33
              have p165 : 0 ≤ (a0 : Int) := of_decide_eq_true (by first | (with_reducible assumption) | assumption)
              have q165 : a0 < (y156.length : Int) := of_decide_eq_true (by first | (with_reducible assumption) | assumption)
              obtain ⟨ad165, e165, hx165_0⟩ := Kd.at_string (Kd.R_reads' HO158.out).2.2 a0 p165 q165
              cases e165
              replace p165 := eq_true p165
              replace q165 := eq_true q165
              obtain ⟨Ao34, co34, eo34⟩ := Kd.R_slice HO161.out
              subst eo34
              have p166 : 0 ≤ (a0 : Int) := of_decide_eq_true (by first | (with_reducible assumption) | assumption)
              have q166 : a0 < (y159.length : Int) := of_decide_eq_true (by first | (with_reducible assumption) | assumption)
              obtain ⟨ad166, e166, hx166_0⟩ := Kd.at_string (Kd.R_reads' HO161.out).2.2 a0 p166 q166
              cases e166
              replace p166 := eq_true p166
              replace q166 := eq_true q166
              go_wp2
              go_meet
              case rel => exact ⟨_, (true), (by first | rfl | (simp; done) | (simp [*]; done)), H', ⟨by first | omega | exact Nat.le_refl _⟩, ⟨by repeat (first | (with_reducible first | exact HB.out | apply below_alloc | apply pw_below_drewN | apply below_drew1) | exact HB.out)⟩⟩
            ·
             rw [if_neg c26] at H
             have c26b0 : (a0 == 65521) = false := beq_eq_false_iff_ne.mpr c26
             have c26b1 : (a0 != 65521) = true := bne_iff_ne.mpr c26
             by_cases c35 : t164.toList = ([65, 66, 83] : List UInt8)
             ·
              rw [if_pos c35] at H
              have c35b0 : (t164.toList == ([65, 66, 83] : List UInt8)) = true := beq_iff_eq.mpr c35
              have c35b1 : (t164.toList != ([65, 66, 83] : List UInt8)) = false := bne_eq_false_iff_eq.mpr c35
              clear c35
              have H' := aS H
              clear H
              obtain ⟨Ao36, co36, eo36⟩ := Kd.R_slice HO158.out
              subst eo36
              have p165 : 0 ≤ (a0 : Int) := of_decide_eq_true (by first | (with_reducible assumption) | assumption)
              have q165 : a0 < (y156.length : Int) := of_decide_eq_true (by first | (with_reducible assumption) | assumption)
              obtain ⟨ad165, e165, hx165_0⟩ := Kd.at_string (Kd.R_reads' HO158.out).2.2 a0 p165 q165
              cases e165
              replace p165 := eq_true p165
              replace q165 := eq_true q165
              obtain ⟨Ao37, co37, eo37⟩ := Kd.R_slice HO161.out
              subst eo37
              have p166 : 0 ≤ (a0 : Int) := of_decide_eq_true (by first | (with_reducible assumption) | assumption)
              have q166 : a0 < (y159.length : Int) := of_decide_eq_true (by first | (with_reducible assumption) | assumption)
              obtain ⟨ad166, e166, hx166_0⟩ := Kd.at_string (Kd.R_reads' HO161.out).2.2 a0 p166 q166
              cases e166
              replace p166 := eq_true p166
              replace q166 := eq_true q166
              go_wp2
              go_meet
              case rel => exact ⟨_, (true), (by first | rfl | (simp; done) | (simp [*]; done)), H', ⟨by first | omega | exact Nat.le_refl _⟩, ⟨by repeat (first | (with_reducible first | exact HB.out | apply below_alloc | apply pw_below_drewN | apply below_drew1) | exact HB.out)⟩⟩
             ·
              rw [if_neg c35] at H
              have c35b0 : (t164.toList == ([65, 66, 83] : List UInt8)) = false := beq_eq_false_iff_ne.mpr c35
              have c35b1 : (t164.toList != ([65, 66, 83] : List UInt8)) = true := bne_iff_ne.mpr c35
              by_cases c38 : a0 = 65522
              ·
               rw [if_pos c38] at H
               have c38b0 : (a0 == 65522) = true := beq_iff_eq.mpr c38
               have c38b1 : (a0 != 65522) = false := bne_eq_false_iff_eq.mpr c38
               clear c38
               have H' := aS H
               clear H
               obtain ⟨Ao39, co39, eo39⟩ := Kd.R_slice HO158.out
               subst eo39
               have p165 : 0 ≤ (a0 : Int) := of_decide_eq_true (by first | (with_reducible assumption) | assumption)
               have q165 : a0 < (y156.length : Int) := of_decide_eq_true (by first | (with_reducible assumption) | assumption)
               obtain ⟨ad165, e165, hx165_0⟩ := Kd.at_string (Kd.R_reads' HO158.out).2.2 a0 p165 q165
               cases e165
               replace p165 := eq_true p165
               replace q165 := eq_true q165
               obtain ⟨Ao40, co40, eo40⟩ := Kd.R_slice HO161.out
               subst eo40
               have p166 : 0 ≤ (a0 : Int) := of_decide_eq_true (by first | (with_reducible assumption) | assumption)
               have q166 : a0 < (y159.length : Int) := of_decide_eq_true (by first | (with_reducible assumption) | assumption)
               obtain ⟨ad166, e166, hx166_0⟩ := Kd.at_string (Kd.R_reads' HO161.out).2.2 a0 p166 q166
               cases e166
               replace p166 := eq_true p166
               replace q166 := eq_true q166
               go_wp2
               go_meet
               case rel => exact ⟨_, (!(t164.toList == ([67, 79, 77] : List UInt8))), (by first | rfl | (simp; done) | (simp [*]; done)), H', ⟨by first | omega | exact Nat.le_refl _⟩, ⟨by repeat (first | (with_reducible first | exact HB.out | apply below_alloc | apply pw_below_drewN | apply below_drew1) | exact HB.out)⟩⟩
              ·
               rw [if_neg c38] at H
               have c38b0 : (a0 == 65522) = false := beq_eq_false_iff_ne.mpr c38
               have c38b1 : (a0 != 65522) = true := bne_iff_ne.mpr c38
               have H' := aS H
               clear H
               obtain ⟨Ao41, co41, eo41⟩ := Kd.R_slice HO158.out
               subst eo41
               have p165 : 0 ≤ (a0 : Int) := of_decide_eq_true (by first | (with_reducible assumption) | assumption)
               have q165 : a0 < (y156.length : Int) := of_decide_eq_true (by first | (with_reducible assumption) | assumption)
               obtain ⟨ad165, e165, hx165_0⟩ := Kd.at_string (Kd.R_reads' HO158.out).2.2 a0 p165 q165
               cases e165
               replace p165 := eq_true p165
               replace q165 := eq_true q165
               obtain ⟨Ao42, co42, eo42⟩ := Kd.R_slice HO161.out
               subst eo42
               have p166 : 0 ≤ (a0 : Int) := of_decide_eq_true (by first | (with_reducible assumption) | assumption)
               have q166 : a0 < (y159.length : Int) := of_decide_eq_true (by first | (with_reducible assumption) | assumption)
               obtain ⟨ad166, e166, hx166_0⟩ := Kd.at_string (Kd.R_reads' HO161.out).2.2 a0 p166 q166
               cases e166
               replace p166 := eq_true p166
               replace q166 := eq_true q166
               go_wp2
               go_meet
               case rel => exact ⟨_, ((t164.toList == ([67, 79, 77] : List UInt8))), (by first | rfl | (simp; done) | (simp [*]; done)), H', ⟨by first | omega | exact Nat.le_refl _⟩, ⟨by repeat (first | (with_reducible first | exact HB.out | apply below_alloc | apply pw_below_drewN | apply below_drew1) | exact HB.out)⟩⟩
           ·
            rw [if_neg c25] at H
            have c25b0 : (t164.toList == ([85, 78, 68] : List UInt8)) = false := beq_eq_false_iff_ne.mpr c25
            have c25b1 : (t164.toList != ([85, 78, 68] : List UInt8)) = true := bne_iff_ne.mpr c25
            have H' := aS H
            clear H
            obtain ⟨Ao43, co43, eo43⟩ := Kd.R_slice HO158.out
            subst eo43
            have p165 : 0 ≤ (a0 : Int) := of_decide_eq_true (by first | (with_reducible assumption) | assumption)
            have q165 : a0 < (y156.length : Int) := of_decide_eq_true (by first | (with_reducible assumption) | assumption)
            obtain ⟨ad165, e165, hx165_0⟩ := Kd.at_string (Kd.R_reads' HO158.out).2.2 a0 p165 q165
            cases e165
            replace p165 := eq_true p165
            replace q165 := eq_true q165
            obtain ⟨Ao44, co44, eo44⟩ := Kd.R_slice HO161.out
            subst eo44
            have p166 : 0 ≤ (a0 : Int) := of_decide_eq_true (by first | (with_reducible assumption) | assumption)
            have q166 : a0 < (y159.length : Int) := of_decide_eq_true (by first | (with_reducible assumption) | assumption)
            obtain ⟨ad166, e166, hx166_0⟩ := Kd.at_string (Kd.R_reads' HO161.out).2.2 a0 p166 q166
            cases e166
            replace p166 := eq_true p166
            replace q166 := eq_true q166
            go_wp2
            go_meet
            case rel => exact ⟨_, (true), (by first | rfl | (simp; done) | (simp [*]; done)), H', ⟨by first | omega | exact Nat.le_refl _⟩, ⟨by repeat (first | (with_reducible first | exact HB.out | apply below_alloc | apply pw_below_drewN | apply below_drew1) | exact HB.out)⟩⟩
          ·
           rw [if_neg c24] at H
           have c24b0 : (a0 == 0) = false := beq_eq_false_iff_ne.mpr c24
           have c24b1 : (a0 != 0) = true := bne_iff_ne.mpr c24
           by_cases c45 : t164.toList = ([85, 78, 68] : List UInt8)
           ·
            rw [if_pos c45] at H
            have c45b0 : (t164.toList == ([85, 78, 68] : List UInt8)) = true := beq_iff_eq.mpr c45
            have c45b1 : (t164.toList != ([85, 78, 68] : List UInt8)) = false := bne_eq_false_iff_eq.mpr c45
            clear c45
            have H' := aS H
            clear H
            obtain ⟨Ao46, co46, eo46⟩ := Kd.R_slice HO158.out
            subst eo46
            have p165 : 0 ≤ (a0 : Int) := of_decide_eq_true (by first | (with_reducible assumption) | assumption)
            have q165 : a0 < (y156.length : Int) := of_decide_eq_true (by first | (with_reducible assumption) | assumption)
            obtain ⟨ad165, e165, hx165_0⟩ := Kd.at_string (Kd.R_reads' HO158.out).2.2 a0 p165 q165
            cases e165
            replace p165 := eq_true p165
            replace q165 := eq_true q165
            obtain ⟨Ao47, co47, eo47⟩ := Kd.R_slice HO161.out
            subst eo47
            have p166 : 0 ≤ (a0 : Int) := of_decide_eq_true (by first | (with_reducible assumption) | assumption)
            have q166 : a0 < (y159.length : Int) := of_decide_eq_true (by first | (with_reducible assumption) | assumption)
            obtain ⟨ad166, e166, hx166_0⟩ := Kd.at_string (Kd.R_reads' HO161.out).2.2 a0 p166 q166
            cases e166
            replace p166 := eq_true p166
            replace q166 := eq_true q166
            go_wp2
            go_meet
            case rel => exact ⟨_, (true), (by first | rfl | (simp; done) | (simp [*]; done)), H', ⟨by first | omega | exact Nat.le_refl _⟩, ⟨by repeat (first | (with_reducible first | exact HB.out | apply below_alloc | apply pw_below_drewN | apply below_drew1) | exact HB.out)⟩⟩
           ·
            rw [if_neg c45] at H
            have c45b0 : (t164.toList == ([85, 78, 68] : List UInt8)) = false := beq_eq_false_iff_ne.mpr c45
            have c45b1 : (t164.toList != ([85, 78, 68] : List UInt8)) = true := bne_iff_ne.mpr c45
            by_cases c48 : a0 = 65521
            ·
             rw [if_pos c48] at H
             have c48b0 : (a0 == 65521) = true := beq_iff_eq.mpr c48
             have c48b1 : (a0 != 65521) = false := bne_eq_false_iff_eq.mpr c48
             clear c48
             by_cases c49 : t164.toList = ([65, 66, 83] : List UInt8)
             ·
              rw [if_pos c49] at H
              have c49b0 : (t164.toList == ([65, 66, 83] : List UInt8)) = true := beq_iff_eq.mpr c49
              have c49b1 : (t164.toList != ([65, 66, 83] : List UInt8)) = false := bne_eq_false_iff_eq.mpr c49
              clear c49
              by_cases c50 : a0 = 65522
              ·
               rw [if_pos c50] at H
               have c50b0 : (a0 == 65522) = true := beq_iff_eq.mpr c50
               have c50b1 : (a0 != 65522) = false := bne_eq_false_iff_eq.mpr c50
               clear c50
               have H' := aS H
               clear H
               obtain ⟨Ao51, co51, eo51⟩ := Kd.R_slice HO158.out
               subst eo51
               have p165 : 0 ≤ (a0 : Int) := of_decide_eq_true (by first | (with_reducible assumption) | assumption)
               have q165 : a0 < (y156.length : Int) := of_decide_eq_true (by first | (with_reducible assumption) | assumption)
               obtain ⟨ad165, e165, hx165_0⟩ := Kd.at_string (Kd.R_reads' HO158.out).2.2 a0 p165 q165
               cases e165
               replace p165 := eq_true p165
               replace q165 := eq_true q165
               obtain ⟨Ao52, co52, eo52⟩ := Kd.R_slice HO161.out
               subst eo52
               have p166 : 0 ≤ (a0 : Int) := of_decide_eq_true (by first | (with_reducible assumption) | assumption)
               have q166 : a0 < (y159.length : Int) := of_decide_eq_true (by first | (with_reducible assumption) | assumption)
               obtain ⟨ad166, e166, hx166_0⟩ := Kd.at_string (Kd.R_reads' HO161.out).2.2 a0 p166 q166
               cases e166
               replace p166 := eq_true p166
               replace q166 := eq_true q166
               go_wp2
               go_meet
               case rel => exact ⟨_, (!(t164.toList == ([67, 79, 77] : List UInt8))), (by first | rfl | (simp; done) | (simp [*]; done)), H', ⟨by first | omega | exact Nat.le_refl _⟩, ⟨by repeat (first | (with_reducible first | exact HB.out | apply below_alloc | apply pw_below_drewN | apply below_drew1) | exact HB.out)⟩⟩
              ·
               rw [if_neg c50] at H
               have c50b0 : (a0 == 65522) = false := beq_eq_false_iff_ne.mpr c50
               have c50b1 : (a0 != 65522) = true := bne_iff_ne.mpr c50
               have H' := aS H
               clear H
               obtain ⟨Ao53, co53, eo53⟩ := Kd.R_slice HO158.out
               subst eo53
               have p165 : 0 ≤ (a0 : Int) := of_decide_eq_true (by first | (with_reducible assumption) | assumption)
               have q165 : a0 < (y156.length : Int) := of_decide_eq_true (by first | (with_reducible assumption) | assumption)
               obtain ⟨ad165, e165, hx165_0⟩ := Kd.at_string (Kd.R_reads' HO158.out).2.2 a0 p165 q165
               cases e165
               replace p165 := eq_true p165
               replace q165 := eq_true q165
               obtain ⟨Ao54, co54, eo54⟩ := Kd.R_slice HO161.out
               subst eo54
               have p166 : 0 ≤ (a0 : Int) := of_decide_eq_true (by first | (with_reducible assumption) | assumption)
               have q166 : a0 < (y159.length : Int) := of_decide_eq_true (by first | (with_reducible assumption) | assumption)
               obtain ⟨ad166, e166, hx166_0⟩ := Kd.at_string (Kd.R_reads' HO161.out).2.2 a0 p166 q166
               cases e166
               replace p166 := eq_true p166
               replace q166 := eq_true q166
               go_wp2
               go_meet
               case rel => exact ⟨_, ((t164.toList == ([67, 79, 77] : List UInt8))), (by first | rfl | (simp; done) | (simp [*]; done)), H', ⟨by first | omega | exact Nat.le_refl _⟩, ⟨by repeat (first | (with_reducible first | exact HB.out | apply below_alloc | apply pw_below_drewN | apply below_drew1) | exact HB.out)⟩⟩
             ·
              rw [if_neg c49] at H
              have c49b0 : (t164.toList == ([65, 66, 83] : List UInt8)) = false := beq_eq_false_iff_ne.mpr c49
              have c49b1 : (t164.toList != ([65, 66, 83] : List UInt8)) = true := bne_iff_ne.mpr c49
              have H' := aS H
              clear H
              obtain ⟨Ao55, co55, eo55⟩ := Kd.R_slice HO158.out
              subst eo55
              have p165 : 0 ≤ (a0 : Int) := of_decide_eq_true (by first | (with_reducible assumption) | assumption)
              have q165 : a0 < (y156.length : Int) := of_decide_eq_true (by first | (with_reducible assumption) | assumption)
              obtain ⟨ad165, e165, hx165_0⟩ := Kd.at_string (Kd.R_reads' HO158.out).2.2 a0 p165 q165
              cases e165
              replace p165 := eq_true p165
              replace q165 := eq_true q165
              obtain ⟨Ao56, co56, eo56⟩ := Kd.R_slice HO161.out
              subst eo56
              have p166 : 0 ≤ (a0 : Int) := of_decide_eq_true (by first | (with_reducible assumption) | assumption)
              have q166 : a0 < (y159.length : Int) := of_decide_eq_true (by first | (with_reducible assumption) | assumption)
              obtain ⟨ad166, e166, hx166_0⟩ := Kd.at_string (Kd.R_reads' HO161.out).2.2 a0 p166 q166
              cases e166
              replace p166 := eq_true p166
              replace q166 := eq_true q166
              go_wp2
              go_meet
              case rel => exact ⟨_, (true), (by first | rfl | (simp; done) | (simp [*]; done)), H', ⟨by first | omega | exact Nat.le_refl _⟩, ⟨by repeat (first | (with_reducible first | exact HB.out | apply below_alloc | apply pw_below_drewN | apply below_drew1) | exact HB.out)⟩⟩
            ·
             rw [if_neg c48] at H
             have c48b0 : (a0 == 65521) = false := beq_eq_false_iff_ne.mpr c48
             have c48b1 : (a0 != 65521) = true := bne_iff_ne.mpr c48
             by_cases c57 : t164.toList = ([65, 66, 83] : List UInt8)
             ·
              rw [if_pos c57] at H
              have c57b0 : (t164.toList == ([65, 66, 83] : List UInt8)) = true := beq_iff_eq.mpr c57
              have c57b1 : (t164.toList != ([65, 66, 83] : List UInt8)) = false := bne_eq_false_iff_eq.mpr c57
              clear c57
              have H' := aS H
              clear H
              obtain ⟨Ao58, co58, eo58⟩ := Kd.R_slice HO158.out
              subst eo58
              have p165 : 0 ≤ (a0 : Int) := of_decide_eq_true (by first | (with_reducible assumption) | assumption)
              have q165 : a0 < (y156.length : Int) := of_decide_eq_true (by first | (with_reducible assumption) | assumption)
              obtain ⟨ad165, e165, hx165_0⟩ := Kd.at_string (Kd.R_reads' HO158.out).2.2 a0 p165 q165
              cases e165
              replace p165 := eq_true p165
              replace q165 := eq_true q165
              obtain ⟨Ao59, co59, eo59⟩ := Kd.R_slice HO161.out
              subst eo59
              have p166 : 0 ≤ (a0 : Int) := of_decide_eq_true (by first | (with_reducible assumption) | assumption)
              have q166 : a0 < (y159.length : Int) := of_decide_eq_true (by first | (with_reducible assumption) | assumption)
              obtain ⟨ad166, e166, hx166_0⟩ := Kd.at_string (Kd.R_reads' HO161.out).2.2 a0 p166 q166
              cases e166
              replace p166 := eq_true p166
              replace q166 := eq_true q166
              go_wp2
              go_meet
              case rel => exact ⟨_, (true), (by first | rfl | (simp; done) | (simp [*]; done)), H', ⟨by first | omega | exact Nat.le_refl _⟩, ⟨by repeat (first | (with_reducible first | exact HB.out | apply below_alloc | apply pw_below_drewN | apply below_drew1) | exact HB.out)⟩⟩
             ·
              rw [if_neg c57] at H
              have c57b0 : (t164.toList == ([65, 66, 83] : List UInt8)) = false := beq_eq_false_iff_ne.mpr c57
              have c57b1 : (t164.toList != ([65, 66, 83] : List UInt8)) = true := bne_iff_ne.mpr c57
              by_cases c60 : a0 = 65522
              ·
               rw [if_pos c60] at H
               have c60b0 : (a0 == 65522) = true := beq_iff_eq.mpr c60
               have c60b1 : (a0 != 65522) = false := bne_eq_false_iff_eq.mpr c60
               clear c60
               have H' := aS H
               clear H
               obtain ⟨Ao61, co61, eo61⟩ := Kd.R_slice HO158.out
               subst eo61
               have p165 : 0 ≤ (a0 : Int) := of_decide_eq_true (by first | (with_reducible assumption) | assumption)
               have q165 : a0 < (y156.length : Int) := of_decide_eq_true (by first | (with_reducible assumption) | assumption)
               obtain ⟨ad165, e165, hx165_0⟩ := Kd.at_string (Kd.R_reads' HO158.out).2.2 a0 p165 q165
               cases e165
               replace p165 := eq_true p165
               replace q165 := eq_true q165
               obtain ⟨Ao62, co62, eo62⟩ := Kd.R_slice HO161.out
               subst eo62
               have p166 : 0 ≤ (a0 : Int) := of_decide_eq_true (by first | (with_reducible assumption) | assumption)
               have q166 : a0 < (y159.length : Int) := of_decide_eq_true (by first | (with_reducible assumption) | assumption)
               obtain ⟨ad166, e166, hx166_0⟩ := Kd.at_string (Kd.R_reads' HO161.out).2.2 a0 p166 q166
               cases e166
               replace p166 := eq_true p166
               replace q166 := eq_true q166
               go_wp2
               go_meet
               case rel => exact ⟨_, (!(t164.toList == ([67, 79, 77] : List UInt8))), (by first | rfl | (simp; done) | (simp [*]; done)), H', ⟨by first | omega | exact Nat.le_refl _⟩, ⟨by repeat (first | (with_reducible first | exact HB.out | apply below_alloc | apply pw_below_drewN | apply below_drew1) | exact HB.out)⟩⟩
              ·
               rw [if_neg c60] at H
               have c60b0 : (a0 == 65522) = false := beq_eq_false_iff_ne.mpr c60
               have c60b1 : (a0 != 65522) = true := bne_iff_ne.mpr c60
               have H' := aS H
               clear H
               obtain ⟨Ao63, co63, eo63⟩ := Kd.R_slice HO158.out
               subst eo63
               have p165 : 0 ≤ (a0 : Int) := of_decide_eq_true (by first | (with_reducible assumption) | assumption)
               have q165 : a0 < (y156.length : Int) := of_decide_eq_true (by first | (with_reducible assumption) | assumption)
               obtain ⟨ad165, e165, hx165_0⟩ := Kd.at_string (Kd.R_reads' HO158.out).2.2 a0 p165 q165
               cases e165
               replace p165 := eq_true p165
               replace q165 := eq_true q165
               obtain ⟨Ao64, co64, eo64⟩ := Kd.R_slice HO161.out
               subst eo64
               have p166 : 0 ≤ (a0 : Int) := of_decide_eq_true (by first | (with_reducible assumption) | assumption)
               have q166 : a0 < (y159.length : Int) := of_decide_eq_true (by first | (with_reducible assumption) | assumption)
               obtain ⟨ad166, e166, hx166_0⟩ := Kd.at_string (Kd.R_reads' HO161.out).2.2 a0 p166 q166
               cases e166
               replace p166 := eq_true p166
               replace q166 := eq_true q166
               go_wp2
               go_meet
               case rel => exact ⟨_, ((t164.toList == ([67, 79, 77] : List UInt8))), (by first | rfl | (simp; done) | (simp [*]; done)), H', ⟨by first | omega | exact Nat.le_refl _⟩, ⟨by repeat (first | (with_reducible first | exact HB.out | apply below_alloc | apply pw_below_drewN | apply below_drew1) | exact HB.out)⟩⟩
         ·
          rw [if_neg c23] at H
          have c23b0 : (t163.toList == (rdOf ByteArray.empty y159 a0).toList) = false := beq_eq_false_iff_ne.mpr c23
          have c23b1 : (t163.toList != (rdOf ByteArray.empty y159 a0).toList) = true := bne_iff_ne.mpr c23
          have H' := aS H
          clear H
          obtain ⟨Ao65, co65, eo65⟩ := Kd.R_slice HO158.out
          subst eo65
          have p165 : 0 ≤ (a0 : Int) := of_decide_eq_true (by first | (with_reducible assumption) | assumption)
          have q165 : a0 < (y156.length : Int) := of_decide_eq_true (by first | (with_reducible assumption) | assumption)
          obtain ⟨ad165, e165, hx165_0⟩ := Kd.at_string (Kd.R_reads' HO158.out).2.2 a0 p165 q165
          cases e165
          replace p165 := eq_true p165
          replace q165 := eq_true q165
          obtain ⟨Ao66, co66, eo66⟩ := Kd.R_slice HO161.out
          subst eo66
          have p166 : 0 ≤ (a0 : Int) := of_decide_eq_true (by first | (with_reducible assumption) | assumption)
          have q166 : a0 < (y159.length : Int) := of_decide_eq_true (by first | (with_reducible assumption) | assumption)
          obtain ⟨ad166, e166, hx166_0⟩ := Kd.at_string (Kd.R_reads' HO161.out).2.2 a0 p166 q166
          cases e166
          replace p166 := eq_true p166
          replace q166 := eq_true q166
          go_wp2
          go_meet
          case rel => exact ⟨_, (true), (by first | rfl | (simp; done) | (simp [*]; done)), H', ⟨by first | omega | exact Nat.le_refl _⟩, ⟨by repeat (first | (with_reducible first | exact HB.out | apply below_alloc | apply pw_below_drewN | apply below_drew1) | exact HB.out)⟩⟩
        ·
         rw [if_neg c22] at H
         exact absurd H (by simp)
       ·
        rw [if_neg c21] at H
        have c21b0 : decide (a0 < 7) = false := decide_eq_false c21
        clear c21
        by_cases c67 : a0 = 0
        ·
         rw [if_pos c67] at H
         have c67b0 : (a0 == 0) = true := beq_iff_eq.mpr c67
         have c67b1 : (a0 != 0) = false := bne_eq_false_iff_eq.mpr c67
         clear c67
         by_cases c68 : t164.toList = ([85, 78, 68] : List UInt8)
         ·
          rw [if_pos c68] at H
          have c68b0 : (t164.toList == ([85, 78, 68] : List UInt8)) = true := beq_iff_eq.mpr c68
          have c68b1 : (t164.toList != ([85, 78, 68] : List UInt8)) = false := bne_eq_false_iff_eq.mpr c68
          clear c68
          by_cases c69 : a0 = 65521
          ·
           rw [if_pos c69] at H
           have c69b0 : (a0 == 65521) = true := beq_iff_eq.mpr c69
           have c69b1 : (a0 != 65521) = false := bne_eq_false_iff_eq.mpr c69
           clear c69
           by_cases c70 : t164.toList = ([65, 66, 83] : List UInt8)
           ·
            rw [if_pos c70] at H
            have c70b0 : (t164.toList == ([65, 66, 83] : List UInt8)) = true := beq_iff_eq.mpr c70
            have c70b1 : (t164.toList != ([65, 66, 83] : List UInt8)) = false := bne_eq_false_iff_eq.mpr c70
            clear c70
            by_cases c71 : a0 = 65522
            ·
             rw [if_pos c71] at H
             have c71b0 : (a0 == 65522) = true := beq_iff_eq.mpr c71
             have c71b1 : (a0 != 65522) = false := bne_eq_false_iff_eq.mpr c71
             clear c71
             have H' := aS H
             clear H
             obtain ⟨Ao72, co72, eo72⟩ := Kd.R_slice HO158.out
             subst eo72
             have p165 : 0 ≤ (a0 : Int) := of_decide_eq_true (by first | (with_reducible assumption) | assumption)
             have q165 : a0 < (y156.length : Int) := of_decide_eq_true (by first | (with_reducible assumption) | assumption)
             obtain ⟨ad165, e165, hx165_0⟩ := Kd.at_string (Kd.R_reads' HO158.out).2.2 a0 p165 q165
             cases e165
             replace p165 := eq_true p165
             replace q165 := eq_true q165
             go_wp2
             go_meet
             case rel => exact ⟨_, (!(t164.toList == ([67, 79, 77] : List UInt8))), (by first | rfl | (simp; done) | (simp [*]; done)), H', ⟨by first | omega | exact Nat.le_refl _⟩, ⟨by repeat (first | (with_reducible first | exact HB.out | apply below_alloc | apply pw_below_drewN | apply below_drew1) | exact HB.out)⟩⟩
            ·
             rw [if_neg c71] at H
             have c71b0 : (a0 == 65522) = false := beq_eq_false_iff_ne.mpr c71
             have c71b1 : (a0 != 65522) = true := bne_iff_ne.mpr c71
             have H' := aS H
             clear H
             obtain ⟨Ao73, co73, eo73⟩ := Kd.R_slice HO158.out
             subst eo73
             have p165 : 0 ≤ (a0 : Int) := of_decide_eq_true (by first | (with_reducible assumption) | assumption)
             have q165 : a0 < (y156.length : Int) := of_decide_eq_true (by first | (with_reducible assumption) | assumption)
             obtain ⟨ad165, e165, hx165_0⟩ := Kd.at_string (Kd.R_reads' HO158.out).2.2 a0 p165 q165
             cases e165
             replace p165 := eq_true p165
             replace q165 := eq_true q165
             go_wp2
             go_meet
             case rel => exact ⟨_, ((t164.toList == ([67, 79, 77] : List UInt8))), (by first | rfl | (simp; done) | (simp [*]; done)), H', ⟨by first | omega | exact Nat.le_refl _⟩, ⟨by repeat (first | (with_reducible first | exact HB.out | apply below_alloc | apply pw_below_drewN | apply below_drew1) | exact HB.out)⟩⟩
           ·
            rw [if_neg c70] at H
            have c70b0 : (t164.toList == ([65, 66, 83] : List UInt8)) = false := beq_eq_false_iff_ne.mpr c70
            have c70b1 : (t164.toList != ([65, 66, 83] : List UInt8)) = true := bne_iff_ne.mpr c70
            have H' := aS H
            clear H
            obtain ⟨Ao74, co74, eo74⟩ := Kd.R_slice HO158.out
            subst eo74
            have p165 : 0 ≤ (a0 : Int) := of_decide_eq_true (by first | (with_reducible assumption) | assumption)
            have q165 : a0 < (y156.length : Int) := of_decide_eq_true (by first | (with_reducible assumption) | assumption)
            obtain ⟨ad165, e165, hx165_0⟩ := Kd.at_string (Kd.R_reads' HO158.out).2.2 a0 p165 q165
            cases e165
            replace p165 := eq_true p165
            replace q165 := eq_true q165
            go_wp2
            go_meet
            case rel => exact ⟨_, (true), (by first | rfl | (simp; done) | (simp [*]; done)), H', ⟨by first | omega | exact Nat.le_refl _⟩, ⟨by repeat (first | (with_reducible first | exact HB.out | apply below_alloc | apply pw_below_drewN | apply below_drew1) | exact HB.out)⟩⟩
          ·
           rw [if_neg c69] at H
           have c69b0 : (a0 == 65521) = false := beq_eq_false_iff_ne.mpr c69
           have c69b1 : (a0 != 65521) = true := bne_iff_ne.mpr c69
           by_cases c75 : t164.toList = ([65, 66, 83] : List UInt8)
           ·
            rw [if_pos c75] at H
            have c75b0 : (t164.toList == ([65, 66, 83] : List UInt8)) = true := beq_iff_eq.mpr c75
            have c75b1 : (t164.toList != ([65, 66, 83] : List UInt8)) = false := bne_eq_false_iff_eq.mpr c75
            clear c75
            have H' := aS H
            clear H
            obtain ⟨Ao76, co76, eo76⟩ := Kd.R_slice HO158.out
            subst eo76
            have p165 : 0 ≤ (a0 : Int) := of_decide_eq_true (by first | (with_reducible assumption) | assumption)
            have q165 : a0 < (y156.length : Int) := of_decide_eq_true (by first | (with_reducible assumption) | assumption)
            obtain ⟨ad165, e165, hx165_0⟩ := Kd.at_string (Kd.R_reads' HO158.out).2.2 a0 p165 q165
            cases e165
            replace p165 := eq_true p165
            replace q165 := eq_true q165
            go_wp2
            go_meet
            case rel => exact ⟨_, (true), (by first | rfl | (simp; done) | (simp [*]; done)), H', ⟨by first | omega | exact Nat.le_refl _⟩, ⟨by repeat (first | (with_reducible first | exact HB.out | apply below_alloc | apply pw_below_drewN | apply below_drew1) | exact HB.out)⟩⟩
           ·
            rw [if_neg c75] at H
            have c75b0 : (t164.toList == ([65, 66, 83] : List UInt8)) = false := beq_eq_false_iff_ne.mpr c75
            have c75b1 : (t164.toList != ([65, 66, 83] : List UInt8)) = true := bne_iff_ne.mpr c75
            by_cases c77 : a0 = 65522
            ·
             rw [if_pos c77] at H
             have c77b0 : (a0 == 65522) = true := beq_iff_eq.mpr c77
             have c77b1 : (a0 != 65522) = false := bne_eq_false_iff_eq.mpr c77
             clear c77
             have H' := aS H
             clear H
             obtain ⟨Ao78, co78, eo78⟩ := Kd.R_slice HO158.out
             subst eo78
             have p165 : 0 ≤ (a0 : Int) := of_decide_eq_true (by first | (with_reducible assumption) | assumption)
             have q165 : a0 < (y156.length : Int) := of_decide_eq_true (by first | (with_reducible assumption) | assumption)
             obtain ⟨ad165, e165, hx165_0⟩ := Kd.at_string (Kd.R_reads' HO158.out).2.2 a0 p165 q165
             cases e165
             replace p165 := eq_true p165
             replace q165 := eq_true q165
             go_wp2
             go_meet
             case rel => exact ⟨_, (!(t164.toList == ([67, 79, 77] : List UInt8))), (by first | rfl | (simp; done) | (simp [*]; done)), H', ⟨by first | omega | exact Nat.le_refl _⟩, ⟨by repeat (first | (with_reducible first | exact HB.out | apply below_alloc | apply pw_below_drewN | apply below_drew1) | exact HB.out)⟩⟩
            ·
             rw [if_neg c77] at H
             have c77b0 : (a0 == 65522) = false := beq_eq_false_iff_ne.mpr c77
             have c77b1 : (a0 != 65522) = true := bne_iff_ne.mpr c77
             have H' := aS H
             clear H
             obtain ⟨Ao79, co79, eo79⟩ := Kd.R_slice HO158.out
             subst eo79
             have p165 : 0 ≤ (a0 : Int) := of_decide_eq_true (by first | (with_reducible assumption) | assumption)
             have q165 : a0 < (y156.length : Int) := of_decide_eq_true (by first | (with_reducible assumption) | assumption)
             obtain ⟨ad165, e165, hx165_0⟩ := Kd.at_string (Kd.R_reads' HO158.out).2.2 a0 p165 q165
             cases e165
             replace p165 := eq_true p165
             replace q165 := eq_true q165
             go_wp2
             go_meet
             case rel => exact ⟨_, ((t164.toList == ([67, 79, 77] : List UInt8))), (by first | rfl | (simp; done) | (simp [*]; done)), H', ⟨by first | omega | exact Nat.le_refl _⟩, ⟨by repeat (first | (with_reducible first | exact HB.out | apply below_alloc | apply pw_below_drewN | apply below_drew1) | exact HB.out)⟩⟩
         ·
          rw [if_neg c68] at H
          have c68b0 : (t164.toList == ([85, 78, 68] : List UInt8)) = false := beq_eq_false_iff_ne.mpr c68
          have c68b1 : (t164.toList != ([85, 78, 68] : List UInt8)) = true := bne_iff_ne.mpr c68
          have H' := aS H
          clear H
          obtain ⟨Ao80, co80, eo80⟩ := Kd.R_slice HO158.out
          subst eo80
          have p165 : 0 ≤ (a0 : Int) := of_decide_eq_true (by first | (with_reducible assumption) | assumption)
          have q165 : a0 < (y156.length : Int) := of_decide_eq_true (by first | (with_reducible assumption) | assumption)
          obtain ⟨ad165, e165, hx165_0⟩ := Kd.at_string (Kd.R_reads' HO158.out).2.2 a0 p165 q165
          cases e165
          replace p165 := eq_true p165
          replace q165 := eq_true q165
          go_wp2
          go_meet
          case rel => exact ⟨_, (true), (by first | rfl | (simp; done) | (simp [*]; done)), H', ⟨by first | omega | exact Nat.le_refl _⟩, ⟨by repeat (first | (with_reducible first | exact HB.out | apply below_alloc | apply pw_below_drewN | apply below_drew1) | exact HB.out)⟩⟩
        ·
         rw [if_neg c67] at H
         have c67b0 : (a0 == 0) = false := beq_eq_false_iff_ne.mpr c67
         have c67b1 : (a0 != 0) = true := bne_iff_ne.mpr c67
         by_cases c81 : t164.toList = ([85, 78, 68] : List UInt8)
         ·
          rw [if_pos c81] at H
          have c81b0 : (t164.toList == ([85, 78, 68] : List UInt8)) = true := beq_iff_eq.mpr c81
          have c81b1 : (t164.toList != ([85, 78, 68] : List UInt8)) = false := bne_eq_false_iff_eq.mpr c81
          clear c81
          have H' := aS H
          clear H
          obtain ⟨Ao82, co82, eo82⟩ := Kd.R_slice HO158.out
          subst eo82
          have p165 : 0 ≤ (a0 : Int) := of_decide_eq_true (by first | (with_reducible assumption) | assumption)
          have q165 : a0 < (y156.length : Int) := of_decide_eq_true (by first | (with_reducible assumption) | assumption)
          obtain ⟨ad165, e165, hx165_0⟩ := Kd.at_string (Kd.R_reads' HO158.out).2.2 a0 p165 q165
          cases e165
          replace p165 := eq_true p165
          replace q165 := eq_true q165
          go_wp2
          go_meet
          case rel => exact ⟨_, (true), (by first | rfl | (simp; done) | (simp [*]; done)), H', ⟨by first | omega | exact Nat.le_refl _⟩, ⟨by repeat (first | (with_reducible first | exact HB.out | apply below_alloc | apply pw_below_drewN | apply below_drew1) | exact HB.out)⟩⟩
         ·
          rw [if_neg c81] at H
          have c81b0 : (t164.toList == ([85, 78, 68] : List UInt8)) = false := beq_eq_false_iff_ne.mpr c81
          have c81b1 : (t164.toList != ([85, 78, 68] : List UInt8)) = true := bne_iff_ne.mpr c81
          by_cases c83 : a0 = 65521
          ·
           rw [if_pos c83] at H
           have c83b0 : (a0 == 65521) = true := beq_iff_eq.mpr c83
           have c83b1 : (a0 != 65521) = false := bne_eq_false_iff_eq.mpr c83
           clear c83
           by_cases c84 : t164.toList = ([65, 66, 83] : List UInt8)
           ·
            rw [if_pos c84] at H
            have c84b0 : (t164.toList == ([65, 66, 83] : List UInt8)) = true := beq_iff_eq.mpr c84
            have c84b1 : (t164.toList != ([65, 66, 83] : List UInt8)) = false := bne_eq_false_iff_eq.mpr c84
            clear c84
            by_cases c85 : a0 = 65522
            ·
             rw [if_pos c85] at H
             have c85b0 : (a0 == 65522) = true := beq_iff_eq.mpr c85
             have c85b1 : (a0 != 65522) = false := bne_eq_false_iff_eq.mpr c85
             clear c85
             have H' := aS H
             clear H
             obtain ⟨Ao86, co86, eo86⟩ := Kd.R_slice HO158.out
             subst eo86
             have p165 : 0 ≤ (a0 : Int) := of_decide_eq_true (by first | (with_reducible assumption) | assumption)
             have q165 : a0 < (y156.length : Int) := of_decide_eq_true (by first | (with_reducible assumption) | assumption)
             obtain ⟨ad165, e165, hx165_0⟩ := Kd.at_string (Kd.R_reads' HO158.out).2.2 a0 p165 q165
             cases e165
             replace p165 := eq_true p165
             replace q165 := eq_true q165
             go_wp2
             go_meet
             case rel => exact ⟨_, (!(t164.toList == ([67, 79, 77] : List UInt8))), (by first | rfl | (simp; done) | (simp [*]; done)), H', ⟨by first | omega | exact Nat.le_refl _⟩, ⟨by repeat (first | (with_reducible first | exact HB.out | apply below_alloc | apply pw_below_drewN | apply below_drew1) | exact HB.out)⟩⟩
            ·
             rw [if_neg c85] at H
             have c85b0 : (a0 == 65522) = false := beq_eq_false_iff_ne.mpr c85
             have c85b1 : (a0 != 65522) = true := bne_iff_ne.mpr c85
             have H' := aS H
             clear H
             obtain ⟨Ao87, co87, eo87⟩ := Kd.R_slice HO158.out
             subst eo87
             have p165 : 0 ≤ (a0 : Int) := of_decide_eq_true (by first | (with_reducible assumption) | assumption)
             have q165 : a0 < (y156.length : Int) := of_decide_eq_true (by first | (with_reducible assumption) | assumption)
             obtain ⟨ad165, e165, hx165_0⟩ := Kd.at_string (Kd.R_reads' HO158.out).2.2 a0 p165 q165
             cases e165
             replace p165 := eq_true p165
             replace q165 := eq_true q165
             go_wp2
             go_meet
             case rel => exact ⟨_, ((t164.toList == ([67, 79, 77] : List UInt8))), (by first | rfl | (simp; done) | (simp [*]; done)), H', ⟨by first | omega | exact Nat.le_refl _⟩, ⟨by repeat (first | (with_reducible first | exact HB.out | apply below_alloc | apply pw_below_drewN | apply below_drew1) | exact HB.out)⟩⟩
           ·
            rw [if_neg c84] at H
            have c84b0 : (t164.toList == ([65, 66, 83] : List UInt8)) = false := beq_eq_false_iff_ne.mpr c84
            have c84b1 : (t164.toList != ([65, 66, 83] : List UInt8)) = true := bne_iff_ne.mpr c84
            have H' := aS H
            clear H
            obtain ⟨Ao88, co88, eo88⟩ := Kd.R_slice HO158.out
            subst eo88
            have p165 : 0 ≤ (a0 : Int) := of_decide_eq_true (by first | (with_reducible assumption) | assumption)
            have q165 : a0 < (y156.length : Int) := of_decide_eq_true (by first | (with_reducible assumption) | assumption)
            obtain ⟨ad165, e165, hx165_0⟩ := Kd.at_string (Kd.R_reads' HO158.out).2.2 a0 p165 q165
            cases e165
            replace p165 := eq_true p165
            replace q165 := eq_true q165
            go_wp2
            go_meet
            case rel => exact ⟨_, (true), (by first | rfl | (simp; done) | (simp [*]; done)), H', ⟨by first | omega | exact Nat.le_refl _⟩, ⟨by repeat (first | (with_reducible first | exact HB.out | apply below_alloc | apply pw_below_drewN | apply below_drew1) | exact HB.out)⟩⟩
          ·
           rw [if_neg c83] at H
           have c83b0 : (a0 == 65521) = false := beq_eq_false_iff_ne.mpr c83
           have c83b1 : (a0 != 65521) = true := bne_iff_ne.mpr c83
           by_cases c89 : t164.toList = ([65, 66, 83] : List UInt8)
           ·
            rw [if_pos c89] at H
            have c89b0 : (t164.toList == ([65, 66, 83] : List UInt8)) = true := beq_iff_eq.mpr c89
            have c89b1 : (t164.toList != ([65, 66, 83] : List UInt8)) = false := bne_eq_false_iff_eq.mpr c89
            clear c89
            have H' := aS H
            clear H
            obtain ⟨Ao90, co90, eo90⟩ := Kd.R_slice HO158.out
            subst eo90
            have p165 : 0 ≤ (a0 : Int) := of_decide_eq_true (by first | (with_reducible assumption) | assumption)
            have q165 : a0 < (y156.length : Int) := of_decide_eq_true (by first | (with_reducible assumption) | assumption)
            obtain ⟨ad165, e165, hx165_0⟩ := Kd.at_string (Kd.R_reads' HO158.out).2.2 a0 p165 q165
            cases e165
            replace p165 := eq_true p165
            replace q165 := eq_true q165
            go_wp2
            go_meet
            case rel => exact ⟨_, (true), (by first | rfl | (simp; done) | (simp [*]; done)), H', ⟨by first | omega | exact Nat.le_refl _⟩, ⟨by repeat (first | (with_reducible first | exact HB.out | apply below_alloc | apply pw_below_drewN | apply below_drew1) | exact HB.out)⟩⟩
           ·
            rw [if_neg c89] at H
            have c89b0 : (t164.toList == ([65, 66, 83] : List UInt8)) = false := beq_eq_false_iff_ne.mpr c89
            have c89b1 : (t164.toList != ([65, 66, 83] : List UInt8)) = true := bne_iff_ne.mpr c89
            by_cases c91 : a0 = 65522
            ·
             rw [if_pos c91] at H
             have c91b0 : (a0 == 65522) = true := beq_iff_eq.mpr c91
             have c91b1 : (a0 != 65522) = false := bne_eq_false_iff_eq.mpr c91
             clear c91
             have H' := aS H
             clear H
             obtain ⟨Ao92, co92, eo92⟩ := Kd.R_slice HO158.out
             subst eo92
             have p165 : 0 ≤ (a0 : Int) := of_decide_eq_true (by first | (with_reducible assumption) | assumption)
             have q165 : a0 < (y156.length : Int) := of_decide_eq_true (by first | (with_reducible assumption) | assumption)
             obtain ⟨ad165, e165, hx165_0⟩ := Kd.at_string (Kd.R_reads' HO158.out).2.2 a0 p165 q165
             cases e165
             replace p165 := eq_true p165
             replace q165 := eq_true q165
             go_wp2
             go_meet
             case rel => exact ⟨_, (!(t164.toList == ([67, 79, 77] : List UInt8))), (by first | rfl | (simp; done) | (simp [*]; done)), H', ⟨by first | omega | exact Nat.le_refl _⟩, ⟨by repeat (first | (with_reducible first | exact HB.out | apply below_alloc | apply pw_below_drewN | apply below_drew1) | exact HB.out)⟩⟩
            ·
             rw [if_neg c91] at H
             have c91b0 : (a0 == 65522) = false := beq_eq_false_iff_ne.mpr c91
             have c91b1 : (a0 != 65522) = true := bne_iff_ne.mpr c91
             have H' := aS H
             clear H
             obtain ⟨Ao93, co93, eo93⟩ := Kd.R_slice HO158.out
             subst eo93
             have p165 : 0 ≤ (a0 : Int) := of_decide_eq_true (by first | (with_reducible assumption) | assumption)
             have q165 : a0 < (y156.length : Int) := of_decide_eq_true (by first | (with_reducible assumption) | assumption)
             obtain ⟨ad165, e165, hx165_0⟩ := Kd.at_string (Kd.R_reads' HO158.out).2.2 a0 p165 q165
             cases e165
             replace p165 := eq_true p165
             replace q165 := eq_true q165
             go_wp2
             go_meet
             case rel => exact ⟨_, ((t164.toList == ([67, 79, 77] : List UInt8))), (by first | rfl | (simp; done) | (simp [*]; done)), H', ⟨by first | omega | exact Nat.le_refl _⟩, ⟨by repeat (first | (with_reducible first | exact HB.out | apply below_alloc | apply pw_below_drewN | apply below_drew1) | exact HB.out)⟩⟩
      ·
       rw [if_neg c20] at H
       have c20b0 : (t162.toList == (rdOf ByteArray.empty y156 a0).toList) = false := beq_eq_false_iff_ne.mpr c20
       have c20b1 : (t162.toList != (rdOf ByteArray.empty y156 a0).toList) = true := bne_iff_ne.mpr c20
       have H' := aS H
       clear H
       obtain ⟨Ao94, co94, eo94⟩ := Kd.R_slice HO158.out
       subst eo94
       have p165 : 0 ≤ (a0 : Int) := of_decide_eq_true (by first | (with_reducible assumption) | assumption)
       have q165 : a0 < (y156.length : Int) := of_decide_eq_true (by first | (with_reducible assumption) | assumption)
       obtain ⟨ad165, e165, hx165_0⟩ := Kd.at_string (Kd.R_reads' HO158.out).2.2 a0 p165 q165
       cases e165
       replace p165 := eq_true p165
       replace q165 := eq_true q165
       go_wp2
       go_meet
       case rel => exact ⟨_, (true), (by first | rfl | (simp; done) | (simp [*]; done)), H', ⟨by first | omega | exact Nat.le_refl _⟩, ⟨by repeat (first | (with_reducible first | exact HB.out | apply below_alloc | apply pw_below_drewN | apply below_drew1) | exact HB.out)⟩⟩
     ·
      rw [if_neg c19] at H
      exact absurd H (by simp)
    ·
     rw [if_neg c18] at H
     exact absurd H (by simp)
   ·
    rw [if_neg c17] at H
    have c17b0 : decide (a0 < 3) = false := decide_eq_false c17
    clear c17
    (first | rw [c17b0] | (simp only [i64_w, i32_w]; rw [c17b0]) | skip)
    by_cases c95 : a0 < 7
    ·
     rw [if_pos c95] at H
     have c95b0 : decide (a0 < 7) = true := decide_eq_true c95
     clear c95
     by_cases c96 : 0 ≤ a0
     ·
      rw [if_pos c96] at H
      have c96b0 : decide (0 ≤ a0) = true := decide_eq_true c96
      clear c96
      by_cases c97 : a0 < (y159.length : Int)
      ·
       rw [if_pos c97] at H
       have c97b0 : decide (a0 < (y159.length : Int)) = true := decide_eq_true c97
       clear c97
       by_cases c98 : t163.toList = (rdOf ByteArray.empty y159 a0).toList
       ·
        rw [if_pos c98] at H
        have c98b0 : (t163.toList == (rdOf ByteArray.empty y159 a0).toList) = true := beq_iff_eq.mpr c98
        have c98b1 : (t163.toList != (rdOf ByteArray.empty y159 a0).toList) = false := bne_eq_false_iff_eq.mpr c98
        clear c98
        by_cases c99 : a0 = 0
        ·
         rw [if_pos c99] at H
         have c99b0 : (a0 == 0) = true := beq_iff_eq.mpr c99
         have c99b1 : (a0 != 0) = false := bne_eq_false_iff_eq.mpr c99
         clear c99
         by_cases c100 : t164.toList = ([85, 78, 68] : List UInt8)
         ·
          rw [if_pos c100] at H
          have c100b0 : (t164.toList == ([85, 78, 68] : List UInt8)) = true := beq_iff_eq.mpr c100
          have c100b1 : (t164.toList != ([85, 78, 68] : List UInt8)) = false := bne_eq_false_iff_eq.mpr c100
          clear c100
          by_cases c101 : a0 = 65521
          ·
           rw [if_pos c101] at H
           have c101b0 : (a0 == 65521) = true := beq_iff_eq.mpr c101
           have c101b1 : (a0 != 65521) = false := bne_eq_false_iff_eq.mpr c101
           clear c101
           by_cases c102 : t164.toList = ([65, 66, 83] : List UInt8)
           ·
            rw [if_pos c102] at H
            have c102b0 : (t164.toList == ([65, 66, 83] : List UInt8)) = true := beq_iff_eq.mpr c102
            have c102b1 : (t164.toList != ([65, 66, 83] : List UInt8)) = false := bne_eq_false_iff_eq.mpr c102
            clear c102
            by_cases c103 : a0 = 65522
            ·
             rw [if_pos c103] at H
             have c103b0 : (a0 == 65522) = true := beq_iff_eq.mpr c103
             have c103b1 : (a0 != 65522) = false := bne_eq_false_iff_eq.mpr c103
             clear c103
             have H' := aS H
             clear H
             obtain ⟨Ao104, co104, eo104⟩ := Kd.R_slice HO161.out
             subst eo104
             have p167 : 0 ≤ (a0 : Int) := of_decide_eq_true (by first | (with_reducible assumption) | assumption)
             have q167 : a0 < (y159.length : Int) := of_decide_eq_true (by first | (with_reducible assumption) | assumption)
             obtain ⟨ad167, e167, hx167_0⟩ := Kd.at_string (Kd.R_reads' HO161.out).2.2 a0 p167 q167
             cases e167
             replace p167 := eq_true p167
             replace q167 := eq_true q167
             go_wp2
             go_meet
             case rel => exact ⟨_, (!(t164.toList == ([67, 79, 77] : List UInt8))), (by first | rfl | (simp; done) | (simp [*]; done)), H', ⟨by first | omega | exact Nat.le_refl _⟩, ⟨by repeat (first | (with_reducible first | exact HB.out | apply below_alloc | apply pw_below_drewN | apply below_drew1) | exact HB.out)⟩⟩
            ·
             rw [if_neg c103] at H
             have c103b0 : (a0 == 65522) = false := beq_eq_false_iff_ne.mpr c103
             have c103b1 : (a0 != 65522) = true := bne_iff_ne.mpr c103
             have H' := aS H
             clear H
             obtain ⟨Ao105, co105, eo105⟩ := Kd.R_slice HO161.out
             subst eo105
             have p167 : 0 ≤ (a0 : Int) := of_decide_eq_true (by first | (with_reducible assumption) | assumption)
             have q167 : a0 < (y159.length : Int) := of_decide_eq_true (by first | (with_reducible assumption) | assumption)
             obtain ⟨ad167, e167, hx167_0⟩ := Kd.at_string (Kd.R_reads' HO161.out).2.2 a0 p167 q167
             cases e167
             replace p167 := eq_true p167
             replace q167 := eq_true q167
             go_wp2
             go_meet
             case rel => exact ⟨_, ((t164.toList == ([67, 79, 77] : List UInt8))), (by first | rfl | (simp; done) | (simp [*]; done)), H', ⟨by first | omega | exact Nat.le_refl _⟩, ⟨by repeat (first | (with_reducible first | exact HB.out | apply below_alloc | apply pw_below_drewN | apply below_drew1) | exact HB.out)⟩⟩
           ·
            rw [if_neg c102] at H
            have c102b0 : (t164.toList == ([65, 66, 83] : List UInt8)) = false := beq_eq_false_iff_ne.mpr c102
            have c102b1 : (t164.toList != ([65, 66, 83] : List UInt8)) = true := bne_iff_ne.mpr c102
            have H' := aS H
            clear H
            obtain ⟨Ao106, co106, eo106⟩ := Kd.R_slice HO161.out
            subst eo106
            have p167 : 0 ≤ (a0 : Int) := of_decide_eq_true (by first | (with_reducible assumption) | assumption)
            have q167 : a0 < (y159.length : Int) := of_decide_eq_true (by first | (with_reducible assumption) | assumption)
            obtain ⟨ad167, e167, hx167_0⟩ := Kd.at_string (Kd.R_reads' HO161.out).2.2 a0 p167 q167
            cases e167
            replace p167 := eq_true p167
            replace q167 := eq_true q167
            go_wp2
            go_meet
            case rel => exact ⟨_, (true), (by first | rfl | (simp; done) | (simp [*]; done)), H', ⟨by first | omega | exact Nat.le_refl _⟩, ⟨by repeat (first | (with_reducible first | exact HB.out | apply below_alloc | apply pw_below_drewN | apply below_drew1) | exact HB.out)⟩⟩
          ·
           rw [if_neg c101] at H
           have c101b0 : (a0 == 65521) = false := beq_eq_false_iff_ne.mpr c101
           have c101b1 : (a0 != 65521) = true := bne_iff_ne.mpr c101
           by_cases c107 : t164.toList = ([65, 66, 83] : List UInt8)
           ·
            rw [if_pos c107] at H
            have c107b0 : (t164.toList == ([65, 66, 83] : List UInt8)) = true := beq_iff_eq.mpr c107
            have c107b1 : (t164.toList != ([65, 66, 83] : List UInt8)) = false := bne_eq_false_iff_eq.mpr c107
            clear c107
            have H' := aS H
            clear H
            obtain ⟨Ao108, co108, eo108⟩ := Kd.R_slice HO161.out
            subst eo108
            have p167 : 0 ≤ (a0 : Int) := of_decide_eq_true (by first | (with_reducible assumption) | assumption)
            have q167 : a0 < (y159.length : Int) := of_decide_eq_true (by first | (with_reducible assumption) | assumption)
            obtain ⟨ad167, e167, hx167_0⟩ := Kd.at_string (Kd.R_reads' HO161.out).2.2 a0 p167 q167
            cases e167
            replace p167 := eq_true p167
            replace q167 := eq_true q167
            go_wp2
            go_meet
            case rel => exact ⟨_, (true), (by first | rfl | (simp; done) | (simp [*]; done)), H', ⟨by first | omega | exact Nat.le_refl _⟩, ⟨by repeat (first | (with_reducible first | exact HB.out | apply below_alloc | apply pw_below_drewN | apply below_drew1) | exact HB.out)⟩⟩
           ·
            rw [if_neg c107] at H
            have c107b0 : (t164.toList == ([65, 66, 83] : List UInt8)) = false := beq_eq_false_iff_ne.mpr c107
            have c107b1 : (t164.toList != ([65, 66, 83] : List UInt8)) = true := bne_iff_ne.mpr c107
            by_cases c109 : a0 = 65522
            ·
             rw [if_pos c109] at H
             have c109b0 : (a0 == 65522) = true := beq_iff_eq.mpr c109
             have c109b1 : (a0 != 65522) = false := bne_eq_false_iff_eq.mpr c109
             clear c109
             have H' := aS H
             clear H
             obtain ⟨Ao110, co110, eo110⟩ := Kd.R_slice HO161.out
             subst eo110
             have p167 : 0 ≤ (a0 : Int) := of_decide_eq_true (by first | (with_reducible assumption) | assumption)
             have q167 : a0 < (y159.length : Int) := of_decide_eq_true (by first | (with_reducible assumption) | assumption)
             obtain ⟨ad167, e167, hx167_0⟩ := Kd.at_string (Kd.R_reads' HO161.out).2.2 a0 p167 q167
             cases e167
             replace p167 := eq_true p167
             replace q167 := eq_true q167
             go_wp2
             go_meet
             case rel => exact ⟨_, (!(t164.toList == ([67, 79, 77] : List UInt8))), (by first | rfl | (simp; done) | (simp [*]; done)), H', ⟨by first | omega | exact Nat.le_refl _⟩, ⟨by repeat (first | (with_reducible first | exact HB.out | apply below_alloc | apply pw_below_drewN | apply below_drew1) | exact HB.out)⟩⟩
            ·
             rw [if_neg c109] at H
             have c109b0 : (a0 == 65522) = false := beq_eq_false_iff_ne.mpr c109
             have c109b1 : (a0 != 65522) = true := bne_iff_ne.mpr c109
             have H' := aS H
             clear H
             obtain ⟨Ao111, co111, eo111⟩ := Kd.R_slice HO161.out
             subst eo111
             have p167 : 0 ≤ (a0 : Int) := of_decide_eq_true (by first | (with_reducible assumption) | assumption)
             have q167 : a0 < (y159.length : Int) := of_decide_eq_true (by first | (with_reducible assumption) | assumption)
             obtain ⟨ad167, e167, hx167_0⟩ := Kd.at_string (Kd.R_reads' HO161.out).2.2 a0 p167 q167
             cases e167
             replace p167 := eq_true p167
             replace q167 := eq_true q167
             go_wp2
             go_meet
             case rel => exact ⟨_, ((t164.toList == ([67, 79, 77] : List UInt8))), (by first | rfl | (simp; done) | (simp [*]; done)), H', ⟨by first | omega | exact Nat.le_refl _⟩, ⟨by repeat (first | (with_reducible first | exact HB.out | apply below_alloc | apply pw_below_drewN | apply below_drew1) | exact HB.out)⟩⟩
         ·
          rw [if_neg c100] at H
          have c100b0 : (t164.toList == ([85, 78, 68] : List UInt8)) = false := beq_eq_false_iff_ne.mpr c100
          have c100b1 : (t164.toList != ([85, 78, 68] : List UInt8)) = true := bne_iff_ne.mpr c100
          have H' := aS H
          clear H
          obtain ⟨Ao112, co112, eo112⟩ := Kd.R_slice HO161.out
          subst eo112
          have p167 : 0 ≤ (a0 : Int) := of_decide_eq_true (by first | (with_reducible assumption) | assumption)
          have q167 : a0 < (y159.length : Int) := of_decide_eq_true (by first | (with_reducible assumption) | assumption)
          obtain ⟨ad167, e167, hx167_0⟩ := Kd.at_string (Kd.R_reads' HO161.out).2.2 a0 p167 q167
          cases e167
          replace p167 := eq_true p167
          replace q167 := eq_true q167
          go_wp2
          go_meet
          case rel => exact ⟨_, (true), (by first | rfl | (simp; done) | (simp [*]; done)), H', ⟨by first | omega | exact Nat.le_refl _⟩, ⟨by repeat (first | (with_reducible first | exact HB.out | apply below_alloc | apply pw_below_drewN | apply below_drew1) | exact HB.out)⟩⟩
        ·
         rw [if_neg c99] at H
         have c99b0 : (a0 == 0) = false := beq_eq_false_iff_ne.mpr c99
         have c99b1 : (a0 != 0) = true := bne_iff_ne.mpr c99
         by_cases c113 : t164.toList = ([85, 78, 68] : List UInt8)
         ·
          rw [if_pos c113] at H
          have c113b0 : (t164.toList == ([85, 78, 68] : List UInt8)) = true := beq_iff_eq.mpr c113
          have c113b1 : (t164.toList != ([85, 78, 68] : List UInt8)) = false := bne_eq_false_iff_eq.mpr c113
          clear c113
          have H' := aS H
          clear H
          obtain ⟨Ao114, co114, eo114⟩ := Kd.R_slice HO161.out
          subst eo114
          have p167 : 0 ≤ (a0 : Int) := of_decide_eq_true (by first | (with_reducible assumption) | assumption)
          have q167 : a0 < (y159.length : Int) := of_decide_eq_true (by first | (with_reducible assumption) | assumption)
          obtain ⟨ad167, e167, hx167_0⟩ := Kd.at_string (Kd.R_reads' HO161.out).2.2 a0 p167 q167
          cases e167
          replace p167 := eq_true p167
          replace q167 := eq_true q167
          go_wp2
          go_meet
          case rel => exact ⟨_, (true), (by first | rfl | (simp; done) | (simp [*]; done)), H', ⟨by first | omega | exact Nat.le_refl _⟩, ⟨by repeat (first | (with_reducible first | exact HB.out | apply below_alloc | apply pw_below_drewN | apply below_drew1) | exact HB.out)⟩⟩
         ·
          rw [if_neg c113] at H
          have c113b0 : (t164.toList == ([85, 78, 68] : List UInt8)) = false := beq_eq_false_iff_ne.mpr c113
          have c113b1 : (t164.toList != ([85, 78, 68] : List UInt8)) = true := bne_iff_ne.mpr c113
          by_cases c115 : a0 = 65521
          ·
           rw [if_pos c115] at H
           have c115b0 : (a0 == 65521) = true := beq_iff_eq.mpr c115
           have c115b1 : (a0 != 65521) = false := bne_eq_false_iff_eq.mpr c115
           clear c115
           by_cases c116 : t164.toList = ([65, 66, 83] : List UInt8)
           ·
            rw [if_pos c116] at H
            have c116b0 : (t164.toList == ([65, 66, 83] : List UInt8)) = true := beq_iff_eq.mpr c116
            have c116b1 : (t164.toList != ([65, 66, 83] : List UInt8)) = false := bne_eq_false_iff_eq.mpr c116
            clear c116
            by_cases c117 : a0 = 65522
            ·
             rw [if_pos c117] at H
             have c117b0 : (a0 == 65522) = true := beq_iff_eq.mpr c117
             have c117b1 : (a0 != 65522) = false := bne_eq_false_iff_eq.mpr c117
             clear c117
             have H' := aS H
             clear H
             obtain ⟨Ao118, co118, eo118⟩ := Kd.R_slice HO161.out
             subst eo118
             have p167 : 0 ≤ (a0 : Int) := of_decide_eq_true (by first | (with_reducible assumption) | assumption)
             have q167 : a0 < (y159.length : Int) := of_decide_eq_true (by first | (with_reducible assumption) | assumption)
             obtain ⟨ad167, e167, hx167_0⟩ := Kd.at_string (Kd.R_reads' HO161.out).2.2 a0 p167 q167
             cases e167
             replace p167 := eq_true p167
             replace q167 := eq_true q167
             go_wp2
             go_meet
             case rel => exact ⟨_, (!(t164.toList == ([67, 79, 77] : List UInt8))), (by first | rfl | (simp; done) | (simp [*]; done)), H', ⟨by first | omega | exact Nat.le_refl _⟩, ⟨by repeat (first | (with_reducible first | exact HB.out | apply below_alloc | apply pw_below_drewN | apply below_drew1) | exact HB.out)⟩⟩
            ·
             rw [if_neg c117] at H
             have c117b0 : (a0 == 65522) = false := beq_eq_false_iff_ne.mpr c117
             have c117b1 : (a0 != 65522) = true := bne_iff_ne.mpr c117
             have H' := aS H
             clear H
             obtain ⟨Ao119, co119, eo119⟩ := Kd.R_slice HO161.out
             subst eo119
             have p167 : 0 ≤ (a0 : Int) := of_decide_eq_true (by first | (with_reducible assumption) | assumption)
             have q167 : a0 < (y159.length : Int) := of_decide_eq_true (by first | (with_reducible assumption) | assumption)
             obtain ⟨ad167, e167, hx167_0⟩ := Kd.at_string (Kd.R_reads' HO161.out).2.2 a0 p167 q167
             cases e167
             replace p167 := eq_true p167
             replace q167 := eq_true q167
             go_wp2
             go_meet
             case rel => exact ⟨_, ((t164.toList == ([67, 79, 77] : List UInt8))), (by first | rfl | (simp; done) | (simp [*]; done)), H', ⟨by first | omega | exact Nat.le_refl _⟩, ⟨by repeat (first | (with_reducible first | exact HB.out | apply below_alloc | apply pw_below_drewN | apply below_drew1) | exact HB.out)⟩⟩
           ·
            rw [if_neg c116] at H
            have c116b0 : (t164.toList == ([65, 66, 83] : List UInt8)) = false := beq_eq_false_iff_ne.mpr c116
            have c116b1 : (t164.toList != ([65, 66, 83] : List UInt8)) = true := bne_iff_ne.mpr c116
            have H' := aS H
            clear H
            obtain ⟨Ao120, co120, eo120⟩ := Kd.R_slice HO161.out
            subst eo120
            have p167 : 0 ≤ (a0 : Int) := of_decide_eq_true (by first | (with_reducible assumption) | assumption)
            have q167 : a0 < (y159.length : Int) := of_decide_eq_true (by first | (with_reducible assumption) | assumption)
            obtain ⟨ad167, e167, hx167_0⟩ := Kd.at_string (Kd.R_reads' HO161.out).2.2 a0 p167 q167
            cases e167
            replace p167 := eq_true p167
            replace q167 := eq_true q167
            go_wp2
            go_meet
            case rel => exact ⟨_, (true), (by first | rfl | (simp; done) | (simp [*]; done)), H', ⟨by first | omega | exact Nat.le_refl _⟩, ⟨by repeat (first | (with_reducible first | exact HB.out | apply below_alloc | apply pw_below_drewN | apply below_drew1) | exact HB.out)⟩⟩
          ·
           rw [if_neg c115] at H
           have c115b0 : (a0 == 65521) = false := beq_eq_false_iff_ne.mpr c115
           have c115b1 : (a0 != 65521) = true := bne_iff_ne.mpr c115
           by_cases c121 : t164.toList = ([65, 66, 83] : List UInt8)
           ·
            rw [if_pos c121] at H
            have c121b0 : (t164.toList == ([65, 66, 83] : List UInt8)) = true := beq_iff_eq.mpr c121
            have c121b1 : (t164.toList != ([65, 66, 83] : List UInt8)) = false := bne_eq_false_iff_eq.mpr c121
            clear c121
            have H' := aS H
            clear H
            obtain ⟨Ao122, co122, eo122⟩ := Kd.R_slice HO161.out
            subst eo122
            have p167 : 0 ≤ (a0 : Int) := of_decide_eq_true (by first | (with_reducible assumption) | assumption)
            have q167 : a0 < (y159.length : Int) := of_decide_eq_true (by first | (with_reducible assumption) | assumption)
            obtain ⟨ad167, e167, hx167_0⟩ := Kd.at_string (Kd.R_reads' HO161.out).2.2 a0 p167 q167
            cases e167
            replace p167 := eq_true p167
            replace q167 := eq_true q167
            go_wp2
            go_meet
            case rel => exact ⟨_, (true), (by first | rfl | (simp; done) | (simp [*]; done)), H', ⟨by first | omega | exact Nat.le_refl _⟩, ⟨by repeat (first | (with_reducible first | exact HB.out | apply below_alloc | apply pw_below_drewN | apply below_drew1) | exact HB.out)⟩⟩
           ·
            rw [if_neg c121] at H
            have c121b0 : (t164.toList == ([65, 66, 83] : List UInt8)) = false := beq_eq_false_iff_ne.mpr c121
            have c121b1 : (t164.toList != ([65, 66, 83] : List UInt8)) = true := bne_iff_ne.mpr c121
            by_cases c123 : a0 = 65522
            ·
             rw [if_pos c123] at H
             have c123b0 : (a0 == 65522) = true := beq_iff_eq.mpr c123
             have c123b1 : (a0 != 65522) = false := bne_eq_false_iff_eq.mpr c123
             clear c123
             have H' := aS H
             clear H
             obtain ⟨Ao124, co124, eo124⟩ := Kd.R_slice HO161.out
             subst eo124
             have p167 : 0 ≤ (a0 : Int) := of_decide_eq_true (by first | (with_reducible assumption) | assumption)
             have q167 : a0 < (y159.length : Int) := of_decide_eq_true (by first | (with_reducible assumption) | assumption)
             obtain ⟨ad167, e167, hx167_0⟩ := Kd.at_string (Kd.R_reads' HO161.out).2.2 a0 p167 q167
             cases e167
             replace p167 := eq_true p167
             replace q167 := eq_true q167
             go_wp2
             go_meet
             case rel => exact ⟨_, (!(t164.toList == ([67, 79, 77] : List UInt8))), (by first | rfl | (simp; done) | (simp [*]; done)), H', ⟨by first | omega | exact Nat.le_refl _⟩, ⟨by repeat (first | (with_reducible first | exact HB.out | apply below_alloc | apply pw_below_drewN | apply below_drew1) | exact HB.out)⟩⟩
            ·
             rw [if_neg c123] at H
             have c123b0 : (a0 == 65522) = false := beq_eq_false_iff_ne.mpr c123
             have c123b1 : (a0 != 65522) = true := bne_iff_ne.mpr c123
             have H' := aS H
             clear H
             obtain ⟨Ao125, co125, eo125⟩ := Kd.R_slice HO161.out
             subst eo125
             have p167 : 0 ≤ (a0 : Int) := of_decide_eq_true (by first | (with_reducible assumption) | assumption)
             have q167 : a0 < (y159.length : Int) := of_decide_eq_true (by first | (with_reducible assumption) | assumption)
             obtain ⟨ad167, e167, hx167_0⟩ := Kd.at_string (Kd.R_reads' HO161.out).2.2 a0 p167 q167
             cases e167
             replace p167 := eq_true p167
             replace q167 := eq_true q167
             go_wp2
             go_meet
             case rel => exact ⟨_, ((t164.toList == ([67, 79, 77] : List UInt8))), (by first | rfl | (simp; done) | (simp [*]; done)), H', ⟨by first | omega | exact Nat.le_refl _⟩, ⟨by repeat (first | (with_reducible first | exact HB.out | apply below_alloc | apply pw_below_drewN | apply below_drew1) | exact HB.out)⟩⟩
       ·
        rw [if_neg c98] at H
        have c98b0 : (t163.toList == (rdOf ByteArray.empty y159 a0).toList) = false := beq_eq_false_iff_ne.mpr c98
        have c98b1 : (t163.toList != (rdOf ByteArray.empty y159 a0).toList) = true := bne_iff_ne.mpr c98
        have H' := aS H
        clear H
        obtain ⟨Ao126, co126, eo126⟩ := Kd.R_slice HO161.out
        subst eo126
        have p167 : 0 ≤ (a0 : Int) := of_decide_eq_true (by first | (with_reducible assumption) | assumption)
        have q167 : a0 < (y159.length : Int) := of_decide_eq_true (by first | (with_reducible assumption) | assumption)
        obtain ⟨ad167, e167, hx167_0⟩ := Kd.at_string (Kd.R_reads' HO161.out).2.2 a0 p167 q167
        cases e167
        replace p167 := eq_true p167
        replace q167 := eq_true q167
        go_wp2
        go_meet
        case rel => exact ⟨_, (true), (by first | rfl | (simp; done) | (simp [*]; done)), H', ⟨by first | omega | exact Nat.le_refl _⟩, ⟨by repeat (first | (with_reducible first | exact HB.out | apply below_alloc | apply pw_below_drewN | apply below_drew1) | exact HB.out)⟩⟩
      ·
       rw [if_neg c97] at H
       exact absurd H (by simp)
     ·
      rw [if_neg c96] at H
      exact absurd H (by simp)
    ·
     rw [if_neg c95] at H
     have c95b0 : decide (a0 < 7) = false := decide_eq_false c95
     clear c95
     by_cases c127 : a0 = 0
     ·
      rw [if_pos c127] at H
      have c127b0 : (a0 == 0) = true := beq_iff_eq.mpr c127
      have c127b1 : (a0 != 0) = false := bne_eq_false_iff_eq.mpr c127
      clear c127
      by_cases c128 : t164.toList = ([85, 78, 68] : List UInt8)
      ·
       rw [if_pos c128] at H
       have c128b0 : (t164.toList == ([85, 78, 68] : List UInt8)) = true := beq_iff_eq.mpr c128
       have c128b1 : (t164.toList != ([85, 78, 68] : List UInt8)) = false := bne_eq_false_iff_eq.mpr c128
       clear c128
       by_cases c129 : a0 = 65521
       ·
        rw [if_pos c129] at H
        have c129b0 : (a0 == 65521) = true := beq_iff_eq.mpr c129
        have c129b1 : (a0 != 65521) = false := bne_eq_false_iff_eq.mpr c129
        clear c129
        by_cases c130 : t164.toList = ([65, 66, 83] : List UInt8)
        ·
         rw [if_pos c130] at H
         have c130b0 : (t164.toList == ([65, 66, 83] : List UInt8)) = true := beq_iff_eq.mpr c130
         have c130b1 : (t164.toList != ([65, 66, 83] : List UInt8)) = false := bne_eq_false_iff_eq.mpr c130
         clear c130
         by_cases c131 : a0 = 65522
         ·
          rw [if_pos c131] at H
          have c131b0 : (a0 == 65522) = true := beq_iff_eq.mpr c131
          have c131b1 : (a0 != 65522) = false := bne_eq_false_iff_eq.mpr c131
          clear c131
          have H' := aS H
          clear H
          go_wp2
          go_meet
          case rel => exact ⟨_, (!(t164.toList == ([67, 79, 77] : List UInt8))), (by first | rfl | (simp; done) | (simp [*]; done)), H', ⟨by first | omega | exact Nat.le_refl _⟩, ⟨by repeat (first | (with_reducible first | exact HB.out | apply below_alloc | apply pw_below_drewN | apply below_drew1) | exact HB.out)⟩⟩
         ·
          rw [if_neg c131] at H
          have c131b0 : (a0 == 65522) = false := beq_eq_false_iff_ne.mpr c131
          have c131b1 : (a0 != 65522) = true := bne_iff_ne.mpr c131
          have H' := aS H
          clear H
          go_wp2
          go_meet
          case rel => exact ⟨_, ((t164.toList == ([67, 79, 77] : List UInt8))), (by first | rfl | (simp; done) | (simp [*]; done)), H', ⟨by first | omega | exact Nat.le_refl _⟩, ⟨by repeat (first | (with_reducible first | exact HB.out | apply below_alloc | apply pw_below_drewN | apply below_drew1) | exact HB.out)⟩⟩
        ·
         rw [if_neg c130] at H
         have c130b0 : (t164.toList == ([65, 66, 83] : List UInt8)) = false := beq_eq_false_iff_ne.mpr c130
         have c130b1 : (t164.toList != ([65, 66, 83] : List UInt8)) = true := bne_iff_ne.mpr c130
         have H' := aS H
         clear H
         go_wp2
         go_meet
         case rel => exact ⟨_, (true), (by first | rfl | (simp; done) | (simp [*]; done)), H', ⟨by first | omega | exact Nat.le_refl _⟩, ⟨by repeat (first | (with_reducible first | exact HB.out | apply below_alloc | apply pw_below_drewN | apply below_drew1) | exact HB.out)⟩⟩
       ·
        rw [if_neg c129] at H
        have c129b0 : (a0 == 65521) = false := beq_eq_false_iff_ne.mpr c129
        have c129b1 : (a0 != 65521) = true := bne_iff_ne.mpr c129
        by_cases c132 : t164.toList = ([65, 66, 83] : List UInt8)
        ·
         rw [if_pos c132] at H
         have c132b0 : (t164.toList == ([65, 66, 83] : List UInt8)) = true := beq_iff_eq.mpr c132
         have c132b1 : (t164.toList != ([65, 66, 83] : List UInt8)) = false := bne_eq_false_iff_eq.mpr c132
         clear c132
         have H' := aS H
         clear H
         go_wp2
         go_meet
         case rel => exact ⟨_, (true), (by first | rfl | (simp; done) | (simp [*]; done)), H', ⟨by first | omega | exact Nat.le_refl _⟩, ⟨by repeat (first | (with_reducible first | exact HB.out | apply below_alloc | apply pw_below_drewN | apply below_drew1) | exact HB.out)⟩⟩
        ·
         rw [if_neg c132] at H
         have c132b0 : (t164.toList == ([65, 66, 83] : List UInt8)) = false := beq_eq_false_iff_ne.mpr c132
         have c132b1 : (t164.toList != ([65, 66, 83] : List UInt8)) = true := bne_iff_ne.mpr c132
         by_cases c133 : a0 = 65522
         ·
          rw [if_pos c133] at H
          have c133b0 : (a0 == 65522) = true := beq_iff_eq.mpr c133
          have c133b1 : (a0 != 65522) = false := bne_eq_false_iff_eq.mpr c133
          clear c133
          have H' := aS H
          clear H
          go_wp2
          go_meet
          case rel => exact ⟨_, (!(t164.toList == ([67, 79, 77] : List UInt8))), (by first | rfl | (simp; done) | (simp [*]; done)), H', ⟨by first | omega | exact Nat.le_refl _⟩, ⟨by repeat (first | (with_reducible first | exact HB.out | apply below_alloc | apply pw_below_drewN | apply below_drew1) | exact HB.out)⟩⟩
         ·
          rw [if_neg c133] at H
          have c133b0 : (a0 == 65522) = false := beq_eq_false_iff_ne.mpr c133
          have c133b1 : (a0 != 65522) = true := bne_iff_ne.mpr c133
          have H' := aS H
          clear H
          go_wp2
          go_meet
          case rel => exact ⟨_, ((t164.toList == ([67, 79, 77] : List UInt8))), (by first | rfl | (simp; done) | (simp [*]; done)), H', ⟨by first | omega | exact Nat.le_refl _⟩, ⟨by repeat (first | (with_reducible first | exact HB.out | apply below_alloc | apply pw_below_drewN | apply below_drew1) | exact HB.out)⟩⟩
      ·
       rw [if_neg c128] at H
       have c128b0 : (t164.toList == ([85, 78, 68] : List UInt8)) = false := beq_eq_false_iff_ne.mpr c128
       have c128b1 : (t164.toList != ([85, 78, 68] : List UInt8)) = true := bne_iff_ne.mpr c128
       have H' := aS H
       clear H
       go_wp2
       go_meet
       case rel => exact ⟨_, (true), (by first | rfl | (simp; done) | (simp [*]; done)), H', ⟨by first | omega | exact Nat.le_refl _⟩, ⟨by repeat (first | (with_reducible first | exact HB.out | apply below_alloc | apply pw_below_drewN | apply below_drew1) | exact HB.out)⟩⟩
     ·
      rw [if_neg c127] at H
      have c127b0 : (a0 == 0) = false := beq_eq_false_iff_ne.mpr c127
      have c127b1 : (a0 != 0) = true := bne_iff_ne.mpr c127
      by_cases c134 : t164.toList = ([85, 78, 68] : List UInt8)
      ·
       rw [if_pos c134] at H
       have c134b0 : (t164.toList == ([85, 78, 68] : List UInt8)) = true := beq_iff_eq.mpr c134
       have c134b1 : (t164.toList != ([85, 78, 68] : List UInt8)) = false := bne_eq_false_iff_eq.mpr c134
       clear c134
       have H' := aS H
       clear H
       go_wp2
       go_meet
       case rel => exact ⟨_, (true), (by first | rfl | (simp; done) | (simp [*]; done)), H', ⟨by first | omega | exact Nat.le_refl _⟩, ⟨by repeat (first | (with_reducible first | exact HB.out | apply below_alloc | apply pw_below_drewN | apply below_drew1) | exact HB.out)⟩⟩
      ·
       rw [if_neg c134] at H
       have c134b0 : (t164.toList == ([85, 78, 68] : List UInt8)) = false := beq_eq_false_iff_ne.mpr c134
       have c134b1 : (t164.toList != ([85, 78, 68] : List UInt8)) = true := bne_iff_ne.mpr c134
       by_cases c135 : a0 = 65521
       ·
        rw [if_pos c135] at H
        have c135b0 : (a0 == 65521) = true := beq_iff_eq.mpr c135
        have c135b1 : (a0 != 65521) = false := bne_eq_false_iff_eq.mpr c135
        clear c135
        by_cases c136 : t164.toList = ([65, 66, 83] : List UInt8)
        ·
         rw [if_pos c136] at H
         have c136b0 : (t164.toList == ([65, 66, 83] : List UInt8)) = true := beq_iff_eq.mpr c136
         have c136b1 : (t164.toList != ([65, 66, 83] : List UInt8)) = false := bne_eq_false_iff_eq.mpr c136
         clear c136
         by_cases c137 : a0 = 65522
         ·
          rw [if_pos c137] at H
          have c137b0 : (a0 == 65522) = true := beq_iff_eq.mpr c137
          have c137b1 : (a0 != 65522) = false := bne_eq_false_iff_eq.mpr c137
          clear c137
          have H' := aS H
          clear H
          go_wp2
          go_meet
          case rel => exact ⟨_, (!(t164.toList == ([67, 79, 77] : List UInt8))), (by first | rfl | (simp; done) | (simp [*]; done)), H', ⟨by first | omega | exact Nat.le_refl _⟩, ⟨by repeat (first | (with_reducible first | exact HB.out | apply below_alloc | apply pw_below_drewN | apply below_drew1) | exact HB.out)⟩⟩
         ·
          rw [if_neg c137] at H
          have c137b0 : (a0 == 65522) = false := beq_eq_false_iff_ne.mpr c137
          have c137b1 : (a0 != 65522) = true := bne_iff_ne.mpr c137
          have H' := aS H
          clear H
          go_wp2
          go_meet
          case rel => exact ⟨_, ((t164.toList == ([67, 79, 77] : List UInt8))), (by first | rfl | (simp; done) | (simp [*]; done)), H', ⟨by first | omega | exact Nat.le_refl _⟩, ⟨by repeat (first | (with_reducible first | exact HB.out | apply below_alloc | apply pw_below_drewN | apply below_drew1) | exact HB.out)⟩⟩
        ·
         rw [if_neg c136] at H
         have c136b0 : (t164.toList == ([65, 66, 83] : List UInt8)) = false := beq_eq_false_iff_ne.mpr c136
         have c136b1 : (t164.toList != ([65, 66, 83] : List UInt8)) = true := bne_iff_ne.mpr c136
         have H' := aS H
         clear H
         go_wp2
         go_meet
         case rel => exact ⟨_, (true), (by first | rfl | (simp; done) | (simp [*]; done)), H', ⟨by first | omega | exact Nat.le_refl _⟩, ⟨by repeat (first | (with_reducible first | exact HB.out | apply below_alloc | apply pw_below_drewN | apply below_drew1) | exact HB.out)⟩⟩
       ·
        rw [if_neg c135] at H
        have c135b0 : (a0 == 65521) = false := beq_eq_false_iff_ne.mpr c135
        have c135b1 : (a0 != 65521) = true := bne_iff_ne.mpr c135
        by_cases c138 : t164.toList = ([65, 66, 83] : List UInt8)
        ·
         rw [if_pos c138] at H
         have c138b0 : (t164.toList == ([65, 66, 83] : List UInt8)) = true := beq_iff_eq.mpr c138
         have c138b1 : (t164.toList != ([65, 66, 83] : List UInt8)) = false := bne_eq_false_iff_eq.mpr c138
         clear c138
         have H' := aS H
         clear H
         go_wp2
         go_meet
         case rel => exact ⟨_, (true), (by first | rfl | (simp; done) | (simp [*]; done)), H', ⟨by first | omega | exact Nat.le_refl _⟩, ⟨by repeat (first | (with_reducible first | exact HB.out | apply below_alloc | apply pw_below_drewN | apply below_drew1) | exact HB.out)⟩⟩
        ·
         rw [if_neg c138] at H
         have c138b0 : (t164.toList == ([65, 66, 83] : List UInt8)) = false := beq_eq_false_iff_ne.mpr c138
         have c138b1 : (t164.toList != ([65, 66, 83] : List UInt8)) = true := bne_iff_ne.mpr c138
         by_cases c139 : a0 = 65522
         ·
          rw [if_pos c139] at H
          have c139b0 : (a0 == 65522) = true := beq_iff_eq.mpr c139
          have c139b1 : (a0 != 65522) = false := bne_eq_false_iff_eq.mpr c139
          clear c139
          have H' := aS H
          clear H
          go_wp2
          go_meet
          case rel => exact ⟨_, (!(t164.toList == ([67, 79, 77] : List UInt8))), (by first | rfl | (simp; done) | (simp [*]; done)), H', ⟨by first | omega | exact Nat.le_refl _⟩, ⟨by repeat (first | (with_reducible first | exact HB.out | apply below_alloc | apply pw_below_drewN | apply below_drew1) | exact HB.out)⟩⟩
         ·
          rw [if_neg c139] at H
          have c139b0 : (a0 == 65522) = false := beq_eq_false_iff_ne.mpr c139
          have c139b1 : (a0 != 65522) = true := bne_iff_ne.mpr c139
          have H' := aS H
          clear H
          go_wp2
          go_meet
          case rel => exact ⟨_, ((t164.toList == ([67, 79, 77] : List UInt8))), (by first | rfl | (simp; done) | (simp [*]; done)), H', ⟨by first | omega | exact Nat.le_refl _⟩, ⟨by repeat (first | (with_reducible first | exact HB.out | apply below_alloc | apply pw_below_drewN | apply below_drew1) | exact HB.out)⟩⟩
  case rest =>
   clear HC8
   try clear c1
   try clear p1
   try clear q1
   try clear hx1
   try clear c2
   try clear p2
   try clear c8
   try clear c9
   try clear c10
   try clear c11
   try clear c12
   try clear c13
   try clear p16
   try clear q16
   try clear hx16
   try clear c17
   try clear c17b0
   try clear c18
   try clear c19
   try clear c20
   try clear c20b0
   try clear c20b1
   try clear c83
   try clear c83b0
   try clear c83b1
   try clear c84
   try clear c84b0
   try clear c84b1
   try clear c89
   try clear c89b0
   try clear c89b1
   try clear c91
   try clear c91b0
   try clear c91b1
   try clear c95
   try clear c95b0
   try clear c96
   try clear c96b0
   try clear c97
   try clear c97b0
   try clear c98
   try clear c98b0
   try clear c98b1
   try clear c99
   try clear c99b0
   try clear c99b1
   try clear c100
   try clear c100b0
   try clear c100b1
   try clear c101
   try clear c101b0
   try clear c101b1
   try clear c102
   try clear c102b0
   try clear c102b1
   try clear c103
   try clear c103b0
   try clear c103b1
   try clear c107
   try clear c107b0
   try clear c107b1
   try clear c109
   try clear c109b0
   try clear c109b1
   try clear c113
   try clear c113b0
   try clear c113b1
   try clear c115
   try clear c115b0
   try clear c115b1
   try clear c116
   try clear c116b0
   try clear c116b1
   try clear c117
   try clear c117b0
   try clear c117b1
   try clear c121
   try clear c121b0
   try clear c121b1
   try clear c123
   try clear c123b0
   try clear c123b1
   try clear c127
   try clear c127b0
   try clear c127b1
   try clear c128
   try clear c128b0
   try clear c128b1
   try clear c129
   try clear c129b0
   try clear c129b1
   try clear c130
   try clear c130b0
   try clear c130b1
   try clear c131
   try clear c131b0
   try clear c131b1
   try clear c132
   try clear c132b0
   try clear c132b1
   try clear c133
   try clear c133b0
   try clear c133b1
   try clear c134
   try clear c134b0
   try clear c134b1
   try clear c135
   try clear c135b0
   try clear c135b1
   try clear c136
   try clear c136b0
   try clear c136b1
   try clear c137
   try clear c137b0
   try clear c137b1
   try clear c138
   try clear c138b0
   try clear c138b1
   try clear c139
   try clear c139b0
   try clear c139b1
   try clear hx165_0
   try clear hx167_0
   try clear p165
   try clear p167
   try clear q165
   try clear q167
   obtain ⟨kq, x62_7, rfl, HA, HJ7, HB⟩ := hcut
   cases kq with
   | zero => exact absurd HA.out (by simp [graverlaw08_SymrecWords.j0])
   | succ kj7 =>
       as_aux_lemma =>
         have H := HA.out
         clear HA
         simp only [graverlaw08_SymrecWords.j0] at H
         by_cases c140 : x62_7 = true
         · subst c140
           have H1 : (some false) = some r := by rw [if_pos rfl] at H; exact H
           clear H
           have H := H1
           clear H1
           exact absurd ((Option.some.inj H).trans HRT.out) (by decide)
         · replace c140 := Bool.eq_false_iff.mpr c140
           subst c140
           have H1 : ((symrec_BindName.f a1).bind fun t168 => (if t162.toList = t168.toList then (if a0 = a1 then ((symrec_KindName.f a1).bind fun t169 => (if t163.toList = t169.toList then ((symrec_PlaceName.f a1).bind fun t170 => (if t164.toList = t170.toList then (if a0 < 7 then (some true) else (some (t162.toList == t163.toList))) else (some false))) else (some false))) else (some false)) else (if a0 = a1 then (some false) else ((symrec_KindName.f a1).bind fun t171 => (if t163.toList = t171.toList then (some false) else ((symrec_PlaceName.f a1).bind fun t172 => (if t164.toList = t172.toList then (some false) else (if a0 < 7 then (some true) else (some (t162.toList == t163.toList)))))))))) = some r := by rw [if_neg (show ¬ (false = true) by decide)] at H; exact H
           clear H
           have H := H1
           clear H1
           replace H := Option.bind_eq_some_iff.mp H
           obtain ⟨t168, A1410, H⟩ := H
           replace H : (if t162.toList = t168.toList then (if a0 = a1 then ((symrec_KindName.f a1).bind fun t169 => (if t163.toList = t169.toList then ((symrec_PlaceName.f a1).bind fun t170 => (if t164.toList = t170.toList then (if a0 < 7 then (some true) else (some (t162.toList == t163.toList))) else (some false))) else (some false))) else (some false)) else (if a0 = a1 then (some false) else ((symrec_KindName.f a1).bind fun t171 => (if t163.toList = t171.toList then (some false) else ((symrec_PlaceName.f a1).bind fun t172 => (if t164.toList = t172.toList then (some false) else (if a0 < 7 then (some true) else (some (t162.toList == t163.toList))))))))) = some r := H
           have A141 := aS A1410
           clear A1410
           by_cases c142 : t162.toList = t168.toList
           · rw [if_pos c142] at H
             have c142b0 : (t162.toList == t168.toList) = true := beq_iff_eq.mpr c142
             have c142b1 : (t162.toList != t168.toList) = false := bne_eq_false_iff_eq.mpr c142
             clear c142
             by_cases c143 : a0 = a1
             · rw [if_pos c143] at H
               have c143b0 : (a0 == a1) = true := beq_iff_eq.mpr c143
               have c143b1 : (a0 != a1) = false := bne_eq_false_iff_eq.mpr c143
               clear c143
               replace H := Option.bind_eq_some_iff.mp H
               obtain ⟨t169, A1440, H⟩ := H
               replace H : (if t163.toList = t169.toList then ((symrec_PlaceName.f a1).bind fun t170 => (if t164.toList = t170.toList then (if a0 < 7 then (some true) else (some (t162.toList == t163.toList))) else (some false))) else (some false)) = some r := H
               have A144 := aS A1440
               clear A1440
               by_cases c145 : t163.toList = t169.toList
               · rw [if_pos c145] at H
                 have c145b0 : (t163.toList == t169.toList) = true := beq_iff_eq.mpr c145
                 have c145b1 : (t163.toList != t169.toList) = false := bne_eq_false_iff_eq.mpr c145
                 clear c145
                 replace H := Option.bind_eq_some_iff.mp H
                 obtain ⟨t170, A1460, H⟩ := H
                 replace H : (if t164.toList = t170.toList then (if a0 < 7 then (some true) else (some (t162.toList == t163.toList))) else (some false)) = some r := H
                 have A146 := aS A1460
                 clear A1460
                 by_cases c147 : t164.toList = t170.toList
                 · rw [if_pos c147] at H
                   have c147b0 : (t164.toList == t170.toList) = true := beq_iff_eq.mpr c147
                   have c147b1 : (t164.toList != t170.toList) = false := bne_eq_false_iff_eq.mpr c147
                   clear c147
                   by_cases c148 : a0 < 7
                   · rw [if_pos c148] at H
                     have c148b0 : decide (a0 < 7) = true := decide_eq_true c148
                     clear c148
                     obtain rfl := Option.some.inj H
                     go_wp2_with (first | ((with_reducible refine gate_callee (f := 33) rfl ?_); refine goesL_ (some 65) rfl rfl Tryd.func33 (by kernel_rfl) rfl #[.int .u64 a1] rfl (by (try simp only [List.map_toArray, List.map_cons, List.map_nil]); first | done | rfl | (simp only [List.length_drop, List.length_take]; rfl)) ?_; (with_reducible refine (symrec_BindName.calls a1 t168 _ ?side1 ?side2 A141.out).mono ?_); (case side1 => exact Laid_strconv.below HLD_strconv.out (by repeat (first | (with_reducible first | exact HB.out | apply below_alloc | apply pw_below_drewN | apply below_drew1) | exact HB.out))); (case side2 => exact Laid_symrecn.below HLD_symrecn.out (by repeat (first | (with_reducible first | exact HB.out | apply below_alloc | apply pw_below_drewN | apply below_drew1) | exact HB.out))); rintro e w149 ⟨rfl, hb⟩; refine ⟨_, rfl, ?_⟩; have n0_ := aS (below_step (by repeat (first | (with_reducible first | exact HB.out | apply below_alloc | apply pw_below_drewN | apply below_drew1) | exact HB.out)) hb); clear HB; have HB := n0_; clear n0_; (try clear hb); (try clear hb2); (try clear hk); (try clear hi)) | (go_at_call 34; (with_reducible refine (symrec_KindName.calls a1 t169 _ ?side1 ?side2 A144.out).mono ?_); (case side1 => exact Laid_strconv.below HLD_strconv.out (by repeat (first | (with_reducible first | exact HB.out | apply below_alloc | apply pw_below_drewN | apply below_drew1) | exact HB.out))); (case side2 => exact Laid_symrecn.below HLD_symrecn.out (by repeat (first | (with_reducible first | exact HB.out | apply below_alloc | apply pw_below_drewN | apply below_drew1) | exact HB.out))); rintro e w150 ⟨rfl, hb⟩; have n0_ := aS (below_step (by repeat (first | (with_reducible first | exact HB.out | apply below_alloc | apply pw_below_drewN | apply below_drew1) | exact HB.out)) hb); clear HB; have HB := n0_; clear n0_; (try clear hb); (try clear hb2); (try clear hk); (try clear hi)) | (go_at_call 35; (with_reducible refine (symrec_PlaceName.calls a1 t170 _ ?side1 A146.out).mono ?_); (case side1 => exact Laid_strconv.below HLD_strconv.out (by repeat (first | (with_reducible first | exact HB.out | apply below_alloc | apply pw_below_drewN | apply below_drew1) | exact HB.out))); rintro e w151 ⟨rfl, hb⟩; have n0_ := aS (below_step (by repeat (first | (with_reducible first | exact HB.out | apply below_alloc | apply pw_below_drewN | apply below_drew1) | exact HB.out)) hb); clear HB; have HB := n0_; clear n0_; (try clear hb); (try clear hb2); (try clear hk); (try clear hi)))
                     go_ret
                     exact ⟨by first | rfl | (simp [errW_none, errW_some] <;> rfl) | (simp [*, errW_none, errW_some] <;> rfl), by repeat (first | (with_reducible first | exact HB.out | apply below_alloc | apply pw_below_drewN | apply below_drew1) | exact HB.out)⟩
                   · rw [if_neg c148] at H
                     have c148b0 : decide (a0 < 7) = false := decide_eq_false c148
                     clear c148
                     obtain rfl := Option.some.inj H
                     go_wp2_with (first | ((with_reducible refine gate_callee (f := 33) rfl ?_); refine goesL_ (some 65) rfl rfl Tryd.func33 (by kernel_rfl) rfl #[.int .u64 a1] rfl (by (try simp only [List.map_toArray, List.map_cons, List.map_nil]); first | done | rfl | (simp only [List.length_drop, List.length_take]; rfl)) ?_; (with_reducible refine (symrec_BindName.calls a1 t168 _ ?side1 ?side2 A141.out).mono ?_); (case side1 => exact Laid_strconv.below HLD_strconv.out (by repeat (first | (with_reducible first | exact HB.out | apply below_alloc | apply pw_below_drewN | apply below_drew1) | exact HB.out))); (case side2 => exact Laid_symrecn.below HLD_symrecn.out (by repeat (first | (with_reducible first | exact HB.out | apply below_alloc | apply pw_below_drewN | apply below_drew1) | exact HB.out))); rintro e w152 ⟨rfl, hb⟩; refine ⟨_, rfl, ?_⟩; have n0_ := aS (below_step (by repeat (first | (with_reducible first | exact HB.out | apply below_alloc | apply pw_below_drewN | apply below_drew1) | exact HB.out)) hb); clear HB; have HB := n0_; clear n0_; (try clear hb); (try clear hb2); (try clear hk); (try clear hi)) | (go_at_call 34; (with_reducible refine (symrec_KindName.calls a1 t169 _ ?side1 ?side2 A144.out).mono ?_); (case side1 => exact Laid_strconv.below HLD_strconv.out (by repeat (first | (with_reducible first | exact HB.out | apply below_alloc | apply pw_below_drewN | apply below_drew1) | exact HB.out))); (case side2 => exact Laid_symrecn.below HLD_symrecn.out (by repeat (first | (with_reducible first | exact HB.out | apply below_alloc | apply pw_below_drewN | apply below_drew1) | exact HB.out))); rintro e w153 ⟨rfl, hb⟩; have n0_ := aS (below_step (by repeat (first | (with_reducible first | exact HB.out | apply below_alloc | apply pw_below_drewN | apply below_drew1) | exact HB.out)) hb); clear HB; have HB := n0_; clear n0_; (try clear hb); (try clear hb2); (try clear hk); (try clear hi)) | (go_at_call 35; (with_reducible refine (symrec_PlaceName.calls a1 t170 _ ?side1 A146.out).mono ?_); (case side1 => exact Laid_strconv.below HLD_strconv.out (by repeat (first | (with_reducible first | exact HB.out | apply below_alloc | apply pw_below_drewN | apply below_drew1) | exact HB.out))); rintro e w154 ⟨rfl, hb⟩; have n0_ := aS (below_step (by repeat (first | (with_reducible first | exact HB.out | apply below_alloc | apply pw_below_drewN | apply below_drew1) | exact HB.out)) hb); clear HB; have HB := n0_; clear n0_; (try clear hb); (try clear hb2); (try clear hk); (try clear hi)))
                     go_ret
                     exact ⟨by first | rfl | (simp [errW_none, errW_some] <;> rfl) | (simp [*, errW_none, errW_some] <;> rfl), by repeat (first | (with_reducible first | exact HB.out | apply below_alloc | apply pw_below_drewN | apply below_drew1) | exact HB.out)⟩
                 · rw [if_neg c147] at H
                   have c147b0 : (t164.toList == t170.toList) = false := beq_eq_false_iff_ne.mpr c147
                   have c147b1 : (t164.toList != t170.toList) = true := bne_iff_ne.mpr c147
                   exact absurd ((Option.some.inj H).trans HRT.out) (by decide)
               · rw [if_neg c145] at H
                 have c145b0 : (t163.toList == t169.toList) = false := beq_eq_false_iff_ne.mpr c145
                 have c145b1 : (t163.toList != t169.toList) = true := bne_iff_ne.mpr c145
                 exact absurd ((Option.some.inj H).trans HRT.out) (by decide)
             · rw [if_neg c143] at H
               have c143b0 : (a0 == a1) = false := beq_eq_false_iff_ne.mpr c143
               have c143b1 : (a0 != a1) = true := bne_iff_ne.mpr c143
               exact absurd ((Option.some.inj H).trans HRT.out) (by decide)
           · rw [if_neg c142] at H
             have c142b0 : (t162.toList == t168.toList) = false := beq_eq_false_iff_ne.mpr c142
             have c142b1 : (t162.toList != t168.toList) = true := bne_iff_ne.mpr c142
             by_cases c155 : a0 = a1
             · rw [if_pos c155] at H
               have c155b0 : (a0 == a1) = true := beq_iff_eq.mpr c155
               have c155b1 : (a0 != a1) = false := bne_eq_false_iff_eq.mpr c155
               clear c155
               exact absurd ((Option.some.inj H).trans HRT.out) (by decide)
             · rw [if_neg c155] at H
               have c155b0 : (a0 == a1) = false := beq_eq_false_iff_ne.mpr c155
               have c155b1 : (a0 != a1) = true := bne_iff_ne.mpr c155
               replace H := Option.bind_eq_some_iff.mp H
               obtain ⟨t171, A1560, H⟩ := H
               replace H : (if t163.toList = t171.toList then (some false) else ((symrec_PlaceName.f a1).bind fun t172 => (if t164.toList = t172.toList then (some false) else (if a0 < 7 then (some true) else (some (t162.toList == t163.toList)))))) = some r := H
               have A156 := aS A1560
               clear A1560
               by_cases c157 : t163.toList = t171.toList
               · rw [if_pos c157] at H
                 have c157b0 : (t163.toList == t171.toList) = true := beq_iff_eq.mpr c157
                 have c157b1 : (t163.toList != t171.toList) = false := bne_eq_false_iff_eq.mpr c157
                 clear c157
                 exact absurd ((Option.some.inj H).trans HRT.out) (by decide)
               · rw [if_neg c157] at H
                 have c157b0 : (t163.toList == t171.toList) = false := beq_eq_false_iff_ne.mpr c157
                 have c157b1 : (t163.toList != t171.toList) = true := bne_iff_ne.mpr c157
                 replace H := Option.bind_eq_some_iff.mp H
                 obtain ⟨t172, A1580, H⟩ := H
                 replace H : (if t164.toList = t172.toList then (some false) else (if a0 < 7 then (some true) else (some (t162.toList == t163.toList)))) = some r := H
                 have A158 := aS A1580
                 clear A1580
                 by_cases c159 : t164.toList = t172.toList
                 · rw [if_pos c159] at H
                   have c159b0 : (t164.toList == t172.toList) = true := beq_iff_eq.mpr c159
                   have c159b1 : (t164.toList != t172.toList) = false := bne_eq_false_iff_eq.mpr c159
                   clear c159
                   exact absurd ((Option.some.inj H).trans HRT.out) (by decide)
                 · rw [if_neg c159] at H
                   have c159b0 : (t164.toList == t172.toList) = false := beq_eq_false_iff_ne.mpr c159
                   have c159b1 : (t164.toList != t172.toList) = true := bne_iff_ne.mpr c159
                   by_cases c160 : a0 < 7
                   · rw [if_pos c160] at H
                     have c160b0 : decide (a0 < 7) = true := decide_eq_true c160
                     clear c160
                     obtain rfl := Option.some.inj H
                     go_wp2_with (first | ((with_reducible refine gate_callee (f := 33) rfl ?_); refine goesL_ (some 65) rfl rfl Tryd.func33 (by kernel_rfl) rfl #[.int .u64 a1] rfl (by (try simp only [List.map_toArray, List.map_cons, List.map_nil]); first | done | rfl | (simp only [List.length_drop, List.length_take]; rfl)) ?_; (with_reducible refine (symrec_BindName.calls a1 t168 _ ?side1 ?side2 A141.out).mono ?_); (case side1 => exact Laid_strconv.below HLD_strconv.out (by repeat (first | (with_reducible first | exact HB.out | apply below_alloc | apply pw_below_drewN | apply below_drew1) | exact HB.out))); (case side2 => exact Laid_symrecn.below HLD_symrecn.out (by repeat (first | (with_reducible first | exact HB.out | apply below_alloc | apply pw_below_drewN | apply below_drew1) | exact HB.out))); rintro e w161 ⟨rfl, hb⟩; refine ⟨_, rfl, ?_⟩; have n0_ := aS (below_step (by repeat (first | (with_reducible first | exact HB.out | apply below_alloc | apply pw_below_drewN | apply below_drew1) | exact HB.out)) hb); clear HB; have HB := n0_; clear n0_; (try clear hb); (try clear hb2); (try clear hk); (try clear hi)) | (go_at_call 34; (with_reducible refine (symrec_KindName.calls a1 t171 _ ?side1 ?side2 A156.out).mono ?_); (case side1 => exact Laid_strconv.below HLD_strconv.out (by repeat (first | (with_reducible first | exact HB.out | apply below_alloc | apply pw_below_drewN | apply below_drew1) | exact HB.out))); (case side2 => exact Laid_symrecn.below HLD_symrecn.out (by repeat (first | (with_reducible first | exact HB.out | apply below_alloc | apply pw_below_drewN | apply below_drew1) | exact HB.out))); rintro e w162 ⟨rfl, hb⟩; have n0_ := aS (below_step (by repeat (first | (with_reducible first | exact HB.out | apply below_alloc | apply pw_below_drewN | apply below_drew1) | exact HB.out)) hb); clear HB; have HB := n0_; clear n0_; (try clear hb); (try clear hb2); (try clear hk); (try clear hi)) | (go_at_call 35; (with_reducible refine (symrec_PlaceName.calls a1 t172 _ ?side1 A158.out).mono ?_); (case side1 => exact Laid_strconv.below HLD_strconv.out (by repeat (first | (with_reducible first | exact HB.out | apply below_alloc | apply pw_below_drewN | apply below_drew1) | exact HB.out))); rintro e w163 ⟨rfl, hb⟩; have n0_ := aS (below_step (by repeat (first | (with_reducible first | exact HB.out | apply below_alloc | apply pw_below_drewN | apply below_drew1) | exact HB.out)) hb); clear HB; have HB := n0_; clear n0_; (try clear hb); (try clear hb2); (try clear hk); (try clear hi)))
                     go_ret
                     exact ⟨by first | rfl | (simp [errW_none, errW_some] <;> rfl) | (simp [*, errW_none, errW_some] <;> rfl), by repeat (first | (with_reducible first | exact HB.out | apply below_alloc | apply pw_below_drewN | apply below_drew1) | exact HB.out)⟩
                   · rw [if_neg c160] at H
                     have c160b0 : decide (a0 < 7) = false := decide_eq_false c160
                     clear c160
                     obtain rfl := Option.some.inj H
                     go_wp2_with (first | ((with_reducible refine gate_callee (f := 33) rfl ?_); refine goesL_ (some 65) rfl rfl Tryd.func33 (by kernel_rfl) rfl #[.int .u64 a1] rfl (by (try simp only [List.map_toArray, List.map_cons, List.map_nil]); first | done | rfl | (simp only [List.length_drop, List.length_take]; rfl)) ?_; (with_reducible refine (symrec_BindName.calls a1 t168 _ ?side1 ?side2 A141.out).mono ?_); (case side1 => exact Laid_strconv.below HLD_strconv.out (by repeat (first | (with_reducible first | exact HB.out | apply below_alloc | apply pw_below_drewN | apply below_drew1) | exact HB.out))); (case side2 => exact Laid_symrecn.below HLD_symrecn.out (by repeat (first | (with_reducible first | exact HB.out | apply below_alloc | apply pw_below_drewN | apply below_drew1) | exact HB.out))); rintro e w164 ⟨rfl, hb⟩; refine ⟨_, rfl, ?_⟩; have n0_ := aS (below_step (by repeat (first | (with_reducible first | exact HB.out | apply below_alloc | apply pw_below_drewN | apply below_drew1) | exact HB.out)) hb); clear HB; have HB := n0_; clear n0_; (try clear hb); (try clear hb2); (try clear hk); (try clear hi)) | (go_at_call 34; (with_reducible refine (symrec_KindName.calls a1 t171 _ ?side1 ?side2 A156.out).mono ?_); (case side1 => exact Laid_strconv.below HLD_strconv.out (by repeat (first | (with_reducible first | exact HB.out | apply below_alloc | apply pw_below_drewN | apply below_drew1) | exact HB.out))); (case side2 => exact Laid_symrecn.below HLD_symrecn.out (by repeat (first | (with_reducible first | exact HB.out | apply below_alloc | apply pw_below_drewN | apply below_drew1) | exact HB.out))); rintro e w165 ⟨rfl, hb⟩; have n0_ := aS (below_step (by repeat (first | (with_reducible first | exact HB.out | apply below_alloc | apply pw_below_drewN | apply below_drew1) | exact HB.out)) hb); clear HB; have HB := n0_; clear n0_; (try clear hb); (try clear hb2); (try clear hk); (try clear hi)) | (go_at_call 35; (with_reducible refine (symrec_PlaceName.calls a1 t172 _ ?side1 A158.out).mono ?_); (case side1 => exact Laid_strconv.below HLD_strconv.out (by repeat (first | (with_reducible first | exact HB.out | apply below_alloc | apply pw_below_drewN | apply below_drew1) | exact HB.out))); rintro e w166 ⟨rfl, hb⟩; have n0_ := aS (below_step (by repeat (first | (with_reducible first | exact HB.out | apply below_alloc | apply pw_below_drewN | apply below_drew1) | exact HB.out)) hb); clear HB; have HB := n0_; clear n0_; (try clear hb); (try clear hb2); (try clear hk); (try clear hi)))
                     go_ret
                     exact ⟨by first | rfl | (simp [errW_none, errW_some] <;> rfl) | (simp [*, errW_none, errW_some] <;> rfl), by repeat (first | (with_reducible first | exact HB.out | apply below_alloc | apply pw_below_drewN | apply below_drew1) | exact HB.out)⟩
 ·
  replace c4 := Bool.eq_false_iff.mpr c4
  subst c4
  have H1 : (some false) = some r := by rw [if_neg (show ¬ (false = true) by decide)] at H; exact H
  clear H
  have H := H1
  clear H1
  exact absurd ((Option.some.inj H).trans HRT.out) (by decide)

/-- THE ONE PURE STATEMENT of graverlaw08_SymrecWords: yours. -/
def graverlaw08_SymrecWords.Pure : Prop := ∀ (a0 : Int) (a1 : Int), (Lit.int .u64 a0).wf = true → (Lit.int .u64 a1).wf = true → ∃ k, graverlaw08_SymrecWords.f k a0 a1 = some true
theorem graverlaw08_SymrecWords.walk (P : graverlaw08_SymrecWords.Pure) (a0 : Int) (a1 : Int) (w : World) (hlaid_strconv : Laid_strconv w) (hlaid_symrec : Laid_symrec w) (hlaid_symrecn : Laid_symrecn w) (w0 : (Lit.int .u64 a0).wf = true) (w1 : (Lit.int .u64 a1).wf = true) :
  Calls Tryd.prog 4 #[.int .u64 a0, .int .u64 a1] w fun e w' => e = .returned (.bool true) ∧ Below w.heap.size w w' := by
 obtain ⟨k, h⟩ := P a0 a1 w0 w1
 refine (graverlaw08_SymrecWords.calls k a0 a1 true w hlaid_strconv hlaid_symrec hlaid_symrecn rfl h).mono ?_
 rintro e w' ⟨rfl, hd⟩
 exact ⟨rfl, hd⟩

end Go.Proofs.YteoeohkjomehoaaDoor.Q
