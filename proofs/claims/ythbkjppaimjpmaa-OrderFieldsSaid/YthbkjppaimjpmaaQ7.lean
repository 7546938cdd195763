/- What Go functions of the program compute, each as a Lean function with the proof that the call returns just that. No condition but those in the statements. -/
import Derived.Test.YthbkjppaimjpmaaQ0
import Derived.Test.YthbkjppaimjpmaaQ2
import Derived.Test.YthbkjppaimjpmaaQ3
import Derived.Test.YthbkjppaimjpmaaQ4
import Derived.Test.YthbkjppaimjpmaaQ6
namespace Go.Proofs.Ythbkjppaimjpmaa.Q
open Go.RowKit Go.Proofs.YthbkjppaimjpmaaW.PrintWords Go.Proofs.YthbkjppaimjpmaaW.PrintLast Go.Proofs.YthbkjppaimjpmaaW.PrintMore
attribute [local go_sem] max2_int min2_int max_two min_two max_three min_three max_four min_four   -- for this text's walks alone
set_option linter.unusedVariables false
set_option linter.unusedSimpArgs false

/-! ### graverlaw01_OrderFields: function 6 -/
mutual
def graverlaw01_OrderFields.j1 : Nat → Bool → List Int → List Int → ByteArray → ByteArray → Bool → Option (Bool)
 | 0, _, _, _, _, _, _ => none
 | k + 1, x0, x1, x2, x8, x9, x154000 => (order_Order_Read.f x154000 x8 0).bind fun bt160 => (graverlaw01_OrderFields.l1 k x0 x1 x2 x8 x9 0 bt160.1 bt160.2.1 bt160.2.2.1 bt160.2.2.2)
def graverlaw01_OrderFields.l1 : Nat → Bool → List Int → List Int → ByteArray → ByteArray → Int → Bool → ByteArray → Int → Bool → Option (Bool)
 | 0, _, _, _, _, _, _, _, _, _, _ => none
 | k + 1, x0, x1, x2, x8, x9, x12, x165000, x165001, x165002, x165003 => if x12 < (x1.length : Int) then (graverlaw01_OrderFields.j3 k x0 x1 x2 x8 x9 x12 (decide (x12 < (x2.length : Int))) x165000 x165001 x165002 x165003) else (graverlaw01_OrderFields.j3 k x0 x1 x2 x8 x9 x12 false x165000 x165001 x165002 x165003)
def graverlaw01_OrderFields.j3 : Nat → Bool → List Int → List Int → ByteArray → ByteArray → Int → Bool → Bool → ByteArray → Int → Bool → Option (Bool)
 | 0, _, _, _, _, _, _, _, _, _, _, _ => none
 | k + 1, x0, x1, x2, x8, x9, x12, x68, x165000, x165001, x165002, x165003 => if x68 = true then (if 0 ≤ x12 then (if x12 < (x1.length : Int) then (if (rd x1 x12) < 1 then (graverlaw01_OrderFields.j4 k x0 x1 x2 x8 x9 x12 true x165000 x165001 x165002 x165003) else (graverlaw01_OrderFields.j4 k x0 x1 x2 x8 x9 x12 (decide ((rd x1 x12) > 8)) x165000 x165001 x165002 x165003)) else (none)) else (none)) else (if x8.toList = x9.toList then ((order_Reader_Err.f x165000 x165001 x165002 x165003).bind fun bt177 => (if bt177.1 = 0 then ((order_Reader_At.f bt177.2.1 bt177.2.2.1 bt177.2.2.2.1 bt177.2.2.2.2).bind fun bt182 => (if bt182.1 = (IntKind.u64.wrap ((x8.size : Int))) then ((order_Reader_Next_nil.f 1).bind fun t187 => (if t187 = 0 then ((order_Reader_Bytes_nil.f 1).bind fun t188 => (if t188.toList = ([] : List UInt8) then ((order_Reader_Err_nil.f).bind fun t189 => (if t189 = 1 then ((order_Reader_At_nil.f).bind fun t190 => (some (t190 == 0))) else (some false))) else (some false))) else (some false))) else (some false))) else (some false))) else (some false))
def graverlaw01_OrderFields.j4 : Nat → Bool → List Int → List Int → ByteArray → ByteArray → Int → Bool → Bool → ByteArray → Int → Bool → Option (Bool)
 | 0, _, _, _, _, _, _, _, _, _, _, _ => none
 | k + 1, x0, x1, x2, x8, x9, x12, x82, x165000, x165001, x165002, x165003 => if x82 = true then (graverlaw01_OrderFields.l1 k x0 x1 x2 x8 x9 (wrap64 (x12 + 1)) x165000 x165001 x165002 x165003) else (if 0 ≤ x12 then (if x12 < (x1.length : Int) then ((order_Reader_Next.f k x165000 x165001 x165002 x165003 (rd x1 x12)).bind fun bt168 => (if x12 < (x2.length : Int) then ((graverref01_Put.f k x0 (rd x2 x12) (rd x1 x12)).bind fun t175 => ((graverref01_Get.f k x0 t175).bind fun t176 => (if bt168.1 = t176 then (graverlaw01_OrderFields.l1 k x0 x1 x2 x8 x9 (wrap64 (x12 + 1)) bt168.2.1 bt168.2.2.1 bt168.2.2.2.1 bt168.2.2.2.2) else (some false)))) else (none))) else (none)) else (none))
def graverlaw01_OrderFields.l0 : Nat → Bool → List Int → List Int → ByteArray → ByteArray → Int → Bool → Option (Bool)
 | 0, _, _, _, _, _, _, _ => none
 | k + 1, x0, x1, x2, x8, x9, x10, x154000 => if x10 < (x1.length : Int) then (if x10 < (x2.length : Int) then (if 0 ≤ x10 then ((graverref01_Put.f k x0 (rd x2 x10) (rd x1 x10)).bind fun t159 => (if x9.size + t159.size ≤ 9223372036854775807 then (graverlaw01_OrderFields.l0 k x0 x1 x2 x8 (x9 ++ t159) (wrap64 (x10 + 1)) x154000) else (none))) else (none)) else (graverlaw01_OrderFields.j1 k x0 x1 x2 x8 x9 x154000)) else (graverlaw01_OrderFields.j1 k x0 x1 x2 x8 x9 x154000)
end
def graverlaw01_OrderFields.f (k : Nat) (a0 : Bool) (l1 : List Int) (l2 : List Int) : Option (Bool) := (graverlaw01_speaks.f k).bind fun t152 => (if t152 = true then (if 0 ≤ (mn (l1.length : Int) 20) then (if (mn (l1.length : Int) 20) ≤ (l1.length : Int) then (if 0 ≤ (mn (l2.length : Int) 20) then (if (mn (l2.length : Int) 20) ≤ (l2.length : Int) then ((order_Order_Fields.f k a0 (l1.take ((mn (l1.length : Int) 20) : Int).toNat) (l2.take ((mn (l2.length : Int) 20) : Int).toNat)).bind fun t156 => (graverlaw01_OrderFields.l0 k a0 (l1.take ((mn (l1.length : Int) 20) : Int).toNat) (l2.take ((mn (l2.length : Int) 20) : Int).toNat) t156 (⟨#[]⟩ : ByteArray) 0 a0)) else (none)) else (none)) else (none)) else (none)) else (some false))
theorem graverlaw01_OrderFields.mono_l : ∀ k, (∀ y0 y1 y2 y3 y4 y5, LeO (graverlaw01_OrderFields.j1 k y0 y1 y2 y3 y4 y5) (graverlaw01_OrderFields.j1 (k + 1) y0 y1 y2 y3 y4 y5)) ∧ (∀ y0 y1 y2 y3 y4 y5 y6 y7 y8 y9, LeO (graverlaw01_OrderFields.l1 k y0 y1 y2 y3 y4 y5 y6 y7 y8 y9) (graverlaw01_OrderFields.l1 (k + 1) y0 y1 y2 y3 y4 y5 y6 y7 y8 y9)) ∧ (∀ y0 y1 y2 y3 y4 y5 y6 y7 y8 y9 y10, LeO (graverlaw01_OrderFields.j3 k y0 y1 y2 y3 y4 y5 y6 y7 y8 y9 y10) (graverlaw01_OrderFields.j3 (k + 1) y0 y1 y2 y3 y4 y5 y6 y7 y8 y9 y10)) ∧ (∀ y0 y1 y2 y3 y4 y5 y6 y7 y8 y9 y10, LeO (graverlaw01_OrderFields.j4 k y0 y1 y2 y3 y4 y5 y6 y7 y8 y9 y10) (graverlaw01_OrderFields.j4 (k + 1) y0 y1 y2 y3 y4 y5 y6 y7 y8 y9 y10)) ∧ (∀ y0 y1 y2 y3 y4 y5 y6, LeO (graverlaw01_OrderFields.l0 k y0 y1 y2 y3 y4 y5 y6) (graverlaw01_OrderFields.l0 (k + 1) y0 y1 y2 y3 y4 y5 y6))
 | 0 => ⟨fun _ _ _ _ _ _ r h => by simp [graverlaw01_OrderFields.j1] at h, fun _ _ _ _ _ _ _ _ _ _ r h => by simp [graverlaw01_OrderFields.l1] at h, fun _ _ _ _ _ _ _ _ _ _ _ r h => by simp [graverlaw01_OrderFields.j3] at h, fun _ _ _ _ _ _ _ _ _ _ _ r h => by simp [graverlaw01_OrderFields.j4] at h, fun _ _ _ _ _ _ _ r h => by simp [graverlaw01_OrderFields.l0] at h⟩
 | k + 1 => by
  obtain ⟨ih0, ih1, ih2, ih3, ih4⟩ := graverlaw01_OrderFields.mono_l k
  refine ⟨?_, ?_, ?_, ?_, ?_⟩
  ·
   intro y0 y1 y2 y3 y4 y5
   unfold graverlaw01_OrderFields.j1
   repeat' first
   | (with_reducible exact ih0 _ _ _ _ _ _)
   | (with_reducible exact ih1 _ _ _ _ _ _ _ _ _ _)
   | (with_reducible exact ih2 _ _ _ _ _ _ _ _ _ _ _)
   | (with_reducible exact ih3 _ _ _ _ _ _ _ _ _ _ _)
   | (with_reducible exact ih4 _ _ _ _ _ _ _)
   | (with_reducible exact graverlaw01_speaks.mono _)
   | (with_reducible exact graverref01_Get.mono _ _ _)
   | (with_reducible exact graverref01_Put.mono _ _ _ _)
   | (with_reducible exact order_Order_Fields.mono _ _ _ _)
   | (with_reducible exact order_Reader_Next.mono _ _ _ _ _ _)
   | (with_reducible exact LeO.refl _)
   | (with_reducible exact LeO.none _)
   | (with_reducible refine LeO.ite ?_ ?_)
   | (with_reducible refine LeO.bind ?_ (fun _ => ?_))
   | exact ih0 _ _ _ _ _ _
   | exact ih1 _ _ _ _ _ _ _ _ _ _
   | exact ih2 _ _ _ _ _ _ _ _ _ _ _
   | exact ih3 _ _ _ _ _ _ _ _ _ _ _
   | exact ih4 _ _ _ _ _ _ _
   | exact graverlaw01_speaks.mono _
   | exact graverref01_Get.mono _ _ _
   | exact graverref01_Put.mono _ _ _ _
   | exact order_Order_Fields.mono _ _ _ _
   | exact order_Reader_Next.mono _ _ _ _ _ _
   | exact LeO.none _
   | refine LeO.ite ?_ ?_
   | refine LeO.bind ?_ (fun _ => ?_)
  ·
   intro y0 y1 y2 y3 y4 y5 y6 y7 y8 y9
   unfold graverlaw01_OrderFields.l1
   repeat' first
   | (with_reducible exact ih0 _ _ _ _ _ _)
   | (with_reducible exact ih1 _ _ _ _ _ _ _ _ _ _)
   | (with_reducible exact ih2 _ _ _ _ _ _ _ _ _ _ _)
   | (with_reducible exact ih3 _ _ _ _ _ _ _ _ _ _ _)
   | (with_reducible exact ih4 _ _ _ _ _ _ _)
   | (with_reducible exact graverlaw01_speaks.mono _)
   | (with_reducible exact graverref01_Get.mono _ _ _)
   | (with_reducible exact graverref01_Put.mono _ _ _ _)
   | (with_reducible exact order_Order_Fields.mono _ _ _ _)
   | (with_reducible exact order_Reader_Next.mono _ _ _ _ _ _)
   | (with_reducible exact LeO.refl _)
   | (with_reducible exact LeO.none _)
   | (with_reducible refine LeO.ite ?_ ?_)
   | (with_reducible refine LeO.bind ?_ (fun _ => ?_))
   | exact ih0 _ _ _ _ _ _
   | exact ih1 _ _ _ _ _ _ _ _ _ _
   | exact ih2 _ _ _ _ _ _ _ _ _ _ _
   | exact ih3 _ _ _ _ _ _ _ _ _ _ _
   | exact ih4 _ _ _ _ _ _ _
   | exact graverlaw01_speaks.mono _
   | exact graverref01_Get.mono _ _ _
   | exact graverref01_Put.mono _ _ _ _
   | exact order_Order_Fields.mono _ _ _ _
   | exact order_Reader_Next.mono _ _ _ _ _ _
   | exact LeO.none _
   | refine LeO.ite ?_ ?_
   | refine LeO.bind ?_ (fun _ => ?_)
  ·
   intro y0 y1 y2 y3 y4 y5 y6 y7 y8 y9 y10
   unfold graverlaw01_OrderFields.j3
   repeat' first
   | (with_reducible exact ih0 _ _ _ _ _ _)
   | (with_reducible exact ih1 _ _ _ _ _ _ _ _ _ _)
   | (with_reducible exact ih2 _ _ _ _ _ _ _ _ _ _ _)
   | (with_reducible exact ih3 _ _ _ _ _ _ _ _ _ _ _)
   | (with_reducible exact ih4 _ _ _ _ _ _ _)
   | (with_reducible exact graverlaw01_speaks.mono _)
   | (with_reducible exact graverref01_Get.mono _ _ _)
   | (with_reducible exact graverref01_Put.mono _ _ _ _)
   | (with_reducible exact order_Order_Fields.mono _ _ _ _)
   | (with_reducible exact order_Reader_Next.mono _ _ _ _ _ _)
   | (with_reducible exact LeO.refl _)
   | (with_reducible exact LeO.none _)
   | (with_reducible refine LeO.ite ?_ ?_)
   | (with_reducible refine LeO.bind ?_ (fun _ => ?_))
   | exact ih0 _ _ _ _ _ _
   | exact ih1 _ _ _ _ _ _ _ _ _ _
   | exact ih2 _ _ _ _ _ _ _ _ _ _ _
   | exact ih3 _ _ _ _ _ _ _ _ _ _ _
   | exact ih4 _ _ _ _ _ _ _
   | exact graverlaw01_speaks.mono _
   | exact graverref01_Get.mono _ _ _
   | exact graverref01_Put.mono _ _ _ _
   | exact order_Order_Fields.mono _ _ _ _
   | exact order_Reader_Next.mono _ _ _ _ _ _
   | exact LeO.none _
   | refine LeO.ite ?_ ?_
   | refine LeO.bind ?_ (fun _ => ?_)
  ·
   intro y0 y1 y2 y3 y4 y5 y6 y7 y8 y9 y10
   unfold graverlaw01_OrderFields.j4
   repeat' first
   | (with_reducible exact ih0 _ _ _ _ _ _)
   | (with_reducible exact ih1 _ _ _ _ _ _ _ _ _ _)
   | (with_reducible exact ih2 _ _ _ _ _ _ _ _ _ _ _)
   | (with_reducible exact ih3 _ _ _ _ _ _ _ _ _ _ _)
   | (with_reducible exact ih4 _ _ _ _ _ _ _)
   | (with_reducible exact graverlaw01_speaks.mono _)
   | (with_reducible exact graverref01_Get.mono _ _ _)
   | (with_reducible exact graverref01_Put.mono _ _ _ _)
   | (with_reducible exact order_Order_Fields.mono _ _ _ _)
   | (with_reducible exact order_Reader_Next.mono _ _ _ _ _ _)
   | (with_reducible exact LeO.refl _)
   | (with_reducible exact LeO.none _)
   | (with_reducible refine LeO.ite ?_ ?_)
   | (with_reducible refine LeO.bind ?_ (fun _ => ?_))
   | exact ih0 _ _ _ _ _ _
   | exact ih1 _ _ _ _ _ _ _ _ _ _
   | exact ih2 _ _ _ _ _ _ _ _ _ _ _
   | exact ih3 _ _ _ _ _ _ _ _ _ _ _
   | exact ih4 _ _ _ _ _ _ _
   | exact graverlaw01_speaks.mono _
   | exact graverref01_Get.mono _ _ _
   | exact graverref01_Put.mono _ _ _ _
   | exact order_Order_Fields.mono _ _ _ _
   | exact order_Reader_Next.mono _ _ _ _ _ _
   | exact LeO.none _
   | refine LeO.ite ?_ ?_
   | refine LeO.bind ?_ (fun _ => ?_)
  ·
   intro y0 y1 y2 y3 y4 y5 y6
   unfold graverlaw01_OrderFields.l0
   repeat' first
   | (with_reducible exact ih0 _ _ _ _ _ _)
   | (with_reducible exact ih1 _ _ _ _ _ _ _ _ _ _)
   | (with_reducible exact ih2 _ _ _ _ _ _ _ _ _ _ _)
   | (with_reducible exact ih3 _ _ _ _ _ _ _ _ _ _ _)
   | (with_reducible exact ih4 _ _ _ _ _ _ _)
   | (with_reducible exact graverlaw01_speaks.mono _)
   | (with_reducible exact graverref01_Get.mono _ _ _)
   | (with_reducible exact graverref01_Put.mono _ _ _ _)
   | (with_reducible exact order_Order_Fields.mono _ _ _ _)
   | (with_reducible exact order_Reader_Next.mono _ _ _ _ _ _)
   | (with_reducible exact LeO.refl _)
   | (with_reducible exact LeO.none _)
   | (with_reducible refine LeO.ite ?_ ?_)
   | (with_reducible refine LeO.bind ?_ (fun _ => ?_))
   | exact ih0 _ _ _ _ _ _
   | exact ih1 _ _ _ _ _ _ _ _ _ _
   | exact ih2 _ _ _ _ _ _ _ _ _ _ _
   | exact ih3 _ _ _ _ _ _ _ _ _ _ _
   | exact ih4 _ _ _ _ _ _ _
   | exact graverlaw01_speaks.mono _
   | exact graverref01_Get.mono _ _ _
   | exact graverref01_Put.mono _ _ _ _
   | exact order_Order_Fields.mono _ _ _ _
   | exact order_Reader_Next.mono _ _ _ _ _ _
   | exact LeO.none _
   | refine LeO.ite ?_ ?_
   | refine LeO.bind ?_ (fun _ => ?_)
theorem graverlaw01_OrderFields.mono : ∀ a0 a1 a2 k, LeO (graverlaw01_OrderFields.f k a0 a1 a2) (graverlaw01_OrderFields.f (k + 1) a0 a1 a2) := by
 intro a0 a1 a2 k
 obtain ⟨ih0, ih1, ih2, ih3, ih4⟩ := graverlaw01_OrderFields.mono_l k
 unfold graverlaw01_OrderFields.f
 repeat' first
   | (with_reducible exact ih0 _ _ _ _ _ _)
   | (with_reducible exact ih1 _ _ _ _ _ _ _ _ _ _)
   | (with_reducible exact ih2 _ _ _ _ _ _ _ _ _ _ _)
   | (with_reducible exact ih3 _ _ _ _ _ _ _ _ _ _ _)
   | (with_reducible exact ih4 _ _ _ _ _ _ _)
   | (with_reducible exact graverlaw01_speaks.mono _)
   | (with_reducible exact graverref01_Get.mono _ _ _)
   | (with_reducible exact graverref01_Put.mono _ _ _ _)
   | (with_reducible exact order_Order_Fields.mono _ _ _ _)
   | (with_reducible exact order_Reader_Next.mono _ _ _ _ _ _)
   | (with_reducible exact LeO.refl _)
   | (with_reducible exact LeO.none _)
   | (with_reducible refine LeO.ite ?_ ?_)
   | (with_reducible refine LeO.bind ?_ (fun _ => ?_))
   | exact ih0 _ _ _ _ _ _
   | exact ih1 _ _ _ _ _ _ _ _ _ _
   | exact ih2 _ _ _ _ _ _ _ _ _ _ _
   | exact ih3 _ _ _ _ _ _ _ _ _ _ _
   | exact ih4 _ _ _ _ _ _ _
   | exact graverlaw01_speaks.mono _
   | exact graverref01_Get.mono _ _ _
   | exact graverref01_Put.mono _ _ _ _
   | exact order_Order_Fields.mono _ _ _ _
   | exact order_Reader_Next.mono _ _ _ _ _ _
   | exact LeO.none _
   | refine LeO.ite ?_ ?_
   | refine LeO.bind ?_ (fun _ => ?_)
def graverlaw01_OrderFields.T4 : Bool × List (List Nat × List Nat) := (true, [([], []), ([], []), ([1], [1]), ([2], [2]), ([0, 3], [0, 3]), ([], []), ([], []), ([6], [6]), ([7], [7]), ([5, 8], [5, 8]), ([4, 0, 1, 2, 3, 4], [0, 1, 4]), ([9, 10, 0, 1, 2, 3, 4, 5, 6, 7, 8, 9, 10], [5, 6, 9])])
def graverlaw01_OrderFields.B4 : List Nat := [0, 0, 2, 6, 15, 0, 0, 64, 192, 480, 31, 2047]
theorem graverlaw01_OrderFields.tab4 : rtab .any (opsOf Try.f6 4) = graverlaw01_OrderFields.T4 := by kernel_rfl
theorem graverlaw01_OrderFields.bits4 : waitsOk graverlaw01_OrderFields.T4.2 graverlaw01_OrderFields.B4 = true := by kernel_rfl
def graverlaw01_OrderFields.T10 : Bool × List (List Nat × List Nat) := (true, [([], []), ([], []), ([], []), ([], []), ([2, 3], [2, 3]), ([4], [4]), ([], []), ([], []), ([6, 7], [6, 7]), ([8], [8]), ([1, 5, 9], [1, 5, 9]), ([0, 10], [0, 10]), ([11, 10, 0, 1, 2, 3, 4, 5, 6, 7, 8, 9, 10, 11], [0, 11])])
def graverlaw01_OrderFields.B10 : List Nat := [0, 0, 0, 0, 12, 28, 0, 0, 192, 448, 1022, 2047, 4095]
theorem graverlaw01_OrderFields.tab10 : rtab .any (opsOf Try.f6 10) = graverlaw01_OrderFields.T10 := by kernel_rfl
theorem graverlaw01_OrderFields.bits10 : waitsOk graverlaw01_OrderFields.T10.2 graverlaw01_OrderFields.B10 = true := by kernel_rfl
def graverlaw01_OrderFields.T16 : Bool × List (List Nat × List Nat) := (true, [([], []), ([], []), ([], []), ([1, 2], [1, 2]), ([3], [3]), ([0, 4], [0, 4]), ([], []), ([], []), ([], []), ([], []), ([8, 9], [8, 9]), ([10], [10]), ([], []), ([], []), ([12, 13], [12, 13]), ([14], [14]), ([7, 11, 15, 5], [7, 11, 15]), ([6, 16, 16], [6, 16]), ([5, 17], [5, 17])])
def graverlaw01_OrderFields.B16 : List Nat := [0, 0, 0, 6, 14, 31, 0, 0, 0, 0, 768, 1792, 0, 0, 12288, 28672, 65471, 131071, 262143]
theorem graverlaw01_OrderFields.tab16 : rtab .any (opsOf Try.f6 16) = graverlaw01_OrderFields.T16 := by kernel_rfl
theorem graverlaw01_OrderFields.bits16 : waitsOk graverlaw01_OrderFields.T16.2 graverlaw01_OrderFields.B16 = true := by kernel_rfl
set_option maxHeartbeats 8000000 in
set_option maxRecDepth 100000 in
theorem graverlaw01_OrderFields.calls (k : Nat) (a0 : Bool) (A1 : Option Addr) (c1 : Nat) (l1 : List Int) (A2 : Option Addr) (c2 : Nat) (l2 : List Int) (r : Bool) (w : World) (hrt : r = true) (hr1 : Kd.C (Kd.int .i64) w A1 l1.length l1) (hc1 : l1.length ≤ c1) (hr2 : Kd.C (Kd.int .u64) w A2 l2.length l2) (hc2 : l2.length ≤ c2) (h : graverlaw01_OrderFields.f k a0 l1 l2 = some r) :
  Calls Try.prog 6 #[.bool a0, .slice A1 l1.length c1, .slice A2 l2.length c2] w fun e w' => e = .returned (.bool r) ∧ Below w.heap.size w w' := by
 have hu25 := Try.underlying25
 have HR1 := aS hr1
 have HC1 := aS hc1
 clear hr1 hc1
 have HR2 := aS hr2
 have HC2 := aS hc2
 clear hr2 hc2
 have HB := aS (Below.refl w.heap.size w)
 have HRT := aS hrt
 clear hrt
 have H : ((graverlaw01_speaks.f k).bind fun t152 => (if t152 = true then (if 0 ≤ (mn (l1.length : Int) 20) then (if (mn (l1.length : Int) 20) ≤ (l1.length : Int) then (if 0 ≤ (mn (l2.length : Int) 20) then (if (mn (l2.length : Int) 20) ≤ (l2.length : Int) then ((order_Order_Fields.f k a0 (l1.take ((mn (l1.length : Int) 20) : Int).toNat) (l2.take ((mn (l2.length : Int) 20) : Int).toNat)).bind fun t156 => (graverlaw01_OrderFields.l0 k a0 (l1.take ((mn (l1.length : Int) 20) : Int).toNat) (l2.take ((mn (l2.length : Int) 20) : Int).toNat) t156 (⟨#[]⟩ : ByteArray) 0 a0)) else (none)) else (none)) else (none)) else (none)) else (some false))) = some r := h
 clear h
 replace H := Option.bind_eq_some_iff.mp H
 obtain ⟨t152, A40, H⟩ := H
 replace H : (if t152 = true then (if 0 ≤ (mn (l1.length : Int) 20) then (if (mn (l1.length : Int) 20) ≤ (l1.length : Int) then (if 0 ≤ (mn (l2.length : Int) 20) then (if (mn (l2.length : Int) 20) ≤ (l2.length : Int) then ((order_Order_Fields.f k a0 (l1.take ((mn (l1.length : Int) 20) : Int).toNat) (l2.take ((mn (l2.length : Int) 20) : Int).toNat)).bind fun t156 => (graverlaw01_OrderFields.l0 k a0 (l1.take ((mn (l1.length : Int) 20) : Int).toNat) (l2.take ((mn (l2.length : Int) 20) : Int).toNat) t156 (⟨#[]⟩ : ByteArray) 0 a0)) else (none)) else (none)) else (none)) else (none)) else (some false)) = some r := H
 have A4 := aS A40
 clear A40
 by_cases c5 : t152 = true
 ·
  subst c5
  have H1 : (if 0 ≤ (mn (l1.length : Int) 20) then (if (mn (l1.length : Int) 20) ≤ (l1.length : Int) then (if 0 ≤ (mn (l2.length : Int) 20) then (if (mn (l2.length : Int) 20) ≤ (l2.length : Int) then ((order_Order_Fields.f k a0 (l1.take ((mn (l1.length : Int) 20) : Int).toNat) (l2.take ((mn (l2.length : Int) 20) : Int).toNat)).bind fun t156 => (graverlaw01_OrderFields.l0 k a0 (l1.take ((mn (l1.length : Int) 20) : Int).toNat) (l2.take ((mn (l2.length : Int) 20) : Int).toNat) t156 (⟨#[]⟩ : ByteArray) 0 a0)) else (none)) else (none)) else (none)) else (none)) = some r := by rw [if_pos rfl] at H; exact H
  clear H
  have H := H1
  clear H1
  obtain ⟨ji6, hji6⟩ : ∃ j_ : Int, (mn (l1.length : Int) 20) = j_ := ⟨_, rfl⟩
  replace H : (if 0 ≤ (ji6) then (if (ji6) ≤ (l1.length : Int) then (if 0 ≤ (mn (l2.length : Int) 20) then (if (mn (l2.length : Int) 20) ≤ (l2.length : Int) then ((order_Order_Fields.f k a0 (l1.take ((ji6) : Int).toNat) (l2.take ((mn (l2.length : Int) 20) : Int).toNat)).bind fun t156 => (graverlaw01_OrderFields.l0 k a0 (l1.take ((ji6) : Int).toNat) (l2.take ((mn (l2.length : Int) 20) : Int).toNat) t156 (⟨#[]⟩ : ByteArray) 0 a0)) else (none)) else (none)) else (none)) else (none)) = some r := by first | (rw [hji6] at H; exact H) | (simp only [hji6] at H ⊢; exact H)
  (try rw [hji6] at A4)
  (try (have hji6h : ji6 ≤ 20 := by (rw [← hji6]; unfold mn; (repeat' split) <;> omega)))
  (try (have hji6g : ji6 ≤ 64 := by omega))
  (try (have hji6l : 0 ≤ ji6 := by (rw [← hji6]; unfold mn; (repeat' split) <;> omega)))
  (try (have hji6m : 0 ≤ ji6 := by omega))
  have hji6_ : (if 20 < (l1.length : Int) then 20 else (l1.length : Int)) = ji6 := hji6
  by_cases c7 : 0 ≤ (ji6)
  ·
   rw [if_pos c7] at H
   have c7b0 := eq_true c7
   have c7b1 : decide (0 ≤ (ji6)) = true := decide_eq_true c7
   clear c7
   by_cases c8 : (ji6) ≤ (l1.length : Int)
   ·
    rw [if_pos c8] at H
    have c8b0 := eq_true c8
    have c8b1 : decide ((ji6) ≤ (l1.length : Int)) = true := decide_eq_true c8
    clear c8
    obtain ⟨cu9, hcu9⟩ : ∃ s_ : List Int, (l1.take ((ji6) : Int).toNat) = s_ := ⟨_, rfl⟩
    replace H : (if 0 ≤ (mn (l2.length : Int) 20) then (if (mn (l2.length : Int) 20) ≤ (l2.length : Int) then ((order_Order_Fields.f k a0 cu9 (l2.take ((mn (l2.length : Int) 20) : Int).toNat)).bind fun t156 => (graverlaw01_OrderFields.l0 k a0 cu9 (l2.take ((mn (l2.length : Int) 20) : Int).toNat) t156 (⟨#[]⟩ : ByteArray) 0 a0)) else (none)) else (none)) = some r := by first | (rw [hcu9] at H; exact H) | (simp only [hcu9] at H ⊢; exact H) | exact H
    replace hcu9 := aS hcu9
    obtain ⟨ji10, hji10⟩ : ∃ j_ : Int, (mn (l2.length : Int) 20) = j_ := ⟨_, rfl⟩
    replace H : (if 0 ≤ (ji10) then (if (ji10) ≤ (l2.length : Int) then ((order_Order_Fields.f k a0 cu9 (l2.take ((ji10) : Int).toNat)).bind fun t156 => (graverlaw01_OrderFields.l0 k a0 cu9 (l2.take ((ji10) : Int).toNat) t156 (⟨#[]⟩ : ByteArray) 0 a0)) else (none)) else (none)) = some r := by first | (rw [hji10] at H; exact H) | (simp only [hji10] at H ⊢; exact H)
    (try rw [hji10] at A4)
    (try (have hji10h : ji10 ≤ 20 := by (rw [← hji10]; unfold mn; (repeat' split) <;> omega)))
    (try (have hji10g : ji10 ≤ 64 := by omega))
    (try (have hji10l : 0 ≤ ji10 := by (rw [← hji10]; unfold mn; (repeat' split) <;> omega)))
    (try (have hji10m : 0 ≤ ji10 := by omega))
    have hji10_ : (if 20 < (l2.length : Int) then 20 else (l2.length : Int)) = ji10 := hji10
    by_cases c11 : 0 ≤ (ji10)
    ·
     rw [if_pos c11] at H
     have c11b0 := eq_true c11
     have c11b1 : decide (0 ≤ (ji10)) = true := decide_eq_true c11
     clear c11
     by_cases c12 : (ji10) ≤ (l2.length : Int)
     ·
      rw [if_pos c12] at H
      have c12b0 := eq_true c12
      have c12b1 : decide ((ji10) ≤ (l2.length : Int)) = true := decide_eq_true c12
      clear c12
      obtain ⟨cu13, hcu13⟩ : ∃ s_ : List Int, (l2.take ((ji10) : Int).toNat) = s_ := ⟨_, rfl⟩
      replace H : ((order_Order_Fields.f k a0 cu9 cu13).bind fun t156 => (graverlaw01_OrderFields.l0 k a0 cu9 cu13 t156 (⟨#[]⟩ : ByteArray) 0 a0)) = some r := by first | (rw [hcu13] at H; exact H) | (simp only [hcu13] at H ⊢; exact H) | exact H
      replace hcu13 := aS hcu13
      replace H := Option.bind_eq_some_iff.mp H
      obtain ⟨t156, A140, H⟩ := H
      replace H : (graverlaw01_OrderFields.l0 k a0 cu9 cu13 t156 (⟨#[]⟩ : ByteArray) 0 a0) = some r := H
      have A14 := aS A140
      clear A140
      have HC15 := aS H
      clear H
      go_enter Try.func6, Try.ntmps6
      try go_wp2_with (first | ((with_reducible refine gate_callee (f := 9) rfl ?_); refine goesL_ (some 14) rfl rfl Try.func9 (by kernel_rfl) rfl #[] rfl (by (try simp only [List.map_toArray, List.map_cons, List.map_nil]); first | done | rfl | (simp only [List.length_drop, List.length_take]; rfl)) ?_; (with_reducible refine (graverlaw01_speaks.calls k  true _ A4.out).mono ?_); rintro e w16 ⟨rfl, hb⟩; refine ⟨_, rfl, ?_⟩; have n0_ := aS (below_step (by repeat (first | (with_reducible first | exact HB.out | apply below_alloc | apply pw_below_drewN | apply below_drew1) | exact HB.out)) hb); clear HB; have HB := n0_; clear n0_; (try clear hb); (try clear hb2); (try clear hk); (try clear hi)) | ((with_reducible refine gate_dst (N := 7) rfl ?_); (try (refine gate_guard (by rfl) ?_; dsimp only)); refine box_event ?hg (N := 7) ?hd (cs := #[.bool false]) (t := 25) ?hr ?_; (case hd => rfl); (case hg => rfl); (case hr => (go_simp; try rfl)); intro gb153 hg w17 hbox hb; have n0_ := aS (below_step (by repeat (first | (with_reducible first | exact HB.out | apply below_alloc | apply pw_below_drewN | apply below_drew1) | exact HB.out)) hb); have n1_ := aS (hbox); have n2_ := aS ((by rw [hg]; exact (below_size (by repeat (first | (with_reducible first | exact HB.out | apply below_alloc | apply pw_below_drewN | apply below_drew1) | exact HB.out))) : w.heap.size ≤ gb153)); have n3_ := aS ((by rw [hg]; exact (below_size (by repeat (first | (with_reducible first | exact HB.out | apply below_alloc | apply pw_below_drewN | apply below_drew1) | exact HB.out))) : w.heap.size ≤ gb153)); clear HB; have HB := n0_; have BK153 := n1_; have GW153 := n2_; have GE153 := n3_; clear n0_ n1_ n2_ n3_; clear hb hbox hg; have hcz18_0 : w17.cell? ⟨gb153, 0, none⟩ = some (.bool false) := (blk_cell BK153.out 0).trans rfl; have hfz18_0 := blk_frozen BK153.out 0))
      have n0_ : Aside0 ((w17.setCell ⟨gb153, 0, none⟩ (.bool a0)).heap[gb153]? = some (.cells #[.bool a0] 25 (0, 0))) := ⟨by (with_reducible repeat (first | apply bN | apply bD | apply bA)); refine blk_put (cs := #[.bool false]) ?_ 0 _ rfl; (with_reducible repeat (first | apply bN | apply bD | apply bA)); exact BK153.out⟩
      have n1_ : Aside0 (Below w.heap.size w (w17.setCell ⟨gb153, 0, none⟩ (.bool a0))) := ⟨by repeat (first | (with_reducible first | exact HB.out | apply eA | apply eN | apply eD | refine below_set ?_ GE153.out) | exact HB.out)⟩
      (try clear BK153)
      (try clear HB)
      generalize (w17.setCell ⟨gb153, 0, none⟩ (.bool a0)) = w19 at n0_ n1_ ⊢
      have BK153 := n0_
      have HB := n1_
      clear n0_ n1_
      have n0_ := aS (blk_drew BK153.out)
      have n1_ := aS (below_drew1 HB.out)
      clear BK153
      clear HB
      have BK153 := n0_
      have HB := n1_
      clear n0_ n1_
      obtain ⟨i021, hi021, _, hsz21, _⟩ := info_parts info3
      obtain ⟨hcut21, hA21, hC21⟩ := print_take_of (P := Try.prog) (Value.int .i64) 0 34 3 .i64 Try.underlying34 hi021 hsz21 A1 c1 l1 (ji6) (of_decide_eq_true (by first | (with_reducible assumption) | assumption)) (of_decide_eq_true (by first | (with_reducible assumption) | assumption)) HC1.out
      rw [hcu9.out] at hcut21
      have HR154 := aS (by have h_ := Kd.C_of_reads (h1 := fun _ => rfl) (hA21 _ (Kd.reads_of_C HR1.out)); rw [hcu9.out] at h_; exact h_)
      have HC154 := aS (by have h_ := hC21; rw [hcu9.out] at h_; exact h_)
      clear hA21 hC21 hi021 hsz21
      obtain ⟨i022, hi022, _, hsz22, _⟩ := info_parts info22
      obtain ⟨hcut22, hA22, hC22⟩ := print_take_of (P := Try.prog) (Value.int .u64) 0 45 22 .i64 Try.underlying45 hi022 hsz22 A2 c2 l2 (ji10) (of_decide_eq_true (by first | (with_reducible assumption) | assumption)) (of_decide_eq_true (by first | (with_reducible assumption) | assumption)) HC2.out
      rw [hcu13.out] at hcut22
      have HR155 := aS (by have h_ := Kd.C_of_reads (h1 := fun _ => rfl) (hA22 _ (Kd.reads_of_C HR2.out)); rw [hcu13.out] at h_; exact h_)
      have HC155 := aS (by have h_ := hC22; rw [hcu13.out] at h_; exact h_)
      clear hA22 hC22 hi022 hsz22
      refine start_ (n := 12) (S := fun w' => True) (ds := []) #[false, false, false, false, false, false, false, false, false, false, false, false] (by kernel_rfl) rfl rfl trivial (fun hHeld => ?_); refine with_tabW graverlaw01_OrderFields.tab4 graverlaw01_OrderFields.bits4 (fun HT_ HW_ => ?_)
      generalize w19.drew = w20 at BK153 HB HR154 HR155 hHeld ⊢
      refine pure_ (i := 0) (N := some 18) (v := ?_) (a' := ?_) (bm 12 1) rfl rfl (any_of HT_.out (by kernel_rfl)) (fun _ _ _ h => h) (Or.inl ⟨by rfl, ?_⟩) ?_ ?_
      rotate_left
      ·
       intro w'
       go_simp
       with_reducible rfl
      rotate_left
      ·
       simp only [Act.put, aput]
       rfl
      refine pure_ (i := 1) (N := some 19) (v := ?_) (a' := ?_) (bm 12 3) rfl rfl (any_of HT_.out (by kernel_rfl)) (fun _ _ _ h => h) (Or.inl ⟨by rfl, ?_⟩) ?_ ?_
      rotate_left
      ·
       intro w'
       go_simp
       with_reducible rfl
      rotate_left
      ·
       simp only [Act.put, aput]
       rfl
      refine pure_ (i := 2) (N := some 20) (v := ?_) (a' := ?_) (bm 12 7) rfl rfl (any_of HT_.out (by kernel_rfl)) (fun _ _ _ h => h) (Or.inl ⟨by rfl, ?_⟩) ?_ ?_
      rotate_left
      ·
       intro w'
       go_simp
       with_reducible rfl
      rotate_left
      ·
       simp only [Act.put, aput]
       rfl
      refine pure_ (i := 3) (N := some 21) (v := ?_) (a' := ?_) (bm 12 15) rfl rfl (any_of HT_.out (by kernel_rfl)) (fun _ _ _ h => h) (Or.inl ⟨by rfl, ?_⟩) ?_ ?_
      rotate_left
      ·
       intro w'
       go_simp
       with_reducible rfl
      rotate_left
      ·
       simp only [Act.put, aput]
       rfl
      refine pure_ (i := 4) (N := some 22) (v := ?_) (a' := ?_) (bm 12 31) rfl rfl (any_of HT_.out (by kernel_rfl)) (fun _ _ _ h => h) (Or.inl ⟨by rfl, ?_⟩) ?_ ?_
      rotate_left
      ·
       intro w'
       go_simp
       with_reducible rfl
      rotate_left
      ·
       simp only [Act.put, aput]
       rfl
      refine pure_ (i := 5) (N := some 23) (v := ?_) (a' := ?_) (bm 12 63) rfl rfl (any_of HT_.out (by kernel_rfl)) (fun _ _ _ h => h) (Or.inl ⟨by rfl, ?_⟩) ?_ ?_
      rotate_left
      ·
       intro w'
       go_simp
       with_reducible rfl
      rotate_left
      ·
       simp only [Act.put, aput]
       rfl
      refine pure_ (i := 6) (N := some 24) (v := ?_) (a' := ?_) (bm 12 127) rfl rfl (any_of HT_.out (by kernel_rfl)) (fun _ _ _ h => h) (Or.inl ⟨by rfl, ?_⟩) ?_ ?_
      rotate_left
      ·
       intro w'
       go_simp
       with_reducible rfl
      rotate_left
      ·
       simp only [Act.put, aput]
       rfl
      refine pure_ (i := 7) (N := some 25) (v := ?_) (a' := ?_) (bm 12 255) rfl rfl (any_of HT_.out (by kernel_rfl)) (fun _ _ _ h => h) (Or.inl ⟨by rfl, ?_⟩) ?_ ?_
      rotate_left
      ·
       intro w'
       go_simp
       with_reducible rfl
      rotate_left
      ·
       simp only [Act.put, aput]
       rfl
      refine pure_ (i := 8) (N := some 26) (v := ?_) (a' := ?_) (bm 12 511) rfl rfl (any_of HT_.out (by kernel_rfl)) (fun _ _ _ h => h) (Or.inl ⟨by rfl, ?_⟩) ?_ ?_
      rotate_left
      ·
       intro w'
       go_simp
       with_reducible rfl
      rotate_left
      ·
       simp only [Act.put, aput]
       rfl
      refine pure_ (i := 9) (N := some 27) (v := ?_) (a' := ?_) (bm 12 1023) rfl rfl (any_of HT_.out (by kernel_rfl)) (fun _ _ _ h => h) (Or.inl ⟨by rfl, ?_⟩) ?_ ?_
      rotate_left
      ·
       intro w'
       go_simp
       with_reducible rfl
      rotate_left
      ·
       simp only [Act.put, aput]
       rfl
      refine pure_ (i := 10) (N := some 1) (v := ?_) (a' := ?_) (bm 12 2047) rfl rfl (any_of HT_.out (by kernel_rfl)) (fun _ _ _ h => h) (Or.inl ⟨by rfl, ?_⟩) ?_ ?_
      rotate_left
      ·
       intro w'
       go_simp
       with_reducible rfl
      rotate_left
      ·
       simp only [Act.put, aput]
       rfl
      refine pure_ (i := 11) (N := some 2) (v := ?_) (a' := ?_) (bm 12 4095) rfl rfl (any_of HT_.out (by kernel_rfl)) (fun _ _ _ h => h) (Or.inl ⟨by rfl, ?_⟩) ?_ ?_
      rotate_left
      ·
       intro w'
       go_simp
       with_reducible rfl
      rotate_left
      ·
       simp only [Act.put, aput]
       rfl
      refine done_ (done_of HT_.out (by kernel_rfl)) ?_
      have hcz23_0 : w20.cell? ⟨gb153, 0, none⟩ = some (.bool a0) := (blk_cell BK153.out 0).trans rfl
      have hfz23_0 := blk_frozen BK153.out 0
      go_upto_block 0 with (first | ((with_reducible refine gate_callee (f := 21) rfl ?_); refine goesL_ (some 31) rfl rfl Try.func21 (by kernel_rfl) rfl #[.agg #[.bool a0], .slice A1 cu9.length c1, .slice A2 cu13.length c2] rfl (by (try simp only [List.map_toArray, List.map_cons, List.map_nil]); first | done | rfl | (simp only [List.length_drop, List.length_take]; rfl)) ?_; (with_reducible refine (order_Order_Fields.calls k a0 _ _ cu9 _ _ cu13 t156 _ ?side1 ?side2 ?side3 ?side4 A14.out).mono ?_); (case side1 => repeat (first | exact (Kd.C_below HR154.out HB.out) | (with_reducible refine Kd.C_alloc ?_ _) | (with_reducible refine Kd.C_drewN ?_ _) | (with_reducible refine Kd.C_drew ?_))); (case side2 => exact HC154.out); (case side3 => repeat (first | exact (Kd.C_below HR155.out HB.out) | (with_reducible refine Kd.C_alloc ?_ _) | (with_reducible refine Kd.C_drewN ?_ _) | (with_reducible refine Kd.C_drew ?_))); (case side4 => exact HC155.out); rintro e w24 ⟨rfl, hb⟩; refine ⟨_, rfl, ?_⟩; have n0_ := aS (blk_below (g := gb153) (o := .cells #[.bool a0] 25 (0, 0)) (by (with_reducible repeat (first | apply bN | apply bD | apply bA)); exact BK153.out) hb); have n1_ := aS (below_step (by repeat (first | (with_reducible first | exact HB.out | apply eA | apply eN | apply eD | refine below_set ?_ GE153.out) | exact HB.out)) hb); clear BK153; clear HB; have BK153 := n0_; have HB := n1_; clear n0_ n1_; (try clear hb); (try clear hb2); (try clear hk); (try clear hi)))
      (try simp only [Act.put, List.setIfInBounds_toArray, List.set_cons_zero, List.set_cons_succ])
      go_cut [9] (fun v9 wc => ∃ (kq : Nat) (x9_14 : ByteArray), v9 = .string x9_14 ∧ Aside0 (graverlaw01_OrderFields.j1 kq a0 cu9 cu13 t156 x9_14 a0 = some r) ∧ Aside0 (kq ≤ k) ∧ Aside0 (wc.heap[gb153]? = some (.cells #[.bool a0] 25 (0, 0))) ∧ Aside0 (Below w.heap.size w wc))
      case first =>
       have H := HC15.out
       clear HC15
       have H' := aS H
       clear H
       go_wp2
       go_loopg [9, 10] k (fun kq v9 v10 w' => ∃ (x9_1 : ByteArray) (x10_1 : Int), v9 = .string x9_1 ∧ v10 = .int .i64 x10_1 ∧ Aside0 (graverlaw01_OrderFields.l0 kq a0 cu9 cu13 t156 x9_1 x10_1 a0 = some r) ∧ Aside0 (kq ≤ k) ∧ Aside0 (w'.heap[gb153]? = some (.cells #[.bool a0] 25 (0, 0))) ∧ Aside0 (Below w.heap.size w w'))
       case atStart => exact ⟨((⟨#[]⟩ : ByteArray)), (0), (by first | rfl | (simp; done) | (simp [*]; done)), (by first | rfl | (simp; done) | (simp [*]; done)), H', ⟨Nat.le_refl _⟩, ⟨by (with_reducible repeat (first | apply bN | apply bD | apply bA)); exact BK153.out⟩, ⟨by repeat (first | (with_reducible first | exact HB.out | apply eA | apply eN | apply eD | refine below_set ?_ GE153.out) | exact HB.out)⟩⟩
       case round =>
        clear H'
        try clear c1
        try clear c2
        try clear p2
        try clear c5
        try clear c6
        try clear c7
        try clear c7b0
        try clear c7b1
        try clear c8
        try clear c8b0
        try clear c8b1
        try clear c9
        try clear c11
        try clear c11b0
        try clear c11b1
        try clear c12
        try clear c12b0
        try clear c12b1
        try clear c21
        try clear hcz18_0
        try clear hcz23_0
        try clear hfz18_0
        try clear hfz23_0
        obtain ⟨x9_1, x10_1, rfl, rfl, HA, HK1, BK153, HB⟩ := hrel
        cases gk with
        | zero => exact absurd HA.out (by simp [graverlaw01_OrderFields.l0])
        | succ k1 =>
         have H := HA.out
         clear HA
         simp only [graverlaw01_OrderFields.l0] at H
         by_cases c25 : x10_1 < (cu9.length : Int)
         ·
          rw [if_pos c25] at H
          have c25b0 : decide (x10_1 < (cu9.length : Int)) = true := decide_eq_true c25
          clear c25
          (first | rw [c25b0] | (simp only [i64_w, i32_w]; rw [c25b0]) | skip)
          by_cases c26 : x10_1 < (cu13.length : Int)
          ·
           rw [if_pos c26] at H
           have c26b0 : decide (x10_1 < (cu13.length : Int)) = true := decide_eq_true c26
           clear c26
           by_cases c27 : 0 ≤ x10_1
           ·
            rw [if_pos c27] at H
            have c27b0 : decide (0 ≤ x10_1) = true := decide_eq_true c27
            clear c27
            replace H := Option.bind_eq_some_iff.mp H
            obtain ⟨t159, A280, H⟩ := H
            replace H : (if x9_1.size + t159.size ≤ 9223372036854775807 then (graverlaw01_OrderFields.l0 k1 a0 cu9 cu13 t156 (x9_1 ++ t159) (wrap64 (x10_1 + 1)) a0) else (none)) = some r := H
            have A28 := aS A280
            clear A280
            by_cases c29 : x9_1.size + t159.size ≤ 9223372036854775807
            ·
             rw [if_pos c29] at H
             have c29b0 := eq_true c29
             have c29b1 : decide (x9_1.size + t159.size ≤ 9223372036854775807) = true := decide_eq_true c29
             try have c29b2 : (9223372036854775807 < x9_1.size + t159.size) = False := eq_false (Nat.not_lt.2 c29)
             have H' := aS H
             clear H
             try go_wp2
             have n0_ := aS (blk_drew BK153.out)
             have n1_ := aS (below_drew1 HB.out)
             clear BK153
             clear HB
             have BK153 := n0_
             have HB := n1_
             clear n0_ n1_
             have p157 : 0 ≤ (x10_1 : Int) := of_decide_eq_true (by first | (with_reducible assumption) | assumption)
             have q157 : x10_1 < (cu13.length : Int) := of_decide_eq_true (by first | (with_reducible assumption) | assumption)
             obtain ⟨ad157, e157, hx157_0⟩ := Kd.at_int HR155.out x10_1 p157 q157
             have hw157_0 := hx157_0
             cases e157
             replace hx157_0 := (HB.out.cell (World.block_lt_of_cell? w _ hx157_0)).trans hx157_0
             replace p157 := eq_true p157
             replace q157 := eq_true q157
             have p158 : 0 ≤ (x10_1 : Int) := of_decide_eq_true (by first | (with_reducible assumption) | assumption)
             have q158 : x10_1 < (cu9.length : Int) := of_decide_eq_true (by first | (with_reducible assumption) | assumption)
             obtain ⟨ad158, e158, hx158_0⟩ := Kd.at_int HR154.out x10_1 p158 q158
             have hw158_0 := hx158_0
             cases e158
             replace hx158_0 := (HB.out.cell (World.block_lt_of_cell? w _ hx158_0)).trans hx158_0
             replace p158 := eq_true p158
             replace q158 := eq_true q158
             refine start_ (n := 13) (S := fun w' => w'.cell? (ad157.add (x10_1).toNat) = some (.int .u64 (rd cu13 x10_1)) ∧ w'.cell? (ad158.add (x10_1).toNat) = some (.int .i64 (rd cu9 x10_1))) (ds := []) #[false, false, false, false, false, false, false, false, false, false, false, false, false] (by kernel_rfl) rfl rfl ⟨((HB.out.cell (World.block_lt_of_cell? w _ hw157_0)).trans hw157_0), ((HB.out.cell (World.block_lt_of_cell? w _ hw158_0)).trans hw158_0)⟩ (fun hHeld => ?_); refine with_tabW graverlaw01_OrderFields.tab10 graverlaw01_OrderFields.bits10 (fun HT_ HW_ => ?_)
             generalize wr.drew = w30 at BK153 HB hx157_0 hx158_0 hHeld ⊢
             refine pure_ (i := 0) (N := some 44) (v := ?_) (a' := ?_) (bm 13 1) rfl rfl (any_of HT_.out (by kernel_rfl)) (fun _ _ _ h => h) (Or.inl ⟨by rfl, ?_⟩) ?_ ?_
             rotate_left
             ·
              intro w'
              go_simp
              with_reducible rfl
             rotate_left
             ·
              simp only [Act.put, aput]
              rfl
             refine pure_ (i := 1) (N := some 45) (v := ?_) (a' := ?_) (bm 13 3) rfl rfl (any_of HT_.out (by kernel_rfl)) (fun _ _ _ h => h) (Or.inl ⟨by rfl, ?_⟩) ?_ ?_
             rotate_left
             ·
              intro w'
              go_simp
              with_reducible rfl
             rotate_left
             ·
              simp only [Act.put, aput]
              rfl
             refine pure_ (i := 2) (N := some 46) (v := ?_) (a' := ?_) (bm 13 7) rfl rfl (any_of HT_.out (by kernel_rfl)) (fun _ _ _ h => h) (Or.inl ⟨by rfl, ?_⟩) ?_ ?_
             rotate_left
             ·
              intro w'
              go_simp
              with_reducible rfl
             rotate_left
             ·
              simp only [Act.put, aput]
              rfl
             refine pure_ (i := 3) (N := some 47) (v := ?_) (a' := ?_) (bm 13 15) rfl rfl (any_of HT_.out (by kernel_rfl)) (fun _ _ _ h => h) (Or.inl ⟨by rfl, ?_⟩) ?_ ?_
             rotate_left
             ·
              intro w'
              go_simp
              with_reducible rfl
             rotate_left
             ·
              simp only [Act.put, aput]
              rfl
             refine pure_ (i := 4) (N := some 48) (v := ?_) (a' := ?_) (bm 13 31) rfl rfl (any_of HT_.out (by kernel_rfl)) (fun _ _ _ h => h) (Or.inl ⟨by rfl, ?_⟩) ?_ ?_
             rotate_left
             ·
              intro w'
              go_simp
              with_reducible rfl
             rotate_left
             ·
              simp only [Act.put, aput]
              rfl
             refine pure_ (i := 6) (N := some 50) (v := ?_) (a' := ?_) (bm 13 95) rfl rfl (any_of HT_.out (by kernel_rfl)) (fun _ _ _ h => h) (Or.inl ⟨by rfl, ?_⟩) ?_ ?_
             rotate_left
             ·
              intro w'
              go_simp
              with_reducible rfl
             rotate_left
             ·
              simp only [Act.put, aput]
              rfl
             refine pure_ (i := 7) (N := some 51) (v := ?_) (a' := ?_) (bm 13 223) rfl rfl (any_of HT_.out (by kernel_rfl)) (fun _ _ _ h => h) (Or.inl ⟨by rfl, ?_⟩) ?_ ?_
             rotate_left
             ·
              intro w'
              go_simp
              with_reducible rfl
             rotate_left
             ·
              simp only [Act.put, aput]
              rfl
             refine pure_ (i := 8) (N := some 52) (v := ?_) (a' := ?_) (bm 13 479) rfl rfl (any_of HT_.out (by kernel_rfl)) (fun _ _ _ h => h) (Or.inl ⟨by rfl, ?_⟩) ?_ ?_
             rotate_left
             ·
              intro w'
              go_simp
              with_reducible rfl
             rotate_left
             ·
              simp only [Act.put, aput]
              rfl
             refine take_ (i := 5) (N := some 49) (v := ?_) (a' := ?_) (bm 13 511) rfl rfl (take_ofW HT_.out HW_.out (by kernel_rfl)) (fun _ _ _ h => h) (Or.inl ⟨by rfl, ?_⟩) hHeld ?_ ?_
             rotate_left
             ·
              intro w' s0
              go_simp
              with_reducible rfl
             rotate_left
             ·
              simp only [Act.put, aput]
              rfl
             refine take_ (i := 9) (N := some 53) (v := ?_) (a' := ?_) (bm 13 1023) rfl rfl (take_ofW HT_.out HW_.out (by kernel_rfl)) (fun _ _ _ h => h) (Or.inl ⟨by rfl, ?_⟩) hHeld ?_ ?_
             rotate_left
             ·
              intro w' s0
              go_simp
              with_reducible rfl
             rotate_left
             ·
              simp only [Act.put, aput]
              rfl
             refine one_ (i := 10) (N := some 54) (bm 13 2047) rfl rfl (one_of HT_.out (by kernel_rfl)) (by decide) (fun K hK => ?_)
             refine goes_ Try.func11 (by kernel_rfl) rfl #[.bool a0, .int .u64 (rd cu13 x10_1), .int .i64 (rd cu9 x10_1)] (by rfl) rfl rfl (by (try simp only [List.map_toArray, List.map_cons, List.map_nil]); first | done | rfl | (simp only [List.length_drop, List.length_take]; rfl)) ?_
             with_reducible refine (graverref01_Put.calls k1 a0 (rd cu13 x10_1) (rd cu9 x10_1) t159 _ A28.out).mono ?_
             rintro e w31 ⟨rfl, hb⟩
             refine ⟨_, rfl, ?_⟩
             have n0_ := aS (blk_below (g := gb153) (o := .cells #[.bool a0] 25 (0, 0)) (by (with_reducible repeat (first | apply bN | apply bD | apply bA)); exact BK153.out) hb)
             have n1_ := aS (below_step (by repeat (first | (with_reducible first | exact HB.out | apply eA | apply eN | apply eD | refine below_set ?_ GE153.out) | exact HB.out)) hb)
             clear BK153
             clear HB
             have BK153 := n0_
             have HB := n1_
             clear n0_ n1_
             (try clear hb)
             (try clear hb2)
             (try clear hk)
             (try clear hi)
             refine hK.out _ _ ⟨((HB.out.cell (World.block_lt_of_cell? w _ hw157_0)).trans hw157_0), ((HB.out.cell (World.block_lt_of_cell? w _ hw158_0)).trans hw158_0)⟩ (fun hHeld => ?_)
             clear hK K
             refine norm_ (a' := ?_) ?_ ?_
             rotate_left
             ·
              show Act.put _ (some 54) _ = _
              simp only [Act.put, aput]
              rfl
             refine pure_ (i := 11) (N := some 55) (v := ?_) (a' := ?_) (bm 13 4095) rfl rfl (any_of HT_.out (by kernel_rfl)) (fun _ _ _ h => h) (Or.inl ⟨by rfl, ?_⟩) ?_ ?_
             rotate_left
             ·
              intro w'
              go_simp
              with_reducible rfl
             rotate_left
             ·
              simp only [Act.put, aput]
              rfl
             refine pure_ (i := 12) (N := some 9) (v := ?_) (a' := ?_) (bm 13 8191) rfl rfl (any_of HT_.out (by kernel_rfl)) (fun _ _ _ h => h) (Or.inl ⟨by rfl, ?_⟩) ?_ ?_
             rotate_left
             ·
              intro w'
              go_simp
              with_reducible rfl
             rotate_left
             ·
              simp only [Act.put, aput]
              rfl
             refine done_ (done_of HT_.out (by kernel_rfl)) ?_
             try go_wp2
             go_roundg k1
             case measure => have := HK1.out; omega
             case rel => exact ⟨(x9_1 ++ t159), (wrap64 (x10_1 + 1)), (by first | rfl | (simp; done) | (simp [*]; done)), (by first | rfl | (simp; done) | (simp [*]; done)), H', ⟨by have := HK1.out; omega⟩, ⟨by (with_reducible repeat (first | apply bN | apply bD | apply bA)); exact BK153.out⟩, ⟨by repeat (first | (with_reducible first | exact HB.out | apply eA | apply eN | apply eD | refine below_set ?_ GE153.out) | exact HB.out)⟩⟩
            ·
             rw [if_neg c29] at H
             exact absurd H (by simp)
           ·
            rw [if_neg c27] at H
            exact absurd H (by simp)
          ·
           rw [if_neg c26] at H
           have c26b0 : decide (x10_1 < (cu13.length : Int)) = false := decide_eq_false c26
           clear c26
           have H' := aS H
           clear H
           go_wp2
           go_meet
           case rel => exact ⟨_, (x9_1), (by first | rfl | (simp; done) | (simp [*]; done)), H', ⟨by have := HK1.out; first | omega | exact Nat.le_refl _⟩, ⟨by (with_reducible repeat (first | apply bN | apply bD | apply bA)); exact BK153.out⟩, ⟨by repeat (first | (with_reducible first | exact HB.out | apply eA | apply eN | apply eD | refine below_set ?_ GE153.out) | exact HB.out)⟩⟩
         ·
          rw [if_neg c25] at H
          have c25b0 : decide (x10_1 < (cu9.length : Int)) = false := decide_eq_false c25
          clear c25
          (first | rw [c25b0] | (simp only [i64_w, i32_w]; rw [c25b0]) | skip)
          have H' := aS H
          clear H
          go_wp2
          go_meet
          case rel => exact ⟨_, (x9_1), (by first | rfl | (simp; done) | (simp [*]; done)), H', ⟨by have := HK1.out; first | omega | exact Nat.le_refl _⟩, ⟨by (with_reducible repeat (first | apply bN | apply bD | apply bA)); exact BK153.out⟩, ⟨by repeat (first | (with_reducible first | exact HB.out | apply eA | apply eN | apply eD | refine below_set ?_ GE153.out) | exact HB.out)⟩⟩
      case rest =>
       clear HC15
       try clear c1
       try clear p1
       try clear q1
       try clear hx1
       try clear c2
       try clear p2
       try clear c5
       try clear c6
       try clear p6
       try clear c7
       try clear c7b0
       try clear c7b1
       try clear c8
       try clear c8b0
       try clear c8b1
       try clear c9
       try clear c11
       try clear c11b0
       try clear c11b1
       try clear c12
       try clear c12b0
       try clear c12b1
       try clear p15
       try clear q15
       try clear hx15
       try clear c21
       try clear c25
       try clear c25b0
       try clear c26
       try clear c26b0
       try clear c27
       try clear c27b0
       try clear c29
       try clear c29b0
       try clear c29b1
       try clear c29b2
       try clear hcz18_0
       try clear hcz23_0
       try clear hfz18_0
       try clear hfz23_0
       try clear hx157_0
       try clear hx158_0
       try clear p157
       try clear p158
       try clear p2
       try clear q157
       try clear q158
       obtain ⟨kq, x9_14, rfl, HA, HJ14, BK153, HB⟩ := hcut
       cases kq with
       | zero => exact absurd HA.out (by simp [graverlaw01_OrderFields.j1])
       | succ kj14 =>
        have H := HA.out
        clear HA
        simp only [graverlaw01_OrderFields.j1] at H
        replace H := Option.bind_eq_some_iff.mp H
        obtain ⟨⟨t160, t161, t162, t163⟩, A320, H⟩ := H
        replace H : (graverlaw01_OrderFields.l1 kj14 a0 cu9 cu13 t156 x9_14 0 t160 t161 t162 t163) = some r := H
        have A32 := aS A320
        clear A320
        have H' := aS H
        clear H
        have hcz33_0 : wc.cell? ⟨gb153, 0, none⟩ = some (.bool a0) := (blk_cell BK153.out 0).trans rfl
        have hfz33_0 := blk_frozen BK153.out 0
        go_wp2_with (first | ((with_reducible refine gate_callee (f := 16) rfl ?_); refine goesL_ (some 58) rfl rfl Try.func16 (by kernel_rfl) rfl #[.agg #[.bool a0], .string t156, .int .u64 0] rfl (by (try simp only [List.map_toArray, List.map_cons, List.map_nil]); first | done | rfl | (simp only [List.length_drop, List.length_take]; rfl)) ?_; (with_reducible refine (order_Order_Read.calls a0 t156 0 t160 t161 t162 t163 w _ ?side1 A32.out).mono ?_); (case side1 => repeat (first | (with_reducible first | exact HB.out | apply eA | apply eN | apply eD | refine below_set ?_ GE153.out) | exact HB.out)); rintro e w34 ⟨g164, rfl, hi, hb, hb2⟩; refine ⟨_, rfl, ?_⟩; have n0_ := aS (blk_below (g := gb153) (o := .cells #[.bool a0] 25 (0, 0)) (by (with_reducible repeat (first | apply bN | apply bD | apply bA)); exact BK153.out) hb2); have n1_ := aS (hb); have n2_ := aS (hi); have n3_ := aS (IsS43.ne_blk hi (blk_below (g := gb153) (o := .cells #[.bool a0] 25 (0, 0)) (by (with_reducible repeat (first | apply bN | apply bD | apply bA)); exact BK153.out) hb2) (by decide)); have n4_ := aS (Ne.symm (IsS43.ne_blk hi (blk_below (g := gb153) (o := .cells #[.bool a0] 25 (0, 0)) (by (with_reducible repeat (first | apply bN | apply bD | apply bA)); exact BK153.out) hb2) (by decide))); clear BK153; clear HB; have BK153 := n0_; have HB := n1_; have HI164 := n2_; have NB164_153 := n3_; have NB153_164 := n4_; clear n0_ n1_ n2_ n3_ n4_; (try clear hb); (try clear hb2); (try clear hk); (try clear hi)))
        go_loopg [12] kj14 (fun kq v12 w' => ∃ (x12_2 : Int) (x165000_2 : Bool) (x165001_2 : ByteArray) (x165002_2 : Int) (x165003_2 : Bool), v12 = .int .i64 x12_2 ∧ Aside0 (graverlaw01_OrderFields.l1 kq a0 cu9 cu13 t156 x9_14 x12_2 x165000_2 x165001_2 x165002_2 x165003_2 = some r) ∧ Aside0 (kq ≤ kj14) ∧ Aside0 (w'.heap[gb153]? = some (.cells #[.bool a0] 25 (0, 0))) ∧ Aside0 (IsS43 w w' g164 x165000_2 x165001_2 x165002_2 x165003_2) ∧ Aside0 (Below w.heap.size w w'))
        case atStart => exact ⟨(0), (t160), (t161), (t162), (t163), (by first | rfl | (simp; done) | (simp [*]; done)), H', ⟨Nat.le_refl _⟩, ⟨by (with_reducible repeat (first | apply bN | apply bD | apply bA)); exact BK153.out⟩, ⟨by repeat (first | (with_reducible first | exact HI164.out | apply IsS43.alloc | apply IsS43.drewN | apply IsS43.drew | apply IsS43.set_0 | apply IsS43.set_1 | apply IsS43.set_2 | apply IsS43.set_3 | refine IsS43.far ?_ NB164_153.out _) | exact HI164.out)⟩, ⟨by repeat (first | (with_reducible first | exact HB.out | apply eA | apply eN | apply eD | refine below_set ?_ (IsS43.ge HI164.out) | refine below_set ?_ GE153.out) | exact HB.out)⟩⟩
        case round =>
         clear H'
         try clear c1
         try clear p1
         try clear q1
         try clear hx1
         try clear c2
         try clear p2
         try clear c5
         try clear c6
         try clear p6
         try clear c7
         try clear c7b0
         try clear c7b1
         try clear c8
         try clear c8b0
         try clear c8b1
         try clear c9
         try clear c11
         try clear c11b0
         try clear c11b1
         try clear c12
         try clear c12b0
         try clear c12b1
         try clear p15
         try clear q15
         try clear hx15
         try clear c16
         try clear c21
         try clear c25
         try clear c25b0
         try clear c26
         try clear c26b0
         try clear c27
         try clear c27b0
         try clear c29
         try clear c29b0
         try clear c29b1
         try clear c29b2
         try clear hcz18_0
         try clear hcz23_0
         try clear hcz33_0
         try clear hfz18_0
         try clear hfz23_0
         try clear hfz33_0
         try clear hx157_0
         try clear hx158_0
         try clear p1
         try clear p15
         try clear p157
         try clear p158
         try clear p2
         try clear p6
         try clear q1
         try clear q15
         try clear q157
         try clear q158
         obtain ⟨x12_2, x165000_2, x165001_2, x165002_2, x165003_2, rfl, HA, HK2, BK153, HI164, HB⟩ := hrel
         cases gk with
         | zero => exact absurd HA.out (by simp [graverlaw01_OrderFields.l1])
         | succ k2 =>
          have H := HA.out
          clear HA
          simp only [graverlaw01_OrderFields.l1] at H
          have HC35 := aS H
          clear H
          go_upto_region 13 with (fail)
          go_cut [68] (fun v68 wc => ∃ (kq : Nat) (x68_34 : Bool), v68 = .bool x68_34 ∧ Aside0 (graverlaw01_OrderFields.j3 kq a0 cu9 cu13 t156 x9_14 x12_2 x68_34 x165000_2 x165001_2 x165002_2 x165003_2 = some r) ∧ Aside0 (kq ≤ k2) ∧ Aside0 (wc.heap[gb153]? = some (.cells #[.bool a0] 25 (0, 0))) ∧ Aside0 (IsS43 w wc g164 x165000_2 x165001_2 x165002_2 x165003_2) ∧ Aside0 (Below w.heap.size w wc))
          case first =>
           have H := HC35.out
           clear HC35
           by_cases c36 : x12_2 < (cu9.length : Int)
           ·
            rw [if_pos c36] at H
            have c36b0 : decide (x12_2 < (cu9.length : Int)) = true := decide_eq_true c36
            clear c36
            (first | rw [c36b0] | (simp only [i64_w, i32_w]; rw [c36b0]) | skip)
            have H' := aS H
            clear H
            go_wp2
            go_meet
            case rel => exact ⟨_, (decide (x12_2 < (cu13.length : Int))), (by first | rfl | (simp; done) | (simp [*]; done)), H', ⟨by have := HJ14.out; have := HK2.out; first | omega | exact Nat.le_refl _⟩, ⟨by (with_reducible repeat (first | apply bN | apply bD | apply bA)); exact BK153.out⟩, ⟨by repeat (first | (with_reducible first | exact HI164.out | apply IsS43.alloc | apply IsS43.drewN | apply IsS43.drew | apply IsS43.set_0 | apply IsS43.set_1 | apply IsS43.set_2 | apply IsS43.set_3 | refine IsS43.far ?_ NB164_153.out _) | exact HI164.out)⟩, ⟨by repeat (first | (with_reducible first | exact HB.out | apply eA | apply eN | apply eD | refine below_set ?_ (IsS43.ge HI164.out) | refine below_set ?_ GE153.out) | exact HB.out)⟩⟩
           ·
            rw [if_neg c36] at H
            have c36b0 : decide (x12_2 < (cu9.length : Int)) = false := decide_eq_false c36
            clear c36
            (first | rw [c36b0] | (simp only [i64_w, i32_w]; rw [c36b0]) | skip)
            have H' := aS H
            clear H
            go_wp2
            go_meet
            case rel => exact ⟨_, (false), (by first | rfl | (simp; done) | (simp [*]; done)), H', ⟨by have := HJ14.out; have := HK2.out; first | omega | exact Nat.le_refl _⟩, ⟨by (with_reducible repeat (first | apply bN | apply bD | apply bA)); exact BK153.out⟩, ⟨by repeat (first | (with_reducible first | exact HI164.out | apply IsS43.alloc | apply IsS43.drewN | apply IsS43.drew | apply IsS43.set_0 | apply IsS43.set_1 | apply IsS43.set_2 | apply IsS43.set_3 | refine IsS43.far ?_ NB164_153.out _) | exact HI164.out)⟩, ⟨by repeat (first | (with_reducible first | exact HB.out | apply eA | apply eN | apply eD | refine below_set ?_ (IsS43.ge HI164.out) | refine below_set ?_ GE153.out) | exact HB.out)⟩⟩
          case rest =>
           clear HC35
           try clear c1
           try clear p1
           try clear q1
           try clear hx1
           try clear c2
           try clear p2
           try clear c3
           try clear c5
           try clear c6
           try clear p6
           try clear c7
           try clear c7b0
           try clear c7b1
           try clear c8
           try clear c8b0
           try clear c8b1
           try clear c9
           try clear c11
           try clear c11b0
           try clear c11b1
           try clear c12
           try clear c12b0
           try clear c12b1
           try clear p15
           try clear q15
           try clear hx15
           try clear c16
           try clear c21
           try clear c25
           try clear c25b0
           try clear c26
           try clear c26b0
           try clear c27
           try clear c27b0
           try clear c29
           try clear c29b0
           try clear c29b1
           try clear c29b2
           try clear c36
           try clear c36b0
           try clear hcz18_0
           try clear hcz23_0
           try clear hcz33_0
           try clear hfz18_0
           try clear hfz23_0
           try clear hfz33_0
           try clear hx157_0
           try clear hx158_0
           try clear p1
           try clear p15
           try clear p157
           try clear p158
           try clear p2
           try clear p6
           try clear q1
           try clear q15
           try clear q157
           try clear q158
           obtain ⟨kq, x68_34, rfl, HA, HJ34, BK153, HI164, HB⟩ := hcut
           cases kq with
           | zero => exact absurd HA.out (by simp [graverlaw01_OrderFields.j3])
           | succ kj34 =>
            have H := HA.out
            clear HA
            simp only [graverlaw01_OrderFields.j3] at H
            by_cases c37 : x68_34 = true
            ·
             subst c37
             have H1 : (if 0 ≤ x12_2 then (if x12_2 < (cu9.length : Int) then (if (rd cu9 x12_2) < 1 then (graverlaw01_OrderFields.j4 kj34 a0 cu9 cu13 t156 x9_14 x12_2 true x165000_2 x165001_2 x165002_2 x165003_2) else (graverlaw01_OrderFields.j4 kj34 a0 cu9 cu13 t156 x9_14 x12_2 (decide ((rd cu9 x12_2) > 8)) x165000_2 x165001_2 x165002_2 x165003_2)) else (none)) else (none)) = some r := by rw [if_pos rfl] at H; exact H
             clear H
             have H := H1
             clear H1
             have HC38 := aS H
             clear H
             go_upto_region 15 with (fail)
             go_cut [82] (fun v82 wc => ∃ (kq : Nat) (x82_37 : Bool), v82 = .bool x82_37 ∧ Aside0 (graverlaw01_OrderFields.j4 kq a0 cu9 cu13 t156 x9_14 x12_2 x82_37 x165000_2 x165001_2 x165002_2 x165003_2 = some r) ∧ Aside0 (kq ≤ kj34) ∧ Aside0 (wc.heap[gb153]? = some (.cells #[.bool a0] 25 (0, 0))) ∧ Aside0 (IsS43 w wc g164 x165000_2 x165001_2 x165002_2 x165003_2) ∧ Aside0 (Below w.heap.size w wc))
             case first =>
              have H := HC38.out
              clear HC38
              by_cases c39 : 0 ≤ x12_2
              ·
               rw [if_pos c39] at H
               have c39b0 : decide (0 ≤ x12_2) = true := decide_eq_true c39
               clear c39
               (first | rw [c39b0] | (simp only [i64_w, i32_w]; rw [c39b0]) | skip)
               by_cases c40 : x12_2 < (cu9.length : Int)
               ·
                rw [if_pos c40] at H
                have c40b0 : decide (x12_2 < (cu9.length : Int)) = true := decide_eq_true c40
                clear c40
                by_cases c41 : (rd cu9 x12_2) < 1
                ·
                 rw [if_pos c41] at H
                 have c41b0 : decide ((rd cu9 x12_2) < 1) = true := decide_eq_true c41
                 clear c41
                 have H' := aS H
                 clear H
                 have p165 : 0 ≤ (x12_2 : Int) := of_decide_eq_true (by first | (with_reducible assumption) | assumption)
                 have q165 : x12_2 < (cu9.length : Int) := of_decide_eq_true (by first | (with_reducible assumption) | assumption)
                 obtain ⟨ad165, e165, hx165_0⟩ := Kd.at_int HR154.out x12_2 p165 q165
                 cases e165
                 replace hx165_0 := (HB.out.cell (World.block_lt_of_cell? w _ hx165_0)).trans hx165_0
                 replace p165 := eq_true p165
                 replace q165 := eq_true q165
                 go_wp2
                 go_meet
                 case rel => exact ⟨_, (true), (by first | rfl | (simp; done) | (simp [*]; done)), H', ⟨by have := HJ14.out; have := HK2.out; have := HJ34.out; first | omega | exact Nat.le_refl _⟩, ⟨by (with_reducible repeat (first | apply bN | apply bD | apply bA)); exact BK153.out⟩, ⟨by repeat (first | (with_reducible first | exact HI164.out | apply IsS43.alloc | apply IsS43.drewN | apply IsS43.drew | apply IsS43.set_0 | apply IsS43.set_1 | apply IsS43.set_2 | apply IsS43.set_3 | refine IsS43.far ?_ NB164_153.out _) | exact HI164.out)⟩, ⟨by repeat (first | (with_reducible first | exact HB.out | apply eA | apply eN | apply eD | refine below_set ?_ (IsS43.ge HI164.out) | refine below_set ?_ GE153.out) | exact HB.out)⟩⟩
                ·
                 rw [if_neg c41] at H
                 have c41b0 : decide ((rd cu9 x12_2) < 1) = false := decide_eq_false c41
                 clear c41
                 have H' := aS H
                 clear H
                 have p165 : 0 ≤ (x12_2 : Int) := of_decide_eq_true (by first | (with_reducible assumption) | assumption)
                 have q165 : x12_2 < (cu9.length : Int) := of_decide_eq_true (by first | (with_reducible assumption) | assumption)
                 obtain ⟨ad165, e165, hx165_0⟩ := Kd.at_int HR154.out x12_2 p165 q165
                 cases e165
                 replace hx165_0 := (HB.out.cell (World.block_lt_of_cell? w _ hx165_0)).trans hx165_0
                 replace p165 := eq_true p165
                 replace q165 := eq_true q165
                 have p166 : 0 ≤ (x12_2 : Int) := of_decide_eq_true (by first | (with_reducible assumption) | assumption)
                 have q166 : x12_2 < (cu9.length : Int) := of_decide_eq_true (by first | (with_reducible assumption) | assumption)
                 obtain ⟨ad166, e166, hx166_0⟩ := Kd.at_int HR154.out x12_2 p166 q166
                 obtain rfl : ad165 = ad166 := (by injection e166)
                 replace hx166_0 := (HB.out.cell (World.block_lt_of_cell? w _ hx166_0)).trans hx166_0
                 replace p166 := eq_true p166
                 replace q166 := eq_true q166
                 go_wp2
                 go_meet
                 case rel => exact ⟨_, (decide ((rd cu9 x12_2) > 8)), (by first | rfl | (simp; done) | (simp [*]; done)), H', ⟨by have := HJ14.out; have := HK2.out; have := HJ34.out; first | omega | exact Nat.le_refl _⟩, ⟨by (with_reducible repeat (first | apply bN | apply bD | apply bA)); exact BK153.out⟩, ⟨by repeat (first | (with_reducible first | exact HI164.out | apply IsS43.alloc | apply IsS43.drewN | apply IsS43.drew | apply IsS43.set_0 | apply IsS43.set_1 | apply IsS43.set_2 | apply IsS43.set_3 | refine IsS43.far ?_ NB164_153.out _) | exact HI164.out)⟩, ⟨by repeat (first | (with_reducible first | exact HB.out | apply eA | apply eN | apply eD | refine below_set ?_ (IsS43.ge HI164.out) | refine below_set ?_ GE153.out) | exact HB.out)⟩⟩
               ·
                rw [if_neg c40] at H
                exact absurd H (by simp)
              ·
               rw [if_neg c39] at H
               exact absurd H (by simp)
             case rest =>
              clear HC38
              try clear c1
              try clear p1
              try clear q1
              try clear hx1
              try clear c2
              try clear p2
              try clear c3
              try clear c4
              try clear c5
              try clear c6
              try clear p6
              try clear c7
              try clear c7b0
              try clear c7b1
              try clear c8
              try clear c8b0
              try clear c8b1
              try clear c9
              try clear c11
              try clear c11b0
              try clear c11b1
              try clear c12
              try clear c12b0
              try clear c12b1
              try clear p15
              try clear q15
              try clear hx15
              try clear c16
              try clear p16
              try clear q16
              try clear hx16
              try clear c21
              try clear c25
              try clear c25b0
              try clear c26
              try clear c26b0
              try clear c27
              try clear c27b0
              try clear c29
              try clear c29b0
              try clear c29b1
              try clear c29b2
              try clear c36
              try clear c36b0
              try clear c37
              try clear c39
              try clear c39b0
              try clear c40
              try clear c40b0
              try clear c41
              try clear c41b0
              try clear hcz18_0
              try clear hcz23_0
              try clear hcz33_0
              try clear hfz18_0
              try clear hfz23_0
              try clear hfz33_0
              try clear hx157_0
              try clear hx158_0
              try clear hx165_0
              try clear hx166_0
              try clear p1
              try clear p15
              try clear p157
              try clear p158
              try clear p165
              try clear p166
              try clear p2
              try clear p6
              try clear q1
              try clear q15
              try clear q157
              try clear q158
              try clear q165
              try clear q166
              obtain ⟨kq, x82_37, rfl, HA, HJ37, BK153, HI164, HB⟩ := hcut
              cases kq with
              | zero => exact absurd HA.out (by simp [graverlaw01_OrderFields.j4])
              | succ kj37 =>
               have H := HA.out
               clear HA
               simp only [graverlaw01_OrderFields.j4] at H
               by_cases c42 : x82_37 = true
               ·
                subst c42
                have H1 : (graverlaw01_OrderFields.l1 kj37 a0 cu9 cu13 t156 x9_14 (wrap64 (x12_2 + 1)) x165000_2 x165001_2 x165002_2 x165003_2) = some r := by rw [if_pos rfl] at H; exact H
                clear H
                have H := H1
                clear H1
                have H' := aS H
                clear H
                go_wp2
                go_roundg kj37
                case measure => have := HJ14.out; have := HK2.out; have := HJ34.out; have := HJ37.out; omega
                case rel => exact ⟨(wrap64 (x12_2 + 1)), (x165000_2), (x165001_2), (x165002_2), (x165003_2), (by first | rfl | (simp; done) | (simp [*]; done)), H', ⟨by have := HJ14.out; have := HK2.out; have := HJ34.out; have := HJ37.out; omega⟩, ⟨by (with_reducible repeat (first | apply bN | apply bD | apply bA)); exact BK153.out⟩, ⟨by repeat (first | (with_reducible first | exact HI164.out | apply IsS43.alloc | apply IsS43.drewN | apply IsS43.drew | apply IsS43.set_0 | apply IsS43.set_1 | apply IsS43.set_2 | apply IsS43.set_3 | refine IsS43.far ?_ NB164_153.out _) | exact HI164.out)⟩, ⟨by repeat (first | (with_reducible first | exact HB.out | apply eA | apply eN | apply eD | refine below_set ?_ (IsS43.ge HI164.out) | refine below_set ?_ GE153.out) | exact HB.out)⟩⟩
               ·
                replace c42 := Bool.eq_false_iff.mpr c42
                subst c42
                have H1 : (if 0 ≤ x12_2 then (if x12_2 < (cu9.length : Int) then ((order_Reader_Next.f kj37 x165000_2 x165001_2 x165002_2 x165003_2 (rd cu9 x12_2)).bind fun bt168 => (if x12_2 < (cu13.length : Int) then ((graverref01_Put.f kj37 a0 (rd cu13 x12_2) (rd cu9 x12_2)).bind fun t175 => ((graverref01_Get.f kj37 a0 t175).bind fun t176 => (if bt168.1 = t176 then (graverlaw01_OrderFields.l1 kj37 a0 cu9 cu13 t156 x9_14 (wrap64 (x12_2 + 1)) bt168.2.1 bt168.2.2.1 bt168.2.2.2.1 bt168.2.2.2.2) else (some false)))) else (none))) else (none)) else (none)) = some r := by rw [if_neg (show ¬ (false = true) by decide)] at H; exact H
                clear H
                have H := H1
                clear H1
                by_cases c43 : 0 ≤ x12_2
                ·
                 rw [if_pos c43] at H
                 have c43b0 : decide (0 ≤ x12_2) = true := decide_eq_true c43
                 clear c43
                 by_cases c44 : x12_2 < (cu9.length : Int)
                 ·
                  rw [if_pos c44] at H
                  have c44b0 : decide (x12_2 < (cu9.length : Int)) = true := decide_eq_true c44
                  clear c44
                  replace H := Option.bind_eq_some_iff.mp H
                  obtain ⟨⟨t168, t169, t170, t171, t172⟩, A450, H⟩ := H
                  replace H : (if x12_2 < (cu13.length : Int) then ((graverref01_Put.f kj37 a0 (rd cu13 x12_2) (rd cu9 x12_2)).bind fun t175 => ((graverref01_Get.f kj37 a0 t175).bind fun t176 => (if t168 = t176 then (graverlaw01_OrderFields.l1 kj37 a0 cu9 cu13 t156 x9_14 (wrap64 (x12_2 + 1)) t169 t170 t171 t172) else (some false)))) else (none)) = some r := H
                  have A45 := aS A450
                  clear A450
                  by_cases c46 : x12_2 < (cu13.length : Int)
                  ·
                   rw [if_pos c46] at H
                   have c46b0 : decide (x12_2 < (cu13.length : Int)) = true := decide_eq_true c46
                   clear c46
                   replace H := Option.bind_eq_some_iff.mp H
                   obtain ⟨t175, A470, H⟩ := H
                   replace H : ((graverref01_Get.f kj37 a0 t175).bind fun t176 => (if t168 = t176 then (graverlaw01_OrderFields.l1 kj37 a0 cu9 cu13 t156 x9_14 (wrap64 (x12_2 + 1)) t169 t170 t171 t172) else (some false))) = some r := H
                   have A47 := aS A470
                   clear A470
                   replace H := Option.bind_eq_some_iff.mp H
                   obtain ⟨t176, A480, H⟩ := H
                   replace H : (if t168 = t176 then (graverlaw01_OrderFields.l1 kj37 a0 cu9 cu13 t156 x9_14 (wrap64 (x12_2 + 1)) t169 t170 t171 t172) else (some false)) = some r := H
                   have A48 := aS A480
                   clear A480
                   by_cases c49 : t168 = t176
                   ·
                    rw [if_pos c49] at H
                    have c49b0 : (t168 == t176) = true := beq_iff_eq.mpr c49
                    have c49b1 : (t168 != t176) = false := bne_eq_false_iff_eq.mpr c49
                    clear c49
                    have H' := aS H
                    clear H
                    try go_wp2
                    have n0_ := aS (blk_drew BK153.out)
                    have n1_ := aS (IsS43.drew HI164.out)
                    have n2_ := aS (below_drew1 HB.out)
                    clear BK153
                    clear HI164
                    clear HB
                    have BK153 := n0_
                    have HI164 := n1_
                    have HB := n2_
                    clear n0_ n1_ n2_
                    have p167 : 0 ≤ (x12_2 : Int) := of_decide_eq_true (by first | (with_reducible assumption) | assumption)
                    have q167 : x12_2 < (cu9.length : Int) := of_decide_eq_true (by first | (with_reducible assumption) | assumption)
                    obtain ⟨ad167, e167, hx167_0⟩ := Kd.at_int HR154.out x12_2 p167 q167
                    have hw167_0 := hx167_0
                    cases e167
                    replace hx167_0 := (HB.out.cell (World.block_lt_of_cell? w _ hx167_0)).trans hx167_0
                    replace p167 := eq_true p167
                    replace q167 := eq_true q167
                    have p173 : 0 ≤ (x12_2 : Int) := of_decide_eq_true (by first | (with_reducible assumption) | assumption)
                    have q173 : x12_2 < (cu13.length : Int) := of_decide_eq_true (by first | (with_reducible assumption) | assumption)
                    obtain ⟨ad173, e173, hx173_0⟩ := Kd.at_int HR155.out x12_2 p173 q173
                    have hw173_0 := hx173_0
                    cases e173
                    replace hx173_0 := (HB.out.cell (World.block_lt_of_cell? w _ hx173_0)).trans hx173_0
                    replace p173 := eq_true p173
                    replace q173 := eq_true q173
                    have p174 : 0 ≤ (x12_2 : Int) := of_decide_eq_true (by first | (with_reducible assumption) | assumption)
                    have q174 : x12_2 < (cu9.length : Int) := of_decide_eq_true (by first | (with_reducible assumption) | assumption)
                    obtain ⟨ad174, e174, hx174_0⟩ := Kd.at_int HR154.out x12_2 p174 q174
                    have hw174_0 := hx174_0
                    obtain rfl : ad167 = ad174 := (by injection e174)
                    replace hx174_0 := (HB.out.cell (World.block_lt_of_cell? w _ hx174_0)).trans hx174_0
                    replace p174 := eq_true p174
                    replace q174 := eq_true q174
                    refine start_ (n := 19) (S := fun w' => w'.cell? (ad167.add (x12_2).toNat) = some (.int .i64 (rd cu9 x12_2)) ∧ w'.cell? (ad173.add (x12_2).toNat) = some (.int .u64 (rd cu13 x12_2)) ∧ w'.cell? (ad167.add (x12_2).toNat) = some (.int .i64 (rd cu9 x12_2))) (ds := []) #[false, false, false, false, false, false, false, false, false, false, false, false, false, false, false, false, false, false, false] (by kernel_rfl) rfl rfl ⟨((HB.out.cell (World.block_lt_of_cell? w _ hw167_0)).trans hw167_0), ((HB.out.cell (World.block_lt_of_cell? w _ hw173_0)).trans hw173_0), ((HB.out.cell (World.block_lt_of_cell? w _ hw174_0)).trans hw174_0)⟩ (fun hHeld => ?_); refine with_tabW graverlaw01_OrderFields.tab16 graverlaw01_OrderFields.bits16 (fun HT_ HW_ => ?_)
                    generalize wc.drew = w50 at BK153 HI164 HB hx167_0 hx173_0 hx174_0 hHeld ⊢
                    refine pure_ (i := 0) (N := some 83) (v := ?_) (a' := ?_) (bm 19 1) rfl rfl (any_of HT_.out (by kernel_rfl)) (fun _ _ _ h => h) (Or.inl ⟨by rfl, ?_⟩) ?_ ?_
                    rotate_left
                    ·
                     intro w'
                     go_simp
                     with_reducible rfl
                    rotate_left
                    ·
                     simp only [Act.put, aput]
                     rfl
                    refine pure_ (i := 1) (N := some 84) (v := ?_) (a' := ?_) (bm 19 3) rfl rfl (any_of HT_.out (by kernel_rfl)) (fun _ _ _ h => h) (Or.inl ⟨by rfl, ?_⟩) ?_ ?_
                    rotate_left
                    ·
                     intro w'
                     go_simp
                     with_reducible rfl
                    rotate_left
                    ·
                     simp only [Act.put, aput]
                     rfl
                    refine pure_ (i := 2) (N := some 85) (v := ?_) (a' := ?_) (bm 19 7) rfl rfl (any_of HT_.out (by kernel_rfl)) (fun _ _ _ h => h) (Or.inl ⟨by rfl, ?_⟩) ?_ ?_
                    rotate_left
                    ·
                     intro w'
                     go_simp
                     with_reducible rfl
                    rotate_left
                    ·
                     simp only [Act.put, aput]
                     rfl
                    refine pure_ (i := 3) (N := some 86) (v := ?_) (a' := ?_) (bm 19 15) rfl rfl (any_of HT_.out (by kernel_rfl)) (fun _ _ _ h => h) (Or.inl ⟨by rfl, ?_⟩) ?_ ?_
                    rotate_left
                    ·
                     intro w'
                     go_simp
                     with_reducible rfl
                    rotate_left
                    ·
                     simp only [Act.put, aput]
                     rfl
                    refine pure_ (i := 6) (N := some 89) (v := ?_) (a' := ?_) (bm 19 79) rfl rfl (any_of HT_.out (by kernel_rfl)) (fun _ _ _ h => h) (Or.inl ⟨by rfl, ?_⟩) ?_ ?_
                    rotate_left
                    ·
                     intro w'
                     go_simp
                     with_reducible rfl
                    rotate_left
                    ·
                     simp only [Act.put, aput]
                     rfl
                    refine pure_ (i := 7) (N := some 90) (v := ?_) (a' := ?_) (bm 19 207) rfl rfl (any_of HT_.out (by kernel_rfl)) (fun _ _ _ h => h) (Or.inl ⟨by rfl, ?_⟩) ?_ ?_
                    rotate_left
                    ·
                     intro w'
                     go_simp
                     with_reducible rfl
                    rotate_left
                    ·
                     simp only [Act.put, aput]
                     rfl
                    refine pure_ (i := 8) (N := some 91) (v := ?_) (a' := ?_) (bm 19 463) rfl rfl (any_of HT_.out (by kernel_rfl)) (fun _ _ _ h => h) (Or.inl ⟨by rfl, ?_⟩) ?_ ?_
                    rotate_left
                    ·
                     intro w'
                     go_simp
                     with_reducible rfl
                    rotate_left
                    ·
                     simp only [Act.put, aput]
                     rfl
                    refine pure_ (i := 9) (N := some 92) (v := ?_) (a' := ?_) (bm 19 975) rfl rfl (any_of HT_.out (by kernel_rfl)) (fun _ _ _ h => h) (Or.inl ⟨by rfl, ?_⟩) ?_ ?_
                    rotate_left
                    ·
                     intro w'
                     go_simp
                     with_reducible rfl
                    rotate_left
                    ·
                     simp only [Act.put, aput]
                     rfl
                    refine pure_ (i := 10) (N := some 93) (v := ?_) (a' := ?_) (bm 19 1999) rfl rfl (any_of HT_.out (by kernel_rfl)) (fun _ _ _ h => h) (Or.inl ⟨by rfl, ?_⟩) ?_ ?_
                    rotate_left
                    ·
                     intro w'
                     go_simp
                     with_reducible rfl
                    rotate_left
                    ·
                     simp only [Act.put, aput]
                     rfl
                    refine pure_ (i := 12) (N := some 95) (v := ?_) (a' := ?_) (bm 19 6095) rfl rfl (any_of HT_.out (by kernel_rfl)) (fun _ _ _ h => h) (Or.inl ⟨by rfl, ?_⟩) ?_ ?_
                    rotate_left
                    ·
                     intro w'
                     go_simp
                     with_reducible rfl
                    rotate_left
                    ·
                     simp only [Act.put, aput]
                     rfl
                    refine pure_ (i := 13) (N := some 96) (v := ?_) (a' := ?_) (bm 19 14287) rfl rfl (any_of HT_.out (by kernel_rfl)) (fun _ _ _ h => h) (Or.inl ⟨by rfl, ?_⟩) ?_ ?_
                    rotate_left
                    ·
                     intro w'
                     go_simp
                     with_reducible rfl
                    rotate_left
                    ·
                     simp only [Act.put, aput]
                     rfl
                    refine pure_ (i := 14) (N := some 97) (v := ?_) (a' := ?_) (bm 19 30671) rfl rfl (any_of HT_.out (by kernel_rfl)) (fun _ _ _ h => h) (Or.inl ⟨by rfl, ?_⟩) ?_ ?_
                    rotate_left
                    ·
                     intro w'
                     go_simp
                     with_reducible rfl
                    rotate_left
                    ·
                     simp only [Act.put, aput]
                     rfl
                    refine take_ (i := 4) (N := some 87) (v := ?_) (a' := ?_) (bm 19 30687) rfl rfl (take_ofW HT_.out HW_.out (by kernel_rfl)) (fun _ _ _ h => h) (Or.inl ⟨by rfl, ?_⟩) hHeld ?_ ?_
                    rotate_left
                    ·
                     intro w' s0
                     go_simp
                     with_reducible rfl
                    rotate_left
                    ·
                     simp only [Act.put, aput]
                     rfl
                    refine take_ (i := 11) (N := some 94) (v := ?_) (a' := ?_) (bm 19 32735) rfl rfl (take_ofW HT_.out HW_.out (by kernel_rfl)) (fun _ _ _ h => h) (Or.inl ⟨by rfl, ?_⟩) hHeld ?_ ?_
                    rotate_left
                    ·
                     intro w' s0
                     go_simp
                     with_reducible rfl
                    rotate_left
                    ·
                     simp only [Act.put, aput]
                     rfl
                    refine take_ (i := 15) (N := some 98) (v := ?_) (a' := ?_) (bm 19 65503) rfl rfl (take_ofW HT_.out HW_.out (by kernel_rfl)) (fun _ _ _ h => h) (Or.inl ⟨by rfl, ?_⟩) hHeld ?_ ?_
                    rotate_left
                    ·
                     intro w' s0
                     go_simp
                     with_reducible rfl
                    rotate_left
                    ·
                     simp only [Act.put, aput]
                     rfl
                    refine one_ (i := 5) (N := some 88) (bm 19 65535) rfl rfl (one_of HT_.out (by kernel_rfl)) (by decide) (fun K hK => ?_)
                    refine goes_ Try.func17 (by kernel_rfl) rfl #[.pointer (some ⟨g164, 0, none⟩), .int .i64 (rd cu9 x12_2)] (by rfl) rfl rfl (by (try simp only [List.map_toArray, List.map_cons, List.map_nil]); first | done | rfl | (simp only [List.length_drop, List.length_take]; rfl)) ?_
                    with_reducible refine (order_Reader_Next.calls kj37 g164 x165000_2 x165001_2 x165002_2 x165003_2 (rd cu9 x12_2) t168 t169 t170 t171 t172 w _ ?side1 ?side2 A45.out).mono ?_
                    (case side1 => repeat (first | (with_reducible first | exact HI164.out | apply IsS43.alloc | apply IsS43.drewN | apply IsS43.drew | apply IsS43.set_0 | apply IsS43.set_1 | apply IsS43.set_2 | apply IsS43.set_3 | refine IsS43.far ?_ NB164_153.out _) | exact HI164.out))
                    (case side2 => repeat (first | (with_reducible first | exact HB.out | apply eA | apply eN | apply eD | refine below_set ?_ (IsS43.ge HI164.out) | refine below_set ?_ GE153.out) | exact HB.out))
                    rintro e w51 ⟨rfl, hi, hb, hk⟩
                    refine ⟨_, rfl, ?_⟩
                    have n0_ := aS (KeepBut.blk hk (g' := gb153) (o := .cells #[.bool a0] 25 (0, 0)) (by (with_reducible repeat (first | apply bN | apply bD | apply bA)); exact BK153.out) NB153_164.out (by simp))
                    have n1_ := aS (hb)
                    have n2_ := aS (hi)
                    clear BK153
                    clear HB
                    clear HI164
                    have BK153 := n0_
                    have HB := n1_
                    have HI164 := n2_
                    clear n0_ n1_ n2_
                    (try clear hb)
                    (try clear hb2)
                    (try clear hk)
                    (try clear hi)
                    refine hK.out _ _ ⟨((HB.out.cell (World.block_lt_of_cell? w _ hw167_0)).trans hw167_0), ((HB.out.cell (World.block_lt_of_cell? w _ hw173_0)).trans hw173_0), ((HB.out.cell (World.block_lt_of_cell? w _ hw174_0)).trans hw174_0)⟩ (fun hHeld => ?_)
                    clear hK K
                    refine norm_ (a' := ?_) ?_ ?_
                    rotate_left
                    ·
                     show Act.put _ (some 88) _ = _
                     simp only [Act.put, aput]
                     rfl
                    refine one_ (i := 16) (N := some 99) (bm 19 131071) rfl rfl (one_of HT_.out (by kernel_rfl)) (by decide) (fun K hK => ?_)
                    refine goes_ Try.func11 (by kernel_rfl) rfl #[.bool a0, .int .u64 (rd cu13 x12_2), .int .i64 (rd cu9 x12_2)] (by rfl) rfl rfl (by (try simp only [List.map_toArray, List.map_cons, List.map_nil]); first | done | rfl | (simp only [List.length_drop, List.length_take]; rfl)) ?_
                    with_reducible refine (graverref01_Put.calls kj37 a0 (rd cu13 x12_2) (rd cu9 x12_2) t175 _ A47.out).mono ?_
                    rintro e w52 ⟨rfl, hb⟩
                    refine ⟨_, rfl, ?_⟩
                    have n0_ := aS (blk_below (g := gb153) (o := .cells #[.bool a0] 25 (0, 0)) (by (with_reducible repeat (first | apply bN | apply bD | apply bA)); exact BK153.out) hb)
                    have n1_ := aS (IsS43.below (by repeat (first | (with_reducible first | exact HI164.out | apply IsS43.alloc | apply IsS43.drewN | apply IsS43.drew | apply IsS43.set_0 | apply IsS43.set_1 | apply IsS43.set_2 | apply IsS43.set_3 | refine IsS43.far ?_ NB164_153.out _) | exact HI164.out)) hb)
                    have n2_ := aS (below_step (by repeat (first | (with_reducible first | exact HB.out | apply eA | apply eN | apply eD | refine below_set ?_ (IsS43.ge HI164.out) | refine below_set ?_ GE153.out) | exact HB.out)) hb)
                    clear BK153
                    clear HI164
                    clear HB
                    have BK153 := n0_
                    have HI164 := n1_
                    have HB := n2_
                    clear n0_ n1_ n2_
                    (try clear hb)
                    (try clear hb2)
                    (try clear hk)
                    (try clear hi)
                    refine hK.out _ _ ⟨((HB.out.cell (World.block_lt_of_cell? w _ hw167_0)).trans hw167_0), ((HB.out.cell (World.block_lt_of_cell? w _ hw173_0)).trans hw173_0), ((HB.out.cell (World.block_lt_of_cell? w _ hw174_0)).trans hw174_0)⟩ (fun hHeld => ?_)
                    clear hK K
                    refine norm_ (a' := ?_) ?_ ?_
                    rotate_left
                    ·
                     show Act.put _ (some 99) _ = _
                     simp only [Act.put, aput]
                     rfl
                    refine one_ (i := 17) (N := some 100) (bm 19 262143) rfl rfl (one_of HT_.out (by kernel_rfl)) (by decide) (fun K hK => ?_)
                    refine goes_ Try.func13 (by kernel_rfl) rfl #[.bool a0, .string t175] (by rfl) rfl rfl (by (try simp only [List.map_toArray, List.map_cons, List.map_nil]); first | done | rfl | (simp only [List.length_drop, List.length_take]; rfl)) ?_
                    with_reducible refine (graverref01_Get.calls kj37 a0 t175 t176 _ A48.out).mono ?_
                    rintro e w' ⟨rfl, ⟨nd, rfl⟩⟩
                    refine ⟨_, rfl, ?_⟩
                    refine hK.out _ _ ⟨((HB.out.cell (World.block_lt_of_cell? w _ hw167_0)).trans hw167_0), ((HB.out.cell (World.block_lt_of_cell? w _ hw173_0)).trans hw173_0), ((HB.out.cell (World.block_lt_of_cell? w _ hw174_0)).trans hw174_0)⟩ (fun hHeld => ?_)
                    clear hK K
                    refine norm_ (a' := ?_) ?_ ?_
                    rotate_left
                    ·
                     show Act.put _ (some 100) _ = _
                     simp only [Act.put, aput]
                     rfl
                    refine pure_ (i := 18) (N := some 101) (v := ?_) (a' := ?_) (bm 19 524287) rfl rfl (any_of HT_.out (by kernel_rfl)) (fun _ _ _ h => h) (Or.inl ⟨by rfl, ?_⟩) ?_ ?_
                    rotate_left
                    ·
                     intro w'
                     go_simp
                     with_reducible rfl
                    rotate_left
                    ·
                     simp only [Act.put, aput]
                     rfl
                    refine done_ (done_of HT_.out (by kernel_rfl)) ?_
                    try go_wp2
                    go_roundg kj37
                    case measure => have := HJ14.out; have := HK2.out; have := HJ34.out; have := HJ37.out; omega
                    case rel => exact ⟨(wrap64 (x12_2 + 1)), (t169), (t170), (t171), (t172), (by first | rfl | (simp; done) | (simp [*]; done)), H', ⟨by have := HJ14.out; have := HK2.out; have := HJ34.out; have := HJ37.out; omega⟩, ⟨by (with_reducible repeat (first | apply bN | apply bD | apply bA)); exact BK153.out⟩, ⟨by repeat (first | (with_reducible first | exact HI164.out | apply IsS43.alloc | apply IsS43.drewN | apply IsS43.drew | apply IsS43.set_0 | apply IsS43.set_1 | apply IsS43.set_2 | apply IsS43.set_3 | refine IsS43.far ?_ NB164_153.out _) | exact HI164.out)⟩, ⟨by repeat (first | (with_reducible first | exact HB.out | apply eA | apply eN | apply eD | refine below_set ?_ (IsS43.ge HI164.out) | refine below_set ?_ GE153.out) | exact HB.out)⟩⟩
                   ·
                    rw [if_neg c49] at H
                    have c49b0 : (t168 == t176) = false := beq_eq_false_iff_ne.mpr c49
                    have c49b1 : (t168 != t176) = true := bne_iff_ne.mpr c49
                    exact absurd ((Option.some.inj H).trans HRT.out) (by decide)
                  ·
                   rw [if_neg c46] at H
                   exact absurd H (by simp)
                 ·
                  rw [if_neg c44] at H
                  exact absurd H (by simp)
                ·
                 rw [if_neg c43] at H
                 exact absurd H (by simp)
            ·
             replace c37 := Bool.eq_false_iff.mpr c37
             subst c37
             have H1 : (if t156.toList = x9_14.toList then ((order_Reader_Err.f x165000_2 x165001_2 x165002_2 x165003_2).bind fun bt177 => (if bt177.1 = 0 then ((order_Reader_At.f bt177.2.1 bt177.2.2.1 bt177.2.2.2.1 bt177.2.2.2.2).bind fun bt182 => (if bt182.1 = (IntKind.u64.wrap ((t156.size : Int))) then ((order_Reader_Next_nil.f 1).bind fun t187 => (if t187 = 0 then ((order_Reader_Bytes_nil.f 1).bind fun t188 => (if t188.toList = ([] : List UInt8) then ((order_Reader_Err_nil.f).bind fun t189 => (if t189 = 1 then ((order_Reader_At_nil.f).bind fun t190 => (some (t190 == 0))) else (some false))) else (some false))) else (some false))) else (some false))) else (some false))) else (some false)) = some r := by rw [if_neg (show ¬ (false = true) by decide)] at H; exact H
             clear H
             have H := H1
             clear H1
             by_cases c53 : t156.toList = x9_14.toList
             ·
              rw [if_pos c53] at H
              have c53b0 : (t156.toList == x9_14.toList) = true := beq_iff_eq.mpr c53
              have c53b1 : (t156.toList != x9_14.toList) = false := bne_eq_false_iff_eq.mpr c53
              clear c53
              replace H := Option.bind_eq_some_iff.mp H
              obtain ⟨⟨t177, t178, t179, t180, t181⟩, A540, H⟩ := H
              replace H : (if t177 = 0 then ((order_Reader_At.f t178 t179 t180 t181).bind fun bt182 => (if bt182.1 = (IntKind.u64.wrap ((t156.size : Int))) then ((order_Reader_Next_nil.f 1).bind fun t187 => (if t187 = 0 then ((order_Reader_Bytes_nil.f 1).bind fun t188 => (if t188.toList = ([] : List UInt8) then ((order_Reader_Err_nil.f).bind fun t189 => (if t189 = 1 then ((order_Reader_At_nil.f).bind fun t190 => (some (t190 == 0))) else (some false))) else (some false))) else (some false))) else (some false))) else (some false)) = some r := H
              have A54 := aS A540
              clear A540
              by_cases c55 : t177 = 0
              ·
               rw [if_pos c55] at H
               have c55b0 : (t177 == 0) = true := beq_iff_eq.mpr c55
               have c55b1 : (t177 != 0) = false := bne_eq_false_iff_eq.mpr c55
               clear c55
               replace H := Option.bind_eq_some_iff.mp H
               obtain ⟨⟨t182, t183, t184, t185, t186⟩, A560, H⟩ := H
               replace H : (if t182 = (IntKind.u64.wrap ((t156.size : Int))) then ((order_Reader_Next_nil.f 1).bind fun t187 => (if t187 = 0 then ((order_Reader_Bytes_nil.f 1).bind fun t188 => (if t188.toList = ([] : List UInt8) then ((order_Reader_Err_nil.f).bind fun t189 => (if t189 = 1 then ((order_Reader_At_nil.f).bind fun t190 => (some (t190 == 0))) else (some false))) else (some false))) else (some false))) else (some false)) = some r := H
               have A56 := aS A560
               clear A560
               by_cases c57 : t182 = (IntKind.u64.wrap ((t156.size : Int)))
               ·
                rw [if_pos c57] at H
                have c57b0 : (t182 == (IntKind.u64.wrap ((t156.size : Int)))) = true := beq_iff_eq.mpr c57
                have c57b1 : (t182 != (IntKind.u64.wrap ((t156.size : Int)))) = false := bne_eq_false_iff_eq.mpr c57
                clear c57
                replace H := Option.bind_eq_some_iff.mp H
                obtain ⟨t187, A580, H⟩ := H
                replace H : (if t187 = 0 then ((order_Reader_Bytes_nil.f 1).bind fun t188 => (if t188.toList = ([] : List UInt8) then ((order_Reader_Err_nil.f).bind fun t189 => (if t189 = 1 then ((order_Reader_At_nil.f).bind fun t190 => (some (t190 == 0))) else (some false))) else (some false))) else (some false)) = some r := H
                have A58 := aS A580
                clear A580
                by_cases c59 : t187 = 0
                ·
                 rw [if_pos c59] at H
                 have c59b0 : (t187 == 0) = true := beq_iff_eq.mpr c59
                 have c59b1 : (t187 != 0) = false := bne_eq_false_iff_eq.mpr c59
                 clear c59
                 replace H := Option.bind_eq_some_iff.mp H
                 obtain ⟨t188, A600, H⟩ := H
                 replace H : (if t188.toList = ([] : List UInt8) then ((order_Reader_Err_nil.f).bind fun t189 => (if t189 = 1 then ((order_Reader_At_nil.f).bind fun t190 => (some (t190 == 0))) else (some false))) else (some false)) = some r := H
                 have A60 := aS A600
                 clear A600
                 by_cases c61 : t188.toList = ([] : List UInt8)
                 ·
                  rw [if_pos c61] at H
                  have c61b0 : (t188.toList == ([] : List UInt8)) = true := beq_iff_eq.mpr c61
                  have c61b1 : (t188.toList != ([] : List UInt8)) = false := bne_eq_false_iff_eq.mpr c61
                  clear c61
                  replace H := Option.bind_eq_some_iff.mp H
                  obtain ⟨t189, A620, H⟩ := H
                  replace H : (if t189 = 1 then ((order_Reader_At_nil.f).bind fun t190 => (some (t190 == 0))) else (some false)) = some r := H
                  have A62 := aS A620
                  clear A620
                  by_cases c63 : t189 = 1
                  ·
                   rw [if_pos c63] at H
                   have c63b0 : (t189 == 1) = true := beq_iff_eq.mpr c63
                   have c63b1 : (t189 != 1) = false := bne_eq_false_iff_eq.mpr c63
                   clear c63
                   replace H := Option.bind_eq_some_iff.mp H
                   obtain ⟨t190, A640, H⟩ := H
                   replace H : (some (t190 == 0)) = some r := H
                   have A64 := aS A640
                   clear A640
                   obtain rfl := Option.some.inj H
                   go_wp2_with (first | (go_at_call 20; (with_reducible refine (order_Reader_Err.calls g164 x165000_2 x165001_2 x165002_2 x165003_2 t177 t178 t179 t180 t181 w _ ?side1 ?side2 A54.out).mono ?_); (case side1 => repeat (first | (with_reducible first | exact HI164.out | apply IsS43.alloc | apply IsS43.drewN | apply IsS43.drew | apply IsS43.set_0 | apply IsS43.set_1 | apply IsS43.set_2 | apply IsS43.set_3 | refine IsS43.far ?_ NB164_153.out _) | exact HI164.out)); (case side2 => repeat (first | (with_reducible first | exact HB.out | apply eA | apply eN | apply eD | refine below_set ?_ (IsS43.ge HI164.out) | refine below_set ?_ GE153.out) | exact HB.out)); rintro e w65 ⟨rfl, hi, hb, hk⟩; have n0_ := aS (KeepBut.blk hk (g' := gb153) (o := .cells #[.bool a0] 25 (0, 0)) (by (with_reducible repeat (first | apply bN | apply bD | apply bA)); exact BK153.out) NB153_164.out (by simp)); have n1_ := aS (hb); have n2_ := aS (hi); clear BK153; clear HB; clear HI164; have BK153 := n0_; have HB := n1_; have HI164 := n2_; clear n0_ n1_ n2_; (try clear hb); (try clear hb2); (try clear hk); (try clear hi)) | (go_at_call 19; (with_reducible refine (order_Reader_At.calls g164 t178 t179 t180 t181 t182 t183 t184 t185 t186 w _ ?side1 ?side2 A56.out).mono ?_); (case side1 => repeat (first | (with_reducible first | exact HI164.out | apply IsS43.alloc | apply IsS43.drewN | apply IsS43.drew | apply IsS43.set_0 | apply IsS43.set_1 | apply IsS43.set_2 | apply IsS43.set_3 | refine IsS43.far ?_ NB164_153.out _) | exact HI164.out)); (case side2 => repeat (first | (with_reducible first | exact HB.out | apply eA | apply eN | apply eD | refine below_set ?_ (IsS43.ge HI164.out) | refine below_set ?_ GE153.out) | exact HB.out)); rintro e w66 ⟨rfl, hi, hb, hk⟩; have n0_ := aS (KeepBut.blk hk (g' := gb153) (o := .cells #[.bool a0] 25 (0, 0)) (by (with_reducible repeat (first | apply bN | apply bD | apply bA)); exact BK153.out) NB153_164.out (by simp)); have n1_ := aS (hb); have n2_ := aS (hi); clear BK153; clear HB; clear HI164; have BK153 := n0_; have HB := n1_; have HI164 := n2_; clear n0_ n1_ n2_; (try clear hb); (try clear hb2); (try clear hk); (try clear hi)) | (go_at_call 17; (with_reducible refine (order_Reader_Next_nil.calls  1 t187 _ A58.out).mono ?_); rintro e w67 ⟨rfl, hb⟩; have n0_ := aS (blk_below (g := gb153) (o := .cells #[.bool a0] 25 (0, 0)) (by (with_reducible repeat (first | apply bN | apply bD | apply bA)); exact BK153.out) hb); have n1_ := aS (IsS43.below (by repeat (first | (with_reducible first | exact HI164.out | apply IsS43.alloc | apply IsS43.drewN | apply IsS43.drew | apply IsS43.set_0 | apply IsS43.set_1 | apply IsS43.set_2 | apply IsS43.set_3 | refine IsS43.far ?_ NB164_153.out _) | exact HI164.out)) hb); have n2_ := aS (below_step (by repeat (first | (with_reducible first | exact HB.out | apply eA | apply eN | apply eD | refine below_set ?_ (IsS43.ge HI164.out) | refine below_set ?_ GE153.out) | exact HB.out)) hb); clear BK153; clear HI164; clear HB; have BK153 := n0_; have HI164 := n1_; have HB := n2_; clear n0_ n1_ n2_; (try clear hb); (try clear hb2); (try clear hk); (try clear hi)) | (go_at_call 18; (with_reducible refine (order_Reader_Bytes_nil.calls  1 t188 _ A60.out).mono ?_); rintro e w68 ⟨rfl, hb⟩; have n0_ := aS (blk_below (g := gb153) (o := .cells #[.bool a0] 25 (0, 0)) (by (with_reducible repeat (first | apply bN | apply bD | apply bA)); exact BK153.out) hb); have n1_ := aS (IsS43.below (by repeat (first | (with_reducible first | exact HI164.out | apply IsS43.alloc | apply IsS43.drewN | apply IsS43.drew | apply IsS43.set_0 | apply IsS43.set_1 | apply IsS43.set_2 | apply IsS43.set_3 | refine IsS43.far ?_ NB164_153.out _) | exact HI164.out)) hb); have n2_ := aS (below_step (by repeat (first | (with_reducible first | exact HB.out | apply eA | apply eN | apply eD | refine below_set ?_ (IsS43.ge HI164.out) | refine below_set ?_ GE153.out) | exact HB.out)) hb); clear BK153; clear HI164; clear HB; have BK153 := n0_; have HI164 := n1_; have HB := n2_; clear n0_ n1_ n2_; (try clear hb); (try clear hb2); (try clear hk); (try clear hi)) | (go_at_call 20; (with_reducible refine (order_Reader_Err_nil.calls  t189 _ A62.out).mono ?_); rintro e w69 ⟨rfl, hb⟩; have n0_ := aS (blk_below (g := gb153) (o := .cells #[.bool a0] 25 (0, 0)) (by (with_reducible repeat (first | apply bN | apply bD | apply bA)); exact BK153.out) hb); have n1_ := aS (IsS43.below (by repeat (first | (with_reducible first | exact HI164.out | apply IsS43.alloc | apply IsS43.drewN | apply IsS43.drew | apply IsS43.set_0 | apply IsS43.set_1 | apply IsS43.set_2 | apply IsS43.set_3 | refine IsS43.far ?_ NB164_153.out _) | exact HI164.out)) hb); have n2_ := aS (below_step (by repeat (first | (with_reducible first | exact HB.out | apply eA | apply eN | apply eD | refine below_set ?_ (IsS43.ge HI164.out) | refine below_set ?_ GE153.out) | exact HB.out)) hb); clear BK153; clear HI164; clear HB; have BK153 := n0_; have HI164 := n1_; have HB := n2_; clear n0_ n1_ n2_; (try clear hb); (try clear hb2); (try clear hk); (try clear hi)) | (go_at_call 19; (with_reducible refine (order_Reader_At_nil.calls  t190 _ A64.out).mono ?_); rintro e w70 ⟨rfl, hb⟩; have n0_ := aS (blk_below (g := gb153) (o := .cells #[.bool a0] 25 (0, 0)) (by (with_reducible repeat (first | apply bN | apply bD | apply bA)); exact BK153.out) hb); have n1_ := aS (IsS43.below (by repeat (first | (with_reducible first | exact HI164.out | apply IsS43.alloc | apply IsS43.drewN | apply IsS43.drew | apply IsS43.set_0 | apply IsS43.set_1 | apply IsS43.set_2 | apply IsS43.set_3 | refine IsS43.far ?_ NB164_153.out _) | exact HI164.out)) hb); have n2_ := aS (below_step (by repeat (first | (with_reducible first | exact HB.out | apply eA | apply eN | apply eD | refine below_set ?_ (IsS43.ge HI164.out) | refine below_set ?_ GE153.out) | exact HB.out)) hb); clear BK153; clear HI164; clear HB; have BK153 := n0_; have HI164 := n1_; have HB := n2_; clear n0_ n1_ n2_; (try clear hb); (try clear hb2); (try clear hk); (try clear hi)))
                   go_ret
                   exact ⟨by first | rfl | (simp [errW_none, errW_some] <;> rfl) | (simp only [← hji6, ← hji10]; first | rfl | (simp [errW_none, errW_some] <;> rfl)) | (simp [*, errW_none, errW_some] <;> rfl), by repeat (first | (with_reducible first | exact HB.out | apply eA | apply eN | apply eD | refine below_set ?_ (IsS43.ge HI164.out) | refine below_set ?_ GE153.out) | exact HB.out)⟩
                  ·
                   rw [if_neg c63] at H
                   have c63b0 : (t189 == 1) = false := beq_eq_false_iff_ne.mpr c63
                   have c63b1 : (t189 != 1) = true := bne_iff_ne.mpr c63
                   exact absurd ((Option.some.inj H).trans HRT.out) (by decide)
                 ·
                  rw [if_neg c61] at H
                  have c61b0 : (t188.toList == ([] : List UInt8)) = false := beq_eq_false_iff_ne.mpr c61
                  have c61b1 : (t188.toList != ([] : List UInt8)) = true := bne_iff_ne.mpr c61
                  exact absurd ((Option.some.inj H).trans HRT.out) (by decide)
                ·
                 rw [if_neg c59] at H
                 have c59b0 : (t187 == 0) = false := beq_eq_false_iff_ne.mpr c59
                 have c59b1 : (t187 != 0) = true := bne_iff_ne.mpr c59
                 exact absurd ((Option.some.inj H).trans HRT.out) (by decide)
               ·
                rw [if_neg c57] at H
                have c57b0 : (t182 == (IntKind.u64.wrap ((t156.size : Int)))) = false := beq_eq_false_iff_ne.mpr c57
                have c57b1 : (t182 != (IntKind.u64.wrap ((t156.size : Int)))) = true := bne_iff_ne.mpr c57
                exact absurd ((Option.some.inj H).trans HRT.out) (by decide)
              ·
               rw [if_neg c55] at H
               have c55b0 : (t177 == 0) = false := beq_eq_false_iff_ne.mpr c55
               have c55b1 : (t177 != 0) = true := bne_iff_ne.mpr c55
               exact absurd ((Option.some.inj H).trans HRT.out) (by decide)
             ·
              rw [if_neg c53] at H
              have c53b0 : (t156.toList == x9_14.toList) = false := beq_eq_false_iff_ne.mpr c53
              have c53b1 : (t156.toList != x9_14.toList) = true := bne_iff_ne.mpr c53
              exact absurd ((Option.some.inj H).trans HRT.out) (by decide)
     ·
      rw [if_neg c12] at H
      exact absurd H (by simp)
    ·
     rw [if_neg c11] at H
     exact absurd H (by simp)
   ·
    rw [if_neg c8] at H
    exact absurd H (by simp)
  ·
   rw [if_neg c7] at H
   exact absurd H (by simp)
 ·
  replace c5 := Bool.eq_false_iff.mpr c5
  subst c5
  have H1 : (some false) = some r := by rw [if_neg (show ¬ (false = true) by decide)] at H; exact H
  clear H
  have H := H1
  clear H1
  exact absurd ((Option.some.inj H).trans HRT.out) (by decide)

/-- THE ONE PURE STATEMENT of graverlaw01_OrderFields: yours. -/
def graverlaw01_OrderFields.Pure : Prop := ∀ (a0 : Bool) (l1 : List Int) (l2 : List Int), l1.length ≤ maxLen → l1.length * 8 ≤ 140737488351232 → (∀ x ∈ l1, (Lit.int .i64 x).wf = true) → l2.length ≤ maxLen → l2.length * 8 ≤ 140737488351232 → (∀ x ∈ l2, (Lit.int .u64 x).wf = true) → ∃ k, graverlaw01_OrderFields.f k a0 l1 l2 = some true
theorem graverlaw01_OrderFields.walk (P : graverlaw01_OrderFields.Pure) (a0 : Bool) (a1 : Option Addr) (len1 cap1 : Nat) (z1 : List Int) (a2 : Option Addr) (len2 cap2 : Nat) (z2 : List Int) (w : World) (w1 : (a1 = none ∧ len1 = 0 ∧ cap1 = 0 ∧ z1 = []) ∨ ∃ x, a1 = some x ∧ len1 ≤ cap1 ∧ cap1 ≤ maxLen ∧ z1.length = cap1 ∧ (∀ i, i < z1.length → w.cell? (x.add i) = some (.int .i64 (z1.getD i 0))) ∧ ∀ n ∈ z1, (Lit.int .i64 n).wf = true) (y1 : len1 * 8 ≤ 140737488351232) (w2 : (a2 = none ∧ len2 = 0 ∧ cap2 = 0 ∧ z2 = []) ∨ ∃ x, a2 = some x ∧ len2 ≤ cap2 ∧ cap2 ≤ maxLen ∧ z2.length = cap2 ∧ (∀ i, i < z2.length → w.cell? (x.add i) = some (.int .u64 (z2.getD i 0))) ∧ ∀ n ∈ z2, (Lit.int .u64 n).wf = true) (y2 : len2 * 8 ≤ 140737488351232) :
  Calls Try.prog 6 #[.bool a0, .slice a1 len1 cap1, .slice a2 len2 cap2] w fun e w' => e = .returned (.bool true) ∧ Below w.heap.size w w' := by
 obtain ⟨l1, rfl, hr1, hm1, hw1, hc1⟩ := ReadsInt.ofRowC w1
 obtain ⟨l2, rfl, hr2, hm2, hw2, hc2⟩ := ReadsInt.ofRowC w2
 obtain ⟨k, h⟩ := P a0 l1 l2 hm1 y1 hw1 hm2 y2 hw2
 refine (graverlaw01_OrderFields.calls k a0 _ _ l1 _ _ l2 true w rfl (Kd.C_of_reads (d := (0 : Int)) (h1 := fun _ => rfl) hr1) hc1 (Kd.C_of_reads (d := (0 : Int)) (h1 := fun _ => rfl) hr2) hc2 h).mono ?_
 rintro e w' ⟨rfl, hd⟩
 exact ⟨rfl, hd⟩

end Go.Proofs.Ythbkjppaimjpmaa.Q
