/- What Go functions of the program compute, each as a Lean function with the proof that the call returns just that. No condition but those in the statements. -/
import Derived.Test.YthbkjppaimjpmaaQ0
import Derived.Test.YthbkjppaimjpmaaQ2
import Derived.Test.YthbkjppaimjpmaaQ3
import Derived.Test.YthbkjppaimjpmaaQ4
namespace Go.Proofs.Ythbkjppaimjpmaa.Q
open Go.RowKit Go.Proofs.YthbkjppaimjpmaaW.PrintWords Go.Proofs.YthbkjppaimjpmaaW.PrintLast Go.Proofs.YthbkjppaimjpmaaW.PrintMore
attribute [local go_sem] max2_int min2_int max_two min_two max_three min_three max_four min_four   -- for this text's walks alone
set_option linter.unusedVariables false
set_option linter.unusedSimpArgs false

/-! ### graverlaw01_OrderReads: function 5 -/
mutual
def graverlaw01_OrderReads.l0 : Nat → ByteArray → List Int → Int → Bool → Int → Bool → Bool → ByteArray → Int → Bool → Option (Bool)
 | 0, _, _, _, _, _, _, _, _, _, _ => none
 | k + 1, x0, x2, x9, x10, x11, x117000, x122000, x122001, x122002, x122003 => if x11 < (x2.length : Int) then (graverlaw01_OrderReads.j1 k x0 x2 x9 x10 x11 (decide (x11 < 40)) x117000 x122000 x122001 x122002 x122003) else (graverlaw01_OrderReads.j1 k x0 x2 x9 x10 x11 false x117000 x122000 x122001 x122002 x122003)
def graverlaw01_OrderReads.j1 : Nat → ByteArray → List Int → Int → Bool → Int → Bool → Bool → Bool → ByteArray → Int → Bool → Option (Bool)
 | 0, _, _, _, _, _, _, _, _, _, _, _ => none
 | k + 1, x0, x2, x9, x10, x11, x43, x117000, x122000, x122001, x122002, x122003 => if x43 = true then (if 0 ≤ x11 then (if x11 < (x2.length : Int) then (if (rd x2 x11) < 9 then ((order_Reader_Next.f k x122000 x122001 x122002 x122003 (rd x2 x11)).bind fun bt123 => (if x10 = true then (graverlaw01_OrderReads.j2 k x0 x2 x9 x10 x11 (rd x2 x11) bt123.1 false x117000 bt123.2.1 bt123.2.2.1 bt123.2.2.2.1 bt123.2.2.2.2) else (if (rd x2 x11) ≥ 1 then (if (rd x2 x11) ≤ 8 then (if x9 ≤ (IntKind.u64.wrap ((x0.size : Int))) then (graverlaw01_OrderReads.j2 k x0 x2 x9 x10 x11 (rd x2 x11) bt123.1 (decide ((IntKind.u64.wrap (rd x2 x11)) ≤ (IntKind.u64.wrap ((IntKind.u64.wrap ((x0.size : Int))) - x9)))) x117000 bt123.2.1 bt123.2.2.1 bt123.2.2.2.1 bt123.2.2.2.2) else (graverlaw01_OrderReads.j2 k x0 x2 x9 x10 x11 (rd x2 x11) bt123.1 false x117000 bt123.2.1 bt123.2.2.1 bt123.2.2.2.1 bt123.2.2.2.2)) else (graverlaw01_OrderReads.j2 k x0 x2 x9 x10 x11 (rd x2 x11) bt123.1 false x117000 bt123.2.1 bt123.2.2.1 bt123.2.2.2.1 bt123.2.2.2.2)) else (graverlaw01_OrderReads.j2 k x0 x2 x9 x10 x11 (rd x2 x11) bt123.1 false x117000 bt123.2.1 bt123.2.2.1 bt123.2.2.2.1 bt123.2.2.2.2)))) else ((order_Reader_Bytes.f x122000 x122001 x122002 x122003 (IntKind.u64.wrap (wrap64 ((rd x2 x11) - 9)))).bind fun bt129 => (if x10 = true then (graverlaw01_OrderReads.j3 k x0 x2 x9 x10 x11 (IntKind.u64.wrap (wrap64 ((rd x2 x11) - 9))) bt129.1 false x117000 bt129.2.1 bt129.2.2.1 bt129.2.2.2.1 bt129.2.2.2.2) else (if x9 ≤ (IntKind.u64.wrap ((x0.size : Int))) then (graverlaw01_OrderReads.j3 k x0 x2 x9 x10 x11 (IntKind.u64.wrap (wrap64 ((rd x2 x11) - 9))) bt129.1 (decide ((IntKind.u64.wrap (wrap64 ((rd x2 x11) - 9))) ≤ (IntKind.u64.wrap ((IntKind.u64.wrap ((x0.size : Int))) - x9)))) x117000 bt129.2.1 bt129.2.2.1 bt129.2.2.2.1 bt129.2.2.2.2) else (graverlaw01_OrderReads.j3 k x0 x2 x9 x10 x11 (IntKind.u64.wrap (wrap64 ((rd x2 x11) - 9))) bt129.1 false x117000 bt129.2.1 bt129.2.2.1 bt129.2.2.2.1 bt129.2.2.2.2))))) else (none)) else (none)) else (some true)
def graverlaw01_OrderReads.j4 : Nat → ByteArray → List Int → Int → Bool → Int → Bool → Bool → ByteArray → Int → Bool → Option (Bool)
 | 0, _, _, _, _, _, _, _, _, _, _ => none
 | k + 1, x0, x2, x9, x10, x11, x117000, x122000, x122001, x122002, x122003 => (order_Reader_At.f x122000 x122001 x122002 x122003).bind fun bt134 => (if bt134.1 = x9 then ((order_Reader_Err.f bt134.2.1 bt134.2.2.1 bt134.2.2.2.1 bt134.2.2.2.2).bind fun bt139 => (if ((bt139.1 == 3) != x10) = true then (some false) else ((order_Reader_Err.f bt139.2.1 bt139.2.2.1 bt139.2.2.2.1 bt139.2.2.2.2).bind fun bt144 => (if bt144.1 = 0 then (if (bt144.2.1 != x117000) = true then (some false) else (graverlaw01_OrderReads.l0 k x0 x2 x9 x10 (wrap64 (x11 + 1)) x117000 bt144.2.1 bt144.2.2.1 bt144.2.2.2.1 bt144.2.2.2.2)) else (if x10 = true then (if (bt144.2.1 != x117000) = true then (some false) else (graverlaw01_OrderReads.l0 k x0 x2 x9 x10 (wrap64 (x11 + 1)) x117000 bt144.2.1 bt144.2.2.1 bt144.2.2.2.1 bt144.2.2.2.2)) else (some false)))))) else (some false))
def graverlaw01_OrderReads.j2 : Nat → ByteArray → List Int → Int → Bool → Int → Int → Int → Bool → Bool → Bool → ByteArray → Int → Bool → Option (Bool)
 | 0, _, _, _, _, _, _, _, _, _, _, _, _, _ => none
 | k + 1, x0, x2, x9, x10, x11, x12, x13, x14, x117000, x122000, x122001, x122002, x122003 => if x14 = true then (if 0 ≤ x9 then (if x9 ≤ (IntKind.u64.wrap (x9 + (IntKind.u64.wrap (x12)))) then (if (IntKind.u64.wrap (x9 + (IntKind.u64.wrap (x12)))) ≤ (x0.size : Int) then ((graverref01_Get.f k x117000 (x0.extract (x9 : Int).toNat ((IntKind.u64.wrap (x9 + (IntKind.u64.wrap (x12)))) : Int).toNat)).bind fun t128 => (if x10 = true then (if x13 = t128 then (graverlaw01_OrderReads.j4 k x0 x2 (IntKind.u64.wrap (x9 + (IntKind.u64.wrap (x12)))) true x11 x117000 x122000 x122001 x122002 x122003) else (some false)) else (if x13 = t128 then (graverlaw01_OrderReads.j4 k x0 x2 (IntKind.u64.wrap (x9 + (IntKind.u64.wrap (x12)))) (!x14) x11 x117000 x122000 x122001 x122002 x122003) else (some false)))) else (none)) else (none)) else (none)) else (if x10 = true then (if x13 = 0 then (graverlaw01_OrderReads.j4 k x0 x2 x9 true x11 x117000 x122000 x122001 x122002 x122003) else (some false)) else (if x13 = 0 then (graverlaw01_OrderReads.j4 k x0 x2 x9 (!x14) x11 x117000 x122000 x122001 x122002 x122003) else (some false)))
def graverlaw01_OrderReads.j3 : Nat → ByteArray → List Int → Int → Bool → Int → Int → ByteArray → Bool → Bool → Bool → ByteArray → Int → Bool → Option (Bool)
 | 0, _, _, _, _, _, _, _, _, _, _, _, _, _ => none
 | k + 1, x0, x2, x9, x10, x11, x16, x17, x18, x117000, x122000, x122001, x122002, x122003 => if x18 = true then (if 0 ≤ x9 then (if x9 ≤ (IntKind.u64.wrap (x9 + x16)) then (if (IntKind.u64.wrap (x9 + x16)) ≤ (x0.size : Int) then (if x10 = true then (if x17.toList = (x0.extract (x9 : Int).toNat ((IntKind.u64.wrap (x9 + x16)) : Int).toNat).toList then (graverlaw01_OrderReads.j4 k x0 x2 (IntKind.u64.wrap (x9 + x16)) true x11 x117000 x122000 x122001 x122002 x122003) else (some false)) else (if x17.toList = (x0.extract (x9 : Int).toNat ((IntKind.u64.wrap (x9 + x16)) : Int).toNat).toList then (graverlaw01_OrderReads.j4 k x0 x2 (IntKind.u64.wrap (x9 + x16)) (!x18) x11 x117000 x122000 x122001 x122002 x122003) else (some false))) else (none)) else (none)) else (none)) else (if x10 = true then (if x17.toList = ([] : List UInt8) then (graverlaw01_OrderReads.j4 k x0 x2 x9 true x11 x117000 x122000 x122001 x122002 x122003) else (some false)) else (if x17.toList = ([] : List UInt8) then (graverlaw01_OrderReads.j4 k x0 x2 x9 (!x18) x11 x117000 x122000 x122001 x122002 x122003) else (some false)))
end
def graverlaw01_OrderReads.f (k : Nat) (a0 : ByteArray) (a1 : Int) (l2 : List Int) : Option (Bool) := (graverlaw01_speaks.f k).bind fun t115 => (if t115 = true then (if 0 ≤ (mn (a0.size : Int) 200) then (if (mn (a0.size : Int) 200) ≤ (a0.size : Int) then ((order_Order_Read.f ((Go.bits .and .u64 a1 1) == 1) (a0.extract 0 ((mn (a0.size : Int) 200) : Int).toNat) a1).bind fun bt117 => (graverlaw01_OrderReads.l0 k (a0.extract 0 ((mn (a0.size : Int) 200) : Int).toNat) l2 a1 false 0 ((Go.bits .and .u64 a1 1) == 1) bt117.1 bt117.2.1 bt117.2.2.1 bt117.2.2.2)) else (none)) else (none)) else (some false))
theorem graverlaw01_OrderReads.mono_l : ∀ k, (∀ y0 y1 y2 y3 y4 y5 y6 y7 y8 y9, LeO (graverlaw01_OrderReads.l0 k y0 y1 y2 y3 y4 y5 y6 y7 y8 y9) (graverlaw01_OrderReads.l0 (k + 1) y0 y1 y2 y3 y4 y5 y6 y7 y8 y9)) ∧ (∀ y0 y1 y2 y3 y4 y5 y6 y7 y8 y9 y10, LeO (graverlaw01_OrderReads.j1 k y0 y1 y2 y3 y4 y5 y6 y7 y8 y9 y10) (graverlaw01_OrderReads.j1 (k + 1) y0 y1 y2 y3 y4 y5 y6 y7 y8 y9 y10)) ∧ (∀ y0 y1 y2 y3 y4 y5 y6 y7 y8 y9, LeO (graverlaw01_OrderReads.j4 k y0 y1 y2 y3 y4 y5 y6 y7 y8 y9) (graverlaw01_OrderReads.j4 (k + 1) y0 y1 y2 y3 y4 y5 y6 y7 y8 y9)) ∧ (∀ y0 y1 y2 y3 y4 y5 y6 y7 y8 y9 y10 y11 y12, LeO (graverlaw01_OrderReads.j2 k y0 y1 y2 y3 y4 y5 y6 y7 y8 y9 y10 y11 y12) (graverlaw01_OrderReads.j2 (k + 1) y0 y1 y2 y3 y4 y5 y6 y7 y8 y9 y10 y11 y12)) ∧ (∀ y0 y1 y2 y3 y4 y5 y6 y7 y8 y9 y10 y11 y12, LeO (graverlaw01_OrderReads.j3 k y0 y1 y2 y3 y4 y5 y6 y7 y8 y9 y10 y11 y12) (graverlaw01_OrderReads.j3 (k + 1) y0 y1 y2 y3 y4 y5 y6 y7 y8 y9 y10 y11 y12))
 | 0 => ⟨fun _ _ _ _ _ _ _ _ _ _ r h => by simp [graverlaw01_OrderReads.l0] at h, fun _ _ _ _ _ _ _ _ _ _ _ r h => by simp [graverlaw01_OrderReads.j1] at h, fun _ _ _ _ _ _ _ _ _ _ r h => by simp [graverlaw01_OrderReads.j4] at h, fun _ _ _ _ _ _ _ _ _ _ _ _ _ r h => by simp [graverlaw01_OrderReads.j2] at h, fun _ _ _ _ _ _ _ _ _ _ _ _ _ r h => by simp [graverlaw01_OrderReads.j3] at h⟩
 | k + 1 => by
  obtain ⟨ih0, ih1, ih2, ih3, ih4⟩ := graverlaw01_OrderReads.mono_l k
  refine ⟨?_, ?_, ?_, ?_, ?_⟩
  ·
   intro y0 y1 y2 y3 y4 y5 y6 y7 y8 y9
   unfold graverlaw01_OrderReads.l0
   repeat' first
   | (with_reducible exact ih0 _ _ _ _ _ _ _ _ _ _)
   | (with_reducible exact ih1 _ _ _ _ _ _ _ _ _ _ _)
   | (with_reducible exact ih2 _ _ _ _ _ _ _ _ _ _)
   | (with_reducible exact ih3 _ _ _ _ _ _ _ _ _ _ _ _ _)
   | (with_reducible exact ih4 _ _ _ _ _ _ _ _ _ _ _ _ _)
   | (with_reducible exact graverlaw01_speaks.mono _)
   | (with_reducible exact graverref01_Get.mono _ _ _)
   | (with_reducible exact order_Reader_Next.mono _ _ _ _ _ _)
   | (with_reducible exact LeO.refl _)
   | (with_reducible exact LeO.none _)
   | (with_reducible refine LeO.ite ?_ ?_)
   | (with_reducible refine LeO.bind ?_ (fun _ => ?_))
   | exact ih0 _ _ _ _ _ _ _ _ _ _
   | exact ih1 _ _ _ _ _ _ _ _ _ _ _
   | exact ih2 _ _ _ _ _ _ _ _ _ _
   | exact ih3 _ _ _ _ _ _ _ _ _ _ _ _ _
   | exact ih4 _ _ _ _ _ _ _ _ _ _ _ _ _
   | exact graverlaw01_speaks.mono _
   | exact graverref01_Get.mono _ _ _
   | exact order_Reader_Next.mono _ _ _ _ _ _
   | exact LeO.none _
   | refine LeO.ite ?_ ?_
   | refine LeO.bind ?_ (fun _ => ?_)
  ·
   intro y0 y1 y2 y3 y4 y5 y6 y7 y8 y9 y10
   unfold graverlaw01_OrderReads.j1
   repeat' first
   | (with_reducible exact ih0 _ _ _ _ _ _ _ _ _ _)
   | (with_reducible exact ih1 _ _ _ _ _ _ _ _ _ _ _)
   | (with_reducible exact ih2 _ _ _ _ _ _ _ _ _ _)
   | (with_reducible exact ih3 _ _ _ _ _ _ _ _ _ _ _ _ _)
   | (with_reducible exact ih4 _ _ _ _ _ _ _ _ _ _ _ _ _)
   | (with_reducible exact graverlaw01_speaks.mono _)
   | (with_reducible exact graverref01_Get.mono _ _ _)
   | (with_reducible exact order_Reader_Next.mono _ _ _ _ _ _)
   | (with_reducible exact LeO.refl _)
   | (with_reducible exact LeO.none _)
   | (with_reducible refine LeO.ite ?_ ?_)
   | (with_reducible refine LeO.bind ?_ (fun _ => ?_))
   | exact ih0 _ _ _ _ _ _ _ _ _ _
   | exact ih1 _ _ _ _ _ _ _ _ _ _ _
   | exact ih2 _ _ _ _ _ _ _ _ _ _
   | exact ih3 _ _ _ _ _ _ _ _ _ _ _ _ _
   | exact ih4 _ _ _ _ _ _ _ _ _ _ _ _ _
   | exact graverlaw01_speaks.mono _
   | exact graverref01_Get.mono _ _ _
   | exact order_Reader_Next.mono _ _ _ _ _ _
   | exact LeO.none _
   | refine LeO.ite ?_ ?_
   | refine LeO.bind ?_ (fun _ => ?_)
  ·
   intro y0 y1 y2 y3 y4 y5 y6 y7 y8 y9
   unfold graverlaw01_OrderReads.j4
   repeat' first
   | (with_reducible exact ih0 _ _ _ _ _ _ _ _ _ _)
   | (with_reducible exact ih1 _ _ _ _ _ _ _ _ _ _ _)
   | (with_reducible exact ih2 _ _ _ _ _ _ _ _ _ _)
   | (with_reducible exact ih3 _ _ _ _ _ _ _ _ _ _ _ _ _)
   | (with_reducible exact ih4 _ _ _ _ _ _ _ _ _ _ _ _ _)
   | (with_reducible exact graverlaw01_speaks.mono _)
   | (with_reducible exact graverref01_Get.mono _ _ _)
   | (with_reducible exact order_Reader_Next.mono _ _ _ _ _ _)
   | (with_reducible exact LeO.refl _)
   | (with_reducible exact LeO.none _)
   | (with_reducible refine LeO.ite ?_ ?_)
   | (with_reducible refine LeO.bind ?_ (fun _ => ?_))
   | exact ih0 _ _ _ _ _ _ _ _ _ _
   | exact ih1 _ _ _ _ _ _ _ _ _ _ _
   | exact ih2 _ _ _ _ _ _ _ _ _ _
   | exact ih3 _ _ _ _ _ _ _ _ _ _ _ _ _
   | exact ih4 _ _ _ _ _ _ _ _ _ _ _ _ _
   | exact graverlaw01_speaks.mono _
   | exact graverref01_Get.mono _ _ _
   | exact order_Reader_Next.mono _ _ _ _ _ _
   | exact LeO.none _
   | refine LeO.ite ?_ ?_
   | refine LeO.bind ?_ (fun _ => ?_)
  ·
   intro y0 y1 y2 y3 y4 y5 y6 y7 y8 y9 y10 y11 y12
   unfold graverlaw01_OrderReads.j2
   repeat' first
   | (with_reducible exact ih0 _ _ _ _ _ _ _ _ _ _)
   | (with_reducible exact ih1 _ _ _ _ _ _ _ _ _ _ _)
   | (with_reducible exact ih2 _ _ _ _ _ _ _ _ _ _)
   | (with_reducible exact ih3 _ _ _ _ _ _ _ _ _ _ _ _ _)
   | (with_reducible exact ih4 _ _ _ _ _ _ _ _ _ _ _ _ _)
   | (with_reducible exact graverlaw01_speaks.mono _)
   | (with_reducible exact graverref01_Get.mono _ _ _)
   | (with_reducible exact order_Reader_Next.mono _ _ _ _ _ _)
   | (with_reducible exact LeO.refl _)
   | (with_reducible exact LeO.none _)
   | (with_reducible refine LeO.ite ?_ ?_)
   | (with_reducible refine LeO.bind ?_ (fun _ => ?_))
   | exact ih0 _ _ _ _ _ _ _ _ _ _
   | exact ih1 _ _ _ _ _ _ _ _ _ _ _
   | exact ih2 _ _ _ _ _ _ _ _ _ _
   | exact ih3 _ _ _ _ _ _ _ _ _ _ _ _ _
   | exact ih4 _ _ _ _ _ _ _ _ _ _ _ _ _
   | exact graverlaw01_speaks.mono _
   | exact graverref01_Get.mono _ _ _
   | exact order_Reader_Next.mono _ _ _ _ _ _
   | exact LeO.none _
   | refine LeO.ite ?_ ?_
   | refine LeO.bind ?_ (fun _ => ?_)
  ·
   intro y0 y1 y2 y3 y4 y5 y6 y7 y8 y9 y10 y11 y12
   unfold graverlaw01_OrderReads.j3
   repeat' first
   | (with_reducible exact ih0 _ _ _ _ _ _ _ _ _ _)
   | (with_reducible exact ih1 _ _ _ _ _ _ _ _ _ _ _)
   | (with_reducible exact ih2 _ _ _ _ _ _ _ _ _ _)
   | (with_reducible exact ih3 _ _ _ _ _ _ _ _ _ _ _ _ _)
   | (with_reducible exact ih4 _ _ _ _ _ _ _ _ _ _ _ _ _)
   | (with_reducible exact graverlaw01_speaks.mono _)
   | (with_reducible exact graverref01_Get.mono _ _ _)
   | (with_reducible exact order_Reader_Next.mono _ _ _ _ _ _)
   | (with_reducible exact LeO.refl _)
   | (with_reducible exact LeO.none _)
   | (with_reducible refine LeO.ite ?_ ?_)
   | (with_reducible refine LeO.bind ?_ (fun _ => ?_))
   | exact ih0 _ _ _ _ _ _ _ _ _ _
   | exact ih1 _ _ _ _ _ _ _ _ _ _ _
   | exact ih2 _ _ _ _ _ _ _ _ _ _
   | exact ih3 _ _ _ _ _ _ _ _ _ _ _ _ _
   | exact ih4 _ _ _ _ _ _ _ _ _ _ _ _ _
   | exact graverlaw01_speaks.mono _
   | exact graverref01_Get.mono _ _ _
   | exact order_Reader_Next.mono _ _ _ _ _ _
   | exact LeO.none _
   | refine LeO.ite ?_ ?_
   | refine LeO.bind ?_ (fun _ => ?_)
theorem graverlaw01_OrderReads.mono : ∀ a0 a1 a2 k, LeO (graverlaw01_OrderReads.f k a0 a1 a2) (graverlaw01_OrderReads.f (k + 1) a0 a1 a2) := by
 intro a0 a1 a2 k
 obtain ⟨ih0, ih1, ih2, ih3, ih4⟩ := graverlaw01_OrderReads.mono_l k
 unfold graverlaw01_OrderReads.f
 repeat' first
   | (with_reducible exact ih0 _ _ _ _ _ _ _ _ _ _)
   | (with_reducible exact ih1 _ _ _ _ _ _ _ _ _ _ _)
   | (with_reducible exact ih2 _ _ _ _ _ _ _ _ _ _)
   | (with_reducible exact ih3 _ _ _ _ _ _ _ _ _ _ _ _ _)
   | (with_reducible exact ih4 _ _ _ _ _ _ _ _ _ _ _ _ _)
   | (with_reducible exact graverlaw01_speaks.mono _)
   | (with_reducible exact graverref01_Get.mono _ _ _)
   | (with_reducible exact order_Reader_Next.mono _ _ _ _ _ _)
   | (with_reducible exact LeO.refl _)
   | (with_reducible exact LeO.none _)
   | (with_reducible refine LeO.ite ?_ ?_)
   | (with_reducible refine LeO.bind ?_ (fun _ => ?_))
   | exact ih0 _ _ _ _ _ _ _ _ _ _
   | exact ih1 _ _ _ _ _ _ _ _ _ _ _
   | exact ih2 _ _ _ _ _ _ _ _ _ _
   | exact ih3 _ _ _ _ _ _ _ _ _ _ _ _ _
   | exact ih4 _ _ _ _ _ _ _ _ _ _ _ _ _
   | exact graverlaw01_speaks.mono _
   | exact graverref01_Get.mono _ _ _
   | exact order_Reader_Next.mono _ _ _ _ _ _
   | exact LeO.none _
   | refine LeO.ite ?_ ?_
   | refine LeO.bind ?_ (fun _ => ?_)
def graverlaw01_OrderReads.T16 : Bool × List (List Nat × List Nat) := (true, [([], []), ([0], [0]), ([], []), ([], []), ([], []), ([], []), ([5], [5]), ([4, 6], [4, 6]), ([2, 3, 7], [2, 3, 7]), ([1, 8], [1, 8]), ([9, 9, 0, 1, 2, 3, 4, 5, 6, 7, 8, 9], [9])])
def graverlaw01_OrderReads.B16 : List Nat := [0, 1, 0, 0, 0, 0, 32, 112, 252, 511, 1023]
theorem graverlaw01_OrderReads.tab16 : rtab .any (opsOf Try.f5 16) = graverlaw01_OrderReads.T16 := by kernel_rfl
theorem graverlaw01_OrderReads.bits16 : waitsOk graverlaw01_OrderReads.T16.2 graverlaw01_OrderReads.B16 = true := by kernel_rfl
def graverlaw01_OrderReads.T31 : Bool × List (List Nat × List Nat) := (true, [([], []), ([0], [0]), ([], []), ([1, 2], [1, 2]), ([3, 1], [3]), ([4], [4]), ([5, 4, 4], [4, 5]), ([6, 4], [4, 6]), ([4], [4]), ([7, 8, 4], [4, 7, 8]), ([4, 9], [4, 9]), ([10, 6], [10]), ([11], [11]), ([12, 11, 11], [11, 12]), ([13, 11], [11, 13]), ([14, 13, 11], [11, 14]), ([15], [15]), ([16, 15], [15, 16]), ([15, 17, 11], [11, 15, 17]), ([11, 18], [11, 18]), ([19, 15], [19]), ([20], [20]), ([21, 20], [20, 21]), ([22, 20], [20, 22]), ([23, 20], [20, 23]), ([24, 20], [20, 24]), ([20], [20]), ([26, 20], [20, 26]), ([25, 27, 20], [20, 25, 27]), ([20, 28], [20, 28])])
def graverlaw01_OrderReads.B31 : List Nat := [0, 1, 0, 7, 15, 31, 63, 127, 31, 511, 1023, 2047, 4095, 8191, 16383, 32767, 65535, 131071, 262143, 524287, 1048575, 2097151, 4194303, 8388607, 16777215, 33554431, 2097151, 69206015, 268435455, 536870911]
theorem graverlaw01_OrderReads.tab31 : rtab .any (opsOf Try.f5 31) = graverlaw01_OrderReads.T31 := by kernel_rfl
theorem graverlaw01_OrderReads.bits31 : waitsOk graverlaw01_OrderReads.T31.2 graverlaw01_OrderReads.B31 = true := by kernel_rfl
set_option maxHeartbeats 8000000 in
set_option maxRecDepth 100000 in
theorem graverlaw01_OrderReads.calls (k : Nat) (a0 : ByteArray) (a1 : Int) (A2 : Option Addr) (c2 : Nat) (l2 : List Int) (r : Bool) (w : World) (hrt : r = true) (hr2 : Kd.C (Kd.int .i64) w A2 l2.length l2) (hc2 : l2.length ≤ c2) (h : graverlaw01_OrderReads.f k a0 a1 l2 = some r) :
  Calls Try.prog 5 #[.string a0, .int .u64 a1, .slice A2 l2.length c2] w fun e w' => e = .returned (.bool r) ∧ Below w.heap.size w w' := by
 have hu25 := Try.underlying25
 have HR2 := aS hr2
 have HC2 := aS hc2
 clear hr2 hc2
 have HB := aS (Below.refl w.heap.size w)
 have HRT := aS hrt
 clear hrt
 have H : ((graverlaw01_speaks.f k).bind fun t115 => (if t115 = true then (if 0 ≤ (mn (a0.size : Int) 200) then (if (mn (a0.size : Int) 200) ≤ (a0.size : Int) then ((order_Order_Read.f ((Go.bits .and .u64 a1 1) == 1) (a0.extract 0 ((mn (a0.size : Int) 200) : Int).toNat) a1).bind fun bt117 => (graverlaw01_OrderReads.l0 k (a0.extract 0 ((mn (a0.size : Int) 200) : Int).toNat) l2 a1 false 0 ((Go.bits .and .u64 a1 1) == 1) bt117.1 bt117.2.1 bt117.2.2.1 bt117.2.2.2)) else (none)) else (none)) else (some false))) = some r := h
 clear h
 replace H := Option.bind_eq_some_iff.mp H
 obtain ⟨t115, A40, H⟩ := H
 replace H : (if t115 = true then (if 0 ≤ (mn (a0.size : Int) 200) then (if (mn (a0.size : Int) 200) ≤ (a0.size : Int) then ((order_Order_Read.f ((Go.bits .and .u64 a1 1) == 1) (a0.extract 0 ((mn (a0.size : Int) 200) : Int).toNat) a1).bind fun bt117 => (graverlaw01_OrderReads.l0 k (a0.extract 0 ((mn (a0.size : Int) 200) : Int).toNat) l2 a1 false 0 ((Go.bits .and .u64 a1 1) == 1) bt117.1 bt117.2.1 bt117.2.2.1 bt117.2.2.2)) else (none)) else (none)) else (some false)) = some r := H
 have A4 := aS A40
 clear A40
 by_cases c5 : t115 = true
 ·
  subst c5
  have H1 : (if 0 ≤ (mn (a0.size : Int) 200) then (if (mn (a0.size : Int) 200) ≤ (a0.size : Int) then ((order_Order_Read.f ((Go.bits .and .u64 a1 1) == 1) (a0.extract 0 ((mn (a0.size : Int) 200) : Int).toNat) a1).bind fun bt117 => (graverlaw01_OrderReads.l0 k (a0.extract 0 ((mn (a0.size : Int) 200) : Int).toNat) l2 a1 false 0 ((Go.bits .and .u64 a1 1) == 1) bt117.1 bt117.2.1 bt117.2.2.1 bt117.2.2.2)) else (none)) else (none)) = some r := by rw [if_pos rfl] at H; exact H
  clear H
  have H := H1
  clear H1
  obtain ⟨ji6, hji6⟩ : ∃ j_ : Int, (mn (a0.size : Int) 200) = j_ := ⟨_, rfl⟩
  replace H : (if 0 ≤ (ji6) then (if (ji6) ≤ (a0.size : Int) then ((order_Order_Read.f ((Go.bits .and .u64 a1 1) == 1) (a0.extract 0 ((ji6) : Int).toNat) a1).bind fun bt117 => (graverlaw01_OrderReads.l0 k (a0.extract 0 ((ji6) : Int).toNat) l2 a1 false 0 ((Go.bits .and .u64 a1 1) == 1) bt117.1 bt117.2.1 bt117.2.2.1 bt117.2.2.2)) else (none)) else (none)) = some r := by first | (rw [hji6] at H; exact H) | (simp only [hji6] at H ⊢; exact H)
  (try rw [hji6] at A4)
  (try (have hji6h : ji6 ≤ 200 := by (rw [← hji6]; unfold mn; (repeat' split) <;> omega)))
  (try (have hji6g : ji6 ≤ 64 := by omega))
  (try (have hji6l : 0 ≤ ji6 := by (rw [← hji6]; unfold mn; (repeat' split) <;> omega)))
  (try (have hji6m : 0 ≤ ji6 := by omega))
  have hji6_ : (if 200 < (a0.size : Int) then 200 else (a0.size : Int)) = ji6 := hji6
  by_cases c7 : 0 ≤ (ji6)
  ·
   rw [if_pos c7] at H
   have c7b0 := eq_true c7
   have c7b1 : decide (0 ≤ (ji6)) = true := decide_eq_true c7
   clear c7
   by_cases c8 : (ji6) ≤ (a0.size : Int)
   ·
    rw [if_pos c8] at H
    have c8b0 := eq_true c8
    have c8b1 : decide ((ji6) ≤ (a0.size : Int)) = true := decide_eq_true c8
    clear c8
    obtain ⟨sc9, hsc9⟩ : ∃ s_ : ByteArray, (a0.extract 0 ((ji6) : Int).toNat) = s_ := ⟨_, rfl⟩
    replace H : ((order_Order_Read.f ((Go.bits .and .u64 a1 1) == 1) sc9 a1).bind fun bt117 => (graverlaw01_OrderReads.l0 k sc9 l2 a1 false 0 ((Go.bits .and .u64 a1 1) == 1) bt117.1 bt117.2.1 bt117.2.2.1 bt117.2.2.2)) = some r := by first | (rw [hsc9] at H; exact H) | (simp only [hsc9] at H ⊢; exact H) | exact H
    (try (have hsc9n := hsc9; simp only [Int.toNat_natCast] at hsc9n))
    obtain ⟨bl10, hbl10⟩ : ∃ s_ : Bool, (((Go.bits .and .u64 a1 1) == 1)) = s_ := ⟨_, rfl⟩
    replace H : ((order_Order_Read.f bl10 sc9 a1).bind fun bt117 => (graverlaw01_OrderReads.l0 k sc9 l2 a1 false 0 bl10 bt117.1 bt117.2.1 bt117.2.2.1 bt117.2.2.2)) = some r := by first | (rw [hbl10] at H; exact H) | (simp only [hbl10] at H ⊢; exact H) | exact H
    replace H := Option.bind_eq_some_iff.mp H
    obtain ⟨⟨t117, t118, t119, t120⟩, A110, H⟩ := H
    replace H : (graverlaw01_OrderReads.l0 k sc9 l2 a1 false 0 bl10 t117 t118 t119 t120) = some r := H
    have A11 := aS A110
    clear A110
    have H' := aS H
    clear H
    go_enter Try.func5, Try.ntmps5
    go_wp2_with (first | ((with_reducible refine gate_callee (f := 9) rfl ?_); refine goesL_ (some 20) rfl rfl Try.func9 (by kernel_rfl) rfl #[] rfl (by (try simp only [List.map_toArray, List.map_cons, List.map_nil]); first | done | rfl | (simp only [List.length_drop, List.length_take]; rfl)) ?_; (with_reducible refine (graverlaw01_speaks.calls k  true _ A4.out).mono ?_); rintro e w12 ⟨rfl, hb⟩; refine ⟨_, rfl, ?_⟩; have n0_ := aS (below_step (by repeat (first | (with_reducible first | exact HB.out | apply below_alloc | apply pw_below_drewN | apply below_drew1) | exact HB.out)) hb); clear HB; have HB := n0_; clear n0_; (try clear hb); (try clear hb2); (try clear hk); (try clear hi)) | ((with_reducible refine gate_dst (N := 7) rfl ?_); (try (refine gate_guard (by rfl) ?_; dsimp only)); refine box_event ?hg (N := 7) ?hd (cs := #[.bool false]) (t := 25) ?hr ?_; (case hd => rfl); (case hg => rfl); (case hr => (go_simp; try rfl)); intro gb116 hg w13 hbox hb; have n0_ := aS (below_step (by repeat (first | (with_reducible first | exact HB.out | apply below_alloc | apply pw_below_drewN | apply below_drew1) | exact HB.out)) hb); have n1_ := aS (hbox); have n2_ := aS ((by rw [hg]; exact (below_size (by repeat (first | (with_reducible first | exact HB.out | apply below_alloc | apply pw_below_drewN | apply below_drew1) | exact HB.out))) : w.heap.size ≤ gb116)); have n3_ := aS ((by rw [hg]; exact (below_size (by repeat (first | (with_reducible first | exact HB.out | apply below_alloc | apply pw_below_drewN | apply below_drew1) | exact HB.out))) : w.heap.size ≤ gb116)); clear HB; have HB := n0_; have BK116 := n1_; have GW116 := n2_; have GE116 := n3_; clear n0_ n1_ n2_ n3_; clear hb hbox hg; have hcz14_0 : w13.cell? ⟨gb116, 0, none⟩ = some (.bool false) := (blk_cell BK116.out 0).trans rfl; have hfz14_0 := blk_frozen BK116.out 0) | ((with_reducible refine gate_callee (f := 16) rfl ?_); refine goesL_ (some 34) rfl rfl Try.func16 (by kernel_rfl) rfl #[.agg #[.bool bl10], .string sc9, .int .u64 a1] rfl (by (try simp only [List.map_toArray, List.map_cons, List.map_nil]); first | done | rfl | (simp only [List.length_drop, List.length_take]; rfl)) ?_; (with_reducible refine (order_Order_Read.calls bl10 sc9 a1 t117 t118 t119 t120 w _ ?side1 A11.out).mono ?_); (case side1 => repeat (first | (with_reducible first | exact HB.out | apply eA | apply eN | apply eD | refine below_set ?_ GE116.out) | exact HB.out)); rintro e w15 ⟨g121, rfl, hi, hb, hb2⟩; refine ⟨_, rfl, ?_⟩; have n0_ := aS (blk_below (g := gb116) (o := .cells #[.bool bl10] 25 (0, 0)) (by (with_reducible repeat (first | apply bN | apply bD | apply bA)); refine blk_put (cs := #[.bool false]) ?_ 0 _ rfl; (with_reducible repeat (first | apply bN | apply bD | apply bA)); exact BK116.out) hb2); have n1_ := aS (hb); have n2_ := aS (hi); have n3_ := aS (IsS43.ne_blk hi (blk_below (g := gb116) (o := .cells #[.bool bl10] 25 (0, 0)) (by (with_reducible repeat (first | apply bN | apply bD | apply bA)); refine blk_put (cs := #[.bool false]) ?_ 0 _ rfl; (with_reducible repeat (first | apply bN | apply bD | apply bA)); exact BK116.out) hb2) (by decide)); have n4_ := aS (Ne.symm (IsS43.ne_blk hi (blk_below (g := gb116) (o := .cells #[.bool bl10] 25 (0, 0)) (by (with_reducible repeat (first | apply bN | apply bD | apply bA)); refine blk_put (cs := #[.bool false]) ?_ 0 _ rfl; (with_reducible repeat (first | apply bN | apply bD | apply bA)); exact BK116.out) hb2) (by decide))); clear BK116; clear HB; have BK116 := n0_; have HB := n1_; have HI121 := n2_; have NB121_116 := n3_; have NB116_121 := n4_; clear n0_ n1_ n2_ n3_ n4_; (try clear hb); (try clear hb2); (try clear hk); (try clear hi)))
    go_loopg [9, 10, 11] k (fun kq v9 v10 v11 w' => ∃ (x9_1 : Int) (x10_1 : Bool) (x11_1 : Int) (x122000_1 : Bool) (x122001_1 : ByteArray) (x122002_1 : Int) (x122003_1 : Bool), v9 = .int .u64 x9_1 ∧ v10 = .bool x10_1 ∧ v11 = .int .i64 x11_1 ∧ Aside0 (graverlaw01_OrderReads.l0 kq sc9 l2 x9_1 x10_1 x11_1 bl10 x122000_1 x122001_1 x122002_1 x122003_1 = some r) ∧ Aside0 (kq ≤ k) ∧ Aside0 (w'.heap[gb116]? = some (.cells #[.bool bl10] 25 (0, 0))) ∧ Aside0 (IsS43 w w' g121 x122000_1 x122001_1 x122002_1 x122003_1) ∧ Aside0 (Below w.heap.size w w'))
    case atStart => exact ⟨(a1), (false), (0), (t117), (t118), (t119), (t120), (by first | rfl | (simp; done) | (simp [*]; done)), (by first | rfl | (simp; done) | (simp [*]; done)), (by first | rfl | (simp; done) | (simp [*]; done)), H', ⟨Nat.le_refl _⟩, ⟨by (with_reducible repeat (first | apply bN | apply bD | apply bA)); exact BK116.out⟩, ⟨by repeat (first | (with_reducible first | exact HI121.out | apply IsS43.alloc | apply IsS43.drewN | apply IsS43.drew | apply IsS43.set_0 | apply IsS43.set_1 | apply IsS43.set_2 | apply IsS43.set_3 | refine IsS43.far ?_ NB121_116.out _) | exact HI121.out)⟩, ⟨by repeat (first | (with_reducible first | exact HB.out | apply eA | apply eN | apply eD | refine below_set ?_ (IsS43.ge HI121.out) | refine below_set ?_ GE116.out) | exact HB.out)⟩⟩
    case round =>
     clear H'
     try clear c1
     try clear c2
     try clear p2
     try clear c5
     try clear c7
     try clear c7b0
     try clear c7b1
     try clear c8
     try clear c8b0
     try clear c8b1
     try clear c9
     try clear hcz14_0
     try clear hfz14_0
     obtain ⟨x9_1, x10_1, x11_1, x122000_1, x122001_1, x122002_1, x122003_1, rfl, rfl, rfl, HA, HK1, BK116, HI121, HB⟩ := hrel
     cases gk with
     | zero => exact absurd HA.out (by simp [graverlaw01_OrderReads.l0])
     | succ k1 =>
      have H := HA.out
      clear HA
      simp only [graverlaw01_OrderReads.l0] at H
      have HC16 := aS H
      clear H
      go_upto_region 8 with (fail)
      go_cut [43] (fun v43 wc => ∃ (kq : Nat) (x43_15 : Bool), v43 = .bool x43_15 ∧ Aside0 (graverlaw01_OrderReads.j1 kq sc9 l2 x9_1 x10_1 x11_1 x43_15 bl10 x122000_1 x122001_1 x122002_1 x122003_1 = some r) ∧ Aside0 (kq ≤ k1) ∧ Aside0 (wc.heap[gb116]? = some (.cells #[.bool bl10] 25 (0, 0))) ∧ Aside0 (IsS43 w wc g121 x122000_1 x122001_1 x122002_1 x122003_1) ∧ Aside0 (Below w.heap.size w wc))
      case first =>
       have H := HC16.out
       clear HC16
       by_cases c17 : x11_1 < (l2.length : Int)
       ·
        rw [if_pos c17] at H
        have c17b0 : decide (x11_1 < (l2.length : Int)) = true := decide_eq_true c17
        clear c17
        (first | rw [c17b0] | (simp only [i64_w, i32_w]; rw [c17b0]) | skip)
        have H' := aS H
        clear H
        go_wp2
        go_meet
        case rel => exact ⟨_, (decide (x11_1 < 40)), (by first | rfl | (simp; done) | (simp [*]; done)), H', ⟨by have := HK1.out; first | omega | exact Nat.le_refl _⟩, ⟨by (with_reducible repeat (first | apply bN | apply bD | apply bA)); exact BK116.out⟩, ⟨by repeat (first | (with_reducible first | exact HI121.out | apply IsS43.alloc | apply IsS43.drewN | apply IsS43.drew | apply IsS43.set_0 | apply IsS43.set_1 | apply IsS43.set_2 | apply IsS43.set_3 | refine IsS43.far ?_ NB121_116.out _) | exact HI121.out)⟩, ⟨by repeat (first | (with_reducible first | exact HB.out | apply eA | apply eN | apply eD | refine below_set ?_ (IsS43.ge HI121.out) | refine below_set ?_ GE116.out) | exact HB.out)⟩⟩
       ·
        rw [if_neg c17] at H
        have c17b0 : decide (x11_1 < (l2.length : Int)) = false := decide_eq_false c17
        clear c17
        (first | rw [c17b0] | (simp only [i64_w, i32_w]; rw [c17b0]) | skip)
        have H' := aS H
        clear H
        go_wp2
        go_meet
        case rel => exact ⟨_, (false), (by first | rfl | (simp; done) | (simp [*]; done)), H', ⟨by have := HK1.out; first | omega | exact Nat.le_refl _⟩, ⟨by (with_reducible repeat (first | apply bN | apply bD | apply bA)); exact BK116.out⟩, ⟨by repeat (first | (with_reducible first | exact HI121.out | apply IsS43.alloc | apply IsS43.drewN | apply IsS43.drew | apply IsS43.set_0 | apply IsS43.set_1 | apply IsS43.set_2 | apply IsS43.set_3 | refine IsS43.far ?_ NB121_116.out _) | exact HI121.out)⟩, ⟨by repeat (first | (with_reducible first | exact HB.out | apply eA | apply eN | apply eD | refine below_set ?_ (IsS43.ge HI121.out) | refine below_set ?_ GE116.out) | exact HB.out)⟩⟩
      case rest =>
       clear HC16
       try clear c1
       try clear c2
       try clear p2
       try clear c5
       try clear c7
       try clear c7b0
       try clear c7b1
       try clear c8
       try clear c8b0
       try clear c8b1
       try clear c9
       try clear c16
       try clear c17
       try clear c17b0
       try clear hcz14_0
       try clear hfz14_0
       try clear p2
       obtain ⟨kq, x43_15, rfl, HA, HJ15, BK116, HI121, HB⟩ := hcut
       cases kq with
       | zero => exact absurd HA.out (by simp [graverlaw01_OrderReads.j1])
       | succ kj15 =>
        as_aux_lemma =>
         have H := HA.out
         clear HA
         simp only [graverlaw01_OrderReads.j1] at H
         by_cases c18 : x43_15 = true
         ·
          subst c18
          have H1 : (if 0 ≤ x11_1 then (if x11_1 < (l2.length : Int) then (if (rd l2 x11_1) < 9 then ((order_Reader_Next.f kj15 x122000_1 x122001_1 x122002_1 x122003_1 (rd l2 x11_1)).bind fun bt123 => (if x10_1 = true then (graverlaw01_OrderReads.j2 kj15 sc9 l2 x9_1 x10_1 x11_1 (rd l2 x11_1) bt123.1 false bl10 bt123.2.1 bt123.2.2.1 bt123.2.2.2.1 bt123.2.2.2.2) else (if (rd l2 x11_1) ≥ 1 then (if (rd l2 x11_1) ≤ 8 then (if x9_1 ≤ (IntKind.u64.wrap ((sc9.size : Int))) then (graverlaw01_OrderReads.j2 kj15 sc9 l2 x9_1 x10_1 x11_1 (rd l2 x11_1) bt123.1 (decide ((IntKind.u64.wrap (rd l2 x11_1)) ≤ (IntKind.u64.wrap ((IntKind.u64.wrap ((sc9.size : Int))) - x9_1)))) bl10 bt123.2.1 bt123.2.2.1 bt123.2.2.2.1 bt123.2.2.2.2) else (graverlaw01_OrderReads.j2 kj15 sc9 l2 x9_1 x10_1 x11_1 (rd l2 x11_1) bt123.1 false bl10 bt123.2.1 bt123.2.2.1 bt123.2.2.2.1 bt123.2.2.2.2)) else (graverlaw01_OrderReads.j2 kj15 sc9 l2 x9_1 x10_1 x11_1 (rd l2 x11_1) bt123.1 false bl10 bt123.2.1 bt123.2.2.1 bt123.2.2.2.1 bt123.2.2.2.2)) else (graverlaw01_OrderReads.j2 kj15 sc9 l2 x9_1 x10_1 x11_1 (rd l2 x11_1) bt123.1 false bl10 bt123.2.1 bt123.2.2.1 bt123.2.2.2.1 bt123.2.2.2.2)))) else ((order_Reader_Bytes.f x122000_1 x122001_1 x122002_1 x122003_1 (IntKind.u64.wrap (wrap64 ((rd l2 x11_1) - 9)))).bind fun bt129 => (if x10_1 = true then (graverlaw01_OrderReads.j3 kj15 sc9 l2 x9_1 x10_1 x11_1 (IntKind.u64.wrap (wrap64 ((rd l2 x11_1) - 9))) bt129.1 false bl10 bt129.2.1 bt129.2.2.1 bt129.2.2.2.1 bt129.2.2.2.2) else (if x9_1 ≤ (IntKind.u64.wrap ((sc9.size : Int))) then (graverlaw01_OrderReads.j3 kj15 sc9 l2 x9_1 x10_1 x11_1 (IntKind.u64.wrap (wrap64 ((rd l2 x11_1) - 9))) bt129.1 (decide ((IntKind.u64.wrap (wrap64 ((rd l2 x11_1) - 9))) ≤ (IntKind.u64.wrap ((IntKind.u64.wrap ((sc9.size : Int))) - x9_1)))) bl10 bt129.2.1 bt129.2.2.1 bt129.2.2.2.1 bt129.2.2.2.2) else (graverlaw01_OrderReads.j3 kj15 sc9 l2 x9_1 x10_1 x11_1 (IntKind.u64.wrap (wrap64 ((rd l2 x11_1) - 9))) bt129.1 false bl10 bt129.2.1 bt129.2.2.1 bt129.2.2.2.1 bt129.2.2.2.2))))) else (none)) else (none)) = some r := by rw [if_pos rfl] at H; exact H
          clear H
          have H := H1
          clear H1
          by_cases c19 : 0 ≤ x11_1
          ·
           rw [if_pos c19] at H
           have c19b0 : decide (0 ≤ x11_1) = true := decide_eq_true c19
           clear c19
           by_cases c20 : x11_1 < (l2.length : Int)
           ·
            rw [if_pos c20] at H
            have c20b0 : decide (x11_1 < (l2.length : Int)) = true := decide_eq_true c20
            clear c20
            have HC21 := aS H
            clear H
            have p122 : 0 ≤ (x11_1 : Int) := of_decide_eq_true (by first | (with_reducible assumption) | assumption)
            have q122 : x11_1 < (l2.length : Int) := of_decide_eq_true (by first | (with_reducible assumption) | assumption)
            obtain ⟨ad122, e122, hx122_0⟩ := Kd.at_int HR2.out x11_1 p122 q122
            cases e122
            replace hx122_0 := (HB.out.cell (World.block_lt_of_cell? w _ hx122_0)).trans hx122_0
            replace p122 := eq_true p122
            replace q122 := eq_true q122
            go_upto_if 51 with (fail)
            go_cut [9, 10] (fun v9 v10 wc => ∃ (kq : Nat) (x9_20 : Int) (x10_20 : Bool) (x122000_20 : Bool) (x122001_20 : ByteArray) (x122002_20 : Int) (x122003_20 : Bool), v9 = .int .u64 x9_20 ∧ v10 = .bool x10_20 ∧ Aside0 (graverlaw01_OrderReads.j4 kq sc9 l2 x9_20 x10_20 x11_1 bl10 x122000_20 x122001_20 x122002_20 x122003_20 = some r) ∧ Aside0 (kq ≤ kj15) ∧ Aside0 (wc.heap[gb116]? = some (.cells #[.bool bl10] 25 (0, 0))) ∧ Aside0 (IsS43 w wc g121 x122000_20 x122001_20 x122002_20 x122003_20) ∧ Aside0 (Below w.heap.size w wc))
            case first =>
             have H := HC21.out
             clear HC21
             by_cases c22 : (rd l2 x11_1) < 9
             ·
              rw [if_pos c22] at H
              have c22b0 : decide ((rd l2 x11_1) < 9) = true := decide_eq_true c22
              clear c22
              (first | rw [c22b0] | (simp only [i64_w, i32_w]; rw [c22b0]) | skip)
              replace H := Option.bind_eq_some_iff.mp H
              obtain ⟨⟨t123, t124, t125, t126, t127⟩, A230, H⟩ := H
              replace H : (if x10_1 = true then (graverlaw01_OrderReads.j2 kj15 sc9 l2 x9_1 x10_1 x11_1 (rd l2 x11_1) t123 false bl10 t124 t125 t126 t127) else (if (rd l2 x11_1) ≥ 1 then (if (rd l2 x11_1) ≤ 8 then (if x9_1 ≤ (IntKind.u64.wrap ((sc9.size : Int))) then (graverlaw01_OrderReads.j2 kj15 sc9 l2 x9_1 x10_1 x11_1 (rd l2 x11_1) t123 (decide ((IntKind.u64.wrap (rd l2 x11_1)) ≤ (IntKind.u64.wrap ((IntKind.u64.wrap ((sc9.size : Int))) - x9_1)))) bl10 t124 t125 t126 t127) else (graverlaw01_OrderReads.j2 kj15 sc9 l2 x9_1 x10_1 x11_1 (rd l2 x11_1) t123 false bl10 t124 t125 t126 t127)) else (graverlaw01_OrderReads.j2 kj15 sc9 l2 x9_1 x10_1 x11_1 (rd l2 x11_1) t123 false bl10 t124 t125 t126 t127)) else (graverlaw01_OrderReads.j2 kj15 sc9 l2 x9_1 x10_1 x11_1 (rd l2 x11_1) t123 false bl10 t124 t125 t126 t127))) = some r := H
              have A23 := aS A230
              clear A230
              have HC24 := aS H
              clear H
              go_upto_region 13 with (first | ((with_reducible refine gate_callee (f := 17) rfl ?_); refine goesL_ (some 54) rfl rfl Try.func17 (by kernel_rfl) rfl #[.pointer (some ⟨g121, 0, none⟩), .int .i64 (rd l2 x11_1)] rfl (by (try simp only [List.map_toArray, List.map_cons, List.map_nil]); first | done | rfl | (simp only [List.length_drop, List.length_take]; rfl)) ?_; (with_reducible refine (order_Reader_Next.calls kj15 g121 x122000_1 x122001_1 x122002_1 x122003_1 (rd l2 x11_1) t123 t124 t125 t126 t127 w _ ?side1 ?side2 A23.out).mono ?_); (case side1 => repeat (first | (with_reducible first | exact HI121.out | apply IsS43.alloc | apply IsS43.drewN | apply IsS43.drew | apply IsS43.set_0 | apply IsS43.set_1 | apply IsS43.set_2 | apply IsS43.set_3 | refine IsS43.far ?_ NB121_116.out _) | exact HI121.out)); (case side2 => repeat (first | (with_reducible first | exact HB.out | apply eA | apply eN | apply eD | refine below_set ?_ (IsS43.ge HI121.out) | refine below_set ?_ GE116.out) | exact HB.out)); rintro e w25 ⟨rfl, hi, hb, hk⟩; refine ⟨_, rfl, ?_⟩; have n0_ := aS (KeepBut.blk hk (g' := gb116) (o := .cells #[.bool bl10] 25 (0, 0)) (by (with_reducible repeat (first | apply bN | apply bD | apply bA)); exact BK116.out) NB116_121.out (by simp)); have n1_ := aS (hb); have n2_ := aS (hi); clear BK116; clear HB; clear HI121; have BK116 := n0_; have HB := n1_; have HI121 := n2_; clear n0_ n1_ n2_; (try clear hb); (try clear hb2); (try clear hk); (try clear hi)))
              (try simp only [Act.put, List.setIfInBounds_toArray, List.set_cons_zero, List.set_cons_succ])
              go_cut [14] (fun v14 wc => ∃ (kq : Nat) (x14_23 : Bool), v14 = .bool x14_23 ∧ Aside0 (graverlaw01_OrderReads.j2 kq sc9 l2 x9_1 x10_1 x11_1 (rd l2 x11_1) t123 x14_23 bl10 t124 t125 t126 t127 = some r) ∧ Aside0 (kq ≤ kj15) ∧ Aside0 (wc.heap[gb116]? = some (.cells #[.bool bl10] 25 (0, 0))) ∧ Aside0 (IsS43 w wc g121 t124 t125 t126 t127) ∧ Aside0 (Below w.heap.size w wc))
              case first =>
               have H := HC24.out
               clear HC24
               by_cases c26 : x10_1 = true
               ·
                subst c26
                have H1 : (graverlaw01_OrderReads.j2 kj15 sc9 l2 x9_1 true x11_1 (rd l2 x11_1) t123 false bl10 t124 t125 t126 t127) = some r := by rw [if_pos rfl] at H; exact H
                clear H
                have H := H1
                clear H1
                have H' := aS H
                clear H
                go_wp2
                go_meet
                case rel => exact ⟨_, (false), (by first | rfl | (simp; done) | (simp [*]; done)), H', ⟨by have := HK1.out; have := HJ15.out; first | omega | exact Nat.le_refl _⟩, ⟨by (with_reducible repeat (first | apply bN | apply bD | apply bA)); exact BK116.out⟩, ⟨by repeat (first | (with_reducible first | exact HI121.out | apply IsS43.alloc | apply IsS43.drewN | apply IsS43.drew | apply IsS43.set_0 | apply IsS43.set_1 | apply IsS43.set_2 | apply IsS43.set_3 | refine IsS43.far ?_ NB121_116.out _) | exact HI121.out)⟩, ⟨by repeat (first | (with_reducible first | exact HB.out | apply eA | apply eN | apply eD | refine below_set ?_ (IsS43.ge HI121.out) | refine below_set ?_ GE116.out) | exact HB.out)⟩⟩
               ·
                replace c26 := Bool.eq_false_iff.mpr c26
                subst c26
                have H1 : (if (rd l2 x11_1) ≥ 1 then (if (rd l2 x11_1) ≤ 8 then (if x9_1 ≤ (IntKind.u64.wrap ((sc9.size : Int))) then (graverlaw01_OrderReads.j2 kj15 sc9 l2 x9_1 false x11_1 (rd l2 x11_1) t123 (decide ((IntKind.u64.wrap (rd l2 x11_1)) ≤ (IntKind.u64.wrap ((IntKind.u64.wrap ((sc9.size : Int))) - x9_1)))) bl10 t124 t125 t126 t127) else (graverlaw01_OrderReads.j2 kj15 sc9 l2 x9_1 false x11_1 (rd l2 x11_1) t123 false bl10 t124 t125 t126 t127)) else (graverlaw01_OrderReads.j2 kj15 sc9 l2 x9_1 false x11_1 (rd l2 x11_1) t123 false bl10 t124 t125 t126 t127)) else (graverlaw01_OrderReads.j2 kj15 sc9 l2 x9_1 false x11_1 (rd l2 x11_1) t123 false bl10 t124 t125 t126 t127)) = some r := by rw [if_neg (show ¬ (false = true) by decide)] at H; exact H
                clear H
                have H := H1
                clear H1
                by_cases c27 : (rd l2 x11_1) ≥ 1
                ·
                 rw [if_pos c27] at H
                 have c27b0 : decide (1 ≤ (rd l2 x11_1)) = true := decide_eq_true c27
                 clear c27
                 (first | rw [c27b0] | (simp only [i64_w, i32_w]; rw [c27b0]) | skip)
                 by_cases c28 : (rd l2 x11_1) ≤ 8
                 ·
                  rw [if_pos c28] at H
                  have c28b0 : decide ((rd l2 x11_1) ≤ 8) = true := decide_eq_true c28
                  clear c28
                  by_cases c29 : x9_1 ≤ (IntKind.u64.wrap ((sc9.size : Int)))
                  ·
                   rw [if_pos c29] at H
                   have c29b0 : decide (x9_1 ≤ (IntKind.u64.wrap ((sc9.size : Int)))) = true := decide_eq_true c29
                   clear c29
                   have H' := aS H
                   clear H
                   go_wp2
                   go_meet
                   case rel => exact ⟨_, (decide ((IntKind.u64.wrap (rd l2 x11_1)) ≤ (IntKind.u64.wrap ((IntKind.u64.wrap ((sc9.size : Int))) - x9_1)))), (by first | rfl | (simp; done) | (simp [*]; done)), H', ⟨by have := HK1.out; have := HJ15.out; first | omega | exact Nat.le_refl _⟩, ⟨by (with_reducible repeat (first | apply bN | apply bD | apply bA)); exact BK116.out⟩, ⟨by repeat (first | (with_reducible first | exact HI121.out | apply IsS43.alloc | apply IsS43.drewN | apply IsS43.drew | apply IsS43.set_0 | apply IsS43.set_1 | apply IsS43.set_2 | apply IsS43.set_3 | refine IsS43.far ?_ NB121_116.out _) | exact HI121.out)⟩, ⟨by repeat (first | (with_reducible first | exact HB.out | apply eA | apply eN | apply eD | refine below_set ?_ (IsS43.ge HI121.out) | refine below_set ?_ GE116.out) | exact HB.out)⟩⟩
                  ·
                   rw [if_neg c29] at H
                   have c29b0 : decide (x9_1 ≤ (IntKind.u64.wrap ((sc9.size : Int)))) = false := decide_eq_false c29
                   clear c29
                   have H' := aS H
                   clear H
                   go_wp2
                   go_meet
                   case rel => exact ⟨_, (false), (by first | rfl | (simp; done) | (simp [*]; done)), H', ⟨by have := HK1.out; have := HJ15.out; first | omega | exact Nat.le_refl _⟩, ⟨by (with_reducible repeat (first | apply bN | apply bD | apply bA)); exact BK116.out⟩, ⟨by repeat (first | (with_reducible first | exact HI121.out | apply IsS43.alloc | apply IsS43.drewN | apply IsS43.drew | apply IsS43.set_0 | apply IsS43.set_1 | apply IsS43.set_2 | apply IsS43.set_3 | refine IsS43.far ?_ NB121_116.out _) | exact HI121.out)⟩, ⟨by repeat (first | (with_reducible first | exact HB.out | apply eA | apply eN | apply eD | refine below_set ?_ (IsS43.ge HI121.out) | refine below_set ?_ GE116.out) | exact HB.out)⟩⟩
                 ·
                  rw [if_neg c28] at H
                  have c28b0 : decide ((rd l2 x11_1) ≤ 8) = false := decide_eq_false c28
                  clear c28
                  have H' := aS H
                  clear H
                  go_wp2
                  go_meet
                  case rel => exact ⟨_, (false), (by first | rfl | (simp; done) | (simp [*]; done)), H', ⟨by have := HK1.out; have := HJ15.out; first | omega | exact Nat.le_refl _⟩, ⟨by (with_reducible repeat (first | apply bN | apply bD | apply bA)); exact BK116.out⟩, ⟨by repeat (first | (with_reducible first | exact HI121.out | apply IsS43.alloc | apply IsS43.drewN | apply IsS43.drew | apply IsS43.set_0 | apply IsS43.set_1 | apply IsS43.set_2 | apply IsS43.set_3 | refine IsS43.far ?_ NB121_116.out _) | exact HI121.out)⟩, ⟨by repeat (first | (with_reducible first | exact HB.out | apply eA | apply eN | apply eD | refine below_set ?_ (IsS43.ge HI121.out) | refine below_set ?_ GE116.out) | exact HB.out)⟩⟩
                ·
                 rw [if_neg c27] at H
                 have c27b0 : decide (1 ≤ (rd l2 x11_1)) = false := decide_eq_false c27
                 clear c27
                 (first | rw [c27b0] | (simp only [i64_w, i32_w]; rw [c27b0]) | skip)
                 have H' := aS H
                 clear H
                 go_wp2
                 go_meet
                 case rel => exact ⟨_, (false), (by first | rfl | (simp; done) | (simp [*]; done)), H', ⟨by have := HK1.out; have := HJ15.out; first | omega | exact Nat.le_refl _⟩, ⟨by (with_reducible repeat (first | apply bN | apply bD | apply bA)); exact BK116.out⟩, ⟨by repeat (first | (with_reducible first | exact HI121.out | apply IsS43.alloc | apply IsS43.drewN | apply IsS43.drew | apply IsS43.set_0 | apply IsS43.set_1 | apply IsS43.set_2 | apply IsS43.set_3 | refine IsS43.far ?_ NB121_116.out _) | exact HI121.out)⟩, ⟨by repeat (first | (with_reducible first | exact HB.out | apply eA | apply eN | apply eD | refine below_set ?_ (IsS43.ge HI121.out) | refine below_set ?_ GE116.out) | exact HB.out)⟩⟩
              case rest =>
               clear HC24
               try clear c1
               try clear p1
               try clear q1
               try clear hx1
               try clear c2
               try clear p2
               try clear c5
               try clear p6
               try clear c7
               try clear c7b0
               try clear c7b1
               try clear c8
               try clear c8b0
               try clear c8b1
               try clear c9
               try clear p12
               try clear q12
               try clear hx12
               try clear c16
               try clear c17
               try clear c17b0
               try clear c18
               try clear c19
               try clear c19b0
               try clear c20
               try clear c20b0
               try clear c22
               try clear c22b0
               try clear c26
               try clear c27
               try clear c27b0
               try clear c28
               try clear c28b0
               try clear c29
               try clear c29b0
               try clear hcz14_0
               try clear hfz14_0
               try clear hx122_0
               try clear p122
               try clear p2
               try clear q122
               obtain ⟨kq, x14_23, rfl, HA, HJ23, BK116, HI121, HB⟩ := hcut
               cases kq with
               | zero => exact absurd HA.out (by simp [graverlaw01_OrderReads.j2])
               | succ kj23 =>
                as_aux_lemma =>
                 have H := HA.out
                 clear HA
                 simp only [graverlaw01_OrderReads.j2] at H
                 by_cases c30 : x14_23 = true
                 ·
                  subst c30
                  have H1 : (if 0 ≤ x9_1 then (if x9_1 ≤ (IntKind.u64.wrap (x9_1 + (IntKind.u64.wrap ((rd l2 x11_1))))) then (if (IntKind.u64.wrap (x9_1 + (IntKind.u64.wrap ((rd l2 x11_1))))) ≤ (sc9.size : Int) then ((graverref01_Get.f kj23 bl10 (sc9.extract (x9_1 : Int).toNat ((IntKind.u64.wrap (x9_1 + (IntKind.u64.wrap ((rd l2 x11_1))))) : Int).toNat)).bind fun t128 => (if x10_1 = true then (if t123 = t128 then (graverlaw01_OrderReads.j4 kj23 sc9 l2 (IntKind.u64.wrap (x9_1 + (IntKind.u64.wrap ((rd l2 x11_1))))) true x11_1 bl10 t124 t125 t126 t127) else (some false)) else (if t123 = t128 then (graverlaw01_OrderReads.j4 kj23 sc9 l2 (IntKind.u64.wrap (x9_1 + (IntKind.u64.wrap ((rd l2 x11_1))))) (!true) x11_1 bl10 t124 t125 t126 t127) else (some false)))) else (none)) else (none)) else (none)) = some r := by rw [if_pos rfl] at H; exact H
                  clear H
                  have H := H1
                  clear H1
                  by_cases c31 : 0 ≤ x9_1
                  ·
                   rw [if_pos c31] at H
                   have c31b0 := eq_true c31
                   have c31b1 : decide (0 ≤ x9_1) = true := decide_eq_true c31
                   clear c31
                   by_cases c32 : x9_1 ≤ (IntKind.u64.wrap (x9_1 + (IntKind.u64.wrap ((rd l2 x11_1)))))
                   ·
                    rw [if_pos c32] at H
                    have c32b0 := eq_true c32
                    have c32b1 : decide (x9_1 ≤ (IntKind.u64.wrap (x9_1 + (IntKind.u64.wrap ((rd l2 x11_1)))))) = true := decide_eq_true c32
                    by_cases c33 : (IntKind.u64.wrap (x9_1 + (IntKind.u64.wrap ((rd l2 x11_1))))) ≤ (sc9.size : Int)
                    ·
                     rw [if_pos c33] at H
                     have c33b0 := eq_true c33
                     have c33b1 : decide ((IntKind.u64.wrap (x9_1 + (IntKind.u64.wrap ((rd l2 x11_1))))) ≤ (sc9.size : Int)) = true := decide_eq_true c33
                     obtain ⟨sc34, hsc34⟩ : ∃ s_ : ByteArray, (sc9.extract (x9_1 : Int).toNat ((IntKind.u64.wrap (x9_1 + (IntKind.u64.wrap ((rd l2 x11_1))))) : Int).toNat) = s_ := ⟨_, rfl⟩
                     replace H : ((graverref01_Get.f kj23 bl10 sc34).bind fun t128 => (if x10_1 = true then (if t123 = t128 then (graverlaw01_OrderReads.j4 kj23 sc9 l2 (IntKind.u64.wrap (x9_1 + (IntKind.u64.wrap ((rd l2 x11_1))))) true x11_1 bl10 t124 t125 t126 t127) else (some false)) else (if t123 = t128 then (graverlaw01_OrderReads.j4 kj23 sc9 l2 (IntKind.u64.wrap (x9_1 + (IntKind.u64.wrap ((rd l2 x11_1))))) (!true) x11_1 bl10 t124 t125 t126 t127) else (some false)))) = some r := by first | (rw [hsc34] at H; exact H) | (simp only [hsc34] at H ⊢; exact H) | exact H
                     (try (have hsc34n := hsc34; simp only [Int.toNat_natCast] at hsc34n))
                     replace H := Option.bind_eq_some_iff.mp H
                     obtain ⟨t128, A350, H⟩ := H
                     replace H : (if x10_1 = true then (if t123 = t128 then (graverlaw01_OrderReads.j4 kj23 sc9 l2 (IntKind.u64.wrap (x9_1 + (IntKind.u64.wrap ((rd l2 x11_1))))) true x11_1 bl10 t124 t125 t126 t127) else (some false)) else (if t123 = t128 then (graverlaw01_OrderReads.j4 kj23 sc9 l2 (IntKind.u64.wrap (x9_1 + (IntKind.u64.wrap ((rd l2 x11_1))))) (!true) x11_1 bl10 t124 t125 t126 t127) else (some false))) = some r := H
                     have A35 := aS A350
                     clear A350
                     by_cases c36 : x10_1 = true
                     ·
                      subst c36
                      have H1 : (if t123 = t128 then (graverlaw01_OrderReads.j4 kj23 sc9 l2 (IntKind.u64.wrap (x9_1 + (IntKind.u64.wrap ((rd l2 x11_1))))) true x11_1 bl10 t124 t125 t126 t127) else (some false)) = some r := by rw [if_pos rfl] at H; exact H
                      clear H
                      have H := H1
                      clear H1
                      by_cases c37 : t123 = t128
                      ·
                       rw [if_pos c37] at H
                       have c37b0 : (t123 == t128) = true := beq_iff_eq.mpr c37
                       have c37b1 : (t123 != t128) = false := bne_eq_false_iff_eq.mpr c37
                       clear c37
                       have H' := aS H
                       clear H
                       try go_wp2
                       have n0_ := aS (blk_drew BK116.out)
                       have n1_ := aS (IsS43.drew HI121.out)
                       have n2_ := aS (below_drew1 HB.out)
                       clear BK116
                       clear HI121
                       clear HB
                       have BK116 := n0_
                       have HI121 := n1_
                       have HB := n2_
                       clear n0_ n1_ n2_
                       refine start_ (n := 11) (S := fun w' => w'.cell? ⟨gb116, 0, none⟩ = some (.bool bl10)) (ds := []) #[false, false, false, false, false, false, false, false, false, false, false] (by kernel_rfl) rfl rfl ((blk_cell BK116.out 0).trans rfl) (fun hHeld => ?_); refine with_tabW graverlaw01_OrderReads.tab16 graverlaw01_OrderReads.bits16 (fun HT_ HW_ => ?_)
                       generalize wc.drew = w38 at BK116 HI121 HB hHeld ⊢
                       refine pure_ (i := 0) (N := some 83) (v := ?_) (a' := ?_) (bm 11 1) rfl rfl (any_of HT_.out (by kernel_rfl)) (fun _ _ _ h => h) (Or.inl ⟨by rfl, ?_⟩) ?_ ?_
                       rotate_left
                       ·
                        intro w'
                        go_simp
                        with_reducible rfl
                       rotate_left
                       ·
                        simp only [Act.put, aput]
                        rfl
                       refine pure_ (i := 2) (N := some 85) (v := ?_) (a' := ?_) (bm 11 5) rfl rfl (any_of HT_.out (by kernel_rfl)) (fun _ _ _ h => h) (Or.inl ⟨by rfl, ?_⟩) ?_ ?_
                       rotate_left
                       ·
                        intro w'
                        go_simp
                        with_reducible rfl
                       rotate_left
                       ·
                        simp only [Act.put, aput]
                        rfl
                       refine pure_ (i := 3) (N := some 86) (v := ?_) (a' := ?_) (bm 11 13) rfl rfl (any_of HT_.out (by kernel_rfl)) (fun _ _ _ h => h) (Or.inl ⟨by rfl, ?_⟩) ?_ ?_
                       rotate_left
                       ·
                        intro w'
                        go_simp
                        with_reducible rfl
                       rotate_left
                       ·
                        simp only [Act.put, aput]
                        rfl
                       refine pure_ (i := 4) (N := some 87) (v := ?_) (a' := ?_) (bm 11 29) rfl rfl (any_of HT_.out (by kernel_rfl)) (fun _ _ _ h => h) (Or.inl ⟨by rfl, ?_⟩) ?_ ?_
                       rotate_left
                       ·
                        intro w'
                        go_simp
                        with_reducible rfl
                       rotate_left
                       ·
                        simp only [Act.put, aput]
                        rfl
                       refine pure_ (i := 5) (N := some 88) (v := ?_) (a' := ?_) (bm 11 61) rfl rfl (any_of HT_.out (by kernel_rfl)) (fun _ _ _ h => h) (Or.inl ⟨by rfl, ?_⟩) ?_ ?_
                       rotate_left
                       ·
                        intro w'
                        go_simp
                        with_reducible rfl
                       rotate_left
                       ·
                        simp only [Act.put, aput]
                        rfl
                       refine pure_ (i := 6) (N := some 89) (v := ?_) (a' := ?_) (bm 11 125) rfl rfl (any_of HT_.out (by kernel_rfl)) (fun _ _ _ h => h) (Or.inl ⟨by rfl, ?_⟩) ?_ ?_
                       rotate_left
                       ·
                        intro w'
                        go_simp
                        with_reducible rfl
                       rotate_left
                       ·
                        simp only [Act.put, aput]
                        rfl
                       refine pure_ (i := 7) (N := some 90) (v := ?_) (a' := ?_) (bm 11 253) rfl rfl (any_of HT_.out (by kernel_rfl)) (fun _ _ _ h => h) (Or.inl ⟨by rfl, ?_⟩) ?_ ?_
                       rotate_left
                       ·
                        intro w'
                        go_simp
                        with_reducible rfl
                       rotate_left
                       ·
                        simp only [Act.put, aput]
                        rfl
                       refine pure_ (i := 8) (N := some 91) (v := ?_) (a' := ?_) (bm 11 509) rfl rfl (any_of HT_.out (by kernel_rfl)) (fun _ _ _ h => h) (Or.inl ⟨by rfl, ?_⟩) ?_ ?_
                       rotate_left
                       ·
                        intro w'
                        go_simp
                        with_reducible rfl
                       rotate_left
                       ·
                        simp only [Act.put, aput]
                        rfl
                       refine take_ (i := 1) (N := some 84) (v := ?_) (a' := ?_) (bm 11 511) rfl rfl (take_ofW HT_.out HW_.out (by kernel_rfl)) (fun _ _ _ h => h) (Or.inl ⟨by rfl, ?_⟩) hHeld ?_ ?_
                       rotate_left
                       ·
                        intro w' s0
                        go_simp
                        with_reducible rfl
                       rotate_left
                       ·
                        simp only [Act.put, aput]
                        rfl
                       refine one_ (i := 9) (N := some 92) (bm 11 1023) rfl rfl (one_of HT_.out (by kernel_rfl)) (by decide) (fun K hK => ?_)
                       refine goes_ Try.func13 (by kernel_rfl) rfl #[.bool bl10, .string sc34] (by rfl) rfl rfl (by (try simp only [List.map_toArray, List.map_cons, List.map_nil]); first | done | rfl | (simp only [List.length_drop, List.length_take]; rfl)) ?_
                       with_reducible refine (graverref01_Get.calls kj23 bl10 sc34 t128 _ A35.out).mono ?_
                       rintro e w' ⟨rfl, ⟨nd, rfl⟩⟩
                       refine ⟨_, rfl, ?_⟩
                       refine hK.out _ _ ((blk_cell BK116.out 0).trans rfl) (fun hHeld => ?_)
                       clear hK K
                       refine norm_ (a' := ?_) ?_ ?_
                       rotate_left
                       ·
                        show Act.put _ (some 92) _ = _
                        simp only [Act.put, aput]
                        rfl
                       refine pure_ (i := 10) (N := some 15) (v := ?_) (a' := ?_) (bm 11 2047) rfl rfl (any_of HT_.out (by kernel_rfl)) (fun _ _ _ h => h) (Or.inl ⟨by rfl, ?_⟩) ?_ ?_
                       rotate_left
                       ·
                        intro w'
                        go_simp
                        with_reducible rfl
                       rotate_left
                       ·
                        simp only [Act.put, aput]
                        rfl
                       refine done_ (done_of HT_.out (by kernel_rfl)) ?_
                       try go_wp2
                       go_meet
                       case rel => exact ⟨_, (IntKind.u64.wrap (x9_1 + (IntKind.u64.wrap ((rd l2 x11_1))))), (true), (t124), (t125), (t126), (t127), (by first | rfl | (simp; done) | (simp [*]; done)), (by first | rfl | (simp; done) | (simp [*]; done)), H', ⟨by have := HK1.out; have := HJ15.out; have := HJ23.out; first | omega | exact Nat.le_refl _⟩, ⟨by (with_reducible repeat (first | apply bN | apply bD | apply bA)); exact BK116.out⟩, ⟨by repeat (first | (with_reducible first | exact HI121.out | apply IsS43.alloc | apply IsS43.drewN | apply IsS43.drew | apply IsS43.set_0 | apply IsS43.set_1 | apply IsS43.set_2 | apply IsS43.set_3 | refine IsS43.far ?_ NB121_116.out _) | exact HI121.out)⟩, ⟨by repeat (first | (with_reducible first | exact HB.out | apply eA | apply eN | apply eD | refine below_set ?_ (IsS43.ge HI121.out) | refine below_set ?_ GE116.out) | exact HB.out)⟩⟩
                      ·
                       rw [if_neg c37] at H
                       have c37b0 : (t123 == t128) = false := beq_eq_false_iff_ne.mpr c37
                       have c37b1 : (t123 != t128) = true := bne_iff_ne.mpr c37
                       exact absurd ((Option.some.inj H).trans HRT.out) (by decide)
                     ·
                      replace c36 := Bool.eq_false_iff.mpr c36
                      subst c36
                      have H1 : (if t123 = t128 then (graverlaw01_OrderReads.j4 kj23 sc9 l2 (IntKind.u64.wrap (x9_1 + (IntKind.u64.wrap ((rd l2 x11_1))))) (!true) x11_1 bl10 t124 t125 t126 t127) else (some false)) = some r := by rw [if_neg (show ¬ (false = true) by decide)] at H; exact H
                      clear H
                      have H := H1
                      clear H1
                      by_cases c39 : t123 = t128
                      ·
                       rw [if_pos c39] at H
                       have c39b0 : (t123 == t128) = true := beq_iff_eq.mpr c39
                       have c39b1 : (t123 != t128) = false := bne_eq_false_iff_eq.mpr c39
                       clear c39
                       have H' := aS H
                       clear H
                       try go_wp2
                       have n0_ := aS (blk_drew BK116.out)
                       have n1_ := aS (IsS43.drew HI121.out)
                       have n2_ := aS (below_drew1 HB.out)
                       clear BK116
                       clear HI121
                       clear HB
                       have BK116 := n0_
                       have HI121 := n1_
                       have HB := n2_
                       clear n0_ n1_ n2_
                       refine start_ (n := 11) (S := fun w' => w'.cell? ⟨gb116, 0, none⟩ = some (.bool bl10)) (ds := []) #[false, false, false, false, false, false, false, false, false, false, false] (by kernel_rfl) rfl rfl ((blk_cell BK116.out 0).trans rfl) (fun hHeld => ?_); refine with_tabW graverlaw01_OrderReads.tab16 graverlaw01_OrderReads.bits16 (fun HT_ HW_ => ?_)
                       generalize wc.drew = w40 at BK116 HI121 HB hHeld ⊢
                       refine pure_ (i := 0) (N := some 83) (v := ?_) (a' := ?_) (bm 11 1) rfl rfl (any_of HT_.out (by kernel_rfl)) (fun _ _ _ h => h) (Or.inl ⟨by rfl, ?_⟩) ?_ ?_
                       rotate_left
                       ·
                        intro w'
                        go_simp
                        with_reducible rfl
                       rotate_left
                       ·
                        simp only [Act.put, aput]
                        rfl
                       refine pure_ (i := 2) (N := some 85) (v := ?_) (a' := ?_) (bm 11 5) rfl rfl (any_of HT_.out (by kernel_rfl)) (fun _ _ _ h => h) (Or.inl ⟨by rfl, ?_⟩) ?_ ?_
                       rotate_left
                       ·
                        intro w'
                        go_simp
                        with_reducible rfl
                       rotate_left
                       ·
                        simp only [Act.put, aput]
                        rfl
                       refine pure_ (i := 3) (N := some 86) (v := ?_) (a' := ?_) (bm 11 13) rfl rfl (any_of HT_.out (by kernel_rfl)) (fun _ _ _ h => h) (Or.inl ⟨by rfl, ?_⟩) ?_ ?_
                       rotate_left
                       ·
                        intro w'
                        go_simp
                        with_reducible rfl
                       rotate_left
                       ·
                        simp only [Act.put, aput]
                        rfl
                       refine pure_ (i := 4) (N := some 87) (v := ?_) (a' := ?_) (bm 11 29) rfl rfl (any_of HT_.out (by kernel_rfl)) (fun _ _ _ h => h) (Or.inl ⟨by rfl, ?_⟩) ?_ ?_
                       rotate_left
                       ·
                        intro w'
                        go_simp
                        with_reducible rfl
                       rotate_left
                       ·
                        simp only [Act.put, aput]
                        rfl
                       refine pure_ (i := 5) (N := some 88) (v := ?_) (a' := ?_) (bm 11 61) rfl rfl (any_of HT_.out (by kernel_rfl)) (fun _ _ _ h => h) (Or.inl ⟨by rfl, ?_⟩) ?_ ?_
                       rotate_left
                       ·
                        intro w'
                        go_simp
                        with_reducible rfl
                       rotate_left
                       ·
                        simp only [Act.put, aput]
                        rfl
                       refine pure_ (i := 6) (N := some 89) (v := ?_) (a' := ?_) (bm 11 125) rfl rfl (any_of HT_.out (by kernel_rfl)) (fun _ _ _ h => h) (Or.inl ⟨by rfl, ?_⟩) ?_ ?_
                       rotate_left
                       ·
                        intro w'
                        go_simp
                        with_reducible rfl
                       rotate_left
                       ·
                        simp only [Act.put, aput]
                        rfl
                       refine pure_ (i := 7) (N := some 90) (v := ?_) (a' := ?_) (bm 11 253) rfl rfl (any_of HT_.out (by kernel_rfl)) (fun _ _ _ h => h) (Or.inl ⟨by rfl, ?_⟩) ?_ ?_
                       rotate_left
                       ·
                        intro w'
                        go_simp
                        with_reducible rfl
                       rotate_left
                       ·
                        simp only [Act.put, aput]
                        rfl
                       refine pure_ (i := 8) (N := some 91) (v := ?_) (a' := ?_) (bm 11 509) rfl rfl (any_of HT_.out (by kernel_rfl)) (fun _ _ _ h => h) (Or.inl ⟨by rfl, ?_⟩) ?_ ?_
                       rotate_left
                       ·
                        intro w'
                        go_simp
                        with_reducible rfl
                       rotate_left
                       ·
                        simp only [Act.put, aput]
                        rfl
                       refine take_ (i := 1) (N := some 84) (v := ?_) (a' := ?_) (bm 11 511) rfl rfl (take_ofW HT_.out HW_.out (by kernel_rfl)) (fun _ _ _ h => h) (Or.inl ⟨by rfl, ?_⟩) hHeld ?_ ?_
                       rotate_left
                       ·
                        intro w' s0
                        go_simp
                        with_reducible rfl
                       rotate_left
                       ·
                        simp only [Act.put, aput]
                        rfl
                       refine one_ (i := 9) (N := some 92) (bm 11 1023) rfl rfl (one_of HT_.out (by kernel_rfl)) (by decide) (fun K hK => ?_)
                       refine goes_ Try.func13 (by kernel_rfl) rfl #[.bool bl10, .string sc34] (by rfl) rfl rfl (by (try simp only [List.map_toArray, List.map_cons, List.map_nil]); first | done | rfl | (simp only [List.length_drop, List.length_take]; rfl)) ?_
                       with_reducible refine (graverref01_Get.calls kj23 bl10 sc34 t128 _ A35.out).mono ?_
                       rintro e w' ⟨rfl, ⟨nd, rfl⟩⟩
                       refine ⟨_, rfl, ?_⟩
                       refine hK.out _ _ ((blk_cell BK116.out 0).trans rfl) (fun hHeld => ?_)
                       clear hK K
                       refine norm_ (a' := ?_) ?_ ?_
                       rotate_left
                       ·
                        show Act.put _ (some 92) _ = _
                        simp only [Act.put, aput]
                        rfl
                       refine pure_ (i := 10) (N := some 15) (v := ?_) (a' := ?_) (bm 11 2047) rfl rfl (any_of HT_.out (by kernel_rfl)) (fun _ _ _ h => h) (Or.inl ⟨by rfl, ?_⟩) ?_ ?_
                       rotate_left
                       ·
                        intro w'
                        go_simp
                        with_reducible rfl
                       rotate_left
                       ·
                        simp only [Act.put, aput]
                        rfl
                       refine done_ (done_of HT_.out (by kernel_rfl)) ?_
                       try go_wp2
                       go_meet
                       case rel => exact ⟨_, (IntKind.u64.wrap (x9_1 + (IntKind.u64.wrap ((rd l2 x11_1))))), (!true), (t124), (t125), (t126), (t127), (by first | rfl | (simp; done) | (simp [*]; done)), (by first | rfl | (simp; done) | (simp [*]; done)), H', ⟨by have := HK1.out; have := HJ15.out; have := HJ23.out; first | omega | exact Nat.le_refl _⟩, ⟨by (with_reducible repeat (first | apply bN | apply bD | apply bA)); exact BK116.out⟩, ⟨by repeat (first | (with_reducible first | exact HI121.out | apply IsS43.alloc | apply IsS43.drewN | apply IsS43.drew | apply IsS43.set_0 | apply IsS43.set_1 | apply IsS43.set_2 | apply IsS43.set_3 | refine IsS43.far ?_ NB121_116.out _) | exact HI121.out)⟩, ⟨by repeat (first | (with_reducible first | exact HB.out | apply eA | apply eN | apply eD | refine below_set ?_ (IsS43.ge HI121.out) | refine below_set ?_ GE116.out) | exact HB.out)⟩⟩
                      ·
                       rw [if_neg c39] at H
                       have c39b0 : (t123 == t128) = false := beq_eq_false_iff_ne.mpr c39
                       have c39b1 : (t123 != t128) = true := bne_iff_ne.mpr c39
                       exact absurd ((Option.some.inj H).trans HRT.out) (by decide)
                    ·
                     rw [if_neg c33] at H
                     exact absurd H (by simp)
                   ·
                    rw [if_neg c32] at H
                    exact absurd H (by simp)
                  ·
                   rw [if_neg c31] at H
                   exact absurd H (by simp)
                 ·
                  replace c30 := Bool.eq_false_iff.mpr c30
                  subst c30
                  have H1 : (if x10_1 = true then (if t123 = 0 then (graverlaw01_OrderReads.j4 kj23 sc9 l2 x9_1 true x11_1 bl10 t124 t125 t126 t127) else (some false)) else (if t123 = 0 then (graverlaw01_OrderReads.j4 kj23 sc9 l2 x9_1 (!false) x11_1 bl10 t124 t125 t126 t127) else (some false))) = some r := by rw [if_neg (show ¬ (false = true) by decide)] at H; exact H
                  clear H
                  have H := H1
                  clear H1
                  by_cases c41 : x10_1 = true
                  ·
                   subst c41
                   have H1 : (if t123 = 0 then (graverlaw01_OrderReads.j4 kj23 sc9 l2 x9_1 true x11_1 bl10 t124 t125 t126 t127) else (some false)) = some r := by rw [if_pos rfl] at H; exact H
                   clear H
                   have H := H1
                   clear H1
                   by_cases c42 : t123 = 0
                   ·
                    rw [if_pos c42] at H
                    have c42b0 : (t123 == 0) = true := beq_iff_eq.mpr c42
                    have c42b1 : (t123 != 0) = false := bne_eq_false_iff_eq.mpr c42
                    clear c42
                    have H' := aS H
                    clear H
                    go_wp2
                    go_meet
                    case rel => exact ⟨_, (x9_1), (true), (t124), (t125), (t126), (t127), (by first | rfl | (simp; done) | (simp [*]; done)), (by first | rfl | (simp; done) | (simp [*]; done)), H', ⟨by have := HK1.out; have := HJ15.out; have := HJ23.out; first | omega | exact Nat.le_refl _⟩, ⟨by (with_reducible repeat (first | apply bN | apply bD | apply bA)); exact BK116.out⟩, ⟨by repeat (first | (with_reducible first | exact HI121.out | apply IsS43.alloc | apply IsS43.drewN | apply IsS43.drew | apply IsS43.set_0 | apply IsS43.set_1 | apply IsS43.set_2 | apply IsS43.set_3 | refine IsS43.far ?_ NB121_116.out _) | exact HI121.out)⟩, ⟨by repeat (first | (with_reducible first | exact HB.out | apply eA | apply eN | apply eD | refine below_set ?_ (IsS43.ge HI121.out) | refine below_set ?_ GE116.out) | exact HB.out)⟩⟩
                   ·
                    rw [if_neg c42] at H
                    have c42b0 : (t123 == 0) = false := beq_eq_false_iff_ne.mpr c42
                    have c42b1 : (t123 != 0) = true := bne_iff_ne.mpr c42
                    exact absurd ((Option.some.inj H).trans HRT.out) (by decide)
                  ·
                   replace c41 := Bool.eq_false_iff.mpr c41
                   subst c41
                   have H1 : (if t123 = 0 then (graverlaw01_OrderReads.j4 kj23 sc9 l2 x9_1 (!false) x11_1 bl10 t124 t125 t126 t127) else (some false)) = some r := by rw [if_neg (show ¬ (false = true) by decide)] at H; exact H
                   clear H
                   have H := H1
                   clear H1
                   by_cases c43 : t123 = 0
                   ·
                    rw [if_pos c43] at H
                    have c43b0 : (t123 == 0) = true := beq_iff_eq.mpr c43
                    have c43b1 : (t123 != 0) = false := bne_eq_false_iff_eq.mpr c43
                    clear c43
                    have H' := aS H
                    clear H
                    go_wp2
                    go_meet
                    case rel => exact ⟨_, (x9_1), (!false), (t124), (t125), (t126), (t127), (by first | rfl | (simp; done) | (simp [*]; done)), (by first | rfl | (simp; done) | (simp [*]; done)), H', ⟨by have := HK1.out; have := HJ15.out; have := HJ23.out; first | omega | exact Nat.le_refl _⟩, ⟨by (with_reducible repeat (first | apply bN | apply bD | apply bA)); exact BK116.out⟩, ⟨by repeat (first | (with_reducible first | exact HI121.out | apply IsS43.alloc | apply IsS43.drewN | apply IsS43.drew | apply IsS43.set_0 | apply IsS43.set_1 | apply IsS43.set_2 | apply IsS43.set_3 | refine IsS43.far ?_ NB121_116.out _) | exact HI121.out)⟩, ⟨by repeat (first | (with_reducible first | exact HB.out | apply eA | apply eN | apply eD | refine below_set ?_ (IsS43.ge HI121.out) | refine below_set ?_ GE116.out) | exact HB.out)⟩⟩
                   ·
                    rw [if_neg c43] at H
                    have c43b0 : (t123 == 0) = false := beq_eq_false_iff_ne.mpr c43
                    have c43b1 : (t123 != 0) = true := bne_iff_ne.mpr c43
                    exact absurd ((Option.some.inj H).trans HRT.out) (by decide)
             ·
              rw [if_neg c22] at H
              have c22b0 : decide ((rd l2 x11_1) < 9) = false := decide_eq_false c22
              clear c22
              (first | rw [c22b0] | (simp only [i64_w, i32_w]; rw [c22b0]) | skip)
              replace H := Option.bind_eq_some_iff.mp H
              obtain ⟨⟨t129, t130, t131, t132, t133⟩, A440, H⟩ := H
              replace H : (if x10_1 = true then (graverlaw01_OrderReads.j3 kj15 sc9 l2 x9_1 x10_1 x11_1 (IntKind.u64.wrap (wrap64 ((rd l2 x11_1) - 9))) t129 false bl10 t130 t131 t132 t133) else (if x9_1 ≤ (IntKind.u64.wrap ((sc9.size : Int))) then (graverlaw01_OrderReads.j3 kj15 sc9 l2 x9_1 x10_1 x11_1 (IntKind.u64.wrap (wrap64 ((rd l2 x11_1) - 9))) t129 (decide ((IntKind.u64.wrap (wrap64 ((rd l2 x11_1) - 9))) ≤ (IntKind.u64.wrap ((IntKind.u64.wrap ((sc9.size : Int))) - x9_1)))) bl10 t130 t131 t132 t133) else (graverlaw01_OrderReads.j3 kj15 sc9 l2 x9_1 x10_1 x11_1 (IntKind.u64.wrap (wrap64 ((rd l2 x11_1) - 9))) t129 false bl10 t130 t131 t132 t133))) = some r := H
              have A44 := aS A440
              clear A440
              have HC45 := aS H
              clear H
              go_upto_region 23 with (first | ((with_reducible refine gate_callee (f := 18) rfl ?_); refine goesL_ (some 110) rfl rfl Try.func18 (by kernel_rfl) rfl #[.pointer (some ⟨g121, 0, none⟩), .int .u64 (IntKind.u64.wrap (wrap64 ((rd l2 x11_1) - 9)))] rfl (by (try simp only [List.map_toArray, List.map_cons, List.map_nil]); first | done | rfl | (simp only [List.length_drop, List.length_take]; rfl)) ?_; (with_reducible refine (order_Reader_Bytes.calls g121 x122000_1 x122001_1 x122002_1 x122003_1 (IntKind.u64.wrap (wrap64 ((rd l2 x11_1) - 9))) t129 t130 t131 t132 t133 w _ ?side1 ?side2 A44.out).mono ?_); (case side1 => repeat (first | (with_reducible first | exact HI121.out | apply IsS43.alloc | apply IsS43.drewN | apply IsS43.drew | apply IsS43.set_0 | apply IsS43.set_1 | apply IsS43.set_2 | apply IsS43.set_3 | refine IsS43.far ?_ NB121_116.out _) | exact HI121.out)); (case side2 => repeat (first | (with_reducible first | exact HB.out | apply eA | apply eN | apply eD | refine below_set ?_ (IsS43.ge HI121.out) | refine below_set ?_ GE116.out) | exact HB.out)); rintro e w46 ⟨rfl, hi, hb, hk⟩; refine ⟨_, rfl, ?_⟩; have n0_ := aS (KeepBut.blk hk (g' := gb116) (o := .cells #[.bool bl10] 25 (0, 0)) (by (with_reducible repeat (first | apply bN | apply bD | apply bA)); exact BK116.out) NB116_121.out (by simp)); have n1_ := aS (hb); have n2_ := aS (hi); clear BK116; clear HB; clear HI121; have BK116 := n0_; have HB := n1_; have HI121 := n2_; clear n0_ n1_ n2_; (try clear hb); (try clear hb2); (try clear hk); (try clear hi)))
              (try simp only [Act.put, List.setIfInBounds_toArray, List.set_cons_zero, List.set_cons_succ])
              go_cut [18] (fun v18 wc => ∃ (kq : Nat) (x18_44 : Bool), v18 = .bool x18_44 ∧ Aside0 (graverlaw01_OrderReads.j3 kq sc9 l2 x9_1 x10_1 x11_1 (IntKind.u64.wrap (wrap64 ((rd l2 x11_1) - 9))) t129 x18_44 bl10 t130 t131 t132 t133 = some r) ∧ Aside0 (kq ≤ kj15) ∧ Aside0 (wc.heap[gb116]? = some (.cells #[.bool bl10] 25 (0, 0))) ∧ Aside0 (IsS43 w wc g121 t130 t131 t132 t133) ∧ Aside0 (Below w.heap.size w wc))
              case first =>
               have H := HC45.out
               clear HC45
               by_cases c47 : x10_1 = true
               ·
                subst c47
                have H1 : (graverlaw01_OrderReads.j3 kj15 sc9 l2 x9_1 true x11_1 (IntKind.u64.wrap (wrap64 ((rd l2 x11_1) - 9))) t129 false bl10 t130 t131 t132 t133) = some r := by rw [if_pos rfl] at H; exact H
                clear H
                have H := H1
                clear H1
                have H' := aS H
                clear H
                go_wp2
                go_meet
                case rel => exact ⟨_, (false), (by first | rfl | (simp; done) | (simp [*]; done)), H', ⟨by have := HK1.out; have := HJ15.out; first | omega | exact Nat.le_refl _⟩, ⟨by (with_reducible repeat (first | apply bN | apply bD | apply bA)); exact BK116.out⟩, ⟨by repeat (first | (with_reducible first | exact HI121.out | apply IsS43.alloc | apply IsS43.drewN | apply IsS43.drew | apply IsS43.set_0 | apply IsS43.set_1 | apply IsS43.set_2 | apply IsS43.set_3 | refine IsS43.far ?_ NB121_116.out _) | exact HI121.out)⟩, ⟨by repeat (first | (with_reducible first | exact HB.out | apply eA | apply eN | apply eD | refine below_set ?_ (IsS43.ge HI121.out) | refine below_set ?_ GE116.out) | exact HB.out)⟩⟩
               ·
                replace c47 := Bool.eq_false_iff.mpr c47
                subst c47
                have H1 : (if x9_1 ≤ (IntKind.u64.wrap ((sc9.size : Int))) then (graverlaw01_OrderReads.j3 kj15 sc9 l2 x9_1 false x11_1 (IntKind.u64.wrap (wrap64 ((rd l2 x11_1) - 9))) t129 (decide ((IntKind.u64.wrap (wrap64 ((rd l2 x11_1) - 9))) ≤ (IntKind.u64.wrap ((IntKind.u64.wrap ((sc9.size : Int))) - x9_1)))) bl10 t130 t131 t132 t133) else (graverlaw01_OrderReads.j3 kj15 sc9 l2 x9_1 false x11_1 (IntKind.u64.wrap (wrap64 ((rd l2 x11_1) - 9))) t129 false bl10 t130 t131 t132 t133)) = some r := by rw [if_neg (show ¬ (false = true) by decide)] at H; exact H
                clear H
                have H := H1
                clear H1
                by_cases c48 : x9_1 ≤ (IntKind.u64.wrap ((sc9.size : Int)))
                ·
                 rw [if_pos c48] at H
                 have c48b0 : decide (x9_1 ≤ (IntKind.u64.wrap ((sc9.size : Int)))) = true := decide_eq_true c48
                 clear c48
                 (first | rw [c48b0] | (simp only [i64_w, i32_w]; rw [c48b0]) | skip)
                 have H' := aS H
                 clear H
                 go_wp2
                 go_meet
                 case rel => exact ⟨_, (decide ((IntKind.u64.wrap (wrap64 ((rd l2 x11_1) - 9))) ≤ (IntKind.u64.wrap ((IntKind.u64.wrap ((sc9.size : Int))) - x9_1)))), (by first | rfl | (simp; done) | (simp [*]; done)), H', ⟨by have := HK1.out; have := HJ15.out; first | omega | exact Nat.le_refl _⟩, ⟨by (with_reducible repeat (first | apply bN | apply bD | apply bA)); exact BK116.out⟩, ⟨by repeat (first | (with_reducible first | exact HI121.out | apply IsS43.alloc | apply IsS43.drewN | apply IsS43.drew | apply IsS43.set_0 | apply IsS43.set_1 | apply IsS43.set_2 | apply IsS43.set_3 | refine IsS43.far ?_ NB121_116.out _) | exact HI121.out)⟩, ⟨by repeat (first | (with_reducible first | exact HB.out | apply eA | apply eN | apply eD | refine below_set ?_ (IsS43.ge HI121.out) | refine below_set ?_ GE116.out) | exact HB.out)⟩⟩
                ·
                 rw [if_neg c48] at H
                 have c48b0 : decide (x9_1 ≤ (IntKind.u64.wrap ((sc9.size : Int)))) = false := decide_eq_false c48
                 clear c48
                 (first | rw [c48b0] | (simp only [i64_w, i32_w]; rw [c48b0]) | skip)
                 have H' := aS H
                 clear H
                 go_wp2
                 go_meet
                 case rel => exact ⟨_, (false), (by first | rfl | (simp; done) | (simp [*]; done)), H', ⟨by have := HK1.out; have := HJ15.out; first | omega | exact Nat.le_refl _⟩, ⟨by (with_reducible repeat (first | apply bN | apply bD | apply bA)); exact BK116.out⟩, ⟨by repeat (first | (with_reducible first | exact HI121.out | apply IsS43.alloc | apply IsS43.drewN | apply IsS43.drew | apply IsS43.set_0 | apply IsS43.set_1 | apply IsS43.set_2 | apply IsS43.set_3 | refine IsS43.far ?_ NB121_116.out _) | exact HI121.out)⟩, ⟨by repeat (first | (with_reducible first | exact HB.out | apply eA | apply eN | apply eD | refine below_set ?_ (IsS43.ge HI121.out) | refine below_set ?_ GE116.out) | exact HB.out)⟩⟩
              case rest =>
               clear HC45
               try clear c1
               try clear p1
               try clear q1
               try clear hx1
               try clear c2
               try clear p2
               try clear c3
               try clear c4
               try clear c5
               try clear p6
               try clear c7
               try clear c7b0
               try clear c7b1
               try clear c8
               try clear c8b0
               try clear c8b1
               try clear c9
               try clear p12
               try clear q12
               try clear hx12
               try clear c13
               try clear c16
               try clear c17
               try clear c17b0
               try clear c18
               try clear c19
               try clear c19b0
               try clear c20
               try clear c20b0
               try clear c22
               try clear c22b0
               try clear c26
               try clear c27
               try clear c27b0
               try clear c28
               try clear c28b0
               try clear c29
               try clear c29b0
               try clear c30
               try clear c31
               try clear c31b0
               try clear c31b1
               try clear c32
               try clear c32b0
               try clear c32b1
               try clear c33
               try clear c33b0
               try clear c33b1
               try clear c34
               try clear c36
               try clear c37
               try clear c37b0
               try clear c37b1
               try clear c39
               try clear c39b0
               try clear c39b1
               try clear c41
               try clear c42
               try clear c42b0
               try clear c42b1
               try clear c43
               try clear c43b0
               try clear c43b1
               try clear c47
               try clear c48
               try clear c48b0
               try clear hcz14_0
               try clear hfz14_0
               try clear hx122_0
               try clear p1
               try clear p12
               try clear p122
               try clear p2
               try clear p6
               try clear q1
               try clear q12
               try clear q122
               obtain ⟨kq, x18_44, rfl, HA, HJ44, BK116, HI121, HB⟩ := hcut
               cases kq with
               | zero => exact absurd HA.out (by simp [graverlaw01_OrderReads.j3])
               | succ kj44 =>
                as_aux_lemma =>
                 have H := HA.out
                 clear HA
                 simp only [graverlaw01_OrderReads.j3] at H
                 by_cases c49 : x18_44 = true
                 ·
                  subst c49
                  have H1 : (if 0 ≤ x9_1 then (if x9_1 ≤ (IntKind.u64.wrap (x9_1 + (IntKind.u64.wrap (wrap64 ((rd l2 x11_1) - 9))))) then (if (IntKind.u64.wrap (x9_1 + (IntKind.u64.wrap (wrap64 ((rd l2 x11_1) - 9))))) ≤ (sc9.size : Int) then (if x10_1 = true then (if t129.toList = (sc9.extract (x9_1 : Int).toNat ((IntKind.u64.wrap (x9_1 + (IntKind.u64.wrap (wrap64 ((rd l2 x11_1) - 9))))) : Int).toNat).toList then (graverlaw01_OrderReads.j4 kj44 sc9 l2 (IntKind.u64.wrap (x9_1 + (IntKind.u64.wrap (wrap64 ((rd l2 x11_1) - 9))))) true x11_1 bl10 t130 t131 t132 t133) else (some false)) else (if t129.toList = (sc9.extract (x9_1 : Int).toNat ((IntKind.u64.wrap (x9_1 + (IntKind.u64.wrap (wrap64 ((rd l2 x11_1) - 9))))) : Int).toNat).toList then (graverlaw01_OrderReads.j4 kj44 sc9 l2 (IntKind.u64.wrap (x9_1 + (IntKind.u64.wrap (wrap64 ((rd l2 x11_1) - 9))))) (!true) x11_1 bl10 t130 t131 t132 t133) else (some false))) else (none)) else (none)) else (none)) = some r := by rw [if_pos rfl] at H; exact H
                  clear H
                  have H := H1
                  clear H1
                  by_cases c50 : 0 ≤ x9_1
                  ·
                   rw [if_pos c50] at H
                   have c50b0 := eq_true c50
                   have c50b1 : decide (0 ≤ x9_1) = true := decide_eq_true c50
                   clear c50
                   by_cases c51 : x9_1 ≤ (IntKind.u64.wrap (x9_1 + (IntKind.u64.wrap (wrap64 ((rd l2 x11_1) - 9)))))
                   ·
                    rw [if_pos c51] at H
                    have c51b0 := eq_true c51
                    have c51b1 : decide (x9_1 ≤ (IntKind.u64.wrap (x9_1 + (IntKind.u64.wrap (wrap64 ((rd l2 x11_1) - 9)))))) = true := decide_eq_true c51
                    by_cases c52 : (IntKind.u64.wrap (x9_1 + (IntKind.u64.wrap (wrap64 ((rd l2 x11_1) - 9))))) ≤ (sc9.size : Int)
                    ·
                     rw [if_pos c52] at H
                     have c52b0 := eq_true c52
                     have c52b1 : decide ((IntKind.u64.wrap (x9_1 + (IntKind.u64.wrap (wrap64 ((rd l2 x11_1) - 9))))) ≤ (sc9.size : Int)) = true := decide_eq_true c52
                     obtain ⟨sc53, hsc53⟩ : ∃ s_ : ByteArray, (sc9.extract (x9_1 : Int).toNat ((IntKind.u64.wrap (x9_1 + (IntKind.u64.wrap (wrap64 ((rd l2 x11_1) - 9))))) : Int).toNat) = s_ := ⟨_, rfl⟩
                     replace H : (if x10_1 = true then (if t129.toList = sc53.toList then (graverlaw01_OrderReads.j4 kj44 sc9 l2 (IntKind.u64.wrap (x9_1 + (IntKind.u64.wrap (wrap64 ((rd l2 x11_1) - 9))))) true x11_1 bl10 t130 t131 t132 t133) else (some false)) else (if t129.toList = sc53.toList then (graverlaw01_OrderReads.j4 kj44 sc9 l2 (IntKind.u64.wrap (x9_1 + (IntKind.u64.wrap (wrap64 ((rd l2 x11_1) - 9))))) (!true) x11_1 bl10 t130 t131 t132 t133) else (some false))) = some r := by first | (rw [hsc53] at H; exact H) | (simp only [hsc53] at H ⊢; exact H) | exact H
                     (try (have hsc53n := hsc53; simp only [Int.toNat_natCast] at hsc53n))
                     by_cases c54 : x10_1 = true
                     ·
                      subst c54
                      have H1 : (if t129.toList = sc53.toList then (graverlaw01_OrderReads.j4 kj44 sc9 l2 (IntKind.u64.wrap (x9_1 + (IntKind.u64.wrap (wrap64 ((rd l2 x11_1) - 9))))) true x11_1 bl10 t130 t131 t132 t133) else (some false)) = some r := by rw [if_pos rfl] at H; exact H
                      clear H
                      have H := H1
                      clear H1
                      by_cases c55 : t129.toList = sc53.toList
                      ·
                       rw [if_pos c55] at H
                       have c55b0 : (t129.toList == sc53.toList) = true := beq_iff_eq.mpr c55
                       have c55b1 : (t129.toList != sc53.toList) = false := bne_eq_false_iff_eq.mpr c55
                       clear c55
                       have H' := aS H
                       clear H
                       go_wp2
                       go_meet
                       case rel => exact ⟨_, (IntKind.u64.wrap (x9_1 + (IntKind.u64.wrap (wrap64 ((rd l2 x11_1) - 9))))), (true), (t130), (t131), (t132), (t133), (by first | rfl | (simp; done) | (simp [*]; done)), (by first | rfl | (simp; done) | (simp [*]; done)), H', ⟨by have := HK1.out; have := HJ15.out; have := HJ44.out; first | omega | exact Nat.le_refl _⟩, ⟨by (with_reducible repeat (first | apply bN | apply bD | apply bA)); exact BK116.out⟩, ⟨by repeat (first | (with_reducible first | exact HI121.out | apply IsS43.alloc | apply IsS43.drewN | apply IsS43.drew | apply IsS43.set_0 | apply IsS43.set_1 | apply IsS43.set_2 | apply IsS43.set_3 | refine IsS43.far ?_ NB121_116.out _) | exact HI121.out)⟩, ⟨by repeat (first | (with_reducible first | exact HB.out | apply eA | apply eN | apply eD | refine below_set ?_ (IsS43.ge HI121.out) | refine below_set ?_ GE116.out) | exact HB.out)⟩⟩
                      ·
                       rw [if_neg c55] at H
                       have c55b0 : (t129.toList == sc53.toList) = false := beq_eq_false_iff_ne.mpr c55
                       have c55b1 : (t129.toList != sc53.toList) = true := bne_iff_ne.mpr c55
                       exact absurd ((Option.some.inj H).trans HRT.out) (by decide)
                     ·
                      replace c54 := Bool.eq_false_iff.mpr c54
                      subst c54
                      have H1 : (if t129.toList = sc53.toList then (graverlaw01_OrderReads.j4 kj44 sc9 l2 (IntKind.u64.wrap (x9_1 + (IntKind.u64.wrap (wrap64 ((rd l2 x11_1) - 9))))) (!true) x11_1 bl10 t130 t131 t132 t133) else (some false)) = some r := by rw [if_neg (show ¬ (false = true) by decide)] at H; exact H
                      clear H
                      have H := H1
                      clear H1
                      by_cases c56 : t129.toList = sc53.toList
                      ·
                       rw [if_pos c56] at H
                       have c56b0 : (t129.toList == sc53.toList) = true := beq_iff_eq.mpr c56
                       have c56b1 : (t129.toList != sc53.toList) = false := bne_eq_false_iff_eq.mpr c56
                       clear c56
                       have H' := aS H
                       clear H
                       go_wp2
                       go_meet
                       case rel => exact ⟨_, (IntKind.u64.wrap (x9_1 + (IntKind.u64.wrap (wrap64 ((rd l2 x11_1) - 9))))), (!true), (t130), (t131), (t132), (t133), (by first | rfl | (simp; done) | (simp [*]; done)), (by first | rfl | (simp; done) | (simp [*]; done)), H', ⟨by have := HK1.out; have := HJ15.out; have := HJ44.out; first | omega | exact Nat.le_refl _⟩, ⟨by (with_reducible repeat (first | apply bN | apply bD | apply bA)); exact BK116.out⟩, ⟨by repeat (first | (with_reducible first | exact HI121.out | apply IsS43.alloc | apply IsS43.drewN | apply IsS43.drew | apply IsS43.set_0 | apply IsS43.set_1 | apply IsS43.set_2 | apply IsS43.set_3 | refine IsS43.far ?_ NB121_116.out _) | exact HI121.out)⟩, ⟨by repeat (first | (with_reducible first | exact HB.out | apply eA | apply eN | apply eD | refine below_set ?_ (IsS43.ge HI121.out) | refine below_set ?_ GE116.out) | exact HB.out)⟩⟩
                      ·
                       rw [if_neg c56] at H
                       have c56b0 : (t129.toList == sc53.toList) = false := beq_eq_false_iff_ne.mpr c56
                       have c56b1 : (t129.toList != sc53.toList) = true := bne_iff_ne.mpr c56
                       exact absurd ((Option.some.inj H).trans HRT.out) (by decide)
                    ·
                     rw [if_neg c52] at H
                     exact absurd H (by simp)
                   ·
                    rw [if_neg c51] at H
                    exact absurd H (by simp)
                  ·
                   rw [if_neg c50] at H
                   exact absurd H (by simp)
                 ·
                  replace c49 := Bool.eq_false_iff.mpr c49
                  subst c49
                  have H1 : (if x10_1 = true then (if t129.toList = ([] : List UInt8) then (graverlaw01_OrderReads.j4 kj44 sc9 l2 x9_1 true x11_1 bl10 t130 t131 t132 t133) else (some false)) else (if t129.toList = ([] : List UInt8) then (graverlaw01_OrderReads.j4 kj44 sc9 l2 x9_1 (!false) x11_1 bl10 t130 t131 t132 t133) else (some false))) = some r := by rw [if_neg (show ¬ (false = true) by decide)] at H; exact H
                  clear H
                  have H := H1
                  clear H1
                  by_cases c57 : x10_1 = true
                  ·
                   subst c57
                   have H1 : (if t129.toList = ([] : List UInt8) then (graverlaw01_OrderReads.j4 kj44 sc9 l2 x9_1 true x11_1 bl10 t130 t131 t132 t133) else (some false)) = some r := by rw [if_pos rfl] at H; exact H
                   clear H
                   have H := H1
                   clear H1
                   by_cases c58 : t129.toList = ([] : List UInt8)
                   ·
                    rw [if_pos c58] at H
                    have c58b0 : (t129.toList == ([] : List UInt8)) = true := beq_iff_eq.mpr c58
                    have c58b1 : (t129.toList != ([] : List UInt8)) = false := bne_eq_false_iff_eq.mpr c58
                    clear c58
                    have H' := aS H
                    clear H
                    go_wp2
                    go_meet
                    case rel => exact ⟨_, (x9_1), (true), (t130), (t131), (t132), (t133), (by first | rfl | (simp; done) | (simp [*]; done)), (by first | rfl | (simp; done) | (simp [*]; done)), H', ⟨by have := HK1.out; have := HJ15.out; have := HJ44.out; first | omega | exact Nat.le_refl _⟩, ⟨by (with_reducible repeat (first | apply bN | apply bD | apply bA)); exact BK116.out⟩, ⟨by repeat (first | (with_reducible first | exact HI121.out | apply IsS43.alloc | apply IsS43.drewN | apply IsS43.drew | apply IsS43.set_0 | apply IsS43.set_1 | apply IsS43.set_2 | apply IsS43.set_3 | refine IsS43.far ?_ NB121_116.out _) | exact HI121.out)⟩, ⟨by repeat (first | (with_reducible first | exact HB.out | apply eA | apply eN | apply eD | refine below_set ?_ (IsS43.ge HI121.out) | refine below_set ?_ GE116.out) | exact HB.out)⟩⟩
                   ·
                    rw [if_neg c58] at H
                    have c58b0 : (t129.toList == ([] : List UInt8)) = false := beq_eq_false_iff_ne.mpr c58
                    have c58b1 : (t129.toList != ([] : List UInt8)) = true := bne_iff_ne.mpr c58
                    exact absurd ((Option.some.inj H).trans HRT.out) (by decide)
                  ·
                   replace c57 := Bool.eq_false_iff.mpr c57
                   subst c57
                   have H1 : (if t129.toList = ([] : List UInt8) then (graverlaw01_OrderReads.j4 kj44 sc9 l2 x9_1 (!false) x11_1 bl10 t130 t131 t132 t133) else (some false)) = some r := by rw [if_neg (show ¬ (false = true) by decide)] at H; exact H
                   clear H
                   have H := H1
                   clear H1
                   by_cases c59 : t129.toList = ([] : List UInt8)
                   ·
                    rw [if_pos c59] at H
                    have c59b0 : (t129.toList == ([] : List UInt8)) = true := beq_iff_eq.mpr c59
                    have c59b1 : (t129.toList != ([] : List UInt8)) = false := bne_eq_false_iff_eq.mpr c59
                    clear c59
                    have H' := aS H
                    clear H
                    go_wp2
                    go_meet
                    case rel => exact ⟨_, (x9_1), (!false), (t130), (t131), (t132), (t133), (by first | rfl | (simp; done) | (simp [*]; done)), (by first | rfl | (simp; done) | (simp [*]; done)), H', ⟨by have := HK1.out; have := HJ15.out; have := HJ44.out; first | omega | exact Nat.le_refl _⟩, ⟨by (with_reducible repeat (first | apply bN | apply bD | apply bA)); exact BK116.out⟩, ⟨by repeat (first | (with_reducible first | exact HI121.out | apply IsS43.alloc | apply IsS43.drewN | apply IsS43.drew | apply IsS43.set_0 | apply IsS43.set_1 | apply IsS43.set_2 | apply IsS43.set_3 | refine IsS43.far ?_ NB121_116.out _) | exact HI121.out)⟩, ⟨by repeat (first | (with_reducible first | exact HB.out | apply eA | apply eN | apply eD | refine below_set ?_ (IsS43.ge HI121.out) | refine below_set ?_ GE116.out) | exact HB.out)⟩⟩
                   ·
                    rw [if_neg c59] at H
                    have c59b0 : (t129.toList == ([] : List UInt8)) = false := beq_eq_false_iff_ne.mpr c59
                    have c59b1 : (t129.toList != ([] : List UInt8)) = true := bne_iff_ne.mpr c59
                    exact absurd ((Option.some.inj H).trans HRT.out) (by decide)
            case rest =>
             clear HC21
             try clear c1
             try clear p1
             try clear q1
             try clear hx1
             try clear c2
             try clear p2
             try clear c3
             try clear c4
             try clear c5
             try clear p6
             try clear c7
             try clear c7b0
             try clear c7b1
             try clear c8
             try clear c8b0
             try clear c8b1
             try clear c9
             try clear p12
             try clear q12
             try clear hx12
             try clear c13
             try clear c16
             try clear c17
             try clear c17b0
             try clear c18
             try clear c19
             try clear c19b0
             try clear c20
             try clear c20b0
             try clear c22
             try clear c22b0
             try clear c26
             try clear c27
             try clear c27b0
             try clear c28
             try clear c28b0
             try clear c29
             try clear c29b0
             try clear c30
             try clear c31
             try clear c31b0
             try clear c31b1
             try clear c32
             try clear c32b0
             try clear c32b1
             try clear c33
             try clear c33b0
             try clear c33b1
             try clear c34
             try clear c36
             try clear c37
             try clear c37b0
             try clear c37b1
             try clear c39
             try clear c39b0
             try clear c39b1
             try clear c41
             try clear c42
             try clear c42b0
             try clear c42b1
             try clear c43
             try clear c43b0
             try clear c43b1
             try clear c47
             try clear c48
             try clear c48b0
             try clear c49
             try clear c50
             try clear c50b0
             try clear c50b1
             try clear c51
             try clear c51b0
             try clear c51b1
             try clear c52
             try clear c52b0
             try clear c52b1
             try clear c53
             try clear c54
             try clear c55
             try clear c55b0
             try clear c55b1
             try clear c56
             try clear c56b0
             try clear c56b1
             try clear c57
             try clear c58
             try clear c58b0
             try clear c58b1
             try clear c59
             try clear c59b0
             try clear c59b1
             try clear hcz14_0
             try clear hfz14_0
             try clear hx122_0
             try clear p1
             try clear p12
             try clear p122
             try clear p2
             try clear p6
             try clear q1
             try clear q12
             try clear q122
             obtain ⟨kq, x9_20, x10_20, x122000_20, x122001_20, x122002_20, x122003_20, rfl, rfl, HA, HJ20, BK116, HI121, HB⟩ := hcut
             cases kq with
             | zero => exact absurd HA.out (by simp [graverlaw01_OrderReads.j4])
             | succ kj20 =>
              as_aux_lemma =>
               have H := HA.out
               clear HA
               simp only [graverlaw01_OrderReads.j4] at H
               replace H := Option.bind_eq_some_iff.mp H
               obtain ⟨⟨t134, t135, t136, t137, t138⟩, A600, H⟩ := H
               replace H : (if t134 = x9_20 then ((order_Reader_Err.f t135 t136 t137 t138).bind fun bt139 => (if ((bt139.1 == 3) != x10_20) = true then (some false) else ((order_Reader_Err.f bt139.2.1 bt139.2.2.1 bt139.2.2.2.1 bt139.2.2.2.2).bind fun bt144 => (if bt144.1 = 0 then (if (bt144.2.1 != bl10) = true then (some false) else (graverlaw01_OrderReads.l0 kj20 sc9 l2 x9_20 x10_20 (wrap64 (x11_1 + 1)) bl10 bt144.2.1 bt144.2.2.1 bt144.2.2.2.1 bt144.2.2.2.2)) else (if x10_20 = true then (if (bt144.2.1 != bl10) = true then (some false) else (graverlaw01_OrderReads.l0 kj20 sc9 l2 x9_20 x10_20 (wrap64 (x11_1 + 1)) bl10 bt144.2.1 bt144.2.2.1 bt144.2.2.2.1 bt144.2.2.2.2)) else (some false)))))) else (some false)) = some r := H
               have A60 := aS A600
               clear A600
               by_cases c61 : t134 = x9_20
               ·
                rw [if_pos c61] at H
                have c61b0 : (t134 == x9_20) = true := beq_iff_eq.mpr c61
                have c61b1 : (t134 != x9_20) = false := bne_eq_false_iff_eq.mpr c61
                clear c61
                replace H := Option.bind_eq_some_iff.mp H
                obtain ⟨⟨t139, t140, t141, t142, t143⟩, A620, H⟩ := H
                replace H : (if ((t139 == 3) != x10_20) = true then (some false) else ((order_Reader_Err.f t140 t141 t142 t143).bind fun bt144 => (if bt144.1 = 0 then (if (bt144.2.1 != bl10) = true then (some false) else (graverlaw01_OrderReads.l0 kj20 sc9 l2 x9_20 x10_20 (wrap64 (x11_1 + 1)) bl10 bt144.2.1 bt144.2.2.1 bt144.2.2.2.1 bt144.2.2.2.2)) else (if x10_20 = true then (if (bt144.2.1 != bl10) = true then (some false) else (graverlaw01_OrderReads.l0 kj20 sc9 l2 x9_20 x10_20 (wrap64 (x11_1 + 1)) bl10 bt144.2.1 bt144.2.2.1 bt144.2.2.2.1 bt144.2.2.2.2)) else (some false))))) = some r := H
                have A62 := aS A620
                clear A620
                by_cases c63 : ((t139 == 3) != x10_20) = true
                ·
                 rw [if_pos c63] at H
                 have c63b0 : ((t139 == 3) != x10_20) = true := c63
                 (try (have c63b1 : decide ((t139 == 3) = x10_20) = false := by simpa using c63))
                 (try (have c63b2 : ((t139 == 3) == x10_20) = false := by simpa using c63))
                 (try (have c63b3 : ¬ ((t139 == 3) = x10_20) := by simpa using c63))
                 clear c63
                 exact absurd ((Option.some.inj H).trans HRT.out) (by decide)
                ·
                 rw [if_neg c63] at H
                 have c63b0 : ((t139 == 3) != x10_20) = false := by simpa using c63
                 (try (have c63b1 : decide ((t139 == 3) = x10_20) = true := by simpa using c63))
                 (try (have c63b2 : ((t139 == 3) == x10_20) = true := by simpa using c63))
                 clear c63
                 replace H := Option.bind_eq_some_iff.mp H
                 obtain ⟨⟨t144, t145, t146, t147, t148⟩, A640, H⟩ := H
                 replace H : (if t144 = 0 then (if (t145 != bl10) = true then (some false) else (graverlaw01_OrderReads.l0 kj20 sc9 l2 x9_20 x10_20 (wrap64 (x11_1 + 1)) bl10 t145 t146 t147 t148)) else (if x10_20 = true then (if (t145 != bl10) = true then (some false) else (graverlaw01_OrderReads.l0 kj20 sc9 l2 x9_20 x10_20 (wrap64 (x11_1 + 1)) bl10 t145 t146 t147 t148)) else (some false))) = some r := H
                 have A64 := aS A640
                 clear A640
                 by_cases c65 : t144 = 0
                 ·
                  rw [if_pos c65] at H
                  have c65b0 : (t144 == 0) = true := beq_iff_eq.mpr c65
                  have c65b1 : (t144 != 0) = false := bne_eq_false_iff_eq.mpr c65
                  clear c65
                  by_cases c66 : (t145 != bl10) = true
                  ·
                   rw [if_pos c66] at H
                   have c66b0 : (t145 != bl10) = true := c66
                   (try (have c66b1 : decide (t145 = bl10) = false := by simpa using c66))
                   (try (have c66b2 : (t145 == bl10) = false := by simpa using c66))
                   (try (have c66b3 : ¬ (t145 = bl10) := by simpa using c66))
                   clear c66
                   exact absurd ((Option.some.inj H).trans HRT.out) (by decide)
                  ·
                   rw [if_neg c66] at H
                   have c66b0 : (t145 != bl10) = false := by simpa using c66
                   (try (have c66b1 : decide (t145 = bl10) = true := by simpa using c66))
                   (try (have c66b2 : (t145 == bl10) = true := by simpa using c66))
                   clear c66
                   have H' := aS H
                   clear H
                   try go_wp2
                   have n0_ := aS (blk_drew BK116.out)
                   have n1_ := aS (IsS43.drew HI121.out)
                   have n2_ := aS (below_drew1 HB.out)
                   clear BK116
                   clear HI121
                   clear HB
                   have BK116 := n0_
                   have HI121 := n1_
                   have HB := n2_
                   clear n0_ n1_ n2_
                   refine start_ (n := 30) (S := fun w' => True) (ds := []) #[false, false, false, false, false, false, false, false, false, false, false, false, false, false, false, false, false, false, false, false, false, false, false, false, false, false, false, false, false, false] (by kernel_rfl) rfl rfl trivial (fun hHeld => ?_); refine with_tabW graverlaw01_OrderReads.tab31 graverlaw01_OrderReads.bits31 (fun HT_ HW_ => ?_)
                   generalize wc.drew = w67 at BK116 HI121 HB hHeld ⊢
                   refine pure_ (i := 0) (N := some 147) (v := ?_) (a' := ?_) (bm 30 1) rfl rfl (any_of HT_.out (by kernel_rfl)) (fun _ _ _ h => h) (Or.inl ⟨by rfl, ?_⟩) ?_ ?_
                   rotate_left
                   ·
                    intro w'
                    go_simp
                    with_reducible rfl
                   rotate_left
                   ·
                    simp only [Act.put, aput]
                    rfl
                   refine pure_ (i := 2) (N := some 149) (v := ?_) (a' := ?_) (bm 30 5) rfl rfl (any_of HT_.out (by kernel_rfl)) (fun _ _ _ h => h) (Or.inl ⟨by rfl, ?_⟩) ?_ ?_
                   rotate_left
                   ·
                    intro w'
                    go_simp
                    with_reducible rfl
                   rotate_left
                   ·
                    simp only [Act.put, aput]
                    rfl
                   refine inv_at [1, 3, 4, 5, 6, 7, 8, 9, 10, 11, 12, 13, 14, 15, 16, 17, 18, 19, 20, 21, 22, 23, 24, 25, 26, 27, 28, 29] (fun a0_ b a w' => a = putSel a0_ b [(1, 148, .int .u64 t134), (3, 150, .bool (t134 != x9_20)), (4, 151, .bool (t134 != x9_20)), (5, 152, .pointer (some ⟨g121, 0, none⟩)), (6, 153, .int .i64 t139), (7, 154, .bool (t139 == 3)), (8, 155, .bool x10_20), (9, 156, .bool ((t139 == 3) != x10_20)), (10, 157, .bool ((t139 == 3) != x10_20)), (11, 158, .bool ((t139 == 3) != x10_20)), (12, 159, .pointer (some ⟨g121, 0, none⟩)), (13, 160, .int .i64 t144), (14, 161, .bool (t144 != 0)), (15, 162, .bool (t144 != 0)), (16, 163, undef), (17, 164, undef), (18, 165, .bool false), (19, 166, .bool false), (20, 167, .bool false), (21, 168, .pointer (some ⟨g121, 0, none⟩)), (22, 169, .pointer (some ⟨g121, 0, none⟩)), (23, 170, .pointer (some ⟨g121, 0, none⟩)), (24, 171, .pointer (some ⟨g121, 0, none⟩)), (25, 172, .bool t145), (26, 173, .pointer (some ⟨gb116, 0, none⟩)), (27, 174, .bool bl10), (28, 175, .bool (t145 != bl10)), (29, 176, .bool (t145 != bl10))] ∧ (w'.heap[gb116]? = some (.cells #[.bool bl10] 25 (0, 0))) ∧ (b 1 = false → IsS43 w w' g121 x122000_20 x122001_20 x122002_20 x122003_20) ∧ (Below w.heap.size w w') ∧ (b 1 = true → b 6 = false → IsS43 w w' g121 t135 t136 t137 t138) ∧ (b 6 = true → b 13 = false → IsS43 w w' g121 t140 t141 t142 t143) ∧ (b 13 = true → IsS43 w w' g121 t145 t146 t147 t148)) HT_.out HW_.out (by kernel_rfl) (by kernel_rfl) ?_ ?_ ?_
                   ·
                    exact ⟨by simp only [putSel, Bool.false_eq_true, if_false], BK116.out, fun _ => HI121.out, HB.out, fun h_ => absurd h_ (by decide), fun h_ => absurd h_ (by decide), fun h_ => absurd h_ (by decide)⟩
                   ·
                    skip
                    clear BK116 HB HI121
                    refine steps_cons ?_ ?_
                    ·
                     rintro b a w' ⟨ha, Q_BK116, Q_HI121, Q_HB, Q_HI121_e1, Q_HI121_e6, Q_HI121_e13⟩ hb_ hon hoff
                     refine ⟨_, rfl, fun K hK => ?_⟩
                     have e147 : a.tmps[147]? = some (.pointer (some ⟨g121, 0, none⟩)) := by rw [ha]; exact (putSel_off rfl).trans rfl
                     replace ha := aS ha
                     have BK116 := aS Q_BK116
                     have HI121 := aS (Q_HI121 hb_)
                     have HB := aS Q_HB
                     refine goes_ Try.func19 (by kernel_rfl) rfl #[.pointer (some ⟨g121, 0, none⟩)] (by rfl) rfl rfl (by first | (simp only [List.map_toArray, List.map_cons, List.map_nil, Act.eval, Array.getD_eq_getD_getElem?, Option.getD_some, e147]; done) | (simp only [List.map_toArray, List.map_cons, List.map_nil, Act.eval, Array.getD_eq_getD_getElem?, Option.getD_some, e147]; rfl)) ?_
                     with_reducible refine (order_Reader_At.calls g121 x122000_20 x122001_20 x122002_20 x122003_20 t134 t135 t136 t137 t138 w _ ?side1 ?side2 A60.out).mono ?_
                     (case side1 => repeat (first | (with_reducible first | exact HI121.out | apply IsS43.alloc | apply IsS43.drewN | apply IsS43.drew | apply IsS43.set_0 | apply IsS43.set_1 | apply IsS43.set_2 | apply IsS43.set_3 | refine IsS43.far ?_ NB121_116.out _) | exact HI121.out))
                     (case side2 => repeat (first | (with_reducible first | exact HB.out | apply eA | apply eN | apply eD | refine below_set ?_ (IsS43.ge HI121.out) | refine below_set ?_ GE116.out) | exact HB.out))
                     rintro e w68 ⟨rfl, hi, hb, hk⟩
                     refine ⟨_, rfl, ?_⟩
                     have n0_ := aS (KeepBut.blk hk (g' := gb116) (o := .cells #[.bool bl10] 25 (0, 0)) (by (with_reducible repeat (first | apply bN | apply bD | apply bA)); exact BK116.out) NB116_121.out (by simp))
                     have n1_ := aS (hb)
                     have n2_ := aS (hi)
                     clear BK116
                     clear HB
                     clear HI121
                     have BK116 := n0_
                     have HB := n1_
                     have HI121 := n2_
                     clear n0_ n1_ n2_
                     (try clear hb)
                     (try clear hb2)
                     (try clear hk)
                     (try clear hi)
                     refine hK.out _ _ ⟨(by rw [ha.out]; exact putSel_upk 0 hb_ rfl rfl rfl), (by (with_reducible repeat (first | apply bN | apply bD | apply bA)); exact BK116.out), fun h0_ => absurd ((up_self b 1).symm.trans h0_) (by decide), (by repeat (first | (with_reducible first | exact HB.out | apply eA | apply eN | apply eD | refine below_set ?_ (IsS43.ge HI121.out) | refine below_set ?_ GE116.out) | exact HB.out)), fun _ _ => (by repeat (first | (with_reducible first | exact HI121.out | apply IsS43.alloc | apply IsS43.drewN | apply IsS43.drew | apply IsS43.set_0 | apply IsS43.set_1 | apply IsS43.set_2 | apply IsS43.set_3 | refine IsS43.far ?_ NB121_116.out _) | exact HI121.out)), fun h0_ _ => absurd ((hoff 6 (by kernel_rfl)).symm.trans h0_) (by decide), fun h0_ => absurd ((hoff 13 (by kernel_rfl)).symm.trans h0_) (by decide)⟩
                    refine steps_cons ?_ ?_
                    ·
                     rintro b a w' ⟨ha, Q_BK116, Q_HI121, Q_HB, Q_HI121_e1, Q_HI121_e6, Q_HI121_e13⟩ hb_ hon hoff
                     refine ⟨_, rfl, fun K hK => ?_⟩
                     have e148 : a.tmps[148]? = some (.int .u64 t134) := by rw [ha]; exact putSel_on (e := (1, 148, .int .u64 t134)) 0 rfl rfl (hon 1 (by kernel_rfl)) rfl
                     have e149 : a.tmps[149]? = some (.int .u64 x9_20) := by rw [ha]; exact (putSel_off rfl).trans rfl
                     replace ha := aS ha
                     have BK116 := aS Q_BK116
                     have HB := aS Q_HB
                     have HI121 := aS (Q_HI121_e1 (hon 1 (by kernel_rfl)) (hoff 6 (by kernel_rfl)))
                     refine value_ (w1 := w') (v := .bool (t134 != x9_20)) (by rfl) rfl ?_ ?_
                     ·
                      go_simp
                      (try simp only [i64_w])
                      try rfl
                     refine hK.out _ _ ⟨(by rw [ha.out]; exact putSel_upk 1 hb_ rfl rfl rfl), Q_BK116, fun h0_ => absurd ((hon 1 (by kernel_rfl)).symm.trans h0_) (by decide), Q_HB, Q_HI121_e1, fun h0_ _ => absurd ((hoff 6 (by kernel_rfl)).symm.trans h0_) (by decide), fun h0_ => absurd ((hoff 13 (by kernel_rfl)).symm.trans h0_) (by decide)⟩
                    refine steps_cons ?_ ?_
                    ·
                     rintro b a w' ⟨ha, Q_BK116, Q_HI121, Q_HB, Q_HI121_e1, Q_HI121_e6, Q_HI121_e13⟩ hb_ hon hoff
                     refine ⟨_, rfl, fun K hK => ?_⟩
                     have e150 : a.tmps[150]? = some (.bool (t134 != x9_20)) := by rw [ha]; exact putSel_on (e := (3, 150, .bool (t134 != x9_20))) 1 rfl rfl (hon 3 (by kernel_rfl)) rfl
                     replace ha := aS ha
                     have BK116 := aS Q_BK116
                     have HB := aS Q_HB
                     have HI121 := aS (Q_HI121_e1 (hon 1 (by kernel_rfl)) (hoff 6 (by kernel_rfl)))
                     refine value_ (w1 := w') (v := .bool (t134 != x9_20)) (by rfl) rfl ?_ ?_
                     ·
                      go_simp
                      (try simp only [i64_w])
                      try rfl
                     refine hK.out _ _ ⟨(by rw [ha.out]; exact putSel_upk 2 hb_ rfl rfl rfl), Q_BK116, fun h0_ => absurd ((hon 1 (by kernel_rfl)).symm.trans h0_) (by decide), Q_HB, Q_HI121_e1, fun h0_ _ => absurd ((hoff 6 (by kernel_rfl)).symm.trans h0_) (by decide), fun h0_ => absurd ((hoff 13 (by kernel_rfl)).symm.trans h0_) (by decide)⟩
                    refine steps_cons ?_ ?_
                    ·
                     rintro b a w' ⟨ha, Q_BK116, Q_HI121, Q_HB, Q_HI121_e1, Q_HI121_e6, Q_HI121_e13⟩ hb_ hon hoff
                     refine ⟨_, rfl, fun K hK => ?_⟩
                     have e8 : a.tmps[8]? = some (.pointer (some ⟨g121, 0, none⟩)) := by rw [ha]; exact (putSel_off rfl).trans rfl
                     have e151 : a.tmps[151]? = some (.bool (t134 != x9_20)) := by rw [ha]; exact putSel_on (e := (4, 151, .bool (t134 != x9_20))) 2 rfl rfl (hon 4 (by kernel_rfl)) rfl
                     replace ha := aS ha
                     have BK116 := aS Q_BK116
                     have HB := aS Q_HB
                     have HI121 := aS (Q_HI121_e1 (hon 1 (by kernel_rfl)) (hoff 6 (by kernel_rfl)))
                     refine value_ (w1 := w') (v := .pointer (some ⟨g121, 0, none⟩)) (wanted_on rfl rfl rfl (e151.trans (by first | rfl | (simp [*]; done)))) rfl ?_ ?_
                     ·
                      go_simp
                      (try simp only [i64_w])
                      try rfl
                     refine hK.out _ _ ⟨(by rw [ha.out]; exact putSel_upk 3 hb_ rfl rfl rfl), Q_BK116, fun h0_ => absurd ((hon 1 (by kernel_rfl)).symm.trans h0_) (by decide), Q_HB, Q_HI121_e1, fun h0_ _ => absurd ((hoff 6 (by kernel_rfl)).symm.trans h0_) (by decide), fun h0_ => absurd ((hoff 13 (by kernel_rfl)).symm.trans h0_) (by decide)⟩
                    refine steps_cons ?_ ?_
                    ·
                     rintro b a w' ⟨ha, Q_BK116, Q_HI121, Q_HB, Q_HI121_e1, Q_HI121_e6, Q_HI121_e13⟩ hb_ hon hoff
                     refine ⟨_, rfl, fun K hK => ?_⟩
                     have e152 : a.tmps[152]? = some (.pointer (some ⟨g121, 0, none⟩)) := by rw [ha]; exact putSel_on (e := (5, 152, .pointer (some ⟨g121, 0, none⟩))) 3 rfl rfl (hon 5 (by kernel_rfl)) rfl
                     have e151 : a.tmps[151]? = some (.bool (t134 != x9_20)) := by rw [ha]; exact putSel_on (e := (4, 151, .bool (t134 != x9_20))) 2 rfl rfl (hon 4 (by kernel_rfl)) rfl
                     replace ha := aS ha
                     have BK116 := aS Q_BK116
                     have HB := aS Q_HB
                     have HI121 := aS (Q_HI121_e1 (hon 1 (by kernel_rfl)) hb_)
                     refine goes_ Try.func20 (by kernel_rfl) rfl #[.pointer (some ⟨g121, 0, none⟩)] (wanted_on rfl rfl rfl (e151.trans (by first | rfl | (simp [*]; done)))) rfl rfl (by first | (simp only [List.map_toArray, List.map_cons, List.map_nil, Act.eval, Array.getD_eq_getD_getElem?, Option.getD_some, e152, e151]; done) | (simp only [List.map_toArray, List.map_cons, List.map_nil, Act.eval, Array.getD_eq_getD_getElem?, Option.getD_some, e152, e151]; rfl)) ?_
                     with_reducible refine (order_Reader_Err.calls g121 t135 t136 t137 t138 t139 t140 t141 t142 t143 w _ ?side1 ?side2 A62.out).mono ?_
                     (case side1 => repeat (first | (with_reducible first | exact HI121.out | apply IsS43.alloc | apply IsS43.drewN | apply IsS43.drew | apply IsS43.set_0 | apply IsS43.set_1 | apply IsS43.set_2 | apply IsS43.set_3 | refine IsS43.far ?_ NB121_116.out _) | exact HI121.out))
                     (case side2 => repeat (first | (with_reducible first | exact HB.out | apply eA | apply eN | apply eD | refine below_set ?_ (IsS43.ge HI121.out) | refine below_set ?_ GE116.out) | exact HB.out))
                     rintro e w70 ⟨rfl, hi, hb, hk⟩
                     refine ⟨_, rfl, ?_⟩
                     have n0_ := aS (KeepBut.blk hk (g' := gb116) (o := .cells #[.bool bl10] 25 (0, 0)) (by (with_reducible repeat (first | apply bN | apply bD | apply bA)); exact BK116.out) NB116_121.out (by simp))
                     have n1_ := aS (hb)
                     have n2_ := aS (hi)
                     clear BK116
                     clear HB
                     clear HI121
                     have BK116 := n0_
                     have HB := n1_
                     have HI121 := n2_
                     clear n0_ n1_ n2_
                     (try clear hb)
                     (try clear hb2)
                     (try clear hk)
                     (try clear hi)
                     refine hK.out _ _ ⟨(by rw [ha.out]; exact putSel_upk 4 hb_ rfl rfl rfl), (by (with_reducible repeat (first | apply bN | apply bD | apply bA)); exact BK116.out), fun h0_ => absurd ((hon 1 (by kernel_rfl)).symm.trans h0_) (by decide), (by repeat (first | (with_reducible first | exact HB.out | apply eA | apply eN | apply eD | refine below_set ?_ (IsS43.ge HI121.out) | refine below_set ?_ GE116.out) | exact HB.out)), fun _ h1_ => absurd ((up_self b 6).symm.trans h1_) (by decide), fun _ _ => (by repeat (first | (with_reducible first | exact HI121.out | apply IsS43.alloc | apply IsS43.drewN | apply IsS43.drew | apply IsS43.set_0 | apply IsS43.set_1 | apply IsS43.set_2 | apply IsS43.set_3 | refine IsS43.far ?_ NB121_116.out _) | exact HI121.out)), fun h0_ => absurd ((hoff 13 (by kernel_rfl)).symm.trans h0_) (by decide)⟩
                    refine steps_cons ?_ ?_
                    ·
                     rintro b a w' ⟨ha, Q_BK116, Q_HI121, Q_HB, Q_HI121_e1, Q_HI121_e6, Q_HI121_e13⟩ hb_ hon hoff
                     refine ⟨_, rfl, fun K hK => ?_⟩
                     have e153 : a.tmps[153]? = some (.int .i64 t139) := by rw [ha]; exact putSel_on (e := (6, 153, .int .i64 t139)) 4 rfl rfl (hon 6 (by kernel_rfl)) rfl
                     have e151 : a.tmps[151]? = some (.bool (t134 != x9_20)) := by rw [ha]; exact putSel_on (e := (4, 151, .bool (t134 != x9_20))) 2 rfl rfl (hon 4 (by kernel_rfl)) rfl
                     replace ha := aS ha
                     have BK116 := aS Q_BK116
                     have HB := aS Q_HB
                     have HI121 := aS (Q_HI121_e6 (hon 6 (by kernel_rfl)) (hoff 13 (by kernel_rfl)))
                     refine value_ (w1 := w') (v := .bool (t139 == 3)) (wanted_on rfl rfl rfl (e151.trans (by first | rfl | (simp [*]; done)))) rfl ?_ ?_
                     ·
                      go_simp
                      (try simp only [i64_w])
                      try rfl
                     refine hK.out _ _ ⟨(by rw [ha.out]; exact putSel_upk 5 hb_ rfl rfl rfl), Q_BK116, fun h0_ => absurd ((hon 1 (by kernel_rfl)).symm.trans h0_) (by decide), Q_HB, fun _ h1_ => absurd ((hon 6 (by kernel_rfl)).symm.trans h1_) (by decide), Q_HI121_e6, fun h0_ => absurd ((hoff 13 (by kernel_rfl)).symm.trans h0_) (by decide)⟩
                    refine steps_cons ?_ ?_
                    ·
                     rintro b a w' ⟨ha, Q_BK116, Q_HI121, Q_HB, Q_HI121_e1, Q_HI121_e6, Q_HI121_e13⟩ hb_ hon hoff
                     refine ⟨_, rfl, fun K hK => ?_⟩
                     have e10 : a.tmps[10]? = some (.bool x10_20) := by rw [ha]; exact (putSel_off rfl).trans rfl
                     have e151 : a.tmps[151]? = some (.bool (t134 != x9_20)) := by rw [ha]; exact putSel_on (e := (4, 151, .bool (t134 != x9_20))) 2 rfl rfl (hon 4 (by kernel_rfl)) rfl
                     replace ha := aS ha
                     have BK116 := aS Q_BK116
                     have HB := aS Q_HB
                     refine value_ (w1 := w') (v := .bool x10_20) (wanted_on rfl rfl rfl (e151.trans (by first | rfl | (simp [*]; done)))) rfl ?_ ?_
                     ·
                      go_simp
                      (try simp only [i64_w])
                      try rfl
                     refine hK.out _ _ ⟨(by rw [ha.out]; exact putSel_upk 6 hb_ rfl rfl rfl), Q_BK116, fun h0_ => absurd ((hon 1 (by kernel_rfl)).symm.trans h0_) (by decide), Q_HB, Q_HI121_e1, Q_HI121_e6, fun h0_ => absurd ((hoff 13 (by kernel_rfl)).symm.trans h0_) (by decide)⟩
                    refine steps_cons ?_ ?_
                    ·
                     rintro b a w' ⟨ha, Q_BK116, Q_HI121, Q_HB, Q_HI121_e1, Q_HI121_e6, Q_HI121_e13⟩ hb_ hon hoff
                     refine ⟨_, rfl, fun K hK => ?_⟩
                     have e154 : a.tmps[154]? = some (.bool (t139 == 3)) := by rw [ha]; exact putSel_on (e := (7, 154, .bool (t139 == 3))) 5 rfl rfl (hon 7 (by kernel_rfl)) rfl
                     have e155 : a.tmps[155]? = some (.bool x10_20) := by rw [ha]; exact putSel_on (e := (8, 155, .bool x10_20)) 6 rfl rfl (hon 8 (by kernel_rfl)) rfl
                     have e151 : a.tmps[151]? = some (.bool (t134 != x9_20)) := by rw [ha]; exact putSel_on (e := (4, 151, .bool (t134 != x9_20))) 2 rfl rfl (hon 4 (by kernel_rfl)) rfl
                     replace ha := aS ha
                     have BK116 := aS Q_BK116
                     have HB := aS Q_HB
                     have HI121 := aS (Q_HI121_e6 (hon 6 (by kernel_rfl)) (hoff 13 (by kernel_rfl)))
                     refine value_ (w1 := w') (v := .bool ((t139 == 3) != x10_20)) (wanted_on rfl rfl rfl (e151.trans (by first | rfl | (simp [*]; done)))) rfl ?_ ?_
                     ·
                      go_simp
                      (try simp only [i64_w])
                      try rfl
                     refine hK.out _ _ ⟨(by rw [ha.out]; exact putSel_upk 7 hb_ rfl rfl rfl), Q_BK116, fun h0_ => absurd ((hon 1 (by kernel_rfl)).symm.trans h0_) (by decide), Q_HB, fun _ h1_ => absurd ((hon 6 (by kernel_rfl)).symm.trans h1_) (by decide), Q_HI121_e6, fun h0_ => absurd ((hoff 13 (by kernel_rfl)).symm.trans h0_) (by decide)⟩
                    refine steps_cons ?_ ?_
                    ·
                     rintro b a w' ⟨ha, Q_BK116, Q_HI121, Q_HB, Q_HI121_e1, Q_HI121_e6, Q_HI121_e13⟩ hb_ hon hoff
                     refine ⟨_, rfl, fun K hK => ?_⟩
                     have e151 : a.tmps[151]? = some (.bool (t134 != x9_20)) := by rw [ha]; exact putSel_on (e := (4, 151, .bool (t134 != x9_20))) 2 rfl rfl (hon 4 (by kernel_rfl)) rfl
                     have e156 : a.tmps[156]? = some (.bool ((t139 == 3) != x10_20)) := by rw [ha]; exact putSel_on (e := (9, 156, .bool ((t139 == 3) != x10_20))) 7 rfl rfl (hon 9 (by kernel_rfl)) rfl
                     replace ha := aS ha
                     have BK116 := aS Q_BK116
                     have HB := aS Q_HB
                     have HI121 := aS (Q_HI121_e6 (hon 6 (by kernel_rfl)) (hoff 13 (by kernel_rfl)))
                     refine value_ (w1 := w') (v := .bool ((t139 == 3) != x10_20)) (by rfl) rfl ?_ ?_
                     ·
                      go_simp
                      (try simp only [i64_w])
                      try rfl
                     refine hK.out _ _ ⟨(by rw [ha.out]; exact putSel_upk 8 hb_ rfl rfl rfl), Q_BK116, fun h0_ => absurd ((hon 1 (by kernel_rfl)).symm.trans h0_) (by decide), Q_HB, fun _ h1_ => absurd ((hon 6 (by kernel_rfl)).symm.trans h1_) (by decide), Q_HI121_e6, fun h0_ => absurd ((hoff 13 (by kernel_rfl)).symm.trans h0_) (by decide)⟩
                    refine steps_cons ?_ ?_
                    ·
                     rintro b a w' ⟨ha, Q_BK116, Q_HI121, Q_HB, Q_HI121_e1, Q_HI121_e6, Q_HI121_e13⟩ hb_ hon hoff
                     refine ⟨_, rfl, fun K hK => ?_⟩
                     have e157 : a.tmps[157]? = some (.bool ((t139 == 3) != x10_20)) := by rw [ha]; exact putSel_on (e := (10, 157, .bool ((t139 == 3) != x10_20))) 8 rfl rfl (hon 10 (by kernel_rfl)) rfl
                     replace ha := aS ha
                     have BK116 := aS Q_BK116
                     have HB := aS Q_HB
                     have HI121 := aS (Q_HI121_e6 (hon 6 (by kernel_rfl)) (hoff 13 (by kernel_rfl)))
                     refine value_ (w1 := w') (v := .bool ((t139 == 3) != x10_20)) (by rfl) rfl ?_ ?_
                     ·
                      go_simp
                      (try simp only [i64_w])
                      try rfl
                     refine hK.out _ _ ⟨(by rw [ha.out]; exact putSel_upk 9 hb_ rfl rfl rfl), Q_BK116, fun h0_ => absurd ((hon 1 (by kernel_rfl)).symm.trans h0_) (by decide), Q_HB, fun _ h1_ => absurd ((hon 6 (by kernel_rfl)).symm.trans h1_) (by decide), Q_HI121_e6, fun h0_ => absurd ((hoff 13 (by kernel_rfl)).symm.trans h0_) (by decide)⟩
                    refine steps_cons ?_ ?_
                    ·
                     rintro b a w' ⟨ha, Q_BK116, Q_HI121, Q_HB, Q_HI121_e1, Q_HI121_e6, Q_HI121_e13⟩ hb_ hon hoff
                     refine ⟨_, rfl, fun K hK => ?_⟩
                     have e8 : a.tmps[8]? = some (.pointer (some ⟨g121, 0, none⟩)) := by rw [ha]; exact (putSel_off rfl).trans rfl
                     have e158 : a.tmps[158]? = some (.bool ((t139 == 3) != x10_20)) := by rw [ha]; exact putSel_on (e := (11, 158, .bool ((t139 == 3) != x10_20))) 9 rfl rfl (hon 11 (by kernel_rfl)) rfl
                     replace ha := aS ha
                     have BK116 := aS Q_BK116
                     have HB := aS Q_HB
                     have HI121 := aS (Q_HI121_e6 (hon 6 (by kernel_rfl)) (hoff 13 (by kernel_rfl)))
                     refine value_ (w1 := w') (v := .pointer (some ⟨g121, 0, none⟩)) (wanted_on rfl rfl rfl (e158.trans (by first | rfl | (simp [*]; done)))) rfl ?_ ?_
                     ·
                      go_simp
                      (try simp only [i64_w])
                      try rfl
                     refine hK.out _ _ ⟨(by rw [ha.out]; exact putSel_upk 10 hb_ rfl rfl rfl), Q_BK116, fun h0_ => absurd ((hon 1 (by kernel_rfl)).symm.trans h0_) (by decide), Q_HB, fun _ h1_ => absurd ((hon 6 (by kernel_rfl)).symm.trans h1_) (by decide), Q_HI121_e6, fun h0_ => absurd ((hoff 13 (by kernel_rfl)).symm.trans h0_) (by decide)⟩
                    refine steps_cons ?_ ?_
                    ·
                     rintro b a w' ⟨ha, Q_BK116, Q_HI121, Q_HB, Q_HI121_e1, Q_HI121_e6, Q_HI121_e13⟩ hb_ hon hoff
                     refine ⟨_, rfl, fun K hK => ?_⟩
                     have e159 : a.tmps[159]? = some (.pointer (some ⟨g121, 0, none⟩)) := by rw [ha]; exact putSel_on (e := (12, 159, .pointer (some ⟨g121, 0, none⟩))) 10 rfl rfl (hon 12 (by kernel_rfl)) rfl
                     have e158 : a.tmps[158]? = some (.bool ((t139 == 3) != x10_20)) := by rw [ha]; exact putSel_on (e := (11, 158, .bool ((t139 == 3) != x10_20))) 9 rfl rfl (hon 11 (by kernel_rfl)) rfl
                     replace ha := aS ha
                     have BK116 := aS Q_BK116
                     have HB := aS Q_HB
                     have HI121 := aS (Q_HI121_e6 (hon 6 (by kernel_rfl)) hb_)
                     refine goes_ Try.func20 (by kernel_rfl) rfl #[.pointer (some ⟨g121, 0, none⟩)] (wanted_on rfl rfl rfl (e158.trans (by first | rfl | (simp [*]; done)))) rfl rfl (by first | (simp only [List.map_toArray, List.map_cons, List.map_nil, Act.eval, Array.getD_eq_getD_getElem?, Option.getD_some, e159, e158]; done) | (simp only [List.map_toArray, List.map_cons, List.map_nil, Act.eval, Array.getD_eq_getD_getElem?, Option.getD_some, e159, e158]; rfl)) ?_
                     with_reducible refine (order_Reader_Err.calls g121 t140 t141 t142 t143 t144 t145 t146 t147 t148 w _ ?side1 ?side2 A64.out).mono ?_
                     (case side1 => repeat (first | (with_reducible first | exact HI121.out | apply IsS43.alloc | apply IsS43.drewN | apply IsS43.drew | apply IsS43.set_0 | apply IsS43.set_1 | apply IsS43.set_2 | apply IsS43.set_3 | refine IsS43.far ?_ NB121_116.out _) | exact HI121.out))
                     (case side2 => repeat (first | (with_reducible first | exact HB.out | apply eA | apply eN | apply eD | refine below_set ?_ (IsS43.ge HI121.out) | refine below_set ?_ GE116.out) | exact HB.out))
                     rintro e w71 ⟨rfl, hi, hb, hk⟩
                     refine ⟨_, rfl, ?_⟩
                     have n0_ := aS (KeepBut.blk hk (g' := gb116) (o := .cells #[.bool bl10] 25 (0, 0)) (by (with_reducible repeat (first | apply bN | apply bD | apply bA)); exact BK116.out) NB116_121.out (by simp))
                     have n1_ := aS (hb)
                     have n2_ := aS (hi)
                     clear BK116
                     clear HB
                     clear HI121
                     have BK116 := n0_
                     have HB := n1_
                     have HI121 := n2_
                     clear n0_ n1_ n2_
                     (try clear hb)
                     (try clear hb2)
                     (try clear hk)
                     (try clear hi)
                     refine hK.out _ _ ⟨(by rw [ha.out]; exact putSel_upk 11 hb_ rfl rfl rfl), (by (with_reducible repeat (first | apply bN | apply bD | apply bA)); exact BK116.out), fun h0_ => absurd ((hon 1 (by kernel_rfl)).symm.trans h0_) (by decide), (by repeat (first | (with_reducible first | exact HB.out | apply eA | apply eN | apply eD | refine below_set ?_ (IsS43.ge HI121.out) | refine below_set ?_ GE116.out) | exact HB.out)), fun _ h1_ => absurd ((hon 6 (by kernel_rfl)).symm.trans h1_) (by decide), fun _ h1_ => absurd ((up_self b 13).symm.trans h1_) (by decide), fun _ => (by repeat (first | (with_reducible first | exact HI121.out | apply IsS43.alloc | apply IsS43.drewN | apply IsS43.drew | apply IsS43.set_0 | apply IsS43.set_1 | apply IsS43.set_2 | apply IsS43.set_3 | refine IsS43.far ?_ NB121_116.out _) | exact HI121.out))⟩
                    refine steps_cons ?_ ?_
                    ·
                     rintro b a w' ⟨ha, Q_BK116, Q_HI121, Q_HB, Q_HI121_e1, Q_HI121_e6, Q_HI121_e13⟩ hb_ hon hoff
                     refine ⟨_, rfl, fun K hK => ?_⟩
                     have e160 : a.tmps[160]? = some (.int .i64 t144) := by rw [ha]; exact putSel_on (e := (13, 160, .int .i64 t144)) 11 rfl rfl (hon 13 (by kernel_rfl)) rfl
                     have e158 : a.tmps[158]? = some (.bool ((t139 == 3) != x10_20)) := by rw [ha]; exact putSel_on (e := (11, 158, .bool ((t139 == 3) != x10_20))) 9 rfl rfl (hon 11 (by kernel_rfl)) rfl
                     replace ha := aS ha
                     have BK116 := aS Q_BK116
                     have HB := aS Q_HB
                     have HI121 := aS (Q_HI121_e13 (hon 13 (by kernel_rfl)))
                     refine value_ (w1 := w') (v := .bool (t144 != 0)) (wanted_on rfl rfl rfl (e158.trans (by first | rfl | (simp [*]; done)))) rfl ?_ ?_
                     ·
                      go_simp
                      (try simp only [i64_w])
                      try rfl
                     refine hK.out _ _ ⟨(by rw [ha.out]; exact putSel_upk 12 hb_ rfl rfl rfl), Q_BK116, fun h0_ => absurd ((hon 1 (by kernel_rfl)).symm.trans h0_) (by decide), Q_HB, fun _ h1_ => absurd ((hon 6 (by kernel_rfl)).symm.trans h1_) (by decide), fun _ h1_ => absurd ((hon 13 (by kernel_rfl)).symm.trans h1_) (by decide), Q_HI121_e13⟩
                    refine steps_cons ?_ ?_
                    ·
                     rintro b a w' ⟨ha, Q_BK116, Q_HI121, Q_HB, Q_HI121_e1, Q_HI121_e6, Q_HI121_e13⟩ hb_ hon hoff
                     refine ⟨_, rfl, fun K hK => ?_⟩
                     have e161 : a.tmps[161]? = some (.bool (t144 != 0)) := by rw [ha]; exact putSel_on (e := (14, 161, .bool (t144 != 0))) 12 rfl rfl (hon 14 (by kernel_rfl)) rfl
                     have e158 : a.tmps[158]? = some (.bool ((t139 == 3) != x10_20)) := by rw [ha]; exact putSel_on (e := (11, 158, .bool ((t139 == 3) != x10_20))) 9 rfl rfl (hon 11 (by kernel_rfl)) rfl
                     replace ha := aS ha
                     have BK116 := aS Q_BK116
                     have HB := aS Q_HB
                     have HI121 := aS (Q_HI121_e13 (hon 13 (by kernel_rfl)))
                     refine value_ (w1 := w') (v := .bool (t144 != 0)) (wanted_on rfl rfl rfl (e158.trans (by first | rfl | (simp [*]; done)))) rfl ?_ ?_
                     ·
                      go_simp
                      (try simp only [i64_w])
                      try rfl
                     refine hK.out _ _ ⟨(by rw [ha.out]; exact putSel_upk 13 hb_ rfl rfl rfl), Q_BK116, fun h0_ => absurd ((hon 1 (by kernel_rfl)).symm.trans h0_) (by decide), Q_HB, fun _ h1_ => absurd ((hon 6 (by kernel_rfl)).symm.trans h1_) (by decide), fun _ h1_ => absurd ((hon 13 (by kernel_rfl)).symm.trans h1_) (by decide), Q_HI121_e13⟩
                    refine steps_cons ?_ ?_
                    ·
                     rintro b a w' ⟨ha, Q_BK116, Q_HI121, Q_HB, Q_HI121_e1, Q_HI121_e6, Q_HI121_e13⟩ hb_ hon hoff
                     refine ⟨_, rfl, fun K hK => ?_⟩
                     have e162 : a.tmps[162]? = some (.bool (t144 != 0)) := by rw [ha]; exact putSel_on (e := (15, 162, .bool (t144 != 0))) 13 rfl rfl (hon 15 (by kernel_rfl)) rfl
                     replace ha := aS ha
                     have BK116 := aS Q_BK116
                     have HB := aS Q_HB
                     have HI121 := aS (Q_HI121_e13 (hon 13 (by kernel_rfl)))
                     refine off_ (wanted_off rfl rfl rfl (e162.trans (by first | rfl | (simp [*]; done)))) ?_
                     refine hK.out _ _ ⟨(by rw [ha.out]; exact putSel_upk 14 hb_ rfl rfl rfl), Q_BK116, fun h0_ => absurd ((hon 1 (by kernel_rfl)).symm.trans h0_) (by decide), Q_HB, fun _ h1_ => absurd ((hon 6 (by kernel_rfl)).symm.trans h1_) (by decide), fun _ h1_ => absurd ((hon 13 (by kernel_rfl)).symm.trans h1_) (by decide), Q_HI121_e13⟩
                    refine steps_cons ?_ ?_
                    ·
                     rintro b a w' ⟨ha, Q_BK116, Q_HI121, Q_HB, Q_HI121_e1, Q_HI121_e6, Q_HI121_e13⟩ hb_ hon hoff
                     refine ⟨_, rfl, fun K hK => ?_⟩
                     have e162 : a.tmps[162]? = some (.bool (t144 != 0)) := by rw [ha]; exact putSel_on (e := (15, 162, .bool (t144 != 0))) 13 rfl rfl (hon 15 (by kernel_rfl)) rfl
                     replace ha := aS ha
                     have BK116 := aS Q_BK116
                     have HB := aS Q_HB
                     have HI121 := aS (Q_HI121_e13 (hon 13 (by kernel_rfl)))
                     refine off_ (wanted_off rfl rfl rfl (e162.trans (by first | rfl | (simp [*]; done)))) ?_
                     refine hK.out _ _ ⟨(by rw [ha.out]; exact putSel_upk 15 hb_ rfl rfl rfl), Q_BK116, fun h0_ => absurd ((hon 1 (by kernel_rfl)).symm.trans h0_) (by decide), Q_HB, fun _ h1_ => absurd ((hon 6 (by kernel_rfl)).symm.trans h1_) (by decide), fun _ h1_ => absurd ((hon 13 (by kernel_rfl)).symm.trans h1_) (by decide), Q_HI121_e13⟩
                    refine steps_cons ?_ ?_
                    ·
                     rintro b a w' ⟨ha, Q_BK116, Q_HI121, Q_HB, Q_HI121_e1, Q_HI121_e6, Q_HI121_e13⟩ hb_ hon hoff
                     refine ⟨_, rfl, fun K hK => ?_⟩
                     have e162 : a.tmps[162]? = some (.bool (t144 != 0)) := by rw [ha]; exact putSel_on (e := (15, 162, .bool (t144 != 0))) 13 rfl rfl (hon 15 (by kernel_rfl)) rfl
                     have e164 : a.tmps[164]? = some (undef) := by rw [ha]; exact putSel_on (e := (17, 164, undef)) 15 rfl rfl (hon 17 (by kernel_rfl)) rfl
                     have e158 : a.tmps[158]? = some (.bool ((t139 == 3) != x10_20)) := by rw [ha]; exact putSel_on (e := (11, 158, .bool ((t139 == 3) != x10_20))) 9 rfl rfl (hon 11 (by kernel_rfl)) rfl
                     replace ha := aS ha
                     have BK116 := aS Q_BK116
                     have HB := aS Q_HB
                     have HI121 := aS (Q_HI121_e13 (hon 13 (by kernel_rfl)))
                     refine value_ (w1 := w') (v := .bool false) (wanted_on rfl rfl rfl (e158.trans (by first | rfl | (simp [*]; done)))) rfl ?_ ?_
                     ·
                      go_simp
                      (try simp only [i64_w])
                      try rfl
                     refine hK.out _ _ ⟨(by rw [ha.out]; exact putSel_upk 16 hb_ rfl rfl rfl), Q_BK116, fun h0_ => absurd ((hon 1 (by kernel_rfl)).symm.trans h0_) (by decide), Q_HB, fun _ h1_ => absurd ((hon 6 (by kernel_rfl)).symm.trans h1_) (by decide), fun _ h1_ => absurd ((hon 13 (by kernel_rfl)).symm.trans h1_) (by decide), Q_HI121_e13⟩
                    refine steps_cons ?_ ?_
                    ·
                     rintro b a w' ⟨ha, Q_BK116, Q_HI121, Q_HB, Q_HI121_e1, Q_HI121_e6, Q_HI121_e13⟩ hb_ hon hoff
                     refine ⟨_, rfl, fun K hK => ?_⟩
                     have e158 : a.tmps[158]? = some (.bool ((t139 == 3) != x10_20)) := by rw [ha]; exact putSel_on (e := (11, 158, .bool ((t139 == 3) != x10_20))) 9 rfl rfl (hon 11 (by kernel_rfl)) rfl
                     have e165 : a.tmps[165]? = some (.bool false) := by rw [ha]; exact putSel_on (e := (18, 165, .bool false)) 16 rfl rfl (hon 18 (by kernel_rfl)) rfl
                     replace ha := aS ha
                     have BK116 := aS Q_BK116
                     have HB := aS Q_HB
                     have HI121 := aS (Q_HI121_e13 (hon 13 (by kernel_rfl)))
                     refine value_ (w1 := w') (v := .bool false) (by rfl) rfl ?_ ?_
                     ·
                      go_simp
                      (try simp only [i64_w])
                      try rfl
                     refine hK.out _ _ ⟨(by rw [ha.out]; exact putSel_upk 17 hb_ rfl rfl rfl), Q_BK116, fun h0_ => absurd ((hon 1 (by kernel_rfl)).symm.trans h0_) (by decide), Q_HB, fun _ h1_ => absurd ((hon 6 (by kernel_rfl)).symm.trans h1_) (by decide), fun _ h1_ => absurd ((hon 13 (by kernel_rfl)).symm.trans h1_) (by decide), Q_HI121_e13⟩
                    refine steps_cons ?_ ?_
                    ·
                     rintro b a w' ⟨ha, Q_BK116, Q_HI121, Q_HB, Q_HI121_e1, Q_HI121_e6, Q_HI121_e13⟩ hb_ hon hoff
                     refine ⟨_, rfl, fun K hK => ?_⟩
                     have e166 : a.tmps[166]? = some (.bool false) := by rw [ha]; exact putSel_on (e := (19, 166, .bool false)) 17 rfl rfl (hon 19 (by kernel_rfl)) rfl
                     replace ha := aS ha
                     have BK116 := aS Q_BK116
                     have HB := aS Q_HB
                     have HI121 := aS (Q_HI121_e13 (hon 13 (by kernel_rfl)))
                     refine value_ (w1 := w') (v := .bool false) (by rfl) rfl ?_ ?_
                     ·
                      go_simp
                      (try simp only [i64_w])
                      try rfl
                     refine hK.out _ _ ⟨(by rw [ha.out]; exact putSel_upk 18 hb_ rfl rfl rfl), Q_BK116, fun h0_ => absurd ((hon 1 (by kernel_rfl)).symm.trans h0_) (by decide), Q_HB, fun _ h1_ => absurd ((hon 6 (by kernel_rfl)).symm.trans h1_) (by decide), fun _ h1_ => absurd ((hon 13 (by kernel_rfl)).symm.trans h1_) (by decide), Q_HI121_e13⟩
                    refine steps_cons ?_ ?_
                    ·
                     rintro b a w' ⟨ha, Q_BK116, Q_HI121, Q_HB, Q_HI121_e1, Q_HI121_e6, Q_HI121_e13⟩ hb_ hon hoff
                     refine ⟨_, rfl, fun K hK => ?_⟩
                     have e8 : a.tmps[8]? = some (.pointer (some ⟨g121, 0, none⟩)) := by rw [ha]; exact (putSel_off rfl).trans rfl
                     have e167 : a.tmps[167]? = some (.bool false) := by rw [ha]; exact putSel_on (e := (20, 167, .bool false)) 18 rfl rfl (hon 20 (by kernel_rfl)) rfl
                     replace ha := aS ha
                     have BK116 := aS Q_BK116
                     have HB := aS Q_HB
                     have HI121 := aS (Q_HI121_e13 (hon 13 (by kernel_rfl)))
                     refine value_ (w1 := w') (v := .pointer (some ⟨g121, 0, none⟩)) (wanted_on rfl rfl rfl (e167.trans (by first | rfl | (simp [*]; done)))) rfl ?_ ?_
                     ·
                      go_simp
                      (try simp only [i64_w])
                      try rfl
                     refine hK.out _ _ ⟨(by rw [ha.out]; exact putSel_upk 19 hb_ rfl rfl rfl), Q_BK116, fun h0_ => absurd ((hon 1 (by kernel_rfl)).symm.trans h0_) (by decide), Q_HB, fun _ h1_ => absurd ((hon 6 (by kernel_rfl)).symm.trans h1_) (by decide), fun _ h1_ => absurd ((hon 13 (by kernel_rfl)).symm.trans h1_) (by decide), Q_HI121_e13⟩
                    refine steps_cons ?_ ?_
                    ·
                     rintro b a w' ⟨ha, Q_BK116, Q_HI121, Q_HB, Q_HI121_e1, Q_HI121_e6, Q_HI121_e13⟩ hb_ hon hoff
                     refine ⟨_, rfl, fun K hK => ?_⟩
                     have e168 : a.tmps[168]? = some (.pointer (some ⟨g121, 0, none⟩)) := by rw [ha]; exact putSel_on (e := (21, 168, .pointer (some ⟨g121, 0, none⟩))) 19 rfl rfl (hon 21 (by kernel_rfl)) rfl
                     have e167 : a.tmps[167]? = some (.bool false) := by rw [ha]; exact putSel_on (e := (20, 167, .bool false)) 18 rfl rfl (hon 20 (by kernel_rfl)) rfl
                     replace ha := aS ha
                     have BK116 := aS Q_BK116
                     have HB := aS Q_HB
                     have HI121 := aS (Q_HI121_e13 (hon 13 (by kernel_rfl)))
                     refine value_ (w1 := w') (v := .pointer (some ⟨g121, 0, none⟩)) (wanted_on rfl rfl rfl (e167.trans (by first | rfl | (simp [*]; done)))) rfl ?_ ?_
                     ·
                      go_simp
                      (try simp only [i64_w])
                      try rfl
                     refine hK.out _ _ ⟨(by rw [ha.out]; exact putSel_upk 20 hb_ rfl rfl rfl), Q_BK116, fun h0_ => absurd ((hon 1 (by kernel_rfl)).symm.trans h0_) (by decide), Q_HB, fun _ h1_ => absurd ((hon 6 (by kernel_rfl)).symm.trans h1_) (by decide), fun _ h1_ => absurd ((hon 13 (by kernel_rfl)).symm.trans h1_) (by decide), Q_HI121_e13⟩
                    refine steps_cons ?_ ?_
                    ·
                     rintro b a w' ⟨ha, Q_BK116, Q_HI121, Q_HB, Q_HI121_e1, Q_HI121_e6, Q_HI121_e13⟩ hb_ hon hoff
                     refine ⟨_, rfl, fun K hK => ?_⟩
                     have e169 : a.tmps[169]? = some (.pointer (some ⟨g121, 0, none⟩)) := by rw [ha]; exact putSel_on (e := (22, 169, .pointer (some ⟨g121, 0, none⟩))) 20 rfl rfl (hon 22 (by kernel_rfl)) rfl
                     have e167 : a.tmps[167]? = some (.bool false) := by rw [ha]; exact putSel_on (e := (20, 167, .bool false)) 18 rfl rfl (hon 20 (by kernel_rfl)) rfl
                     replace ha := aS ha
                     have BK116 := aS Q_BK116
                     have HB := aS Q_HB
                     have HI121 := aS (Q_HI121_e13 (hon 13 (by kernel_rfl)))
                     refine value_ (w1 := w') (v := .pointer (some ⟨g121, 0, none⟩)) (wanted_on rfl rfl rfl (e167.trans (by first | rfl | (simp [*]; done)))) rfl ?_ ?_
                     ·
                      go_simp
                      (try simp only [i64_w])
                      try rfl
                     refine hK.out _ _ ⟨(by rw [ha.out]; exact putSel_upk 21 hb_ rfl rfl rfl), Q_BK116, fun h0_ => absurd ((hon 1 (by kernel_rfl)).symm.trans h0_) (by decide), Q_HB, fun _ h1_ => absurd ((hon 6 (by kernel_rfl)).symm.trans h1_) (by decide), fun _ h1_ => absurd ((hon 13 (by kernel_rfl)).symm.trans h1_) (by decide), Q_HI121_e13⟩
                    refine steps_cons ?_ ?_
                    ·
                     rintro b a w' ⟨ha, Q_BK116, Q_HI121, Q_HB, Q_HI121_e1, Q_HI121_e6, Q_HI121_e13⟩ hb_ hon hoff
                     refine ⟨_, rfl, fun K hK => ?_⟩
                     have e170 : a.tmps[170]? = some (.pointer (some ⟨g121, 0, none⟩)) := by rw [ha]; exact putSel_on (e := (23, 170, .pointer (some ⟨g121, 0, none⟩))) 21 rfl rfl (hon 23 (by kernel_rfl)) rfl
                     have e167 : a.tmps[167]? = some (.bool false) := by rw [ha]; exact putSel_on (e := (20, 167, .bool false)) 18 rfl rfl (hon 20 (by kernel_rfl)) rfl
                     replace ha := aS ha
                     have BK116 := aS Q_BK116
                     have HB := aS Q_HB
                     have HI121 := aS (Q_HI121_e13 (hon 13 (by kernel_rfl)))
                     refine value_ (w1 := w') (v := .pointer (some ⟨g121, 0, none⟩)) (wanted_on rfl rfl rfl (e167.trans (by first | rfl | (simp [*]; done)))) rfl ?_ ?_
                     ·
                      go_simp
                      (try simp only [i64_w])
                      try rfl
                     refine hK.out _ _ ⟨(by rw [ha.out]; exact putSel_upk 22 hb_ rfl rfl rfl), Q_BK116, fun h0_ => absurd ((hon 1 (by kernel_rfl)).symm.trans h0_) (by decide), Q_HB, fun _ h1_ => absurd ((hon 6 (by kernel_rfl)).symm.trans h1_) (by decide), fun _ h1_ => absurd ((hon 13 (by kernel_rfl)).symm.trans h1_) (by decide), Q_HI121_e13⟩
                    refine steps_cons ?_ ?_
                    ·
                     rintro b a w' ⟨ha, Q_BK116, Q_HI121, Q_HB, Q_HI121_e1, Q_HI121_e6, Q_HI121_e13⟩ hb_ hon hoff
                     refine ⟨_, rfl, fun K hK => ?_⟩
                     have e171 : a.tmps[171]? = some (.pointer (some ⟨g121, 0, none⟩)) := by rw [ha]; exact putSel_on (e := (24, 171, .pointer (some ⟨g121, 0, none⟩))) 22 rfl rfl (hon 24 (by kernel_rfl)) rfl
                     have e167 : a.tmps[167]? = some (.bool false) := by rw [ha]; exact putSel_on (e := (20, 167, .bool false)) 18 rfl rfl (hon 20 (by kernel_rfl)) rfl
                     replace ha := aS ha
                     have BK116 := aS Q_BK116
                     have HB := aS Q_HB
                     have HI121 := aS (Q_HI121_e13 (hon 13 (by kernel_rfl)))
                     have hc0_ := cellS43_0 HI121.out.1
                     have hc1_ := cellS43_1 HI121.out.1
                     have hc2_ := cellS43_2 HI121.out.1
                     have hc3_ := cellS43_3 HI121.out.1
                     refine value_ (w1 := w') (v := .bool t145) (wanted_on rfl rfl rfl (e167.trans (by first | rfl | (simp [*]; done)))) rfl ?_ ?_
                     ·
                      go_simp
                      (try simp only [i64_w])
                      try rfl
                     refine hK.out _ _ ⟨(by rw [ha.out]; exact putSel_upk 23 hb_ rfl rfl rfl), Q_BK116, fun h0_ => absurd ((hon 1 (by kernel_rfl)).symm.trans h0_) (by decide), Q_HB, fun _ h1_ => absurd ((hon 6 (by kernel_rfl)).symm.trans h1_) (by decide), fun _ h1_ => absurd ((hon 13 (by kernel_rfl)).symm.trans h1_) (by decide), Q_HI121_e13⟩
                    refine steps_cons ?_ ?_
                    ·
                     rintro b a w' ⟨ha, Q_BK116, Q_HI121, Q_HB, Q_HI121_e1, Q_HI121_e6, Q_HI121_e13⟩ hb_ hon hoff
                     refine ⟨_, rfl, fun K hK => ?_⟩
                     have e7 : a.tmps[7]? = some (.pointer (some ⟨gb116, 0, none⟩)) := by rw [ha]; exact (putSel_off rfl).trans rfl
                     have e167 : a.tmps[167]? = some (.bool false) := by rw [ha]; exact putSel_on (e := (20, 167, .bool false)) 18 rfl rfl (hon 20 (by kernel_rfl)) rfl
                     replace ha := aS ha
                     have BK116 := aS Q_BK116
                     have HB := aS Q_HB
                     have HI121 := aS (Q_HI121_e13 (hon 13 (by kernel_rfl)))
                     refine value_ (w1 := w') (v := .pointer (some ⟨gb116, 0, none⟩)) (wanted_on rfl rfl rfl (e167.trans (by first | rfl | (simp [*]; done)))) rfl ?_ ?_
                     ·
                      go_simp
                      (try simp only [i64_w])
                      try rfl
                     refine hK.out _ _ ⟨(by rw [ha.out]; exact putSel_upk 24 hb_ rfl rfl rfl), Q_BK116, fun h0_ => absurd ((hon 1 (by kernel_rfl)).symm.trans h0_) (by decide), Q_HB, fun _ h1_ => absurd ((hon 6 (by kernel_rfl)).symm.trans h1_) (by decide), fun _ h1_ => absurd ((hon 13 (by kernel_rfl)).symm.trans h1_) (by decide), Q_HI121_e13⟩
                    refine steps_cons ?_ ?_
                    ·
                     rintro b a w' ⟨ha, Q_BK116, Q_HI121, Q_HB, Q_HI121_e1, Q_HI121_e6, Q_HI121_e13⟩ hb_ hon hoff
                     refine ⟨_, rfl, fun K hK => ?_⟩
                     have e173 : a.tmps[173]? = some (.pointer (some ⟨gb116, 0, none⟩)) := by rw [ha]; exact putSel_on (e := (26, 173, .pointer (some ⟨gb116, 0, none⟩))) 24 rfl rfl (hon 26 (by kernel_rfl)) rfl
                     have e167 : a.tmps[167]? = some (.bool false) := by rw [ha]; exact putSel_on (e := (20, 167, .bool false)) 18 rfl rfl (hon 20 (by kernel_rfl)) rfl
                     replace ha := aS ha
                     have BK116 := aS Q_BK116
                     have HB := aS Q_HB
                     have HI121 := aS (Q_HI121_e13 (hon 13 (by kernel_rfl)))
                     have hc0_ : w'.cell? ⟨gb116, 0, none⟩ = some (.bool bl10) := (blk_cell BK116.out 0).trans rfl
                     refine value_ (w1 := w') (v := .bool bl10) (wanted_on rfl rfl rfl (e167.trans (by first | rfl | (simp [*]; done)))) rfl ?_ ?_
                     ·
                      go_simp
                      (try simp only [i64_w])
                      try rfl
                     refine hK.out _ _ ⟨(by rw [ha.out]; exact putSel_upk 25 hb_ rfl rfl rfl), Q_BK116, fun h0_ => absurd ((hon 1 (by kernel_rfl)).symm.trans h0_) (by decide), Q_HB, fun _ h1_ => absurd ((hon 6 (by kernel_rfl)).symm.trans h1_) (by decide), fun _ h1_ => absurd ((hon 13 (by kernel_rfl)).symm.trans h1_) (by decide), Q_HI121_e13⟩
                    refine steps_cons ?_ ?_
                    ·
                     rintro b a w' ⟨ha, Q_BK116, Q_HI121, Q_HB, Q_HI121_e1, Q_HI121_e6, Q_HI121_e13⟩ hb_ hon hoff
                     refine ⟨_, rfl, fun K hK => ?_⟩
                     have e172 : a.tmps[172]? = some (.bool t145) := by rw [ha]; exact putSel_on (e := (25, 172, .bool t145)) 23 rfl rfl (hon 25 (by kernel_rfl)) rfl
                     have e174 : a.tmps[174]? = some (.bool bl10) := by rw [ha]; exact putSel_on (e := (27, 174, .bool bl10)) 25 rfl rfl (hon 27 (by kernel_rfl)) rfl
                     have e167 : a.tmps[167]? = some (.bool false) := by rw [ha]; exact putSel_on (e := (20, 167, .bool false)) 18 rfl rfl (hon 20 (by kernel_rfl)) rfl
                     replace ha := aS ha
                     have BK116 := aS Q_BK116
                     have HB := aS Q_HB
                     have HI121 := aS (Q_HI121_e13 (hon 13 (by kernel_rfl)))
                     refine value_ (w1 := w') (v := .bool (t145 != bl10)) (wanted_on rfl rfl rfl (e167.trans (by first | rfl | (simp [*]; done)))) rfl ?_ ?_
                     ·
                      go_simp
                      (try simp only [i64_w])
                      try rfl
                     refine hK.out _ _ ⟨(by rw [ha.out]; exact putSel_upk 26 hb_ rfl rfl rfl), Q_BK116, fun h0_ => absurd ((hon 1 (by kernel_rfl)).symm.trans h0_) (by decide), Q_HB, fun _ h1_ => absurd ((hon 6 (by kernel_rfl)).symm.trans h1_) (by decide), fun _ h1_ => absurd ((hon 13 (by kernel_rfl)).symm.trans h1_) (by decide), Q_HI121_e13⟩
                    refine steps_cons ?_ ?_
                    ·
                     rintro b a w' ⟨ha, Q_BK116, Q_HI121, Q_HB, Q_HI121_e1, Q_HI121_e6, Q_HI121_e13⟩ hb_ hon hoff
                     refine ⟨_, rfl, fun K hK => ?_⟩
                     have e167 : a.tmps[167]? = some (.bool false) := by rw [ha]; exact putSel_on (e := (20, 167, .bool false)) 18 rfl rfl (hon 20 (by kernel_rfl)) rfl
                     have e175 : a.tmps[175]? = some (.bool (t145 != bl10)) := by rw [ha]; exact putSel_on (e := (28, 175, .bool (t145 != bl10))) 26 rfl rfl (hon 28 (by kernel_rfl)) rfl
                     replace ha := aS ha
                     have BK116 := aS Q_BK116
                     have HB := aS Q_HB
                     have HI121 := aS (Q_HI121_e13 (hon 13 (by kernel_rfl)))
                     refine value_ (w1 := w') (v := .bool (t145 != bl10)) (by rfl) rfl ?_ ?_
                     ·
                      go_simp
                      (try simp only [i64_w])
                      try rfl
                     refine hK.out _ _ ⟨(by rw [ha.out]; exact putSel_upk 27 hb_ rfl rfl rfl), Q_BK116, fun h0_ => absurd ((hon 1 (by kernel_rfl)).symm.trans h0_) (by decide), Q_HB, fun _ h1_ => absurd ((hon 6 (by kernel_rfl)).symm.trans h1_) (by decide), fun _ h1_ => absurd ((hon 13 (by kernel_rfl)).symm.trans h1_) (by decide), Q_HI121_e13⟩
                    exact steps_nil
                   rintro b a w71 hall ⟨ha, Q_BK116, Q_HI121, Q_HB, Q_HI121_e1, Q_HI121_e6, Q_HI121_e13⟩
                   clear BK116 HB HI121
                   have hb1_ := hall 1 (by kernel_rfl)
                   have hb3_ := hall 3 (by kernel_rfl)
                   have hb4_ := hall 4 (by kernel_rfl)
                   have hb5_ := hall 5 (by kernel_rfl)
                   have hb6_ := hall 6 (by kernel_rfl)
                   have hb7_ := hall 7 (by kernel_rfl)
                   have hb8_ := hall 8 (by kernel_rfl)
                   have hb9_ := hall 9 (by kernel_rfl)
                   have hb10_ := hall 10 (by kernel_rfl)
                   have hb11_ := hall 11 (by kernel_rfl)
                   have hb12_ := hall 12 (by kernel_rfl)
                   have hb13_ := hall 13 (by kernel_rfl)
                   have hb14_ := hall 14 (by kernel_rfl)
                   have hb15_ := hall 15 (by kernel_rfl)
                   have hb16_ := hall 16 (by kernel_rfl)
                   have hb17_ := hall 17 (by kernel_rfl)
                   have hb18_ := hall 18 (by kernel_rfl)
                   have hb19_ := hall 19 (by kernel_rfl)
                   have hb20_ := hall 20 (by kernel_rfl)
                   have hb21_ := hall 21 (by kernel_rfl)
                   have hb22_ := hall 22 (by kernel_rfl)
                   have hb23_ := hall 23 (by kernel_rfl)
                   have hb24_ := hall 24 (by kernel_rfl)
                   have hb25_ := hall 25 (by kernel_rfl)
                   have hb26_ := hall 26 (by kernel_rfl)
                   have hb27_ := hall 27 (by kernel_rfl)
                   have hb28_ := hall 28 (by kernel_rfl)
                   have hb29_ := hall 29 (by kernel_rfl)
                   subst ha
                   simp only [putSel, hb1_, hb3_, hb4_, hb5_, hb6_, hb7_, hb8_, hb9_, hb10_, hb11_, hb12_, hb13_, hb14_, hb15_, hb16_, hb17_, hb18_, hb19_, hb20_, hb21_, hb22_, hb23_, hb24_, hb25_, hb26_, hb27_, hb28_, hb29_, if_true, Act.put, List.setIfInBounds_toArray, List.set_cons_zero, List.set_cons_succ]
                   have BK116 := aS Q_BK116
                   clear Q_BK116
                   clear Q_HI121
                   have HB := aS Q_HB
                   clear Q_HB
                   clear Q_HI121_e1
                   clear Q_HI121_e6
                   have HI121 := aS (Q_HI121_e13 hb13_)
                   clear Q_HI121_e13
                   clear hall hb1_ hb3_ hb4_ hb5_ hb6_ hb7_ hb8_ hb9_ hb10_ hb11_ hb12_ hb13_ hb14_ hb15_ hb16_ hb17_ hb18_ hb19_ hb20_ hb21_ hb22_ hb23_ hb24_ hb25_ hb26_ hb27_ hb28_ hb29_
                   try go_wp2
                   (try (rename_i h_; exact absurd (h_.symm.trans (show _ = false by assumption)) (by decide)))
                   go_roundg kj20
                   case measure => have := HK1.out; have := HJ15.out; have := HJ20.out; omega
                   case rel => exact ⟨(x9_20), (x10_20), (wrap64 (x11_1 + 1)), (t145), (t146), (t147), (t148), (by first | rfl | (simp; done) | (simp [*]; done)), (by first | rfl | (simp; done) | (simp [*]; done)), (by first | rfl | (simp; done) | (simp [*]; done)), H', ⟨by have := HK1.out; have := HJ15.out; have := HJ20.out; omega⟩, ⟨by (with_reducible repeat (first | apply bN | apply bD | apply bA)); exact BK116.out⟩, ⟨by repeat (first | (with_reducible first | exact HI121.out | apply IsS43.alloc | apply IsS43.drewN | apply IsS43.drew | apply IsS43.set_0 | apply IsS43.set_1 | apply IsS43.set_2 | apply IsS43.set_3 | refine IsS43.far ?_ NB121_116.out _) | exact HI121.out)⟩, ⟨by repeat (first | (with_reducible first | exact HB.out | apply eA | apply eN | apply eD | refine below_set ?_ (IsS43.ge HI121.out) | refine below_set ?_ GE116.out) | exact HB.out)⟩⟩
                 ·
                  rw [if_neg c65] at H
                  have c65b0 : (t144 == 0) = false := beq_eq_false_iff_ne.mpr c65
                  have c65b1 : (t144 != 0) = true := bne_iff_ne.mpr c65
                  by_cases c72 : x10_20 = true
                  ·
                   subst c72
                   have H1 : (if (t145 != bl10) = true then (some false) else (graverlaw01_OrderReads.l0 kj20 sc9 l2 x9_20 true (wrap64 (x11_1 + 1)) bl10 t145 t146 t147 t148)) = some r := by rw [if_pos rfl] at H; exact H
                   clear H
                   have H := H1
                   clear H1
                   by_cases c73 : (t145 != bl10) = true
                   ·
                    rw [if_pos c73] at H
                    have c73b0 : (t145 != bl10) = true := c73
                    (try (have c73b1 : decide (t145 = bl10) = false := by simpa using c73))
                    (try (have c73b2 : (t145 == bl10) = false := by simpa using c73))
                    (try (have c73b3 : ¬ (t145 = bl10) := by simpa using c73))
                    clear c73
                    exact absurd ((Option.some.inj H).trans HRT.out) (by decide)
                   ·
                    rw [if_neg c73] at H
                    have c73b0 : (t145 != bl10) = false := by simpa using c73
                    (try (have c73b1 : decide (t145 = bl10) = true := by simpa using c73))
                    (try (have c73b2 : (t145 == bl10) = true := by simpa using c73))
                    clear c73
                    have H' := aS H
                    clear H
                    try go_wp2
                    have n0_ := aS (blk_drew BK116.out)
                    have n1_ := aS (IsS43.drew HI121.out)
                    have n2_ := aS (below_drew1 HB.out)
                    clear BK116
                    clear HI121
                    clear HB
                    have BK116 := n0_
                    have HI121 := n1_
                    have HB := n2_
                    clear n0_ n1_ n2_
                    refine start_ (n := 30) (S := fun w' => True) (ds := []) #[false, false, false, false, false, false, false, false, false, false, false, false, false, false, false, false, false, false, false, false, false, false, false, false, false, false, false, false, false, false] (by kernel_rfl) rfl rfl trivial (fun hHeld => ?_); refine with_tabW graverlaw01_OrderReads.tab31 graverlaw01_OrderReads.bits31 (fun HT_ HW_ => ?_)
                    generalize wc.drew = w74 at BK116 HI121 HB hHeld ⊢
                    refine pure_ (i := 0) (N := some 147) (v := ?_) (a' := ?_) (bm 30 1) rfl rfl (any_of HT_.out (by kernel_rfl)) (fun _ _ _ h => h) (Or.inl ⟨by rfl, ?_⟩) ?_ ?_
                    rotate_left
                    ·
                     intro w'
                     go_simp
                     with_reducible rfl
                    rotate_left
                    ·
                     simp only [Act.put, aput]
                     rfl
                    refine pure_ (i := 2) (N := some 149) (v := ?_) (a' := ?_) (bm 30 5) rfl rfl (any_of HT_.out (by kernel_rfl)) (fun _ _ _ h => h) (Or.inl ⟨by rfl, ?_⟩) ?_ ?_
                    rotate_left
                    ·
                     intro w'
                     go_simp
                     with_reducible rfl
                    rotate_left
                    ·
                     simp only [Act.put, aput]
                     rfl
                    refine inv_at [1, 3, 4, 5, 6, 7, 8, 9, 10, 11, 12, 13, 14, 15, 16, 17, 18, 19, 20, 21, 22, 23, 24, 25, 26, 27, 28, 29] (fun a0_ b a w' => a = putSel a0_ b [(1, 148, .int .u64 t134), (3, 150, .bool (t134 != x9_20)), (4, 151, .bool (t134 != x9_20)), (5, 152, .pointer (some ⟨g121, 0, none⟩)), (6, 153, .int .i64 t139), (7, 154, .bool (t139 == 3)), (8, 155, .bool true), (9, 156, .bool ((t139 == 3) != true)), (10, 157, .bool ((t139 == 3) != true)), (11, 158, .bool ((t139 == 3) != true)), (12, 159, .pointer (some ⟨g121, 0, none⟩)), (13, 160, .int .i64 t144), (14, 161, .bool (t144 != 0)), (15, 162, .bool (t144 != 0)), (16, 163, .bool true), (17, 164, .bool (!true)), (18, 165, .bool (!true)), (19, 166, .bool (!true)), (20, 167, .bool (!true)), (21, 168, .pointer (some ⟨g121, 0, none⟩)), (22, 169, .pointer (some ⟨g121, 0, none⟩)), (23, 170, .pointer (some ⟨g121, 0, none⟩)), (24, 171, .pointer (some ⟨g121, 0, none⟩)), (25, 172, .bool t145), (26, 173, .pointer (some ⟨gb116, 0, none⟩)), (27, 174, .bool bl10), (28, 175, .bool (t145 != bl10)), (29, 176, .bool (t145 != bl10))] ∧ (w'.heap[gb116]? = some (.cells #[.bool bl10] 25 (0, 0))) ∧ (b 1 = false → IsS43 w w' g121 x122000_20 x122001_20 x122002_20 x122003_20) ∧ (Below w.heap.size w w') ∧ (b 1 = true → b 6 = false → IsS43 w w' g121 t135 t136 t137 t138) ∧ (b 6 = true → b 13 = false → IsS43 w w' g121 t140 t141 t142 t143) ∧ (b 13 = true → IsS43 w w' g121 t145 t146 t147 t148)) HT_.out HW_.out (by kernel_rfl) (by kernel_rfl) ?_ ?_ ?_
                    ·
                     exact ⟨by simp only [putSel, Bool.false_eq_true, if_false], BK116.out, fun _ => HI121.out, HB.out, fun h_ => absurd h_ (by decide), fun h_ => absurd h_ (by decide), fun h_ => absurd h_ (by decide)⟩
                    ·
                     skip
                     clear BK116 HB HI121
                     refine steps_cons ?_ ?_
                     ·
                      rintro b a w' ⟨ha, Q_BK116, Q_HI121, Q_HB, Q_HI121_e1, Q_HI121_e6, Q_HI121_e13⟩ hb_ hon hoff
                      refine ⟨_, rfl, fun K hK => ?_⟩
                      have e147 : a.tmps[147]? = some (.pointer (some ⟨g121, 0, none⟩)) := by rw [ha]; exact (putSel_off rfl).trans rfl
                      replace ha := aS ha
                      have BK116 := aS Q_BK116
                      have HI121 := aS (Q_HI121 hb_)
                      have HB := aS Q_HB
                      refine goes_ Try.func19 (by kernel_rfl) rfl #[.pointer (some ⟨g121, 0, none⟩)] (by rfl) rfl rfl (by first | (simp only [List.map_toArray, List.map_cons, List.map_nil, Act.eval, Array.getD_eq_getD_getElem?, Option.getD_some, e147]; done) | (simp only [List.map_toArray, List.map_cons, List.map_nil, Act.eval, Array.getD_eq_getD_getElem?, Option.getD_some, e147]; rfl)) ?_
                      with_reducible refine (order_Reader_At.calls g121 x122000_20 x122001_20 x122002_20 x122003_20 t134 t135 t136 t137 t138 w _ ?side1 ?side2 A60.out).mono ?_
                      (case side1 => repeat (first | (with_reducible first | exact HI121.out | apply IsS43.alloc | apply IsS43.drewN | apply IsS43.drew | apply IsS43.set_0 | apply IsS43.set_1 | apply IsS43.set_2 | apply IsS43.set_3 | refine IsS43.far ?_ NB121_116.out _) | exact HI121.out))
                      (case side2 => repeat (first | (with_reducible first | exact HB.out | apply eA | apply eN | apply eD | refine below_set ?_ (IsS43.ge HI121.out) | refine below_set ?_ GE116.out) | exact HB.out))
                      rintro e w75 ⟨rfl, hi, hb, hk⟩
                      refine ⟨_, rfl, ?_⟩
                      have n0_ := aS (KeepBut.blk hk (g' := gb116) (o := .cells #[.bool bl10] 25 (0, 0)) (by (with_reducible repeat (first | apply bN | apply bD | apply bA)); exact BK116.out) NB116_121.out (by simp))
                      have n1_ := aS (hb)
                      have n2_ := aS (hi)
                      clear BK116
                      clear HB
                      clear HI121
                      have BK116 := n0_
                      have HB := n1_
                      have HI121 := n2_
                      clear n0_ n1_ n2_
                      (try clear hb)
                      (try clear hb2)
                      (try clear hk)
                      (try clear hi)
                      refine hK.out _ _ ⟨(by rw [ha.out]; exact putSel_upk 0 hb_ rfl rfl rfl), (by (with_reducible repeat (first | apply bN | apply bD | apply bA)); exact BK116.out), fun h0_ => absurd ((up_self b 1).symm.trans h0_) (by decide), (by repeat (first | (with_reducible first | exact HB.out | apply eA | apply eN | apply eD | refine below_set ?_ (IsS43.ge HI121.out) | refine below_set ?_ GE116.out) | exact HB.out)), fun _ _ => (by repeat (first | (with_reducible first | exact HI121.out | apply IsS43.alloc | apply IsS43.drewN | apply IsS43.drew | apply IsS43.set_0 | apply IsS43.set_1 | apply IsS43.set_2 | apply IsS43.set_3 | refine IsS43.far ?_ NB121_116.out _) | exact HI121.out)), fun h0_ _ => absurd ((hoff 6 (by kernel_rfl)).symm.trans h0_) (by decide), fun h0_ => absurd ((hoff 13 (by kernel_rfl)).symm.trans h0_) (by decide)⟩
                     refine steps_cons ?_ ?_
                     ·
                      rintro b a w' ⟨ha, Q_BK116, Q_HI121, Q_HB, Q_HI121_e1, Q_HI121_e6, Q_HI121_e13⟩ hb_ hon hoff
                      refine ⟨_, rfl, fun K hK => ?_⟩
                      have e148 : a.tmps[148]? = some (.int .u64 t134) := by rw [ha]; exact putSel_on (e := (1, 148, .int .u64 t134)) 0 rfl rfl (hon 1 (by kernel_rfl)) rfl
                      have e149 : a.tmps[149]? = some (.int .u64 x9_20) := by rw [ha]; exact (putSel_off rfl).trans rfl
                      replace ha := aS ha
                      have BK116 := aS Q_BK116
                      have HB := aS Q_HB
                      have HI121 := aS (Q_HI121_e1 (hon 1 (by kernel_rfl)) (hoff 6 (by kernel_rfl)))
                      refine value_ (w1 := w') (v := .bool (t134 != x9_20)) (by rfl) rfl ?_ ?_
                      ·
                       go_simp
                       (try simp only [i64_w])
                       try rfl
                      refine hK.out _ _ ⟨(by rw [ha.out]; exact putSel_upk 1 hb_ rfl rfl rfl), Q_BK116, fun h0_ => absurd ((hon 1 (by kernel_rfl)).symm.trans h0_) (by decide), Q_HB, Q_HI121_e1, fun h0_ _ => absurd ((hoff 6 (by kernel_rfl)).symm.trans h0_) (by decide), fun h0_ => absurd ((hoff 13 (by kernel_rfl)).symm.trans h0_) (by decide)⟩
                     refine steps_cons ?_ ?_
                     ·
                      rintro b a w' ⟨ha, Q_BK116, Q_HI121, Q_HB, Q_HI121_e1, Q_HI121_e6, Q_HI121_e13⟩ hb_ hon hoff
                      refine ⟨_, rfl, fun K hK => ?_⟩
                      have e150 : a.tmps[150]? = some (.bool (t134 != x9_20)) := by rw [ha]; exact putSel_on (e := (3, 150, .bool (t134 != x9_20))) 1 rfl rfl (hon 3 (by kernel_rfl)) rfl
                      replace ha := aS ha
                      have BK116 := aS Q_BK116
                      have HB := aS Q_HB
                      have HI121 := aS (Q_HI121_e1 (hon 1 (by kernel_rfl)) (hoff 6 (by kernel_rfl)))
                      refine value_ (w1 := w') (v := .bool (t134 != x9_20)) (by rfl) rfl ?_ ?_
                      ·
                       go_simp
                       (try simp only [i64_w])
                       try rfl
                      refine hK.out _ _ ⟨(by rw [ha.out]; exact putSel_upk 2 hb_ rfl rfl rfl), Q_BK116, fun h0_ => absurd ((hon 1 (by kernel_rfl)).symm.trans h0_) (by decide), Q_HB, Q_HI121_e1, fun h0_ _ => absurd ((hoff 6 (by kernel_rfl)).symm.trans h0_) (by decide), fun h0_ => absurd ((hoff 13 (by kernel_rfl)).symm.trans h0_) (by decide)⟩
                     refine steps_cons ?_ ?_
                     ·
                      rintro b a w' ⟨ha, Q_BK116, Q_HI121, Q_HB, Q_HI121_e1, Q_HI121_e6, Q_HI121_e13⟩ hb_ hon hoff
                      refine ⟨_, rfl, fun K hK => ?_⟩
                      have e8 : a.tmps[8]? = some (.pointer (some ⟨g121, 0, none⟩)) := by rw [ha]; exact (putSel_off rfl).trans rfl
                      have e151 : a.tmps[151]? = some (.bool (t134 != x9_20)) := by rw [ha]; exact putSel_on (e := (4, 151, .bool (t134 != x9_20))) 2 rfl rfl (hon 4 (by kernel_rfl)) rfl
                      replace ha := aS ha
                      have BK116 := aS Q_BK116
                      have HB := aS Q_HB
                      have HI121 := aS (Q_HI121_e1 (hon 1 (by kernel_rfl)) (hoff 6 (by kernel_rfl)))
                      refine value_ (w1 := w') (v := .pointer (some ⟨g121, 0, none⟩)) (wanted_on rfl rfl rfl (e151.trans (by first | rfl | (simp [*]; done)))) rfl ?_ ?_
                      ·
                       go_simp
                       (try simp only [i64_w])
                       try rfl
                      refine hK.out _ _ ⟨(by rw [ha.out]; exact putSel_upk 3 hb_ rfl rfl rfl), Q_BK116, fun h0_ => absurd ((hon 1 (by kernel_rfl)).symm.trans h0_) (by decide), Q_HB, Q_HI121_e1, fun h0_ _ => absurd ((hoff 6 (by kernel_rfl)).symm.trans h0_) (by decide), fun h0_ => absurd ((hoff 13 (by kernel_rfl)).symm.trans h0_) (by decide)⟩
                     refine steps_cons ?_ ?_
                     ·
                      rintro b a w' ⟨ha, Q_BK116, Q_HI121, Q_HB, Q_HI121_e1, Q_HI121_e6, Q_HI121_e13⟩ hb_ hon hoff
                      refine ⟨_, rfl, fun K hK => ?_⟩
                      have e152 : a.tmps[152]? = some (.pointer (some ⟨g121, 0, none⟩)) := by rw [ha]; exact putSel_on (e := (5, 152, .pointer (some ⟨g121, 0, none⟩))) 3 rfl rfl (hon 5 (by kernel_rfl)) rfl
                      have e151 : a.tmps[151]? = some (.bool (t134 != x9_20)) := by rw [ha]; exact putSel_on (e := (4, 151, .bool (t134 != x9_20))) 2 rfl rfl (hon 4 (by kernel_rfl)) rfl
                      replace ha := aS ha
                      have BK116 := aS Q_BK116
                      have HB := aS Q_HB
                      have HI121 := aS (Q_HI121_e1 (hon 1 (by kernel_rfl)) hb_)
                      refine goes_ Try.func20 (by kernel_rfl) rfl #[.pointer (some ⟨g121, 0, none⟩)] (wanted_on rfl rfl rfl (e151.trans (by first | rfl | (simp [*]; done)))) rfl rfl (by first | (simp only [List.map_toArray, List.map_cons, List.map_nil, Act.eval, Array.getD_eq_getD_getElem?, Option.getD_some, e152, e151]; done) | (simp only [List.map_toArray, List.map_cons, List.map_nil, Act.eval, Array.getD_eq_getD_getElem?, Option.getD_some, e152, e151]; rfl)) ?_
                      with_reducible refine (order_Reader_Err.calls g121 t135 t136 t137 t138 t139 t140 t141 t142 t143 w _ ?side1 ?side2 A62.out).mono ?_
                      (case side1 => repeat (first | (with_reducible first | exact HI121.out | apply IsS43.alloc | apply IsS43.drewN | apply IsS43.drew | apply IsS43.set_0 | apply IsS43.set_1 | apply IsS43.set_2 | apply IsS43.set_3 | refine IsS43.far ?_ NB121_116.out _) | exact HI121.out))
                      (case side2 => repeat (first | (with_reducible first | exact HB.out | apply eA | apply eN | apply eD | refine below_set ?_ (IsS43.ge HI121.out) | refine below_set ?_ GE116.out) | exact HB.out))
                      rintro e w77 ⟨rfl, hi, hb, hk⟩
                      refine ⟨_, rfl, ?_⟩
                      have n0_ := aS (KeepBut.blk hk (g' := gb116) (o := .cells #[.bool bl10] 25 (0, 0)) (by (with_reducible repeat (first | apply bN | apply bD | apply bA)); exact BK116.out) NB116_121.out (by simp))
                      have n1_ := aS (hb)
                      have n2_ := aS (hi)
                      clear BK116
                      clear HB
                      clear HI121
                      have BK116 := n0_
                      have HB := n1_
                      have HI121 := n2_
                      clear n0_ n1_ n2_
                      (try clear hb)
                      (try clear hb2)
                      (try clear hk)
                      (try clear hi)
                      refine hK.out _ _ ⟨(by rw [ha.out]; exact putSel_upk 4 hb_ rfl rfl rfl), (by (with_reducible repeat (first | apply bN | apply bD | apply bA)); exact BK116.out), fun h0_ => absurd ((hon 1 (by kernel_rfl)).symm.trans h0_) (by decide), (by repeat (first | (with_reducible first | exact HB.out | apply eA | apply eN | apply eD | refine below_set ?_ (IsS43.ge HI121.out) | refine below_set ?_ GE116.out) | exact HB.out)), fun _ h1_ => absurd ((up_self b 6).symm.trans h1_) (by decide), fun _ _ => (by repeat (first | (with_reducible first | exact HI121.out | apply IsS43.alloc | apply IsS43.drewN | apply IsS43.drew | apply IsS43.set_0 | apply IsS43.set_1 | apply IsS43.set_2 | apply IsS43.set_3 | refine IsS43.far ?_ NB121_116.out _) | exact HI121.out)), fun h0_ => absurd ((hoff 13 (by kernel_rfl)).symm.trans h0_) (by decide)⟩
                     refine steps_cons ?_ ?_
                     ·
                      rintro b a w' ⟨ha, Q_BK116, Q_HI121, Q_HB, Q_HI121_e1, Q_HI121_e6, Q_HI121_e13⟩ hb_ hon hoff
                      refine ⟨_, rfl, fun K hK => ?_⟩
                      have e153 : a.tmps[153]? = some (.int .i64 t139) := by rw [ha]; exact putSel_on (e := (6, 153, .int .i64 t139)) 4 rfl rfl (hon 6 (by kernel_rfl)) rfl
                      have e151 : a.tmps[151]? = some (.bool (t134 != x9_20)) := by rw [ha]; exact putSel_on (e := (4, 151, .bool (t134 != x9_20))) 2 rfl rfl (hon 4 (by kernel_rfl)) rfl
                      replace ha := aS ha
                      have BK116 := aS Q_BK116
                      have HB := aS Q_HB
                      have HI121 := aS (Q_HI121_e6 (hon 6 (by kernel_rfl)) (hoff 13 (by kernel_rfl)))
                      refine value_ (w1 := w') (v := .bool (t139 == 3)) (wanted_on rfl rfl rfl (e151.trans (by first | rfl | (simp [*]; done)))) rfl ?_ ?_
                      ·
                       go_simp
                       (try simp only [i64_w])
                       try rfl
                      refine hK.out _ _ ⟨(by rw [ha.out]; exact putSel_upk 5 hb_ rfl rfl rfl), Q_BK116, fun h0_ => absurd ((hon 1 (by kernel_rfl)).symm.trans h0_) (by decide), Q_HB, fun _ h1_ => absurd ((hon 6 (by kernel_rfl)).symm.trans h1_) (by decide), Q_HI121_e6, fun h0_ => absurd ((hoff 13 (by kernel_rfl)).symm.trans h0_) (by decide)⟩
                     refine steps_cons ?_ ?_
                     ·
                      rintro b a w' ⟨ha, Q_BK116, Q_HI121, Q_HB, Q_HI121_e1, Q_HI121_e6, Q_HI121_e13⟩ hb_ hon hoff
                      refine ⟨_, rfl, fun K hK => ?_⟩
                      have e10 : a.tmps[10]? = some (.bool true) := by rw [ha]; exact (putSel_off rfl).trans rfl
                      have e151 : a.tmps[151]? = some (.bool (t134 != x9_20)) := by rw [ha]; exact putSel_on (e := (4, 151, .bool (t134 != x9_20))) 2 rfl rfl (hon 4 (by kernel_rfl)) rfl
                      replace ha := aS ha
                      have BK116 := aS Q_BK116
                      have HB := aS Q_HB
                      refine value_ (w1 := w') (v := .bool true) (wanted_on rfl rfl rfl (e151.trans (by first | rfl | (simp [*]; done)))) rfl ?_ ?_
                      ·
                       go_simp
                       (try simp only [i64_w])
                       try rfl
                      refine hK.out _ _ ⟨(by rw [ha.out]; exact putSel_upk 6 hb_ rfl rfl rfl), Q_BK116, fun h0_ => absurd ((hon 1 (by kernel_rfl)).symm.trans h0_) (by decide), Q_HB, Q_HI121_e1, Q_HI121_e6, fun h0_ => absurd ((hoff 13 (by kernel_rfl)).symm.trans h0_) (by decide)⟩
                     refine steps_cons ?_ ?_
                     ·
                      rintro b a w' ⟨ha, Q_BK116, Q_HI121, Q_HB, Q_HI121_e1, Q_HI121_e6, Q_HI121_e13⟩ hb_ hon hoff
                      refine ⟨_, rfl, fun K hK => ?_⟩
                      have e154 : a.tmps[154]? = some (.bool (t139 == 3)) := by rw [ha]; exact putSel_on (e := (7, 154, .bool (t139 == 3))) 5 rfl rfl (hon 7 (by kernel_rfl)) rfl
                      have e155 : a.tmps[155]? = some (.bool true) := by rw [ha]; exact putSel_on (e := (8, 155, .bool true)) 6 rfl rfl (hon 8 (by kernel_rfl)) rfl
                      have e151 : a.tmps[151]? = some (.bool (t134 != x9_20)) := by rw [ha]; exact putSel_on (e := (4, 151, .bool (t134 != x9_20))) 2 rfl rfl (hon 4 (by kernel_rfl)) rfl
                      replace ha := aS ha
                      have BK116 := aS Q_BK116
                      have HB := aS Q_HB
                      have HI121 := aS (Q_HI121_e6 (hon 6 (by kernel_rfl)) (hoff 13 (by kernel_rfl)))
                      refine value_ (w1 := w') (v := .bool ((t139 == 3) != true)) (wanted_on rfl rfl rfl (e151.trans (by first | rfl | (simp [*]; done)))) rfl ?_ ?_
                      ·
                       go_simp
                       (try simp only [i64_w])
                       try rfl
                      refine hK.out _ _ ⟨(by rw [ha.out]; exact putSel_upk 7 hb_ rfl rfl rfl), Q_BK116, fun h0_ => absurd ((hon 1 (by kernel_rfl)).symm.trans h0_) (by decide), Q_HB, fun _ h1_ => absurd ((hon 6 (by kernel_rfl)).symm.trans h1_) (by decide), Q_HI121_e6, fun h0_ => absurd ((hoff 13 (by kernel_rfl)).symm.trans h0_) (by decide)⟩
                     refine steps_cons ?_ ?_
                     ·
                      rintro b a w' ⟨ha, Q_BK116, Q_HI121, Q_HB, Q_HI121_e1, Q_HI121_e6, Q_HI121_e13⟩ hb_ hon hoff
                      refine ⟨_, rfl, fun K hK => ?_⟩
                      have e151 : a.tmps[151]? = some (.bool (t134 != x9_20)) := by rw [ha]; exact putSel_on (e := (4, 151, .bool (t134 != x9_20))) 2 rfl rfl (hon 4 (by kernel_rfl)) rfl
                      have e156 : a.tmps[156]? = some (.bool ((t139 == 3) != true)) := by rw [ha]; exact putSel_on (e := (9, 156, .bool ((t139 == 3) != true))) 7 rfl rfl (hon 9 (by kernel_rfl)) rfl
                      replace ha := aS ha
                      have BK116 := aS Q_BK116
                      have HB := aS Q_HB
                      have HI121 := aS (Q_HI121_e6 (hon 6 (by kernel_rfl)) (hoff 13 (by kernel_rfl)))
                      refine value_ (w1 := w') (v := .bool ((t139 == 3) != true)) (by rfl) rfl ?_ ?_
                      ·
                       go_simp
                       (try simp only [i64_w])
                       try rfl
                      refine hK.out _ _ ⟨(by rw [ha.out]; exact putSel_upk 8 hb_ rfl rfl rfl), Q_BK116, fun h0_ => absurd ((hon 1 (by kernel_rfl)).symm.trans h0_) (by decide), Q_HB, fun _ h1_ => absurd ((hon 6 (by kernel_rfl)).symm.trans h1_) (by decide), Q_HI121_e6, fun h0_ => absurd ((hoff 13 (by kernel_rfl)).symm.trans h0_) (by decide)⟩
                     refine steps_cons ?_ ?_
                     ·
                      rintro b a w' ⟨ha, Q_BK116, Q_HI121, Q_HB, Q_HI121_e1, Q_HI121_e6, Q_HI121_e13⟩ hb_ hon hoff
                      refine ⟨_, rfl, fun K hK => ?_⟩
                      have e157 : a.tmps[157]? = some (.bool ((t139 == 3) != true)) := by rw [ha]; exact putSel_on (e := (10, 157, .bool ((t139 == 3) != true))) 8 rfl rfl (hon 10 (by kernel_rfl)) rfl
                      replace ha := aS ha
                      have BK116 := aS Q_BK116
                      have HB := aS Q_HB
                      have HI121 := aS (Q_HI121_e6 (hon 6 (by kernel_rfl)) (hoff 13 (by kernel_rfl)))
                      refine value_ (w1 := w') (v := .bool ((t139 == 3) != true)) (by rfl) rfl ?_ ?_
                      ·
                       go_simp
                       (try simp only [i64_w])
                       try rfl
                      refine hK.out _ _ ⟨(by rw [ha.out]; exact putSel_upk 9 hb_ rfl rfl rfl), Q_BK116, fun h0_ => absurd ((hon 1 (by kernel_rfl)).symm.trans h0_) (by decide), Q_HB, fun _ h1_ => absurd ((hon 6 (by kernel_rfl)).symm.trans h1_) (by decide), Q_HI121_e6, fun h0_ => absurd ((hoff 13 (by kernel_rfl)).symm.trans h0_) (by decide)⟩
                     refine steps_cons ?_ ?_
                     ·
                      rintro b a w' ⟨ha, Q_BK116, Q_HI121, Q_HB, Q_HI121_e1, Q_HI121_e6, Q_HI121_e13⟩ hb_ hon hoff
                      refine ⟨_, rfl, fun K hK => ?_⟩
                      have e8 : a.tmps[8]? = some (.pointer (some ⟨g121, 0, none⟩)) := by rw [ha]; exact (putSel_off rfl).trans rfl
                      have e158 : a.tmps[158]? = some (.bool ((t139 == 3) != true)) := by rw [ha]; exact putSel_on (e := (11, 158, .bool ((t139 == 3) != true))) 9 rfl rfl (hon 11 (by kernel_rfl)) rfl
                      replace ha := aS ha
                      have BK116 := aS Q_BK116
                      have HB := aS Q_HB
                      have HI121 := aS (Q_HI121_e6 (hon 6 (by kernel_rfl)) (hoff 13 (by kernel_rfl)))
                      refine value_ (w1 := w') (v := .pointer (some ⟨g121, 0, none⟩)) (wanted_on rfl rfl rfl (e158.trans (by first | rfl | (simp [*]; done)))) rfl ?_ ?_
                      ·
                       go_simp
                       (try simp only [i64_w])
                       try rfl
                      refine hK.out _ _ ⟨(by rw [ha.out]; exact putSel_upk 10 hb_ rfl rfl rfl), Q_BK116, fun h0_ => absurd ((hon 1 (by kernel_rfl)).symm.trans h0_) (by decide), Q_HB, fun _ h1_ => absurd ((hon 6 (by kernel_rfl)).symm.trans h1_) (by decide), Q_HI121_e6, fun h0_ => absurd ((hoff 13 (by kernel_rfl)).symm.trans h0_) (by decide)⟩
                     refine steps_cons ?_ ?_
                     ·
                      rintro b a w' ⟨ha, Q_BK116, Q_HI121, Q_HB, Q_HI121_e1, Q_HI121_e6, Q_HI121_e13⟩ hb_ hon hoff
                      refine ⟨_, rfl, fun K hK => ?_⟩
                      have e159 : a.tmps[159]? = some (.pointer (some ⟨g121, 0, none⟩)) := by rw [ha]; exact putSel_on (e := (12, 159, .pointer (some ⟨g121, 0, none⟩))) 10 rfl rfl (hon 12 (by kernel_rfl)) rfl
                      have e158 : a.tmps[158]? = some (.bool ((t139 == 3) != true)) := by rw [ha]; exact putSel_on (e := (11, 158, .bool ((t139 == 3) != true))) 9 rfl rfl (hon 11 (by kernel_rfl)) rfl
                      replace ha := aS ha
                      have BK116 := aS Q_BK116
                      have HB := aS Q_HB
                      have HI121 := aS (Q_HI121_e6 (hon 6 (by kernel_rfl)) hb_)
                      refine goes_ Try.func20 (by kernel_rfl) rfl #[.pointer (some ⟨g121, 0, none⟩)] (wanted_on rfl rfl rfl (e158.trans (by first | rfl | (simp [*]; done)))) rfl rfl (by first | (simp only [List.map_toArray, List.map_cons, List.map_nil, Act.eval, Array.getD_eq_getD_getElem?, Option.getD_some, e159, e158]; done) | (simp only [List.map_toArray, List.map_cons, List.map_nil, Act.eval, Array.getD_eq_getD_getElem?, Option.getD_some, e159, e158]; rfl)) ?_
                      with_reducible refine (order_Reader_Err.calls g121 t140 t141 t142 t143 t144 t145 t146 t147 t148 w _ ?side1 ?side2 A64.out).mono ?_
                      (case side1 => repeat (first | (with_reducible first | exact HI121.out | apply IsS43.alloc | apply IsS43.drewN | apply IsS43.drew | apply IsS43.set_0 | apply IsS43.set_1 | apply IsS43.set_2 | apply IsS43.set_3 | refine IsS43.far ?_ NB121_116.out _) | exact HI121.out))
                      (case side2 => repeat (first | (with_reducible first | exact HB.out | apply eA | apply eN | apply eD | refine below_set ?_ (IsS43.ge HI121.out) | refine below_set ?_ GE116.out) | exact HB.out))
                      rintro e w78 ⟨rfl, hi, hb, hk⟩
                      refine ⟨_, rfl, ?_⟩
                      have n0_ := aS (KeepBut.blk hk (g' := gb116) (o := .cells #[.bool bl10] 25 (0, 0)) (by (with_reducible repeat (first | apply bN | apply bD | apply bA)); exact BK116.out) NB116_121.out (by simp))
                      have n1_ := aS (hb)
                      have n2_ := aS (hi)
                      clear BK116
                      clear HB
                      clear HI121
                      have BK116 := n0_
                      have HB := n1_
                      have HI121 := n2_
                      clear n0_ n1_ n2_
                      (try clear hb)
                      (try clear hb2)
                      (try clear hk)
                      (try clear hi)
                      refine hK.out _ _ ⟨(by rw [ha.out]; exact putSel_upk 11 hb_ rfl rfl rfl), (by (with_reducible repeat (first | apply bN | apply bD | apply bA)); exact BK116.out), fun h0_ => absurd ((hon 1 (by kernel_rfl)).symm.trans h0_) (by decide), (by repeat (first | (with_reducible first | exact HB.out | apply eA | apply eN | apply eD | refine below_set ?_ (IsS43.ge HI121.out) | refine below_set ?_ GE116.out) | exact HB.out)), fun _ h1_ => absurd ((hon 6 (by kernel_rfl)).symm.trans h1_) (by decide), fun _ h1_ => absurd ((up_self b 13).symm.trans h1_) (by decide), fun _ => (by repeat (first | (with_reducible first | exact HI121.out | apply IsS43.alloc | apply IsS43.drewN | apply IsS43.drew | apply IsS43.set_0 | apply IsS43.set_1 | apply IsS43.set_2 | apply IsS43.set_3 | refine IsS43.far ?_ NB121_116.out _) | exact HI121.out))⟩
                     refine steps_cons ?_ ?_
                     ·
                      rintro b a w' ⟨ha, Q_BK116, Q_HI121, Q_HB, Q_HI121_e1, Q_HI121_e6, Q_HI121_e13⟩ hb_ hon hoff
                      refine ⟨_, rfl, fun K hK => ?_⟩
                      have e160 : a.tmps[160]? = some (.int .i64 t144) := by rw [ha]; exact putSel_on (e := (13, 160, .int .i64 t144)) 11 rfl rfl (hon 13 (by kernel_rfl)) rfl
                      have e158 : a.tmps[158]? = some (.bool ((t139 == 3) != true)) := by rw [ha]; exact putSel_on (e := (11, 158, .bool ((t139 == 3) != true))) 9 rfl rfl (hon 11 (by kernel_rfl)) rfl
                      replace ha := aS ha
                      have BK116 := aS Q_BK116
                      have HB := aS Q_HB
                      have HI121 := aS (Q_HI121_e13 (hon 13 (by kernel_rfl)))
                      refine value_ (w1 := w') (v := .bool (t144 != 0)) (wanted_on rfl rfl rfl (e158.trans (by first | rfl | (simp [*]; done)))) rfl ?_ ?_
                      ·
                       go_simp
                       (try simp only [i64_w])
                       try rfl
                      refine hK.out _ _ ⟨(by rw [ha.out]; exact putSel_upk 12 hb_ rfl rfl rfl), Q_BK116, fun h0_ => absurd ((hon 1 (by kernel_rfl)).symm.trans h0_) (by decide), Q_HB, fun _ h1_ => absurd ((hon 6 (by kernel_rfl)).symm.trans h1_) (by decide), fun _ h1_ => absurd ((hon 13 (by kernel_rfl)).symm.trans h1_) (by decide), Q_HI121_e13⟩
                     refine steps_cons ?_ ?_
                     ·
                      rintro b a w' ⟨ha, Q_BK116, Q_HI121, Q_HB, Q_HI121_e1, Q_HI121_e6, Q_HI121_e13⟩ hb_ hon hoff
                      refine ⟨_, rfl, fun K hK => ?_⟩
                      have e161 : a.tmps[161]? = some (.bool (t144 != 0)) := by rw [ha]; exact putSel_on (e := (14, 161, .bool (t144 != 0))) 12 rfl rfl (hon 14 (by kernel_rfl)) rfl
                      have e158 : a.tmps[158]? = some (.bool ((t139 == 3) != true)) := by rw [ha]; exact putSel_on (e := (11, 158, .bool ((t139 == 3) != true))) 9 rfl rfl (hon 11 (by kernel_rfl)) rfl
                      replace ha := aS ha
                      have BK116 := aS Q_BK116
                      have HB := aS Q_HB
                      have HI121 := aS (Q_HI121_e13 (hon 13 (by kernel_rfl)))
                      refine value_ (w1 := w') (v := .bool (t144 != 0)) (wanted_on rfl rfl rfl (e158.trans (by first | rfl | (simp [*]; done)))) rfl ?_ ?_
                      ·
                       go_simp
                       (try simp only [i64_w])
                       try rfl
                      refine hK.out _ _ ⟨(by rw [ha.out]; exact putSel_upk 13 hb_ rfl rfl rfl), Q_BK116, fun h0_ => absurd ((hon 1 (by kernel_rfl)).symm.trans h0_) (by decide), Q_HB, fun _ h1_ => absurd ((hon 6 (by kernel_rfl)).symm.trans h1_) (by decide), fun _ h1_ => absurd ((hon 13 (by kernel_rfl)).symm.trans h1_) (by decide), Q_HI121_e13⟩
                     refine steps_cons ?_ ?_
                     ·
                      rintro b a w' ⟨ha, Q_BK116, Q_HI121, Q_HB, Q_HI121_e1, Q_HI121_e6, Q_HI121_e13⟩ hb_ hon hoff
                      refine ⟨_, rfl, fun K hK => ?_⟩
                      have e10 : a.tmps[10]? = some (.bool true) := by rw [ha]; exact (putSel_off rfl).trans rfl
                      have e162 : a.tmps[162]? = some (.bool (t144 != 0)) := by rw [ha]; exact putSel_on (e := (15, 162, .bool (t144 != 0))) 13 rfl rfl (hon 15 (by kernel_rfl)) rfl
                      replace ha := aS ha
                      have BK116 := aS Q_BK116
                      have HB := aS Q_HB
                      have HI121 := aS (Q_HI121_e13 (hon 13 (by kernel_rfl)))
                      refine value_ (w1 := w') (v := .bool true) (wanted_on rfl rfl rfl (e162.trans (by first | rfl | (simp [*]; done)))) rfl ?_ ?_
                      ·
                       go_simp
                       (try simp only [i64_w])
                       try rfl
                      refine hK.out _ _ ⟨(by rw [ha.out]; exact putSel_upk 14 hb_ rfl rfl rfl), Q_BK116, fun h0_ => absurd ((hon 1 (by kernel_rfl)).symm.trans h0_) (by decide), Q_HB, fun _ h1_ => absurd ((hon 6 (by kernel_rfl)).symm.trans h1_) (by decide), fun _ h1_ => absurd ((hon 13 (by kernel_rfl)).symm.trans h1_) (by decide), Q_HI121_e13⟩
                     refine steps_cons ?_ ?_
                     ·
                      rintro b a w' ⟨ha, Q_BK116, Q_HI121, Q_HB, Q_HI121_e1, Q_HI121_e6, Q_HI121_e13⟩ hb_ hon hoff
                      refine ⟨_, rfl, fun K hK => ?_⟩
                      have e163 : a.tmps[163]? = some (.bool true) := by rw [ha]; exact putSel_on (e := (16, 163, .bool true)) 14 rfl rfl (hon 16 (by kernel_rfl)) rfl
                      have e162 : a.tmps[162]? = some (.bool (t144 != 0)) := by rw [ha]; exact putSel_on (e := (15, 162, .bool (t144 != 0))) 13 rfl rfl (hon 15 (by kernel_rfl)) rfl
                      replace ha := aS ha
                      have BK116 := aS Q_BK116
                      have HB := aS Q_HB
                      have HI121 := aS (Q_HI121_e13 (hon 13 (by kernel_rfl)))
                      refine value_ (w1 := w') (v := .bool (!true)) (wanted_on rfl rfl rfl (e162.trans (by first | rfl | (simp [*]; done)))) rfl ?_ ?_
                      ·
                       go_simp
                       (try simp only [i64_w])
                       try rfl
                      refine hK.out _ _ ⟨(by rw [ha.out]; exact putSel_upk 15 hb_ rfl rfl rfl), Q_BK116, fun h0_ => absurd ((hon 1 (by kernel_rfl)).symm.trans h0_) (by decide), Q_HB, fun _ h1_ => absurd ((hon 6 (by kernel_rfl)).symm.trans h1_) (by decide), fun _ h1_ => absurd ((hon 13 (by kernel_rfl)).symm.trans h1_) (by decide), Q_HI121_e13⟩
                     refine steps_cons ?_ ?_
                     ·
                      rintro b a w' ⟨ha, Q_BK116, Q_HI121, Q_HB, Q_HI121_e1, Q_HI121_e6, Q_HI121_e13⟩ hb_ hon hoff
                      refine ⟨_, rfl, fun K hK => ?_⟩
                      have e162 : a.tmps[162]? = some (.bool (t144 != 0)) := by rw [ha]; exact putSel_on (e := (15, 162, .bool (t144 != 0))) 13 rfl rfl (hon 15 (by kernel_rfl)) rfl
                      have e164 : a.tmps[164]? = some (.bool (!true)) := by rw [ha]; exact putSel_on (e := (17, 164, .bool (!true))) 15 rfl rfl (hon 17 (by kernel_rfl)) rfl
                      have e158 : a.tmps[158]? = some (.bool ((t139 == 3) != true)) := by rw [ha]; exact putSel_on (e := (11, 158, .bool ((t139 == 3) != true))) 9 rfl rfl (hon 11 (by kernel_rfl)) rfl
                      replace ha := aS ha
                      have BK116 := aS Q_BK116
                      have HB := aS Q_HB
                      have HI121 := aS (Q_HI121_e13 (hon 13 (by kernel_rfl)))
                      refine value_ (w1 := w') (v := .bool (!true)) (wanted_on rfl rfl rfl (e158.trans (by first | rfl | (simp [*]; done)))) rfl ?_ ?_
                      ·
                       go_simp
                       (try simp only [i64_w])
                       try rfl
                      refine hK.out _ _ ⟨(by rw [ha.out]; exact putSel_upk 16 hb_ rfl rfl rfl), Q_BK116, fun h0_ => absurd ((hon 1 (by kernel_rfl)).symm.trans h0_) (by decide), Q_HB, fun _ h1_ => absurd ((hon 6 (by kernel_rfl)).symm.trans h1_) (by decide), fun _ h1_ => absurd ((hon 13 (by kernel_rfl)).symm.trans h1_) (by decide), Q_HI121_e13⟩
                     refine steps_cons ?_ ?_
                     ·
                      rintro b a w' ⟨ha, Q_BK116, Q_HI121, Q_HB, Q_HI121_e1, Q_HI121_e6, Q_HI121_e13⟩ hb_ hon hoff
                      refine ⟨_, rfl, fun K hK => ?_⟩
                      have e158 : a.tmps[158]? = some (.bool ((t139 == 3) != true)) := by rw [ha]; exact putSel_on (e := (11, 158, .bool ((t139 == 3) != true))) 9 rfl rfl (hon 11 (by kernel_rfl)) rfl
                      have e165 : a.tmps[165]? = some (.bool (!true)) := by rw [ha]; exact putSel_on (e := (18, 165, .bool (!true))) 16 rfl rfl (hon 18 (by kernel_rfl)) rfl
                      replace ha := aS ha
                      have BK116 := aS Q_BK116
                      have HB := aS Q_HB
                      have HI121 := aS (Q_HI121_e13 (hon 13 (by kernel_rfl)))
                      refine value_ (w1 := w') (v := .bool (!true)) (by rfl) rfl ?_ ?_
                      ·
                       go_simp
                       (try simp only [i64_w])
                       try rfl
                      refine hK.out _ _ ⟨(by rw [ha.out]; exact putSel_upk 17 hb_ rfl rfl rfl), Q_BK116, fun h0_ => absurd ((hon 1 (by kernel_rfl)).symm.trans h0_) (by decide), Q_HB, fun _ h1_ => absurd ((hon 6 (by kernel_rfl)).symm.trans h1_) (by decide), fun _ h1_ => absurd ((hon 13 (by kernel_rfl)).symm.trans h1_) (by decide), Q_HI121_e13⟩
                     refine steps_cons ?_ ?_
                     ·
                      rintro b a w' ⟨ha, Q_BK116, Q_HI121, Q_HB, Q_HI121_e1, Q_HI121_e6, Q_HI121_e13⟩ hb_ hon hoff
                      refine ⟨_, rfl, fun K hK => ?_⟩
                      have e166 : a.tmps[166]? = some (.bool (!true)) := by rw [ha]; exact putSel_on (e := (19, 166, .bool (!true))) 17 rfl rfl (hon 19 (by kernel_rfl)) rfl
                      replace ha := aS ha
                      have BK116 := aS Q_BK116
                      have HB := aS Q_HB
                      have HI121 := aS (Q_HI121_e13 (hon 13 (by kernel_rfl)))
                      refine value_ (w1 := w') (v := .bool (!true)) (by rfl) rfl ?_ ?_
                      ·
                       go_simp
                       (try simp only [i64_w])
                       try rfl
                      refine hK.out _ _ ⟨(by rw [ha.out]; exact putSel_upk 18 hb_ rfl rfl rfl), Q_BK116, fun h0_ => absurd ((hon 1 (by kernel_rfl)).symm.trans h0_) (by decide), Q_HB, fun _ h1_ => absurd ((hon 6 (by kernel_rfl)).symm.trans h1_) (by decide), fun _ h1_ => absurd ((hon 13 (by kernel_rfl)).symm.trans h1_) (by decide), Q_HI121_e13⟩
                     refine steps_cons ?_ ?_
                     ·
                      rintro b a w' ⟨ha, Q_BK116, Q_HI121, Q_HB, Q_HI121_e1, Q_HI121_e6, Q_HI121_e13⟩ hb_ hon hoff
                      refine ⟨_, rfl, fun K hK => ?_⟩
                      have e8 : a.tmps[8]? = some (.pointer (some ⟨g121, 0, none⟩)) := by rw [ha]; exact (putSel_off rfl).trans rfl
                      have e167 : a.tmps[167]? = some (.bool (!true)) := by rw [ha]; exact putSel_on (e := (20, 167, .bool (!true))) 18 rfl rfl (hon 20 (by kernel_rfl)) rfl
                      replace ha := aS ha
                      have BK116 := aS Q_BK116
                      have HB := aS Q_HB
                      have HI121 := aS (Q_HI121_e13 (hon 13 (by kernel_rfl)))
                      refine value_ (w1 := w') (v := .pointer (some ⟨g121, 0, none⟩)) (wanted_on rfl rfl rfl (e167.trans (by first | rfl | (simp [*]; done)))) rfl ?_ ?_
                      ·
                       go_simp
                       (try simp only [i64_w])
                       try rfl
                      refine hK.out _ _ ⟨(by rw [ha.out]; exact putSel_upk 19 hb_ rfl rfl rfl), Q_BK116, fun h0_ => absurd ((hon 1 (by kernel_rfl)).symm.trans h0_) (by decide), Q_HB, fun _ h1_ => absurd ((hon 6 (by kernel_rfl)).symm.trans h1_) (by decide), fun _ h1_ => absurd ((hon 13 (by kernel_rfl)).symm.trans h1_) (by decide), Q_HI121_e13⟩
                     refine steps_cons ?_ ?_
                     ·
                      rintro b a w' ⟨ha, Q_BK116, Q_HI121, Q_HB, Q_HI121_e1, Q_HI121_e6, Q_HI121_e13⟩ hb_ hon hoff
                      refine ⟨_, rfl, fun K hK => ?_⟩
                      have e168 : a.tmps[168]? = some (.pointer (some ⟨g121, 0, none⟩)) := by rw [ha]; exact putSel_on (e := (21, 168, .pointer (some ⟨g121, 0, none⟩))) 19 rfl rfl (hon 21 (by kernel_rfl)) rfl
                      have e167 : a.tmps[167]? = some (.bool (!true)) := by rw [ha]; exact putSel_on (e := (20, 167, .bool (!true))) 18 rfl rfl (hon 20 (by kernel_rfl)) rfl
                      replace ha := aS ha
                      have BK116 := aS Q_BK116
                      have HB := aS Q_HB
                      have HI121 := aS (Q_HI121_e13 (hon 13 (by kernel_rfl)))
                      refine value_ (w1 := w') (v := .pointer (some ⟨g121, 0, none⟩)) (wanted_on rfl rfl rfl (e167.trans (by first | rfl | (simp [*]; done)))) rfl ?_ ?_
                      ·
                       go_simp
                       (try simp only [i64_w])
                       try rfl
                      refine hK.out _ _ ⟨(by rw [ha.out]; exact putSel_upk 20 hb_ rfl rfl rfl), Q_BK116, fun h0_ => absurd ((hon 1 (by kernel_rfl)).symm.trans h0_) (by decide), Q_HB, fun _ h1_ => absurd ((hon 6 (by kernel_rfl)).symm.trans h1_) (by decide), fun _ h1_ => absurd ((hon 13 (by kernel_rfl)).symm.trans h1_) (by decide), Q_HI121_e13⟩
                     refine steps_cons ?_ ?_
                     ·
                      rintro b a w' ⟨ha, Q_BK116, Q_HI121, Q_HB, Q_HI121_e1, Q_HI121_e6, Q_HI121_e13⟩ hb_ hon hoff
                      refine ⟨_, rfl, fun K hK => ?_⟩
                      have e169 : a.tmps[169]? = some (.pointer (some ⟨g121, 0, none⟩)) := by rw [ha]; exact putSel_on (e := (22, 169, .pointer (some ⟨g121, 0, none⟩))) 20 rfl rfl (hon 22 (by kernel_rfl)) rfl
                      have e167 : a.tmps[167]? = some (.bool (!true)) := by rw [ha]; exact putSel_on (e := (20, 167, .bool (!true))) 18 rfl rfl (hon 20 (by kernel_rfl)) rfl
                      replace ha := aS ha
                      have BK116 := aS Q_BK116
                      have HB := aS Q_HB
                      have HI121 := aS (Q_HI121_e13 (hon 13 (by kernel_rfl)))
                      refine value_ (w1 := w') (v := .pointer (some ⟨g121, 0, none⟩)) (wanted_on rfl rfl rfl (e167.trans (by first | rfl | (simp [*]; done)))) rfl ?_ ?_
                      ·
                       go_simp
                       (try simp only [i64_w])
                       try rfl
                      refine hK.out _ _ ⟨(by rw [ha.out]; exact putSel_upk 21 hb_ rfl rfl rfl), Q_BK116, fun h0_ => absurd ((hon 1 (by kernel_rfl)).symm.trans h0_) (by decide), Q_HB, fun _ h1_ => absurd ((hon 6 (by kernel_rfl)).symm.trans h1_) (by decide), fun _ h1_ => absurd ((hon 13 (by kernel_rfl)).symm.trans h1_) (by decide), Q_HI121_e13⟩
                     refine steps_cons ?_ ?_
                     ·
                      rintro b a w' ⟨ha, Q_BK116, Q_HI121, Q_HB, Q_HI121_e1, Q_HI121_e6, Q_HI121_e13⟩ hb_ hon hoff
                      refine ⟨_, rfl, fun K hK => ?_⟩
                      have e170 : a.tmps[170]? = some (.pointer (some ⟨g121, 0, none⟩)) := by rw [ha]; exact putSel_on (e := (23, 170, .pointer (some ⟨g121, 0, none⟩))) 21 rfl rfl (hon 23 (by kernel_rfl)) rfl
                      have e167 : a.tmps[167]? = some (.bool (!true)) := by rw [ha]; exact putSel_on (e := (20, 167, .bool (!true))) 18 rfl rfl (hon 20 (by kernel_rfl)) rfl
                      replace ha := aS ha
                      have BK116 := aS Q_BK116
                      have HB := aS Q_HB
                      have HI121 := aS (Q_HI121_e13 (hon 13 (by kernel_rfl)))
                      refine value_ (w1 := w') (v := .pointer (some ⟨g121, 0, none⟩)) (wanted_on rfl rfl rfl (e167.trans (by first | rfl | (simp [*]; done)))) rfl ?_ ?_
                      ·
                       go_simp
                       (try simp only [i64_w])
                       try rfl
                      refine hK.out _ _ ⟨(by rw [ha.out]; exact putSel_upk 22 hb_ rfl rfl rfl), Q_BK116, fun h0_ => absurd ((hon 1 (by kernel_rfl)).symm.trans h0_) (by decide), Q_HB, fun _ h1_ => absurd ((hon 6 (by kernel_rfl)).symm.trans h1_) (by decide), fun _ h1_ => absurd ((hon 13 (by kernel_rfl)).symm.trans h1_) (by decide), Q_HI121_e13⟩
                     refine steps_cons ?_ ?_
                     ·
                      rintro b a w' ⟨ha, Q_BK116, Q_HI121, Q_HB, Q_HI121_e1, Q_HI121_e6, Q_HI121_e13⟩ hb_ hon hoff
                      refine ⟨_, rfl, fun K hK => ?_⟩
                      have e171 : a.tmps[171]? = some (.pointer (some ⟨g121, 0, none⟩)) := by rw [ha]; exact putSel_on (e := (24, 171, .pointer (some ⟨g121, 0, none⟩))) 22 rfl rfl (hon 24 (by kernel_rfl)) rfl
                      have e167 : a.tmps[167]? = some (.bool (!true)) := by rw [ha]; exact putSel_on (e := (20, 167, .bool (!true))) 18 rfl rfl (hon 20 (by kernel_rfl)) rfl
                      replace ha := aS ha
                      have BK116 := aS Q_BK116
                      have HB := aS Q_HB
                      have HI121 := aS (Q_HI121_e13 (hon 13 (by kernel_rfl)))
                      have hc0_ := cellS43_0 HI121.out.1
                      have hc1_ := cellS43_1 HI121.out.1
                      have hc2_ := cellS43_2 HI121.out.1
                      have hc3_ := cellS43_3 HI121.out.1
                      refine value_ (w1 := w') (v := .bool t145) (wanted_on rfl rfl rfl (e167.trans (by first | rfl | (simp [*]; done)))) rfl ?_ ?_
                      ·
                       go_simp
                       (try simp only [i64_w])
                       try rfl
                      refine hK.out _ _ ⟨(by rw [ha.out]; exact putSel_upk 23 hb_ rfl rfl rfl), Q_BK116, fun h0_ => absurd ((hon 1 (by kernel_rfl)).symm.trans h0_) (by decide), Q_HB, fun _ h1_ => absurd ((hon 6 (by kernel_rfl)).symm.trans h1_) (by decide), fun _ h1_ => absurd ((hon 13 (by kernel_rfl)).symm.trans h1_) (by decide), Q_HI121_e13⟩
                     refine steps_cons ?_ ?_
                     ·
                      rintro b a w' ⟨ha, Q_BK116, Q_HI121, Q_HB, Q_HI121_e1, Q_HI121_e6, Q_HI121_e13⟩ hb_ hon hoff
                      refine ⟨_, rfl, fun K hK => ?_⟩
                      have e7 : a.tmps[7]? = some (.pointer (some ⟨gb116, 0, none⟩)) := by rw [ha]; exact (putSel_off rfl).trans rfl
                      have e167 : a.tmps[167]? = some (.bool (!true)) := by rw [ha]; exact putSel_on (e := (20, 167, .bool (!true))) 18 rfl rfl (hon 20 (by kernel_rfl)) rfl
                      replace ha := aS ha
                      have BK116 := aS Q_BK116
                      have HB := aS Q_HB
                      have HI121 := aS (Q_HI121_e13 (hon 13 (by kernel_rfl)))
                      refine value_ (w1 := w') (v := .pointer (some ⟨gb116, 0, none⟩)) (wanted_on rfl rfl rfl (e167.trans (by first | rfl | (simp [*]; done)))) rfl ?_ ?_
                      ·
                       go_simp
                       (try simp only [i64_w])
                       try rfl
                      refine hK.out _ _ ⟨(by rw [ha.out]; exact putSel_upk 24 hb_ rfl rfl rfl), Q_BK116, fun h0_ => absurd ((hon 1 (by kernel_rfl)).symm.trans h0_) (by decide), Q_HB, fun _ h1_ => absurd ((hon 6 (by kernel_rfl)).symm.trans h1_) (by decide), fun _ h1_ => absurd ((hon 13 (by kernel_rfl)).symm.trans h1_) (by decide), Q_HI121_e13⟩
                     refine steps_cons ?_ ?_
                     ·
                      rintro b a w' ⟨ha, Q_BK116, Q_HI121, Q_HB, Q_HI121_e1, Q_HI121_e6, Q_HI121_e13⟩ hb_ hon hoff
                      refine ⟨_, rfl, fun K hK => ?_⟩
                      have e173 : a.tmps[173]? = some (.pointer (some ⟨gb116, 0, none⟩)) := by rw [ha]; exact putSel_on (e := (26, 173, .pointer (some ⟨gb116, 0, none⟩))) 24 rfl rfl (hon 26 (by kernel_rfl)) rfl
                      have e167 : a.tmps[167]? = some (.bool (!true)) := by rw [ha]; exact putSel_on (e := (20, 167, .bool (!true))) 18 rfl rfl (hon 20 (by kernel_rfl)) rfl
                      replace ha := aS ha
                      have BK116 := aS Q_BK116
                      have HB := aS Q_HB
                      have HI121 := aS (Q_HI121_e13 (hon 13 (by kernel_rfl)))
                      have hc0_ : w'.cell? ⟨gb116, 0, none⟩ = some (.bool bl10) := (blk_cell BK116.out 0).trans rfl
                      refine value_ (w1 := w') (v := .bool bl10) (wanted_on rfl rfl rfl (e167.trans (by first | rfl | (simp [*]; done)))) rfl ?_ ?_
                      ·
                       go_simp
                       (try simp only [i64_w])
                       try rfl
                      refine hK.out _ _ ⟨(by rw [ha.out]; exact putSel_upk 25 hb_ rfl rfl rfl), Q_BK116, fun h0_ => absurd ((hon 1 (by kernel_rfl)).symm.trans h0_) (by decide), Q_HB, fun _ h1_ => absurd ((hon 6 (by kernel_rfl)).symm.trans h1_) (by decide), fun _ h1_ => absurd ((hon 13 (by kernel_rfl)).symm.trans h1_) (by decide), Q_HI121_e13⟩
                     refine steps_cons ?_ ?_
                     ·
                      rintro b a w' ⟨ha, Q_BK116, Q_HI121, Q_HB, Q_HI121_e1, Q_HI121_e6, Q_HI121_e13⟩ hb_ hon hoff
                      refine ⟨_, rfl, fun K hK => ?_⟩
                      have e172 : a.tmps[172]? = some (.bool t145) := by rw [ha]; exact putSel_on (e := (25, 172, .bool t145)) 23 rfl rfl (hon 25 (by kernel_rfl)) rfl
                      have e174 : a.tmps[174]? = some (.bool bl10) := by rw [ha]; exact putSel_on (e := (27, 174, .bool bl10)) 25 rfl rfl (hon 27 (by kernel_rfl)) rfl
                      have e167 : a.tmps[167]? = some (.bool (!true)) := by rw [ha]; exact putSel_on (e := (20, 167, .bool (!true))) 18 rfl rfl (hon 20 (by kernel_rfl)) rfl
                      replace ha := aS ha
                      have BK116 := aS Q_BK116
                      have HB := aS Q_HB
                      have HI121 := aS (Q_HI121_e13 (hon 13 (by kernel_rfl)))
                      refine value_ (w1 := w') (v := .bool (t145 != bl10)) (wanted_on rfl rfl rfl (e167.trans (by first | rfl | (simp [*]; done)))) rfl ?_ ?_
                      ·
                       go_simp
                       (try simp only [i64_w])
                       try rfl
                      refine hK.out _ _ ⟨(by rw [ha.out]; exact putSel_upk 26 hb_ rfl rfl rfl), Q_BK116, fun h0_ => absurd ((hon 1 (by kernel_rfl)).symm.trans h0_) (by decide), Q_HB, fun _ h1_ => absurd ((hon 6 (by kernel_rfl)).symm.trans h1_) (by decide), fun _ h1_ => absurd ((hon 13 (by kernel_rfl)).symm.trans h1_) (by decide), Q_HI121_e13⟩
                     refine steps_cons ?_ ?_
                     ·
                      rintro b a w' ⟨ha, Q_BK116, Q_HI121, Q_HB, Q_HI121_e1, Q_HI121_e6, Q_HI121_e13⟩ hb_ hon hoff
                      refine ⟨_, rfl, fun K hK => ?_⟩
                      have e167 : a.tmps[167]? = some (.bool (!true)) := by rw [ha]; exact putSel_on (e := (20, 167, .bool (!true))) 18 rfl rfl (hon 20 (by kernel_rfl)) rfl
                      have e175 : a.tmps[175]? = some (.bool (t145 != bl10)) := by rw [ha]; exact putSel_on (e := (28, 175, .bool (t145 != bl10))) 26 rfl rfl (hon 28 (by kernel_rfl)) rfl
                      replace ha := aS ha
                      have BK116 := aS Q_BK116
                      have HB := aS Q_HB
                      have HI121 := aS (Q_HI121_e13 (hon 13 (by kernel_rfl)))
                      refine value_ (w1 := w') (v := .bool (t145 != bl10)) (by rfl) rfl ?_ ?_
                      ·
                       go_simp
                       (try simp only [i64_w])
                       try rfl
                      refine hK.out _ _ ⟨(by rw [ha.out]; exact putSel_upk 27 hb_ rfl rfl rfl), Q_BK116, fun h0_ => absurd ((hon 1 (by kernel_rfl)).symm.trans h0_) (by decide), Q_HB, fun _ h1_ => absurd ((hon 6 (by kernel_rfl)).symm.trans h1_) (by decide), fun _ h1_ => absurd ((hon 13 (by kernel_rfl)).symm.trans h1_) (by decide), Q_HI121_e13⟩
                     exact steps_nil
                    rintro b a w78 hall ⟨ha, Q_BK116, Q_HI121, Q_HB, Q_HI121_e1, Q_HI121_e6, Q_HI121_e13⟩
                    clear BK116 HB HI121
                    have hb1_ := hall 1 (by kernel_rfl)
                    have hb3_ := hall 3 (by kernel_rfl)
                    have hb4_ := hall 4 (by kernel_rfl)
                    have hb5_ := hall 5 (by kernel_rfl)
                    have hb6_ := hall 6 (by kernel_rfl)
                    have hb7_ := hall 7 (by kernel_rfl)
                    have hb8_ := hall 8 (by kernel_rfl)
                    have hb9_ := hall 9 (by kernel_rfl)
                    have hb10_ := hall 10 (by kernel_rfl)
                    have hb11_ := hall 11 (by kernel_rfl)
                    have hb12_ := hall 12 (by kernel_rfl)
                    have hb13_ := hall 13 (by kernel_rfl)
                    have hb14_ := hall 14 (by kernel_rfl)
                    have hb15_ := hall 15 (by kernel_rfl)
                    have hb16_ := hall 16 (by kernel_rfl)
                    have hb17_ := hall 17 (by kernel_rfl)
                    have hb18_ := hall 18 (by kernel_rfl)
                    have hb19_ := hall 19 (by kernel_rfl)
                    have hb20_ := hall 20 (by kernel_rfl)
                    have hb21_ := hall 21 (by kernel_rfl)
                    have hb22_ := hall 22 (by kernel_rfl)
                    have hb23_ := hall 23 (by kernel_rfl)
                    have hb24_ := hall 24 (by kernel_rfl)
                    have hb25_ := hall 25 (by kernel_rfl)
                    have hb26_ := hall 26 (by kernel_rfl)
                    have hb27_ := hall 27 (by kernel_rfl)
                    have hb28_ := hall 28 (by kernel_rfl)
                    have hb29_ := hall 29 (by kernel_rfl)
                    subst ha
                    simp only [putSel, hb1_, hb3_, hb4_, hb5_, hb6_, hb7_, hb8_, hb9_, hb10_, hb11_, hb12_, hb13_, hb14_, hb15_, hb16_, hb17_, hb18_, hb19_, hb20_, hb21_, hb22_, hb23_, hb24_, hb25_, hb26_, hb27_, hb28_, hb29_, if_true, Act.put, List.setIfInBounds_toArray, List.set_cons_zero, List.set_cons_succ]
                    have BK116 := aS Q_BK116
                    clear Q_BK116
                    clear Q_HI121
                    have HB := aS Q_HB
                    clear Q_HB
                    clear Q_HI121_e1
                    clear Q_HI121_e6
                    have HI121 := aS (Q_HI121_e13 hb13_)
                    clear Q_HI121_e13
                    clear hall hb1_ hb3_ hb4_ hb5_ hb6_ hb7_ hb8_ hb9_ hb10_ hb11_ hb12_ hb13_ hb14_ hb15_ hb16_ hb17_ hb18_ hb19_ hb20_ hb21_ hb22_ hb23_ hb24_ hb25_ hb26_ hb27_ hb28_ hb29_
                    try go_wp2
                    (try (rename_i h_; exact absurd (h_.symm.trans (show _ = false by assumption)) (by decide)))
                    go_roundg kj20
                    case measure => have := HK1.out; have := HJ15.out; have := HJ20.out; omega
                    case rel => exact ⟨(x9_20), (true), (wrap64 (x11_1 + 1)), (t145), (t146), (t147), (t148), (by first | rfl | (simp; done) | (simp [*]; done)), (by first | rfl | (simp; done) | (simp [*]; done)), (by first | rfl | (simp; done) | (simp [*]; done)), H', ⟨by have := HK1.out; have := HJ15.out; have := HJ20.out; omega⟩, ⟨by (with_reducible repeat (first | apply bN | apply bD | apply bA)); exact BK116.out⟩, ⟨by repeat (first | (with_reducible first | exact HI121.out | apply IsS43.alloc | apply IsS43.drewN | apply IsS43.drew | apply IsS43.set_0 | apply IsS43.set_1 | apply IsS43.set_2 | apply IsS43.set_3 | refine IsS43.far ?_ NB121_116.out _) | exact HI121.out)⟩, ⟨by repeat (first | (with_reducible first | exact HB.out | apply eA | apply eN | apply eD | refine below_set ?_ (IsS43.ge HI121.out) | refine below_set ?_ GE116.out) | exact HB.out)⟩⟩
                  ·
                   replace c72 := Bool.eq_false_iff.mpr c72
                   subst c72
                   have H1 : (some false) = some r := by rw [if_neg (show ¬ (false = true) by decide)] at H; exact H
                   clear H
                   have H := H1
                   clear H1
                   exact absurd ((Option.some.inj H).trans HRT.out) (by decide)
               ·
                rw [if_neg c61] at H
                have c61b0 : (t134 == x9_20) = false := beq_eq_false_iff_ne.mpr c61
                have c61b1 : (t134 != x9_20) = true := bne_iff_ne.mpr c61
                exact absurd ((Option.some.inj H).trans HRT.out) (by decide)
           ·
            rw [if_neg c20] at H
            exact absurd H (by simp)
          ·
           rw [if_neg c19] at H
           exact absurd H (by simp)
         ·
          replace c18 := Bool.eq_false_iff.mpr c18
          subst c18
          have H1 : (some true) = some r := by rw [if_neg (show ¬ (false = true) by decide)] at H; exact H
          clear H
          have H := H1
          clear H1
          obtain rfl := Option.some.inj H
          go_wp2
          go_ret
          exact ⟨by first | rfl | (simp [errW_none, errW_some] <;> rfl) | (simp only [← hji6]; first | rfl | (simp [errW_none, errW_some] <;> rfl)) | (simp [*, errW_none, errW_some] <;> rfl), by repeat (first | (with_reducible first | exact HB.out | apply eA | apply eN | apply eD | refine below_set ?_ (IsS43.ge HI121.out) | refine below_set ?_ GE116.out) | exact HB.out)⟩
   ·
    rw [if_neg c8] at H
    exact absurd H (by simp)
  ·
   rw [if_neg c7] at H
   exact absurd H (by simp)
 ·
  replace c5 := Bool.eq_false_iff.mpr c5
  subst c5
  have H1 : (some false) = some r := by rw [if_neg (show ¬ (false = true) by decide)] at H; exact H
  clear H
  have H := H1
  clear H1
  exact absurd ((Option.some.inj H).trans HRT.out) (by decide)

/-- THE ONE PURE STATEMENT of graverlaw01_OrderReads: yours. -/
def graverlaw01_OrderReads.Pure : Prop := ∀ (a0 : ByteArray) (a1 : Int) (l2 : List Int), a0.size ≤ 140737488351232 → (Lit.int .u64 a1).wf = true → l2.length ≤ maxLen → l2.length * 8 ≤ 140737488351232 → (∀ x ∈ l2, (Lit.int .i64 x).wf = true) → ∃ k, graverlaw01_OrderReads.f k a0 a1 l2 = some true
theorem graverlaw01_OrderReads.walk (P : graverlaw01_OrderReads.Pure) (a0 : ByteArray) (a1 : Int) (a2 : Option Addr) (len2 cap2 : Nat) (z2 : List Int) (w : World) (w0 : a0.size ≤ 140737488351232) (w1 : (Lit.int .u64 a1).wf = true) (w2 : (a2 = none ∧ len2 = 0 ∧ cap2 = 0 ∧ z2 = []) ∨ ∃ x, a2 = some x ∧ len2 ≤ cap2 ∧ cap2 ≤ maxLen ∧ z2.length = cap2 ∧ (∀ i, i < z2.length → w.cell? (x.add i) = some (.int .i64 (z2.getD i 0))) ∧ ∀ n ∈ z2, (Lit.int .i64 n).wf = true) (y2 : len2 * 8 ≤ 140737488351232) :
  Calls Try.prog 5 #[.string a0, .int .u64 a1, .slice a2 len2 cap2] w fun e w' => e = .returned (.bool true) ∧ Below w.heap.size w w' := by
 obtain ⟨l2, rfl, hr2, hm2, hw2, hc2⟩ := ReadsInt.ofRowC w2
 obtain ⟨k, h⟩ := P a0 a1 l2 w0 w1 hm2 y2 hw2
 refine (graverlaw01_OrderReads.calls k a0 a1 _ _ l2 true w rfl (Kd.C_of_reads (d := (0 : Int)) (h1 := fun _ => rfl) hr2) hc2 h).mono ?_
 rintro e w' ⟨rfl, hd⟩
 exact ⟨rfl, hd⟩

end Go.Proofs.Ythbkjppaimjpmaa.Q
