/- What Go functions of the program compute, each as a Lean function with the proof that the call returns just that. No condition but those in the statements. -/
import Derived.Test.YtjmjebbjfjgbeaaQ0
import Derived.Test.YtjmjebbjfjgbeaaQ1
import Derived.Test.YtjmjebbjfjgbeaaQ2
import Derived.Test.YtjmjebbjfjgbeaaQ6
import Derived.Test.YtjmjebbjfjgbeaaQ7
import Derived.Test.YtjmjebbjfjgbeaaQ10
import Derived.Test.YtjmjebbjfjgbeaaQ11
import Derived.Test.YtjmjebbjfjgbeaaQ14
namespace Go.Proofs.Ytjmjebbjfjgbeaa.Q
open Go.RowKit Go.Proofs.YtjmjebbjfjgbeaaW.PrintWords Go.Proofs.YtjmjebbjfjgbeaaW.PrintLast Go.Proofs.YtjmjebbjfjgbeaaW.PrintMore
attribute [local go_sem] max2_int min2_int max_two min_two max_three min_three max_four min_four   -- for this text's walks alone
set_option linter.unusedVariables false
set_option linter.unusedSimpArgs false

attribute [local go_sem high] eqA33
/-! ### graverlaw09_RelrecAll: function 5 -/
mutual
def graverlaw09_RelrecAll.j1 : Nat → ByteArray → Bool → List (S33) → ByteArray → Bool → Bool → Bool → Option (Bool)
 | 0, _, _, _, _, _, _, _ => none
 | k + 1, x2, x8, x9, x10, x11, x242000, x242001 => (relrec_PutAll.f k x242000 x242001 x8 x9).bind fun bt249 => (if (bt249.2 != x11) = true then (graverlaw09_RelrecAll.j2 k x2 x8 x9 bt249.1 bt249.2 true x242000 x242001) else (if bt249.2 = true then (if bt249.1.toList = x10.toList then (graverlaw09_RelrecAll.j2 k x2 x8 x9 bt249.1 bt249.2 false x242000 x242001) else (graverlaw09_RelrecAll.j2 k x2 x8 x9 bt249.1 bt249.2 true x242000 x242001)) else (graverlaw09_RelrecAll.j2 k x2 x8 x9 bt249.1 bt249.2 (bt249.1.toList != ([] : List UInt8)) x242000 x242001)))
def graverlaw09_RelrecAll.j2 : Nat → ByteArray → Bool → List (S33) → ByteArray → Bool → Bool → Bool → Bool → Option (Bool)
 | 0, _, _, _, _, _, _, _, _ => none
 | k + 1, x2, x8, x9, x15, x16, x94, x242000, x242001 => if x94 = true then (some false) else (if x16 = true then ((relrec_ReadAll.f k x242000 x242001 x8 x15).bind fun bt251 => (if bt251.2 = true then (graverlaw09_RelrecAll.j3 k x2 x8 x9 bt251.1 ((bt251.1.length : Int) != (x9.length : Int)) x242000 x242001) else (graverlaw09_RelrecAll.j3 k x2 x8 x9 bt251.1 true x242000 x242001))) else (graverlaw09_RelrecAll.j5 k x2 x8 x242000 x242001))
def graverlaw09_RelrecAll.j5 : Nat → ByteArray → Bool → Bool → Bool → Option (Bool)
 | 0, _, _, _, _ => none
 | k + 1, x2, x8, x242000, x242001 => if 0 ≤ (mn (x2.size : Int) 100) then (if (mn (x2.size : Int) 100) ≤ (x2.size : Int) then ((relrec_ReadAll.f k x242000 x242001 x8 (x2.extract 0 ((mn (x2.size : Int) 100) : Int).toNat)).bind fun bt257 => ((relrec_Size.f x242000 x242001 x8).bind fun t261 => (if t261 = 0 then (none) else (if (bt257.2 != ((((x2.extract 0 ((mn (x2.size : Int) 100) : Int).toNat).size : Int) % t261) == 0)) = true then (some false) else ((relrec_PutAll.f k x242000 x242001 x8 bt257.1).bind fun bt262 => (if bt257.2 = true then (if bt262.2 = true then (some (bt262.1.toList == (x2.extract 0 ((mn (x2.size : Int) 100) : Int).toNat).toList)) else (some false)) else (if (bt257.1.length : Int) = 0 then (some true) else (some false)))))))) else (none)) else (none)
def graverlaw09_RelrecAll.j3 : Nat → ByteArray → Bool → List (S33) → List (S33) → Bool → Bool → Bool → Option (Bool)
 | 0, _, _, _, _, _, _, _ => none
 | k + 1, x2, x8, x9, x17, x111, x242000, x242001 => if x111 = true then (some false) else (graverlaw09_RelrecAll.l1 k x2 x8 x9 x17 0 x242000 x242001)
def graverlaw09_RelrecAll.l1 : Nat → ByteArray → Bool → List (S33) → List (S33) → Int → Bool → Bool → Option (Bool)
 | 0, _, _, _, _, _, _, _ => none
 | k + 1, x2, x8, x9, x17, x19, x242000, x242001 => if x19 < (x9.length : Int) then (if 0 ≤ x19 then (if x19 < (x17.length : Int) then (if (!(((rd_T33 x17 x19).f0) == ((rd_T33 x9 x19).f0)) || (!(((rd_T33 x17 x19).f1) == ((rd_T33 x9 x19).f1)) || (!(((rd_T33 x17 x19).f2) == ((rd_T33 x9 x19).f2)) || (!(((rd_T33 x17 x19).f3) == ((rd_T33 x9 x19).f3)))))) = true then (some false) else (graverlaw09_RelrecAll.l1 k x2 x8 x9 x17 (wrap64 (x19 + 1)) x242000 x242001)) else (none)) else (none)) else (graverlaw09_RelrecAll.j5 k x2 x8 x242000 x242001)
def graverlaw09_RelrecAll.l0 : Nat → List (S24) → ByteArray → Bool → List (S33) → ByteArray → Bool → Int → Bool → Bool → Option (Bool)
 | 0, _, _, _, _, _, _, _, _, _ => none
 | k + 1, x1, x2, x8, x9, x10, x11, x12, x242000, x242001 => if x12 < (x1.length : Int) then (if x12 < 10 then (if 0 ≤ x12 then (if x9.length < 4398046511104 then ((some (x9 ++ [(⟨(rd_T24 x1 x12).f0, (rd_T24 x1 x12).f1, (rd_T24 x1 x12).f2, (rd_T24 x1 x12).f3⟩ : S33)] : List (S33))).bind fun y243 => ((graverref09_Put.f k x242001 x242000 x8 ((rd_T24 x1 x12).f0) ((rd_T24 x1 x12).f1) ((rd_T24 x1 x12).f2) ((rd_T24 x1 x12).f3)).bind fun bt247 => (if x10.size + bt247.1.size ≤ 9223372036854775807 then (if x11 = true then (graverlaw09_RelrecAll.l0 k x1 x2 x8 y243 (x10 ++ bt247.1) bt247.2 (wrap64 (x12 + 1)) x242000 x242001) else (graverlaw09_RelrecAll.l0 k x1 x2 x8 y243 (x10 ++ bt247.1) false (wrap64 (x12 + 1)) x242000 x242001)) else (none)))) else (none)) else (none)) else (graverlaw09_RelrecAll.j1 k x2 x8 x9 x10 x11 x242000 x242001)) else (graverlaw09_RelrecAll.j1 k x2 x8 x9 x10 x11 x242000 x242001)
end
def graverlaw09_RelrecAll.f (k : Nat) (a0 : Int) (l1 : List (S24)) (a2 : ByteArray) : Option (Bool) := (graverlaw09_speaks.f k).bind fun t238 => (if t238 = true then ((graverlaw09_formOf.f a0).bind fun bt239 => (graverlaw09_RelrecAll.l0 k l1 a2 ((Go.bits .and .i64 a0 4) == 4) ([] : List (S33)) (⟨#[]⟩ : ByteArray) true 0 bt239.1 bt239.2)) else (some false))
theorem graverlaw09_RelrecAll.mono_l : ∀ k, (∀ y0 y1 y2 y3 y4 y5 y6, LeO (graverlaw09_RelrecAll.j1 k y0 y1 y2 y3 y4 y5 y6) (graverlaw09_RelrecAll.j1 (k + 1) y0 y1 y2 y3 y4 y5 y6)) ∧ (∀ y0 y1 y2 y3 y4 y5 y6 y7, LeO (graverlaw09_RelrecAll.j2 k y0 y1 y2 y3 y4 y5 y6 y7) (graverlaw09_RelrecAll.j2 (k + 1) y0 y1 y2 y3 y4 y5 y6 y7)) ∧ (∀ y0 y1 y2 y3, LeO (graverlaw09_RelrecAll.j5 k y0 y1 y2 y3) (graverlaw09_RelrecAll.j5 (k + 1) y0 y1 y2 y3)) ∧ (∀ y0 y1 y2 y3 y4 y5 y6, LeO (graverlaw09_RelrecAll.j3 k y0 y1 y2 y3 y4 y5 y6) (graverlaw09_RelrecAll.j3 (k + 1) y0 y1 y2 y3 y4 y5 y6)) ∧ (∀ y0 y1 y2 y3 y4 y5 y6, LeO (graverlaw09_RelrecAll.l1 k y0 y1 y2 y3 y4 y5 y6) (graverlaw09_RelrecAll.l1 (k + 1) y0 y1 y2 y3 y4 y5 y6)) ∧ (∀ y0 y1 y2 y3 y4 y5 y6 y7 y8, LeO (graverlaw09_RelrecAll.l0 k y0 y1 y2 y3 y4 y5 y6 y7 y8) (graverlaw09_RelrecAll.l0 (k + 1) y0 y1 y2 y3 y4 y5 y6 y7 y8))
 | 0 => ⟨fun _ _ _ _ _ _ _ r h => by simp [graverlaw09_RelrecAll.j1] at h, fun _ _ _ _ _ _ _ _ r h => by simp [graverlaw09_RelrecAll.j2] at h, fun _ _ _ _ r h => by simp [graverlaw09_RelrecAll.j5] at h, fun _ _ _ _ _ _ _ r h => by simp [graverlaw09_RelrecAll.j3] at h, fun _ _ _ _ _ _ _ r h => by simp [graverlaw09_RelrecAll.l1] at h, fun _ _ _ _ _ _ _ _ _ r h => by simp [graverlaw09_RelrecAll.l0] at h⟩
 | k + 1 => by
  obtain ⟨ih0, ih1, ih2, ih3, ih4, ih5⟩ := graverlaw09_RelrecAll.mono_l k
  refine ⟨?_, ?_, ?_, ?_, ?_, ?_⟩
  ·
   intro y0 y1 y2 y3 y4 y5 y6
   unfold graverlaw09_RelrecAll.j1
   repeat' first
   | (with_reducible exact ih0 _ _ _ _ _ _ _)
   | (with_reducible exact ih1 _ _ _ _ _ _ _ _)
   | (with_reducible exact ih2 _ _ _ _)
   | (with_reducible exact ih3 _ _ _ _ _ _ _)
   | (with_reducible exact ih4 _ _ _ _ _ _ _)
   | (with_reducible exact ih5 _ _ _ _ _ _ _ _ _)
   | (with_reducible exact graverlaw09_speaks.mono _)
   | (with_reducible exact graverref09_Put.mono _ _ _ _ _ _ _ _)
   | (with_reducible exact relrec_PutAll.mono _ _ _ _ _)
   | (with_reducible exact relrec_ReadAll.mono _ _ _ _ _)
   | (with_reducible exact LeO.refl _)
   | (with_reducible exact LeO.none _)
   | (with_reducible refine LeO.ite ?_ ?_)
   | (with_reducible refine LeO.bind ?_ (fun _ => ?_))
   | exact ih0 _ _ _ _ _ _ _
   | exact ih1 _ _ _ _ _ _ _ _
   | exact ih2 _ _ _ _
   | exact ih3 _ _ _ _ _ _ _
   | exact ih4 _ _ _ _ _ _ _
   | exact ih5 _ _ _ _ _ _ _ _ _
   | exact graverlaw09_speaks.mono _
   | exact graverref09_Put.mono _ _ _ _ _ _ _ _
   | exact relrec_PutAll.mono _ _ _ _ _
   | exact relrec_ReadAll.mono _ _ _ _ _
   | exact LeO.none _
   | refine LeO.ite ?_ ?_
   | refine LeO.bind ?_ (fun _ => ?_)
  ·
   intro y0 y1 y2 y3 y4 y5 y6 y7
   unfold graverlaw09_RelrecAll.j2
   repeat' first
   | (with_reducible exact ih0 _ _ _ _ _ _ _)
   | (with_reducible exact ih1 _ _ _ _ _ _ _ _)
   | (with_reducible exact ih2 _ _ _ _)
   | (with_reducible exact ih3 _ _ _ _ _ _ _)
   | (with_reducible exact ih4 _ _ _ _ _ _ _)
   | (with_reducible exact ih5 _ _ _ _ _ _ _ _ _)
   | (with_reducible exact graverlaw09_speaks.mono _)
   | (with_reducible exact graverref09_Put.mono _ _ _ _ _ _ _ _)
   | (with_reducible exact relrec_PutAll.mono _ _ _ _ _)
   | (with_reducible exact relrec_ReadAll.mono _ _ _ _ _)
   | (with_reducible exact LeO.refl _)
   | (with_reducible exact LeO.none _)
   | (with_reducible refine LeO.ite ?_ ?_)
   | (with_reducible refine LeO.bind ?_ (fun _ => ?_))
   | exact ih0 _ _ _ _ _ _ _
   | exact ih1 _ _ _ _ _ _ _ _
   | exact ih2 _ _ _ _
   | exact ih3 _ _ _ _ _ _ _
   | exact ih4 _ _ _ _ _ _ _
   | exact ih5 _ _ _ _ _ _ _ _ _
   | exact graverlaw09_speaks.mono _
   | exact graverref09_Put.mono _ _ _ _ _ _ _ _
   | exact relrec_PutAll.mono _ _ _ _ _
   | exact relrec_ReadAll.mono _ _ _ _ _
   | exact LeO.none _
   | refine LeO.ite ?_ ?_
   | refine LeO.bind ?_ (fun _ => ?_)
  ·
   intro y0 y1 y2 y3
   unfold graverlaw09_RelrecAll.j5
   repeat' first
   | (with_reducible exact ih0 _ _ _ _ _ _ _)
   | (with_reducible exact ih1 _ _ _ _ _ _ _ _)
   | (with_reducible exact ih2 _ _ _ _)
   | (with_reducible exact ih3 _ _ _ _ _ _ _)
   | (with_reducible exact ih4 _ _ _ _ _ _ _)
   | (with_reducible exact ih5 _ _ _ _ _ _ _ _ _)
   | (with_reducible exact graverlaw09_speaks.mono _)
   | (with_reducible exact graverref09_Put.mono _ _ _ _ _ _ _ _)
   | (with_reducible exact relrec_PutAll.mono _ _ _ _ _)
   | (with_reducible exact relrec_ReadAll.mono _ _ _ _ _)
   | (with_reducible exact LeO.refl _)
   | (with_reducible exact LeO.none _)
   | (with_reducible refine LeO.ite ?_ ?_)
   | (with_reducible refine LeO.bind ?_ (fun _ => ?_))
   | exact ih0 _ _ _ _ _ _ _
   | exact ih1 _ _ _ _ _ _ _ _
   | exact ih2 _ _ _ _
   | exact ih3 _ _ _ _ _ _ _
   | exact ih4 _ _ _ _ _ _ _
   | exact ih5 _ _ _ _ _ _ _ _ _
   | exact graverlaw09_speaks.mono _
   | exact graverref09_Put.mono _ _ _ _ _ _ _ _
   | exact relrec_PutAll.mono _ _ _ _ _
   | exact relrec_ReadAll.mono _ _ _ _ _
   | exact LeO.none _
   | refine LeO.ite ?_ ?_
   | refine LeO.bind ?_ (fun _ => ?_)
  ·
   intro y0 y1 y2 y3 y4 y5 y6
   unfold graverlaw09_RelrecAll.j3
   repeat' first
   | (with_reducible exact ih0 _ _ _ _ _ _ _)
   | (with_reducible exact ih1 _ _ _ _ _ _ _ _)
   | (with_reducible exact ih2 _ _ _ _)
   | (with_reducible exact ih3 _ _ _ _ _ _ _)
   | (with_reducible exact ih4 _ _ _ _ _ _ _)
   | (with_reducible exact ih5 _ _ _ _ _ _ _ _ _)
   | (with_reducible exact graverlaw09_speaks.mono _)
   | (with_reducible exact graverref09_Put.mono _ _ _ _ _ _ _ _)
   | (with_reducible exact relrec_PutAll.mono _ _ _ _ _)
   | (with_reducible exact relrec_ReadAll.mono _ _ _ _ _)
   | (with_reducible exact LeO.refl _)
   | (with_reducible exact LeO.none _)
   | (with_reducible refine LeO.ite ?_ ?_)
   | (with_reducible refine LeO.bind ?_ (fun _ => ?_))
   | exact ih0 _ _ _ _ _ _ _
   | exact ih1 _ _ _ _ _ _ _ _
   | exact ih2 _ _ _ _
   | exact ih3 _ _ _ _ _ _ _
   | exact ih4 _ _ _ _ _ _ _
   | exact ih5 _ _ _ _ _ _ _ _ _
   | exact graverlaw09_speaks.mono _
   | exact graverref09_Put.mono _ _ _ _ _ _ _ _
   | exact relrec_PutAll.mono _ _ _ _ _
   | exact relrec_ReadAll.mono _ _ _ _ _
   | exact LeO.none _
   | refine LeO.ite ?_ ?_
   | refine LeO.bind ?_ (fun _ => ?_)
  ·
   intro y0 y1 y2 y3 y4 y5 y6
   unfold graverlaw09_RelrecAll.l1
   repeat' first
   | (with_reducible exact ih0 _ _ _ _ _ _ _)
   | (with_reducible exact ih1 _ _ _ _ _ _ _ _)
   | (with_reducible exact ih2 _ _ _ _)
   | (with_reducible exact ih3 _ _ _ _ _ _ _)
   | (with_reducible exact ih4 _ _ _ _ _ _ _)
   | (with_reducible exact ih5 _ _ _ _ _ _ _ _ _)
   | (with_reducible exact graverlaw09_speaks.mono _)
   | (with_reducible exact graverref09_Put.mono _ _ _ _ _ _ _ _)
   | (with_reducible exact relrec_PutAll.mono _ _ _ _ _)
   | (with_reducible exact relrec_ReadAll.mono _ _ _ _ _)
   | (with_reducible exact LeO.refl _)
   | (with_reducible exact LeO.none _)
   | (with_reducible refine LeO.ite ?_ ?_)
   | (with_reducible refine LeO.bind ?_ (fun _ => ?_))
   | exact ih0 _ _ _ _ _ _ _
   | exact ih1 _ _ _ _ _ _ _ _
   | exact ih2 _ _ _ _
   | exact ih3 _ _ _ _ _ _ _
   | exact ih4 _ _ _ _ _ _ _
   | exact ih5 _ _ _ _ _ _ _ _ _
   | exact graverlaw09_speaks.mono _
   | exact graverref09_Put.mono _ _ _ _ _ _ _ _
   | exact relrec_PutAll.mono _ _ _ _ _
   | exact relrec_ReadAll.mono _ _ _ _ _
   | exact LeO.none _
   | refine LeO.ite ?_ ?_
   | refine LeO.bind ?_ (fun _ => ?_)
  ·
   intro y0 y1 y2 y3 y4 y5 y6 y7 y8
   unfold graverlaw09_RelrecAll.l0
   repeat' first
   | (with_reducible exact ih0 _ _ _ _ _ _ _)
   | (with_reducible exact ih1 _ _ _ _ _ _ _ _)
   | (with_reducible exact ih2 _ _ _ _)
   | (with_reducible exact ih3 _ _ _ _ _ _ _)
   | (with_reducible exact ih4 _ _ _ _ _ _ _)
   | (with_reducible exact ih5 _ _ _ _ _ _ _ _ _)
   | (with_reducible exact graverlaw09_speaks.mono _)
   | (with_reducible exact graverref09_Put.mono _ _ _ _ _ _ _ _)
   | (with_reducible exact relrec_PutAll.mono _ _ _ _ _)
   | (with_reducible exact relrec_ReadAll.mono _ _ _ _ _)
   | (with_reducible exact LeO.refl _)
   | (with_reducible exact LeO.none _)
   | (with_reducible refine LeO.ite ?_ ?_)
   | (with_reducible refine LeO.bind ?_ (fun _ => ?_))
   | exact ih0 _ _ _ _ _ _ _
   | exact ih1 _ _ _ _ _ _ _ _
   | exact ih2 _ _ _ _
   | exact ih3 _ _ _ _ _ _ _
   | exact ih4 _ _ _ _ _ _ _
   | exact ih5 _ _ _ _ _ _ _ _ _
   | exact graverlaw09_speaks.mono _
   | exact graverref09_Put.mono _ _ _ _ _ _ _ _
   | exact relrec_PutAll.mono _ _ _ _ _
   | exact relrec_ReadAll.mono _ _ _ _ _
   | exact LeO.none _
   | refine LeO.ite ?_ ?_
   | refine LeO.bind ?_ (fun _ => ?_)
theorem graverlaw09_RelrecAll.mono : ∀ a0 a1 a2 k, LeO (graverlaw09_RelrecAll.f k a0 a1 a2) (graverlaw09_RelrecAll.f (k + 1) a0 a1 a2) := by
 intro a0 a1 a2 k
 obtain ⟨ih0, ih1, ih2, ih3, ih4, ih5⟩ := graverlaw09_RelrecAll.mono_l k
 unfold graverlaw09_RelrecAll.f
 repeat' first
   | (with_reducible exact ih0 _ _ _ _ _ _ _)
   | (with_reducible exact ih1 _ _ _ _ _ _ _ _)
   | (with_reducible exact ih2 _ _ _ _)
   | (with_reducible exact ih3 _ _ _ _ _ _ _)
   | (with_reducible exact ih4 _ _ _ _ _ _ _)
   | (with_reducible exact ih5 _ _ _ _ _ _ _ _ _)
   | (with_reducible exact graverlaw09_speaks.mono _)
   | (with_reducible exact graverref09_Put.mono _ _ _ _ _ _ _ _)
   | (with_reducible exact relrec_PutAll.mono _ _ _ _ _)
   | (with_reducible exact relrec_ReadAll.mono _ _ _ _ _)
   | (with_reducible exact LeO.refl _)
   | (with_reducible exact LeO.none _)
   | (with_reducible refine LeO.ite ?_ ?_)
   | (with_reducible refine LeO.bind ?_ (fun _ => ?_))
   | exact ih0 _ _ _ _ _ _ _
   | exact ih1 _ _ _ _ _ _ _ _
   | exact ih2 _ _ _ _
   | exact ih3 _ _ _ _ _ _ _
   | exact ih4 _ _ _ _ _ _ _
   | exact ih5 _ _ _ _ _ _ _ _ _
   | exact graverlaw09_speaks.mono _
   | exact graverref09_Put.mono _ _ _ _ _ _ _ _
   | exact relrec_PutAll.mono _ _ _ _ _
   | exact relrec_ReadAll.mono _ _ _ _ _
   | exact LeO.none _
   | refine LeO.ite ?_ ?_
   | refine LeO.bind ?_ (fun _ => ?_)
def graverlaw09_RelrecAll.T10 : Bool × List (List Nat × List Nat) := (true, [([], []), ([0], [0]), ([], []), ([2], [2]), ([3], [3]), ([], []), ([], []), ([], []), ([6, 7], [6, 7]), ([8], [8]), ([1, 4, 5, 9], [1, 4, 5, 9]), ([10], [10]), ([11], [11]), ([11], [11]), ([12, 10, 0, 1, 2, 3, 4, 5, 6, 7, 8, 9, 10, 11, 12], [12]), ([13, 14, 0, 1, 2, 3, 4, 5, 6, 7, 8, 9, 10, 11, 12, 13, 14], [13])])
def graverlaw09_RelrecAll.B10 : List Nat := [0, 1, 0, 4, 12, 0, 0, 0, 192, 448, 1023, 2047, 4095, 4095, 8191, 32767]
theorem graverlaw09_RelrecAll.tab10 : rtab .any (opsOf Try.f5 10) = graverlaw09_RelrecAll.T10 := by kernel_rfl
theorem graverlaw09_RelrecAll.bits10 : waitsOk graverlaw09_RelrecAll.T10.2 graverlaw09_RelrecAll.B10 = true := by kernel_rfl
def graverlaw09_RelrecAll.T23 : Bool × List (List Nat × List Nat) := (true, [([], []), ([], []), ([0, 1], [0, 1]), ([2], [2]), ([], []), ([], []), ([4, 5], [4, 5]), ([6], [6]), ([3, 7], [3, 7])])
def graverlaw09_RelrecAll.B23 : List Nat := [0, 0, 3, 7, 0, 0, 48, 112, 255]
theorem graverlaw09_RelrecAll.tab23 : rtab .any (opsOf Try.f5 23) = graverlaw09_RelrecAll.T23 := by kernel_rfl
theorem graverlaw09_RelrecAll.bits23 : waitsOk graverlaw09_RelrecAll.T23.2 graverlaw09_RelrecAll.B23 = true := by kernel_rfl
set_option maxHeartbeats 8000000 in
set_option maxRecDepth 100000 in
theorem graverlaw09_RelrecAll.calls (k : Nat) (a0 : Int) (A1 : Option Addr) (c1 : Nat) (l1 : List (S24)) (a2 : ByteArray) (r : Bool) (w : World) (hrt : r = true) (hr1 : Kd.C k24 w A1 l1.length l1) (hc1 : l1.length ≤ c1) (h : graverlaw09_RelrecAll.f k a0 l1 a2 = some r) :
  Calls Try.prog 5 #[.int .i64 a0, .slice A1 l1.length c1, .string a2] w fun e w' => e = .returned (.bool r) ∧ Below w.heap.size w w' := by
 have hu29 := Try.underlying29
 have hu24 := Try.underlying24
 have hu33 := Try.underlying33
 have HR1 := aS hr1
 have HC1 := aS hc1
 clear hr1 hc1
 have HB := aS (Below.refl w.heap.size w)
 have HRT := aS hrt
 clear hrt
 have H : ((graverlaw09_speaks.f k).bind fun t238 => (if t238 = true then ((graverlaw09_formOf.f a0).bind fun bt239 => (graverlaw09_RelrecAll.l0 k l1 a2 ((Go.bits .and .i64 a0 4) == 4) ([] : List (S33)) (⟨#[]⟩ : ByteArray) true 0 bt239.1 bt239.2)) else (some false))) = some r := h
 clear h
 replace H := Option.bind_eq_some_iff.mp H
 obtain ⟨t238, A40, H⟩ := H
 replace H : (if t238 = true then ((graverlaw09_formOf.f a0).bind fun bt239 => (graverlaw09_RelrecAll.l0 k l1 a2 ((Go.bits .and .i64 a0 4) == 4) ([] : List (S33)) (⟨#[]⟩ : ByteArray) true 0 bt239.1 bt239.2)) else (some false)) = some r := H
 have A4 := aS A40
 clear A40
 by_cases c5 : t238 = true
 ·
  subst c5
  have H1 : ((graverlaw09_formOf.f a0).bind fun bt239 => (graverlaw09_RelrecAll.l0 k l1 a2 ((Go.bits .and .i64 a0 4) == 4) ([] : List (S33)) (⟨#[]⟩ : ByteArray) true 0 bt239.1 bt239.2)) = some r := by rw [if_pos rfl] at H; exact H
  clear H
  have H := H1
  clear H1
  replace H := Option.bind_eq_some_iff.mp H
  obtain ⟨⟨t239, t240⟩, A60, H⟩ := H
  replace H : (graverlaw09_RelrecAll.l0 k l1 a2 ((Go.bits .and .i64 a0 4) == 4) ([] : List (S33)) (⟨#[]⟩ : ByteArray) true 0 t239 t240) = some r := H
  have A6 := aS A60
  clear A60
  obtain ⟨bl7, hbl7⟩ : ∃ s_ : Bool, (((Go.bits .and .i64 a0 4) == 4)) = s_ := ⟨_, rfl⟩
  replace H : (graverlaw09_RelrecAll.l0 k l1 a2 bl7 ([] : List (S33)) (⟨#[]⟩ : ByteArray) true 0 t239 t240) = some r := by first | (rw [hbl7] at H; exact H) | (simp only [hbl7] at H ⊢; exact H) | exact H
  have HC8 := aS H
  clear H
  go_enter Try.func5, Try.ntmps5
  go_upto_block 0 with (first | ((with_reducible refine gate_callee (f := 8) rfl ?_); refine goesL_ (some 24) rfl rfl Try.func8 (by kernel_rfl) rfl #[] rfl (by (try simp only [List.map_toArray, List.map_cons, List.map_nil]); first | done | rfl | (simp only [List.length_drop, List.length_take]; rfl)) ?_; (with_reducible refine (graverlaw09_speaks.calls k  true _ A4.out).mono ?_); rintro e w9 ⟨rfl, hb⟩; refine ⟨_, rfl, ?_⟩; have n0_ := aS (below_step (by repeat (first | (with_reducible first | exact HB.out | apply below_alloc | apply pw_below_drewN | apply below_drew1) | exact HB.out)) hb); clear HB; have HB := n0_; clear n0_; (try clear hb); (try clear hb2); (try clear hk); (try clear hi)) | ((with_reducible refine gate_callee (f := 9) rfl ?_); refine goesL_ (some 27) rfl rfl Try.func9 (by kernel_rfl) rfl #[.int .i64 a0] rfl (by (try simp only [List.map_toArray, List.map_cons, List.map_nil]); first | done | rfl | (simp only [List.length_drop, List.length_take]; rfl)) ?_; (with_reducible refine (graverlaw09_formOf.calls a0 t239 t240 _ A6.out).mono ?_); rintro e w10 ⟨rfl, hb⟩; refine ⟨_, rfl, ?_⟩; have n0_ := aS (below_step (by repeat (first | (with_reducible first | exact HB.out | apply below_alloc | apply pw_below_drewN | apply below_drew1) | exact HB.out)) hb); clear HB; have HB := n0_; clear n0_; (try clear hb); (try clear hb2); (try clear hk); (try clear hi)) | ((with_reducible refine gate_dst (N := 7) rfl ?_); (try (refine gate_guard (by rfl) ?_; dsimp only)); refine box_event ?hg (N := 7) ?hd (cs := #[.bool false, .bool false]) (t := 29) ?hr ?_; (case hd => rfl); (case hg => rfl); (case hr => (go_simp; try rfl)); intro gb241 hg w11 hbox hb; have n0_ := aS (below_step (by repeat (first | (with_reducible first | exact HB.out | apply below_alloc | apply pw_below_drewN | apply below_drew1) | exact HB.out)) hb); have n1_ := aS (hbox); have n2_ := aS ((by rw [hg]; exact (below_size (by repeat (first | (with_reducible first | exact HB.out | apply below_alloc | apply pw_below_drewN | apply below_drew1) | exact HB.out))) : w.heap.size ≤ gb241)); have n3_ := aS ((by rw [hg]; exact (below_size (by repeat (first | (with_reducible first | exact HB.out | apply below_alloc | apply pw_below_drewN | apply below_drew1) | exact HB.out))) : w.heap.size ≤ gb241)); clear HB; have HB := n0_; have BK241 := n1_; have GW241 := n2_; have GE241 := n3_; clear n0_ n1_ n2_ n3_; clear hb hbox hg; have hcz12_0 : w11.cell? ⟨gb241, 0, none⟩ = some (.bool false) := (blk_cell BK241.out 0).trans rfl; have hcz12_1 : w11.cell? ⟨gb241, 1, none⟩ = some (.bool false) := (blk_cell BK241.out 1).trans rfl; have hfz12_0 := blk_frozen BK241.out 0; have hfz12_1 := blk_frozen BK241.out 1))
  (try simp only [Act.put, List.setIfInBounds_toArray, List.set_cons_zero, List.set_cons_succ])
  go_cut [9, 10, 11] (fun v9 v10 v11 wc => ∃ (kq : Nat) (x9_7 : List (S33)) (x10_7 : ByteArray) (x11_7 : Bool), v10 = .string x10_7 ∧ v11 = .bool x11_7 ∧ Aside0 (graverlaw09_RelrecAll.j1 kq a2 bl7 x9_7 x10_7 x11_7 t239 t240 = some r) ∧ Aside0 (kq ≤ k) ∧ Aside0 (Kd.R k33 33 wc w.heap.size (fun _ => True) v9 x9_7) ∧ Aside0 (wc.heap[gb241]? = some (.cells #[.bool t239, .bool t240] 29 (0, 0))) ∧ Aside0 (Below w.heap.size w wc))
  case first =>
   have H := HC8.out
   clear HC8
   have H' := aS H
   clear H
   go_wp2
   go_loopg [9, 10, 11, 12] k (fun kq v9 v10 v11 v12 w' => ∃ (x9_1 : List (S33)) (x10_1 : ByteArray) (x11_1 : Bool) (x12_1 : Int), v10 = .string x10_1 ∧ v11 = .bool x11_1 ∧ v12 = .int .i64 x12_1 ∧ Aside0 (graverlaw09_RelrecAll.l0 kq l1 a2 bl7 x9_1 x10_1 x11_1 x12_1 t239 t240 = some r) ∧ Aside0 (kq ≤ k) ∧ Aside0 (Kd.R k33 33 w' w.heap.size (fun _ => True) v9 x9_1) ∧ Aside0 (w'.heap[gb241]? = some (.cells #[.bool t239, .bool t240] 29 (0, 0))) ∧ Aside0 (Below w.heap.size w w'))
   case atStart => exact ⟨(([] : List (S33))), ((⟨#[]⟩ : ByteArray)), (true), (0), (by first | rfl | (simp; done) | (simp [*]; done)), (by first | rfl | (simp; done) | (simp [*]; done)), (by first | rfl | (simp; done) | (simp [*]; done)), H', ⟨Nat.le_refl _⟩, ⟨by first | exact Kd.R_nil _ _ _ _ _ | exact Kd.N_nil _ _ _ _ _ | exact Kd.V_nil _ _ _ _ _ | exact Kd.Q_nil _ _ _ _ _ | exact Kd.S_nil _ _ _ _ _⟩, ⟨by (with_reducible repeat (first | apply bN | apply bD | apply bA)); refine blk_put (cs := #[.bool t239, .bool false]) ?_ 1 _ rfl; (with_reducible repeat (first | apply bN | apply bD | apply bA)); refine blk_put (cs := #[.bool false, .bool false]) ?_ 0 _ rfl; (with_reducible repeat (first | apply bN | apply bD | apply bA)); exact BK241.out⟩, ⟨by repeat (first | (with_reducible first | exact HB.out | apply eA | apply eN | apply eD | refine below_set ?_ GE241.out) | exact HB.out)⟩⟩
   case round =>
    clear H'
    try clear c1
    try clear p2
    try clear c5
    try clear c8
    try clear c9
    try clear hcz12_0
    try clear hcz12_1
    try clear hfz12_0
    try clear hfz12_1
    obtain ⟨x9_1, x10_1, x11_1, x12_1, rfl, rfl, rfl, HA, HK1, HO_9, BK241, HB⟩ := hrel
    cases gk with
    | zero => exact absurd HA.out (by simp [graverlaw09_RelrecAll.l0])
    | succ k1 =>
     have H := HA.out
     clear HA
     simp only [graverlaw09_RelrecAll.l0] at H
     by_cases c13 : x12_1 < (l1.length : Int)
     ·
      rw [if_pos c13] at H
      have c13b0 : decide (x12_1 < (l1.length : Int)) = true := decide_eq_true c13
      clear c13
      (first | rw [c13b0] | (simp only [i64_w, i32_w]; rw [c13b0]) | skip)
      by_cases c14 : x12_1 < 10
      ·
       rw [if_pos c14] at H
       have c14b0 : decide (x12_1 < 10) = true := decide_eq_true c14
       clear c14
       by_cases c15 : 0 ≤ x12_1
       ·
        rw [if_pos c15] at H
        have c15b0 : decide (0 ≤ x12_1) = true := decide_eq_true c15
        clear c15
        by_cases c16 : x9_1.length < 4398046511104
        ·
         rw [if_pos c16] at H
         have LMc16 := aS c16
         clear c16
         obtain ⟨y243, hy243⟩ : ∃ y_ : List (S33), y_ = (x9_1 ++ [(⟨(rd_T24 l1 x12_1).f0, (rd_T24 l1 x12_1).f1, (rd_T24 l1 x12_1).f2, (rd_T24 l1 x12_1).f3⟩ : S33)]) := ⟨_, rfl⟩
         replace H : ((graverref09_Put.f k1 t240 t239 bl7 ((rd_T24 l1 x12_1).f0) ((rd_T24 l1 x12_1).f1) ((rd_T24 l1 x12_1).f2) ((rd_T24 l1 x12_1).f3)).bind fun bt247 => (if x10_1.size + bt247.1.size ≤ 9223372036854775807 then (if x11_1 = true then (graverlaw09_RelrecAll.l0 k1 l1 a2 bl7 y243 (x10_1 ++ bt247.1) bt247.2 (wrap64 (x12_1 + 1)) t239 t240) else (graverlaw09_RelrecAll.l0 k1 l1 a2 bl7 y243 (x10_1 ++ bt247.1) false (wrap64 (x12_1 + 1)) t239 t240)) else (none))) = some r := by first | (rw [hy243]; with_reducible exact H) | (have H2_ := (Option.bind_some _ _).symm.trans H; rw [hy243]; with_reducible exact H2_) | (have H2_ := (Option.bind_some _ _).symm.trans H; with_reducible exact H2_) | with_reducible exact H | (rw [hy243]; exact H) | exact H
         have Ny243 := aS hy243
         clear hy243
         replace H := Option.bind_eq_some_iff.mp H
         obtain ⟨⟨t247, t248⟩, A170, H⟩ := H
         replace H : (if x10_1.size + t247.size ≤ 9223372036854775807 then (if x11_1 = true then (graverlaw09_RelrecAll.l0 k1 l1 a2 bl7 y243 (x10_1 ++ t247) t248 (wrap64 (x12_1 + 1)) t239 t240) else (graverlaw09_RelrecAll.l0 k1 l1 a2 bl7 y243 (x10_1 ++ t247) false (wrap64 (x12_1 + 1)) t239 t240)) else (none)) = some r := H
         have A17 := aS A170
         clear A170
         by_cases c18 : x10_1.size + t247.size ≤ 9223372036854775807
         ·
          rw [if_pos c18] at H
          have c18b0 := eq_true c18
          have c18b1 : decide (x10_1.size + t247.size ≤ 9223372036854775807) = true := decide_eq_true c18
          try have c18b2 : (9223372036854775807 < x10_1.size + t247.size) = False := eq_false (Nat.not_lt.2 c18)
          by_cases c19 : x11_1 = true
          ·
           subst c19
           have H1 : (graverlaw09_RelrecAll.l0 k1 l1 a2 bl7 y243 (x10_1 ++ t247) t248 (wrap64 (x12_1 + 1)) t239 t240) = some r := by rw [if_pos rfl] at H; exact H
           clear H
           have H := H1
           clear H1
           have H' := aS H
           clear H
           have p242 : 0 ≤ (x12_1 : Int) := of_decide_eq_true (by first | (with_reducible assumption) | assumption)
           have q242 : x12_1 < (l1.length : Int) := of_decide_eq_true (by first | (with_reducible assumption) | assumption)
           obtain ⟨ad242, e242, hx242_0, hx242_1, hx242_2, hx242_3⟩ := at_T24 HR1.out x12_1 p242 q242
           cases e242
           replace hx242_0 := (HB.out.cell (World.block_lt_of_cell? w _ hx242_0)).trans hx242_0
           replace hx242_1 := (HB.out.cell (World.block_lt_of_cell? w _ hx242_1)).trans hx242_1
           replace hx242_2 := (HB.out.cell (World.block_lt_of_cell? w _ hx242_2)).trans hx242_2
           replace hx242_3 := (HB.out.cell (World.block_lt_of_cell? w _ hx242_3)).trans hx242_3
           replace p242 := eq_true p242
           replace q242 := eq_true q242
           try go_wp2_with (first | ((with_reducible refine gate_builtin (b := .append) (xs := #[.tmp 41, .tmp 46]) rfl ?_); (try (refine gate_guard (by rfl) ?_; dsimp only)); at_builtin; refine Kd.R_append k33 (w0 := w) w.heap.size rfl (.tmp 41) (.tmp 46) 43 33 (.agg #[(.int .u64 0), (.int .u64 0), (.int .u64 0), (.int .u64 0)]) 32 rfl Try.underlying43 info33 rfl (by decide) (by omega) u9 x9_1 (⟨(rd_T24 l1 x12_1).f0, (rd_T24 l1 x12_1).f1, (rd_T24 l1 x12_1).f2, (rd_T24 l1 x12_1).f3⟩ : S33) [.int .u64 ((rd_T24 l1 x12_1).f0), .int .u64 ((rd_T24 l1 x12_1).f1), .int .u64 ((rd_T24 l1 x12_1).f2), .int .u64 ((rd_T24 l1 x12_1).f3)] (fun _ => True) (fun _ => False) rfl rfl ?aP (fun _ hk => hk.elim) ?aF ?aO ?aB ?aS ?aL ?_; (case aP => exact k33_mkM _ _ _ (⟨(rd_T24 l1 x12_1).f0, (rd_T24 l1 x12_1).f1, (rd_T24 l1 x12_1).f2, (rd_T24 l1 x12_1).f3⟩ : S33)); (case aB => exact (by repeat (first | (with_reducible first | exact HB.out | apply eA | apply eN | apply eD | refine below_set ?_ GE241.out) | exact HB.out))); (case aF => exact (fun _ _ => trivial)); (case aO => exact (by (with_reducible repeat (first | apply Kd.R_alloc | apply Kd.R_drewN | apply Kd.R_drew)); exact HO_9.out)); (case aS => exact (below_size (by repeat (first | (with_reducible first | exact HB.out | apply eA | apply eN | apply eD | refine below_set ?_ GE241.out) | exact HB.out)))); (case aL => have := LMc16.out; omega); intro v244 w20 ho hb hg hat; rw [← Ny243.out] at ho; have n0_ := aS (blk_grown (g := gb241) (o := .cells #[.bool t239, .bool t240] 29 (0, 0)) (by (with_reducible repeat (first | apply bN | apply bD | apply bA)); exact BK241.out) hg (Kd.R_ne HO_9.out BK241.out (by decide))); have n1_ := aS (hb); have n2_ := aS (ho); clear BK241; clear HB; clear HO_9; have BK241 := n0_; have HB := n1_; have HO245 := n2_; clear n0_ n1_ n2_; clear ho hb hg hat))
           have n0_ := aS (Kd.R_drew HO245.out)
           have n1_ := aS (blk_drew BK241.out)
           have n2_ := aS (below_drew1 HB.out)
           clear HO245
           clear BK241
           clear HB
           have HO245 := n0_
           have BK241 := n1_
           have HB := n2_
           clear n0_ n1_ n2_
           have p246 : 0 ≤ (x12_1 : Int) := of_decide_eq_true (by first | (with_reducible assumption) | assumption)
           have q246 : x12_1 < (l1.length : Int) := of_decide_eq_true (by first | (with_reducible assumption) | assumption)
           obtain ⟨ad246, e246, hx246_0, hx246_1, hx246_2, hx246_3⟩ := at_T24 HR1.out x12_1 p246 q246
           have hw246_3 := hx246_3
           have hw246_2 := hx246_2
           have hw246_1 := hx246_1
           have hw246_0 := hx246_0
           obtain rfl : ad242 = ad246 := (by injection e246)
           replace hx246_0 := (HB.out.cell (World.block_lt_of_cell? w _ hx246_0)).trans hx246_0
           replace hx246_1 := (HB.out.cell (World.block_lt_of_cell? w _ hx246_1)).trans hx246_1
           replace hx246_2 := (HB.out.cell (World.block_lt_of_cell? w _ hx246_2)).trans hx246_2
           replace hx246_3 := (HB.out.cell (World.block_lt_of_cell? w _ hx246_3)).trans hx246_3
           replace p246 := eq_true p246
           replace q246 := eq_true q246
           refine start_ (n := 16) (S := fun w' => w'.cell? ⟨gb241, 0, none⟩ = some (.bool t239) ∧ w'.cell? ⟨gb241, 1, none⟩ = some (.bool t240) ∧ w'.cell? (ad242.add ((x12_1).toNat * 4)) = some (.int .u64 ((rd_T24 l1 x12_1).f0)) ∧ w'.cell? ⟨(ad242.add ((x12_1).toNat * 4)).block, (ad242.add ((x12_1).toNat * 4)).off + 1, none⟩ = some (.int .u64 ((rd_T24 l1 x12_1).f1)) ∧ w'.cell? ⟨(ad242.add ((x12_1).toNat * 4)).block, (ad242.add ((x12_1).toNat * 4)).off + 2, none⟩ = some (.int .u64 ((rd_T24 l1 x12_1).f2)) ∧ w'.cell? ⟨(ad242.add ((x12_1).toNat * 4)).block, (ad242.add ((x12_1).toNat * 4)).off + 3, none⟩ = some (.int .u64 ((rd_T24 l1 x12_1).f3))) (ds := []) #[false, false, false, false, false, false, false, false, false, false, false, false, false, false, false, false] (by kernel_rfl) rfl rfl ⟨(blk_cell BK241.out 0).trans rfl, (blk_cell BK241.out 1).trans rfl, ((HB.out.cell (World.block_lt_of_cell? w _ hw246_0)).trans hw246_0), ((HB.out.cell (World.block_lt_of_cell? w _ hw246_1)).trans hw246_1), ((HB.out.cell (World.block_lt_of_cell? w _ hw246_2)).trans hw246_2), ((HB.out.cell (World.block_lt_of_cell? w _ hw246_3)).trans hw246_3)⟩ (fun hHeld => ?_); refine with_tabW graverlaw09_RelrecAll.tab10 graverlaw09_RelrecAll.bits10 (fun HT_ HW_ => ?_)
           generalize w20.drew = w21 at HO245 BK241 HB hx246_0 hx246_1 hx246_2 hx246_3 hHeld ⊢
           refine pure_ (i := 0) (N := some 49) (v := ?_) (a' := ?_) (bm 16 1) rfl rfl (any_of HT_.out (by kernel_rfl)) (fun _ _ _ h => h) (Or.inl ⟨by rfl, ?_⟩) ?_ ?_
           rotate_left
           ·
            intro w'
            go_simp
            with_reducible rfl
           rotate_left
           ·
            simp only [Act.put, aput]
            rfl
           refine pure_ (i := 2) (N := some 51) (v := ?_) (a' := ?_) (bm 16 5) rfl rfl (any_of HT_.out (by kernel_rfl)) (fun _ _ _ h => h) (Or.inl ⟨by rfl, ?_⟩) ?_ ?_
           rotate_left
           ·
            intro w'
            go_simp
            with_reducible rfl
           rotate_left
           ·
            simp only [Act.put, aput]
            rfl
           refine pure_ (i := 3) (N := some 52) (v := ?_) (a' := ?_) (bm 16 13) rfl rfl (any_of HT_.out (by kernel_rfl)) (fun _ _ _ h => h) (Or.inl ⟨by rfl, ?_⟩) ?_ ?_
           rotate_left
           ·
            intro w'
            go_simp
            with_reducible rfl
           rotate_left
           ·
            simp only [Act.put, aput]
            rfl
           refine pure_ (i := 5) (N := some 54) (v := ?_) (a' := ?_) (bm 16 45) rfl rfl (any_of HT_.out (by kernel_rfl)) (fun _ _ _ h => h) (Or.inl ⟨by rfl, ?_⟩) ?_ ?_
           rotate_left
           ·
            intro w'
            go_simp
            with_reducible rfl
           rotate_left
           ·
            simp only [Act.put, aput]
            rfl
           refine pure_ (i := 6) (N := some 55) (v := ?_) (a' := ?_) (bm 16 109) rfl rfl (any_of HT_.out (by kernel_rfl)) (fun _ _ _ h => h) (Or.inl ⟨by rfl, ?_⟩) ?_ ?_
           rotate_left
           ·
            intro w'
            go_simp
            with_reducible rfl
           rotate_left
           ·
            simp only [Act.put, aput]
            rfl
           refine pure_ (i := 7) (N := some 56) (v := ?_) (a' := ?_) (bm 16 237) rfl rfl (any_of HT_.out (by kernel_rfl)) (fun _ _ _ h => h) (Or.inl ⟨by rfl, ?_⟩) ?_ ?_
           rotate_left
           ·
            intro w'
            go_simp
            with_reducible rfl
           rotate_left
           ·
            simp only [Act.put, aput]
            rfl
           refine pure_ (i := 8) (N := some 57) (v := ?_) (a' := ?_) (bm 16 493) rfl rfl (any_of HT_.out (by kernel_rfl)) (fun _ _ _ h => h) (Or.inl ⟨by rfl, ?_⟩) ?_ ?_
           rotate_left
           ·
            intro w'
            go_simp
            with_reducible rfl
           rotate_left
           ·
            simp only [Act.put, aput]
            rfl
           refine take_ (i := 1) (N := some 50) (v := ?_) (a' := ?_) (bm 16 495) rfl rfl (take_ofW HT_.out HW_.out (by kernel_rfl)) (fun _ _ _ h => h) (Or.inl ⟨by rfl, ?_⟩) hHeld ?_ ?_
           rotate_left
           ·
            intro w' s0
            go_simp
            with_reducible rfl
           rotate_left
           ·
            simp only [Act.put, aput]
            rfl
           refine take_ (i := 4) (N := some 53) (v := ?_) (a' := ?_) (bm 16 511) rfl rfl (take_ofW HT_.out HW_.out (by kernel_rfl)) (fun _ _ _ h => h) (Or.inl ⟨by rfl, ?_⟩) hHeld ?_ ?_
           rotate_left
           ·
            intro w' s0
            go_simp
            with_reducible rfl
           rotate_left
           ·
            simp only [Act.put, aput]
            rfl
           refine take_ (i := 9) (N := some 58) (v := ?_) (a' := ?_) (bm 16 1023) rfl rfl (take_ofW HT_.out HW_.out (by kernel_rfl)) (fun _ _ _ h => h) (Or.inl ⟨by rfl, ?_⟩) hHeld ?_ ?_
           rotate_left
           ·
            intro w' s0
            go_simp
            with_reducible rfl
           rotate_left
           ·
            simp only [Act.put, aput]
            rfl
           refine one_ (i := 10) (N := some 59) (bm 16 2047) rfl rfl (one_of HT_.out (by kernel_rfl)) (by decide) (fun K hK => ?_)
           refine goes_ Try.func11 (by kernel_rfl) rfl #[.bool t240, .bool t239, .bool bl7, .agg #[.int .u64 ((rd_T24 l1 x12_1).f0), .int .u64 ((rd_T24 l1 x12_1).f1), .int .u64 ((rd_T24 l1 x12_1).f2), .int .u64 ((rd_T24 l1 x12_1).f3)]] (by rfl) rfl rfl (by (try simp only [List.map_toArray, List.map_cons, List.map_nil]); first | done | rfl | (simp only [List.length_drop, List.length_take]; rfl)) ?_
           with_reducible refine (graverref09_Put.calls k1 t240 t239 bl7 ((rd_T24 l1 x12_1).f0) ((rd_T24 l1 x12_1).f1) ((rd_T24 l1 x12_1).f2) ((rd_T24 l1 x12_1).f3) t247 t248 _ A17.out).mono ?_
           rintro e w22 ⟨rfl, hb⟩
           refine ⟨_, rfl, ?_⟩
           have n0_ := aS (Kd.R_below (by (with_reducible repeat (first | apply Kd.R_alloc | apply Kd.R_drewN | apply Kd.R_drew)); exact HO245.out) hb)
           have n1_ := aS (blk_below (g := gb241) (o := .cells #[.bool t239, .bool t240] 29 (0, 0)) (by (with_reducible repeat (first | apply bN | apply bD | apply bA)); exact BK241.out) hb)
           have n2_ := aS (below_step (by repeat (first | (with_reducible first | exact HB.out | apply eA | apply eN | apply eD | refine below_set ?_ GE241.out) | exact HB.out)) hb)
           clear HO245
           clear BK241
           clear HB
           have HO245 := n0_
           have BK241 := n1_
           have HB := n2_
           clear n0_ n1_ n2_
           (try clear hb)
           (try clear hb2)
           (try clear hk)
           (try clear hi)
           refine hK.out _ _ ⟨(blk_cell BK241.out 0).trans rfl, (blk_cell BK241.out 1).trans rfl, ((HB.out.cell (World.block_lt_of_cell? w _ hw246_0)).trans hw246_0), ((HB.out.cell (World.block_lt_of_cell? w _ hw246_1)).trans hw246_1), ((HB.out.cell (World.block_lt_of_cell? w _ hw246_2)).trans hw246_2), ((HB.out.cell (World.block_lt_of_cell? w _ hw246_3)).trans hw246_3)⟩ (fun hHeld => ?_)
           clear hK K
           refine norm_ (a' := ?_) ?_ ?_
           rotate_left
           ·
            show Act.put _ (some 59) _ = _
            simp only [Act.put, aput]
            rfl
           refine pure_ (i := 11) (N := some 48) (v := ?_) (a' := ?_) (bm 16 4095) rfl rfl (any_of HT_.out (by kernel_rfl)) (fun _ _ _ h => h) (Or.inl ⟨by rfl, ?_⟩) ?_ ?_
           rotate_left
           ·
            intro w'
            go_simp
            with_reducible rfl
           rotate_left
           ·
            simp only [Act.put, aput]
            rfl
           refine pure_ (i := 12) (N := some 60) (v := ?_) (a' := ?_) (bm 16 8191) rfl rfl (any_of HT_.out (by kernel_rfl)) (fun _ _ _ h => h) (Or.inl ⟨by rfl, ?_⟩) ?_ ?_
           rotate_left
           ·
            intro w'
            go_simp
            with_reducible rfl
           rotate_left
           ·
            simp only [Act.put, aput]
            rfl
           refine pure_ (i := 13) (N := some 61) (v := ?_) (a' := ?_) (bm 16 16383) rfl rfl (any_of HT_.out (by kernel_rfl)) (fun _ _ _ h => h) (Or.inl ⟨by rfl, ?_⟩) ?_ ?_
           rotate_left
           ·
            intro w'
            go_simp
            with_reducible rfl
           rotate_left
           ·
            simp only [Act.put, aput]
            rfl
           refine pure_ (i := 14) (N := some 13) (v := ?_) (a' := ?_) (bm 16 32767) rfl rfl (any_of HT_.out (by kernel_rfl)) (fun _ _ _ h => h) (Or.inl ⟨by rfl, ?_⟩) ?_ ?_
           rotate_left
           ·
            intro w'
            go_simp
            with_reducible rfl
           rotate_left
           ·
            simp only [Act.put, aput]
            rfl
           refine pure_ (i := 15) (N := some 14) (v := ?_) (a' := ?_) (bm 16 65535) rfl rfl (any_of HT_.out (by kernel_rfl)) (fun _ _ _ h => h) (Or.inl ⟨by rfl, ?_⟩) ?_ ?_
           rotate_left
           ·
            intro w'
            go_simp
            with_reducible rfl
           rotate_left
           ·
            simp only [Act.put, aput]
            rfl
           refine done_ (done_of HT_.out (by kernel_rfl)) ?_
           try go_wp2
           go_roundg k1
           case measure => have := HK1.out; omega
           case rel => exact ⟨(y243), (x10_1 ++ t247), (t248), (wrap64 (x12_1 + 1)), (by first | rfl | (simp; done) | (simp [*]; done)), (by first | rfl | (simp; done) | (simp [*]; done)), (by first | rfl | (simp; done) | (simp [*]; done)), H', ⟨by have := HK1.out; omega⟩, ⟨by (with_reducible repeat (first | apply Kd.R_alloc | apply Kd.R_drewN | apply Kd.R_drew)); exact HO245.out⟩, ⟨by (with_reducible repeat (first | apply bN | apply bD | apply bA)); exact BK241.out⟩, ⟨by repeat (first | (with_reducible first | exact HB.out | apply eA | apply eN | apply eD | refine below_set ?_ GE241.out) | exact HB.out)⟩⟩
          ·
           replace c19 := Bool.eq_false_iff.mpr c19
           subst c19
           have H1 : (graverlaw09_RelrecAll.l0 k1 l1 a2 bl7 y243 (x10_1 ++ t247) false (wrap64 (x12_1 + 1)) t239 t240) = some r := by rw [if_neg (show ¬ (false = true) by decide)] at H; exact H
           clear H
           have H := H1
           clear H1
           have H' := aS H
           clear H
           have p242 : 0 ≤ (x12_1 : Int) := of_decide_eq_true (by first | (with_reducible assumption) | assumption)
           have q242 : x12_1 < (l1.length : Int) := of_decide_eq_true (by first | (with_reducible assumption) | assumption)
           obtain ⟨ad242, e242, hx242_0, hx242_1, hx242_2, hx242_3⟩ := at_T24 HR1.out x12_1 p242 q242
           cases e242
           replace hx242_0 := (HB.out.cell (World.block_lt_of_cell? w _ hx242_0)).trans hx242_0
           replace hx242_1 := (HB.out.cell (World.block_lt_of_cell? w _ hx242_1)).trans hx242_1
           replace hx242_2 := (HB.out.cell (World.block_lt_of_cell? w _ hx242_2)).trans hx242_2
           replace hx242_3 := (HB.out.cell (World.block_lt_of_cell? w _ hx242_3)).trans hx242_3
           replace p242 := eq_true p242
           replace q242 := eq_true q242
           try go_wp2_with (first | ((with_reducible refine gate_builtin (b := .append) (xs := #[.tmp 41, .tmp 46]) rfl ?_); (try (refine gate_guard (by rfl) ?_; dsimp only)); at_builtin; refine Kd.R_append k33 (w0 := w) w.heap.size rfl (.tmp 41) (.tmp 46) 43 33 (.agg #[(.int .u64 0), (.int .u64 0), (.int .u64 0), (.int .u64 0)]) 32 rfl Try.underlying43 info33 rfl (by decide) (by omega) u9 x9_1 (⟨(rd_T24 l1 x12_1).f0, (rd_T24 l1 x12_1).f1, (rd_T24 l1 x12_1).f2, (rd_T24 l1 x12_1).f3⟩ : S33) [.int .u64 ((rd_T24 l1 x12_1).f0), .int .u64 ((rd_T24 l1 x12_1).f1), .int .u64 ((rd_T24 l1 x12_1).f2), .int .u64 ((rd_T24 l1 x12_1).f3)] (fun _ => True) (fun _ => False) rfl rfl ?aP (fun _ hk => hk.elim) ?aF ?aO ?aB ?aS ?aL ?_; (case aP => exact k33_mkM _ _ _ (⟨(rd_T24 l1 x12_1).f0, (rd_T24 l1 x12_1).f1, (rd_T24 l1 x12_1).f2, (rd_T24 l1 x12_1).f3⟩ : S33)); (case aB => exact (by repeat (first | (with_reducible first | exact HB.out | apply eA | apply eN | apply eD | refine below_set ?_ GE241.out) | exact HB.out))); (case aF => exact (fun _ _ => trivial)); (case aO => exact (by (with_reducible repeat (first | apply Kd.R_alloc | apply Kd.R_drewN | apply Kd.R_drew)); exact HO_9.out)); (case aS => exact (below_size (by repeat (first | (with_reducible first | exact HB.out | apply eA | apply eN | apply eD | refine below_set ?_ GE241.out) | exact HB.out)))); (case aL => have := LMc16.out; omega); intro v244 w23 ho hb hg hat; rw [← Ny243.out] at ho; have n0_ := aS (blk_grown (g := gb241) (o := .cells #[.bool t239, .bool t240] 29 (0, 0)) (by (with_reducible repeat (first | apply bN | apply bD | apply bA)); exact BK241.out) hg (Kd.R_ne HO_9.out BK241.out (by decide))); have n1_ := aS (hb); have n2_ := aS (ho); clear BK241; clear HB; clear HO_9; have BK241 := n0_; have HB := n1_; have HO245 := n2_; clear n0_ n1_ n2_; clear ho hb hg hat))
           have n0_ := aS (Kd.R_drew HO245.out)
           have n1_ := aS (blk_drew BK241.out)
           have n2_ := aS (below_drew1 HB.out)
           clear HO245
           clear BK241
           clear HB
           have HO245 := n0_
           have BK241 := n1_
           have HB := n2_
           clear n0_ n1_ n2_
           have p246 : 0 ≤ (x12_1 : Int) := of_decide_eq_true (by first | (with_reducible assumption) | assumption)
           have q246 : x12_1 < (l1.length : Int) := of_decide_eq_true (by first | (with_reducible assumption) | assumption)
           obtain ⟨ad246, e246, hx246_0, hx246_1, hx246_2, hx246_3⟩ := at_T24 HR1.out x12_1 p246 q246
           have hw246_3 := hx246_3
           have hw246_2 := hx246_2
           have hw246_1 := hx246_1
           have hw246_0 := hx246_0
           obtain rfl : ad242 = ad246 := (by injection e246)
           replace hx246_0 := (HB.out.cell (World.block_lt_of_cell? w _ hx246_0)).trans hx246_0
           replace hx246_1 := (HB.out.cell (World.block_lt_of_cell? w _ hx246_1)).trans hx246_1
           replace hx246_2 := (HB.out.cell (World.block_lt_of_cell? w _ hx246_2)).trans hx246_2
           replace hx246_3 := (HB.out.cell (World.block_lt_of_cell? w _ hx246_3)).trans hx246_3
           replace p246 := eq_true p246
           replace q246 := eq_true q246
           refine start_ (n := 16) (S := fun w' => w'.cell? ⟨gb241, 0, none⟩ = some (.bool t239) ∧ w'.cell? ⟨gb241, 1, none⟩ = some (.bool t240) ∧ w'.cell? (ad242.add ((x12_1).toNat * 4)) = some (.int .u64 ((rd_T24 l1 x12_1).f0)) ∧ w'.cell? ⟨(ad242.add ((x12_1).toNat * 4)).block, (ad242.add ((x12_1).toNat * 4)).off + 1, none⟩ = some (.int .u64 ((rd_T24 l1 x12_1).f1)) ∧ w'.cell? ⟨(ad242.add ((x12_1).toNat * 4)).block, (ad242.add ((x12_1).toNat * 4)).off + 2, none⟩ = some (.int .u64 ((rd_T24 l1 x12_1).f2)) ∧ w'.cell? ⟨(ad242.add ((x12_1).toNat * 4)).block, (ad242.add ((x12_1).toNat * 4)).off + 3, none⟩ = some (.int .u64 ((rd_T24 l1 x12_1).f3))) (ds := []) #[false, false, false, false, false, false, false, false, false, false, false, false, false, false, false, false] (by kernel_rfl) rfl rfl ⟨(blk_cell BK241.out 0).trans rfl, (blk_cell BK241.out 1).trans rfl, ((HB.out.cell (World.block_lt_of_cell? w _ hw246_0)).trans hw246_0), ((HB.out.cell (World.block_lt_of_cell? w _ hw246_1)).trans hw246_1), ((HB.out.cell (World.block_lt_of_cell? w _ hw246_2)).trans hw246_2), ((HB.out.cell (World.block_lt_of_cell? w _ hw246_3)).trans hw246_3)⟩ (fun hHeld => ?_); refine with_tabW graverlaw09_RelrecAll.tab10 graverlaw09_RelrecAll.bits10 (fun HT_ HW_ => ?_)
           generalize w23.drew = w24 at HO245 BK241 HB hx246_0 hx246_1 hx246_2 hx246_3 hHeld ⊢
           refine pure_ (i := 0) (N := some 49) (v := ?_) (a' := ?_) (bm 16 1) rfl rfl (any_of HT_.out (by kernel_rfl)) (fun _ _ _ h => h) (Or.inl ⟨by rfl, ?_⟩) ?_ ?_
           rotate_left
           ·
            intro w'
            go_simp
            with_reducible rfl
           rotate_left
           ·
            simp only [Act.put, aput]
            rfl
           refine pure_ (i := 2) (N := some 51) (v := ?_) (a' := ?_) (bm 16 5) rfl rfl (any_of HT_.out (by kernel_rfl)) (fun _ _ _ h => h) (Or.inl ⟨by rfl, ?_⟩) ?_ ?_
           rotate_left
           ·
            intro w'
            go_simp
            with_reducible rfl
           rotate_left
           ·
            simp only [Act.put, aput]
            rfl
           refine pure_ (i := 3) (N := some 52) (v := ?_) (a' := ?_) (bm 16 13) rfl rfl (any_of HT_.out (by kernel_rfl)) (fun _ _ _ h => h) (Or.inl ⟨by rfl, ?_⟩) ?_ ?_
           rotate_left
           ·
            intro w'
            go_simp
            with_reducible rfl
           rotate_left
           ·
            simp only [Act.put, aput]
            rfl
           refine pure_ (i := 5) (N := some 54) (v := ?_) (a' := ?_) (bm 16 45) rfl rfl (any_of HT_.out (by kernel_rfl)) (fun _ _ _ h => h) (Or.inl ⟨by rfl, ?_⟩) ?_ ?_
           rotate_left
           ·
            intro w'
            go_simp
            with_reducible rfl
           rotate_left
           ·
            simp only [Act.put, aput]
            rfl
           refine pure_ (i := 6) (N := some 55) (v := ?_) (a' := ?_) (bm 16 109) rfl rfl (any_of HT_.out (by kernel_rfl)) (fun _ _ _ h => h) (Or.inl ⟨by rfl, ?_⟩) ?_ ?_
           rotate_left
           ·
            intro w'
            go_simp
            with_reducible rfl
           rotate_left
           ·
            simp only [Act.put, aput]
            rfl
           refine pure_ (i := 7) (N := some 56) (v := ?_) (a' := ?_) (bm 16 237) rfl rfl (any_of HT_.out (by kernel_rfl)) (fun _ _ _ h => h) (Or.inl ⟨by rfl, ?_⟩) ?_ ?_
           rotate_left
           ·
            intro w'
            go_simp
            with_reducible rfl
           rotate_left
           ·
            simp only [Act.put, aput]
            rfl
           refine pure_ (i := 8) (N := some 57) (v := ?_) (a' := ?_) (bm 16 493) rfl rfl (any_of HT_.out (by kernel_rfl)) (fun _ _ _ h => h) (Or.inl ⟨by rfl, ?_⟩) ?_ ?_
           rotate_left
           ·
            intro w'
            go_simp
            with_reducible rfl
           rotate_left
           ·
            simp only [Act.put, aput]
            rfl
           refine take_ (i := 1) (N := some 50) (v := ?_) (a' := ?_) (bm 16 495) rfl rfl (take_ofW HT_.out HW_.out (by kernel_rfl)) (fun _ _ _ h => h) (Or.inl ⟨by rfl, ?_⟩) hHeld ?_ ?_
           rotate_left
           ·
            intro w' s0
            go_simp
            with_reducible rfl
           rotate_left
           ·
            simp only [Act.put, aput]
            rfl
           refine take_ (i := 4) (N := some 53) (v := ?_) (a' := ?_) (bm 16 511) rfl rfl (take_ofW HT_.out HW_.out (by kernel_rfl)) (fun _ _ _ h => h) (Or.inl ⟨by rfl, ?_⟩) hHeld ?_ ?_
           rotate_left
           ·
            intro w' s0
            go_simp
            with_reducible rfl
           rotate_left
           ·
            simp only [Act.put, aput]
            rfl
           refine take_ (i := 9) (N := some 58) (v := ?_) (a' := ?_) (bm 16 1023) rfl rfl (take_ofW HT_.out HW_.out (by kernel_rfl)) (fun _ _ _ h => h) (Or.inl ⟨by rfl, ?_⟩) hHeld ?_ ?_
           rotate_left
           ·
            intro w' s0
            go_simp
            with_reducible rfl
           rotate_left
           ·
            simp only [Act.put, aput]
            rfl
           refine one_ (i := 10) (N := some 59) (bm 16 2047) rfl rfl (one_of HT_.out (by kernel_rfl)) (by decide) (fun K hK => ?_)
           refine goes_ Try.func11 (by kernel_rfl) rfl #[.bool t240, .bool t239, .bool bl7, .agg #[.int .u64 ((rd_T24 l1 x12_1).f0), .int .u64 ((rd_T24 l1 x12_1).f1), .int .u64 ((rd_T24 l1 x12_1).f2), .int .u64 ((rd_T24 l1 x12_1).f3)]] (by rfl) rfl rfl (by (try simp only [List.map_toArray, List.map_cons, List.map_nil]); first | done | rfl | (simp only [List.length_drop, List.length_take]; rfl)) ?_
           with_reducible refine (graverref09_Put.calls k1 t240 t239 bl7 ((rd_T24 l1 x12_1).f0) ((rd_T24 l1 x12_1).f1) ((rd_T24 l1 x12_1).f2) ((rd_T24 l1 x12_1).f3) t247 t248 _ A17.out).mono ?_
           rintro e w25 ⟨rfl, hb⟩
           refine ⟨_, rfl, ?_⟩
           have n0_ := aS (Kd.R_below (by (with_reducible repeat (first | apply Kd.R_alloc | apply Kd.R_drewN | apply Kd.R_drew)); exact HO245.out) hb)
           have n1_ := aS (blk_below (g := gb241) (o := .cells #[.bool t239, .bool t240] 29 (0, 0)) (by (with_reducible repeat (first | apply bN | apply bD | apply bA)); exact BK241.out) hb)
           have n2_ := aS (below_step (by repeat (first | (with_reducible first | exact HB.out | apply eA | apply eN | apply eD | refine below_set ?_ GE241.out) | exact HB.out)) hb)
           clear HO245
           clear BK241
           clear HB
           have HO245 := n0_
           have BK241 := n1_
           have HB := n2_
           clear n0_ n1_ n2_
           (try clear hb)
           (try clear hb2)
           (try clear hk)
           (try clear hi)
           refine hK.out _ _ ⟨(blk_cell BK241.out 0).trans rfl, (blk_cell BK241.out 1).trans rfl, ((HB.out.cell (World.block_lt_of_cell? w _ hw246_0)).trans hw246_0), ((HB.out.cell (World.block_lt_of_cell? w _ hw246_1)).trans hw246_1), ((HB.out.cell (World.block_lt_of_cell? w _ hw246_2)).trans hw246_2), ((HB.out.cell (World.block_lt_of_cell? w _ hw246_3)).trans hw246_3)⟩ (fun hHeld => ?_)
           clear hK K
           refine norm_ (a' := ?_) ?_ ?_
           rotate_left
           ·
            show Act.put _ (some 59) _ = _
            simp only [Act.put, aput]
            rfl
           refine pure_ (i := 11) (N := some 48) (v := ?_) (a' := ?_) (bm 16 4095) rfl rfl (any_of HT_.out (by kernel_rfl)) (fun _ _ _ h => h) (Or.inl ⟨by rfl, ?_⟩) ?_ ?_
           rotate_left
           ·
            intro w'
            go_simp
            with_reducible rfl
           rotate_left
           ·
            simp only [Act.put, aput]
            rfl
           refine pure_ (i := 12) (N := some 60) (v := ?_) (a' := ?_) (bm 16 8191) rfl rfl (any_of HT_.out (by kernel_rfl)) (fun _ _ _ h => h) (Or.inl ⟨by rfl, ?_⟩) ?_ ?_
           rotate_left
           ·
            intro w'
            go_simp
            with_reducible rfl
           rotate_left
           ·
            simp only [Act.put, aput]
            rfl
           refine pure_ (i := 13) (N := some 61) (v := ?_) (a' := ?_) (bm 16 16383) rfl rfl (any_of HT_.out (by kernel_rfl)) (fun _ _ _ h => h) (Or.inl ⟨by rfl, ?_⟩) ?_ ?_
           rotate_left
           ·
            intro w'
            go_simp
            with_reducible rfl
           rotate_left
           ·
            simp only [Act.put, aput]
            rfl
           refine pure_ (i := 14) (N := some 13) (v := ?_) (a' := ?_) (bm 16 32767) rfl rfl (any_of HT_.out (by kernel_rfl)) (fun _ _ _ h => h) (Or.inl ⟨by rfl, ?_⟩) ?_ ?_
           rotate_left
           ·
            intro w'
            go_simp
            with_reducible rfl
           rotate_left
           ·
            simp only [Act.put, aput]
            rfl
           refine pure_ (i := 15) (N := some 14) (v := ?_) (a' := ?_) (bm 16 65535) rfl rfl (any_of HT_.out (by kernel_rfl)) (fun _ _ _ h => h) (Or.inl ⟨by rfl, ?_⟩) ?_ ?_
           rotate_left
           ·
            intro w'
            go_simp
            with_reducible rfl
           rotate_left
           ·
            simp only [Act.put, aput]
            rfl
           refine done_ (done_of HT_.out (by kernel_rfl)) ?_
           try go_wp2
           go_roundg k1
           case measure => have := HK1.out; omega
           case rel => exact ⟨(y243), (x10_1 ++ t247), (false), (wrap64 (x12_1 + 1)), (by first | rfl | (simp; done) | (simp [*]; done)), (by first | rfl | (simp; done) | (simp [*]; done)), (by first | rfl | (simp; done) | (simp [*]; done)), H', ⟨by have := HK1.out; omega⟩, ⟨by (with_reducible repeat (first | apply Kd.R_alloc | apply Kd.R_drewN | apply Kd.R_drew)); exact HO245.out⟩, ⟨by (with_reducible repeat (first | apply bN | apply bD | apply bA)); exact BK241.out⟩, ⟨by repeat (first | (with_reducible first | exact HB.out | apply eA | apply eN | apply eD | refine below_set ?_ GE241.out) | exact HB.out)⟩⟩
         ·
          rw [if_neg c18] at H
          exact absurd H (by simp)
        ·
         rw [if_neg c16] at H
         exact absurd H (by simp)
       ·
        rw [if_neg c15] at H
        exact absurd H (by simp)
      ·
       rw [if_neg c14] at H
       have c14b0 : decide (x12_1 < 10) = false := decide_eq_false c14
       clear c14
       have H' := aS H
       clear H
       go_wp2
       go_meet
       case rel => exact ⟨_, (x9_1), (x10_1), (x11_1), (by first | rfl | (simp; done) | (simp [*]; done)), (by first | rfl | (simp; done) | (simp [*]; done)), H', ⟨by have := HK1.out; first | omega | exact Nat.le_refl _⟩, ⟨by (with_reducible repeat (first | apply Kd.R_alloc | apply Kd.R_drewN | apply Kd.R_drew)); exact HO_9.out⟩, ⟨by (with_reducible repeat (first | apply bN | apply bD | apply bA)); exact BK241.out⟩, ⟨by repeat (first | (with_reducible first | exact HB.out | apply eA | apply eN | apply eD | refine below_set ?_ GE241.out) | exact HB.out)⟩⟩
     ·
      rw [if_neg c13] at H
      have c13b0 : decide (x12_1 < (l1.length : Int)) = false := decide_eq_false c13
      clear c13
      (first | rw [c13b0] | (simp only [i64_w, i32_w]; rw [c13b0]) | skip)
      have H' := aS H
      clear H
      go_wp2
      go_meet
      case rel => exact ⟨_, (x9_1), (x10_1), (x11_1), (by first | rfl | (simp; done) | (simp [*]; done)), (by first | rfl | (simp; done) | (simp [*]; done)), H', ⟨by have := HK1.out; first | omega | exact Nat.le_refl _⟩, ⟨by (with_reducible repeat (first | apply Kd.R_alloc | apply Kd.R_drewN | apply Kd.R_drew)); exact HO_9.out⟩, ⟨by (with_reducible repeat (first | apply bN | apply bD | apply bA)); exact BK241.out⟩, ⟨by repeat (first | (with_reducible first | exact HB.out | apply eA | apply eN | apply eD | refine below_set ?_ GE241.out) | exact HB.out)⟩⟩
  case rest =>
   clear HC8
   try clear c1
   try clear p2
   try clear q2
   try clear hx2
   try clear c5
   try clear p6
   try clear c8
   try clear c9
   try clear c11
   try clear c13
   try clear c13b0
   try clear c14
   try clear c14b0
   try clear c15
   try clear c15b0
   try clear c16
   try clear c18
   try clear c18b0
   try clear c18b1
   try clear c18b2
   try clear c19
   try clear p24
   try clear q24
   try clear hx24
   try clear hcz12_0
   try clear hcz12_1
   try clear hfz12_0
   try clear hfz12_1
   try clear hx242_0
   try clear hx242_1
   try clear hx242_2
   try clear hx242_3
   try clear hx246_0
   try clear hx246_1
   try clear hx246_2
   try clear hx246_3
   try clear p2
   try clear p242
   try clear p246
   try clear q242
   try clear q246
   obtain ⟨kq, x9_7, x10_7, x11_7, rfl, rfl, HA, HJ7, HO_9, BK241, HB⟩ := hcut
   cases kq with
   | zero => exact absurd HA.out (by simp [graverlaw09_RelrecAll.j1])
   | succ kj7 =>
    have H := HA.out
    clear HA
    simp only [graverlaw09_RelrecAll.j1] at H
    replace H := Option.bind_eq_some_iff.mp H
    obtain ⟨⟨t249, t250⟩, A260, H⟩ := H
    replace H : (if (t250 != x11_7) = true then (graverlaw09_RelrecAll.j2 kj7 a2 bl7 x9_7 t249 t250 true t239 t240) else (if t250 = true then (if t249.toList = x10_7.toList then (graverlaw09_RelrecAll.j2 kj7 a2 bl7 x9_7 t249 t250 false t239 t240) else (graverlaw09_RelrecAll.j2 kj7 a2 bl7 x9_7 t249 t250 true t239 t240)) else (graverlaw09_RelrecAll.j2 kj7 a2 bl7 x9_7 t249 t250 (t249.toList != ([] : List UInt8)) t239 t240))) = some r := H
    have A26 := aS A260
    clear A260
    have HC27 := aS H
    clear H
    have hcz28_0 : wc.cell? ⟨gb241, 0, none⟩ = some (.bool t239) := (blk_cell BK241.out 0).trans rfl
    have hcz28_1 : wc.cell? ⟨gb241, 1, none⟩ = some (.bool t240) := (blk_cell BK241.out 1).trans rfl
    have hfz28_0 := blk_frozen BK241.out 0
    have hfz28_1 := blk_frozen BK241.out 1
    obtain ⟨Ao29, co29, eo29⟩ := Kd.R_slice HO_9.out
    subst eo29
    go_upto_region 14 with (first | ((with_reducible refine gate_callee (f := 15) rfl ?_); refine goesL_ (some 73) rfl rfl Try.func15 (by kernel_rfl) rfl #[.agg #[.bool t239, .bool t240], .bool bl7, .slice Ao29 x9_7.length co29] rfl (by (try simp only [List.map_toArray, List.map_cons, List.map_nil]); first | done | rfl | (simp only [List.length_drop, List.length_take]; rfl)) ?_; (with_reducible refine (relrec_PutAll.calls kj7 t239 t240 bl7 _ _ x9_7 t249 t250 _ ?side1 ?side2 A26.out).mono ?_); (case side1 => repeat (first | exact (Kd.R_reads' HO_9.out).2.2 | (with_reducible refine Kd.C_alloc ?_ _) | (with_reducible refine Kd.C_drewN ?_ _) | (with_reducible refine Kd.C_drew ?_))); (case side2 => exact (Kd.R_reads' HO_9.out).2.1); rintro e w30 ⟨rfl, hb⟩; refine ⟨_, rfl, ?_⟩; have n0_ := aS (Kd.R_below (by (with_reducible repeat (first | apply Kd.R_alloc | apply Kd.R_drewN | apply Kd.R_drew)); exact HO_9.out) hb); have n1_ := aS (blk_below (g := gb241) (o := .cells #[.bool t239, .bool t240] 29 (0, 0)) (by (with_reducible repeat (first | apply bN | apply bD | apply bA)); exact BK241.out) hb); have n2_ := aS (below_step (by repeat (first | (with_reducible first | exact HB.out | apply eA | apply eN | apply eD | refine below_set ?_ GE241.out) | exact HB.out)) hb); clear HO_9; clear BK241; clear HB; have HO_9 := n0_; have BK241 := n1_; have HB := n2_; clear n0_ n1_ n2_; (try clear hb); (try clear hb2); (try clear hk); (try clear hi)))
    (try simp only [Act.put, List.setIfInBounds_toArray, List.set_cons_zero, List.set_cons_succ])
    go_cut [94] (fun v94 wc => ∃ (kq : Nat) (x94_26 : Bool), v94 = .bool x94_26 ∧ Aside0 (graverlaw09_RelrecAll.j2 kq a2 bl7 x9_7 t249 t250 x94_26 t239 t240 = some r) ∧ Aside0 (kq ≤ kj7) ∧ Aside0 (Kd.R k33 33 wc w.heap.size (fun _ => True) (.slice Ao29 x9_7.length co29) x9_7) ∧ Aside0 (wc.heap[gb241]? = some (.cells #[.bool t239, .bool t240] 29 (0, 0))) ∧ Aside0 (Below w.heap.size w wc))
    case first =>
     have H := HC27.out
     clear HC27
     by_cases c31 : (t250 != x11_7) = true
     ·
      rw [if_pos c31] at H
      have c31b0 : (t250 != x11_7) = true := c31
      (try (have c31b1 : decide (t250 = x11_7) = false := by simpa using c31))
      (try (have c31b2 : (t250 == x11_7) = false := by simpa using c31))
      (try (have c31b3 : ¬ (t250 = x11_7) := by simpa using c31))
      clear c31
      (first | rw [c31b0] | (simp only [i64_w, i32_w]; rw [c31b0]) | skip)
      have H' := aS H
      clear H
      go_wp2
      go_meet
      case rel => exact ⟨_, (true), (by first | rfl | (simp; done) | (simp [*]; done)), H', ⟨by have := HJ7.out; first | omega | exact Nat.le_refl _⟩, ⟨by (with_reducible repeat (first | apply Kd.R_alloc | apply Kd.R_drewN | apply Kd.R_drew)); exact HO_9.out⟩, ⟨by (with_reducible repeat (first | apply bN | apply bD | apply bA)); exact BK241.out⟩, ⟨by repeat (first | (with_reducible first | exact HB.out | apply eA | apply eN | apply eD | refine below_set ?_ GE241.out) | exact HB.out)⟩⟩
     ·
      rw [if_neg c31] at H
      have c31b0 : (t250 != x11_7) = false := by simpa using c31
      (try (have c31b1 : decide (t250 = x11_7) = true := by simpa using c31))
      (try (have c31b2 : (t250 == x11_7) = true := by simpa using c31))
      clear c31
      (first | rw [c31b0] | (simp only [i64_w, i32_w]; rw [c31b0]) | skip)
      by_cases c32 : t250 = true
      ·
       subst c32
       have H1 : (if t249.toList = x10_7.toList then (graverlaw09_RelrecAll.j2 kj7 a2 bl7 x9_7 t249 true false t239 t240) else (graverlaw09_RelrecAll.j2 kj7 a2 bl7 x9_7 t249 true true t239 t240)) = some r := by rw [if_pos rfl] at H; exact H
       clear H
       have H := H1
       clear H1
       by_cases c33 : t249.toList = x10_7.toList
       ·
        rw [if_pos c33] at H
        have c33b0 : (t249.toList == x10_7.toList) = true := beq_iff_eq.mpr c33
        have c33b1 : (t249.toList != x10_7.toList) = false := bne_eq_false_iff_eq.mpr c33
        clear c33
        have H' := aS H
        clear H
        go_wp2
        go_meet
        case rel => exact ⟨_, (false), (by first | rfl | (simp; done) | (simp [*]; done)), H', ⟨by have := HJ7.out; first | omega | exact Nat.le_refl _⟩, ⟨by (with_reducible repeat (first | apply Kd.R_alloc | apply Kd.R_drewN | apply Kd.R_drew)); exact HO_9.out⟩, ⟨by (with_reducible repeat (first | apply bN | apply bD | apply bA)); exact BK241.out⟩, ⟨by repeat (first | (with_reducible first | exact HB.out | apply eA | apply eN | apply eD | refine below_set ?_ GE241.out) | exact HB.out)⟩⟩
       ·
        rw [if_neg c33] at H
        have c33b0 : (t249.toList == x10_7.toList) = false := beq_eq_false_iff_ne.mpr c33
        have c33b1 : (t249.toList != x10_7.toList) = true := bne_iff_ne.mpr c33
        have H' := aS H
        clear H
        go_wp2
        go_meet
        case rel => exact ⟨_, (true), (by first | rfl | (simp; done) | (simp [*]; done)), H', ⟨by have := HJ7.out; first | omega | exact Nat.le_refl _⟩, ⟨by (with_reducible repeat (first | apply Kd.R_alloc | apply Kd.R_drewN | apply Kd.R_drew)); exact HO_9.out⟩, ⟨by (with_reducible repeat (first | apply bN | apply bD | apply bA)); exact BK241.out⟩, ⟨by repeat (first | (with_reducible first | exact HB.out | apply eA | apply eN | apply eD | refine below_set ?_ GE241.out) | exact HB.out)⟩⟩
      ·
       replace c32 := Bool.eq_false_iff.mpr c32
       subst c32
       have H1 : (graverlaw09_RelrecAll.j2 kj7 a2 bl7 x9_7 t249 false (t249.toList != ([] : List UInt8)) t239 t240) = some r := by rw [if_neg (show ¬ (false = true) by decide)] at H; exact H
       clear H
       have H := H1
       clear H1
       have H' := aS H
       clear H
       go_wp2
       go_meet
       case rel => exact ⟨_, ((t249.toList != ([] : List UInt8))), (by first | rfl | (simp; done) | (simp [*]; done) | (simp [ne_nil_b]; done)), H', ⟨by have := HJ7.out; first | omega | exact Nat.le_refl _⟩, ⟨by (with_reducible repeat (first | apply Kd.R_alloc | apply Kd.R_drewN | apply Kd.R_drew)); exact HO_9.out⟩, ⟨by (with_reducible repeat (first | apply bN | apply bD | apply bA)); exact BK241.out⟩, ⟨by repeat (first | (with_reducible first | exact HB.out | apply eA | apply eN | apply eD | refine below_set ?_ GE241.out) | exact HB.out)⟩⟩
    case rest =>
     clear HC27
     try clear c1
     try clear p2
     try clear q2
     try clear hx2
     try clear c3
     try clear c5
     try clear p6
     try clear c8
     try clear c9
     try clear c11
     try clear c13
     try clear c13b0
     try clear c14
     try clear c14b0
     try clear c15
     try clear c15b0
     try clear c16
     try clear c18
     try clear c18b0
     try clear c18b1
     try clear c18b2
     try clear c19
     try clear p24
     try clear q24
     try clear hx24
     try clear c31
     try clear c31b0
     try clear c31b1
     try clear c31b2
     try clear c32
     try clear c33
     try clear c33b0
     try clear c33b1
     try clear hcz12_0
     try clear hcz12_1
     try clear hcz28_0
     try clear hcz28_1
     try clear hfz12_0
     try clear hfz12_1
     try clear hfz28_0
     try clear hfz28_1
     try clear hx242_0
     try clear hx242_1
     try clear hx242_2
     try clear hx242_3
     try clear hx246_0
     try clear hx246_1
     try clear hx246_2
     try clear hx246_3
     try clear p2
     try clear p24
     try clear p242
     try clear p246
     try clear p6
     try clear q2
     try clear q24
     try clear q242
     try clear q246
     obtain ⟨kq, x94_26, rfl, HA, HJ26, HO_9, BK241, HB⟩ := hcut
     cases kq with
     | zero => exact absurd HA.out (by simp [graverlaw09_RelrecAll.j2])
     | succ kj26 =>
      have H := HA.out
      clear HA
      simp only [graverlaw09_RelrecAll.j2] at H
      by_cases c34 : x94_26 = true
      ·
       subst c34
       have H1 : (some false) = some r := by rw [if_pos rfl] at H; exact H
       clear H
       have H := H1
       clear H1
       exact absurd ((Option.some.inj H).trans HRT.out) (by decide)
      ·
       replace c34 := Bool.eq_false_iff.mpr c34
       subst c34
       have H1 : (if t250 = true then ((relrec_ReadAll.f kj26 t239 t240 bl7 t249).bind fun bt251 => (if bt251.2 = true then (graverlaw09_RelrecAll.j3 kj26 a2 bl7 x9_7 bt251.1 ((bt251.1.length : Int) != (x9_7.length : Int)) t239 t240) else (graverlaw09_RelrecAll.j3 kj26 a2 bl7 x9_7 bt251.1 true t239 t240))) else (graverlaw09_RelrecAll.j5 kj26 a2 bl7 t239 t240)) = some r := by rw [if_neg (show ¬ (false = true) by decide)] at H; exact H
       clear H
       have H := H1
       clear H1
       have HC35 := aS H
       clear H
       go_upto_if 95 with (fail)
       go_cut [] (fun wc => ∃ (kq : Nat), Aside0 (graverlaw09_RelrecAll.j5 kq a2 bl7 t239 t240 = some r) ∧ Aside0 (kq ≤ kj26) ∧ Aside0 (wc.heap[gb241]? = some (.cells #[.bool t239, .bool t240] 29 (0, 0))) ∧ Aside0 (Below w.heap.size w wc))
       case first =>
        have H := HC35.out
        clear HC35
        by_cases c36 : t250 = true
        ·
         subst c36
         have H1 : ((relrec_ReadAll.f kj26 t239 t240 bl7 t249).bind fun bt251 => (if bt251.2 = true then (graverlaw09_RelrecAll.j3 kj26 a2 bl7 x9_7 bt251.1 ((bt251.1.length : Int) != (x9_7.length : Int)) t239 t240) else (graverlaw09_RelrecAll.j3 kj26 a2 bl7 x9_7 bt251.1 true t239 t240))) = some r := by rw [if_pos rfl] at H; exact H
         clear H
         have H := H1
         clear H1
         replace H := Option.bind_eq_some_iff.mp H
         obtain ⟨⟨t251, t254⟩, A370, H⟩ := H
         replace H : (if t254 = true then (graverlaw09_RelrecAll.j3 kj26 a2 bl7 x9_7 t251 ((t251.length : Int) != (x9_7.length : Int)) t239 t240) else (graverlaw09_RelrecAll.j3 kj26 a2 bl7 x9_7 t251 true t239 t240)) = some r := H
         have A37 := aS A370
         clear A370
         have HC38 := aS H
         clear H
         have hcz39_0 : wc.cell? ⟨gb241, 0, none⟩ = some (.bool t239) := (blk_cell BK241.out 0).trans rfl
         have hcz39_1 : wc.cell? ⟨gb241, 1, none⟩ = some (.bool t240) := (blk_cell BK241.out 1).trans rfl
         have hfz39_0 := blk_frozen BK241.out 0
         have hfz39_1 := blk_frozen BK241.out 1
         go_upto_region 18 with (first | ((with_reducible refine gate_callee (f := 16) rfl ?_); refine goesL_ (some 100) rfl rfl Try.func16 (by kernel_rfl) rfl #[.agg #[.bool t239, .bool t240], .bool bl7, .string t249] rfl (by (try simp only [List.map_toArray, List.map_cons, List.map_nil]); first | done | rfl | (simp only [List.length_drop, List.length_take]; rfl)) ?_; (with_reducible refine (relrec_ReadAll.calls kj26 t239 t240 bl7 t249 t251 t254 _ A37.out).mono ?_); rintro e w40 ⟨v252, rfl, ho0, hb⟩; refine ⟨_, rfl, ?_⟩; have n0_ := aS (Kd.R_elder' (by (with_reducible repeat (first | apply Kd.R_alloc | apply Kd.R_drewN | apply Kd.R_drew)); exact HO_9.out) (Kd.R_base ho0) hb); have n1_ := aS (Kd.R_lower (Kd.R_new' ho0 (Kd.R_lt (by (with_reducible repeat (first | apply Kd.R_alloc | apply Kd.R_drewN | apply Kd.R_drew)); exact HO_9.out))) (below_size (by repeat (first | (with_reducible first | exact HB.out | apply eA | apply eN | apply eD | refine below_set ?_ GE241.out) | exact HB.out)))); have n2_ := aS (blk_below (g := gb241) (o := .cells #[.bool t239, .bool t240] 29 (0, 0)) (by (with_reducible repeat (first | apply bN | apply bD | apply bA)); exact BK241.out) hb); have n3_ := aS (below_step (by repeat (first | (with_reducible first | exact HB.out | apply eA | apply eN | apply eD | refine below_set ?_ GE241.out) | exact HB.out)) hb); clear HO_9; clear BK241; clear HB; have HO_9 := n0_; have HO253 := n1_; have BK241 := n2_; have HB := n3_; clear n0_ n1_ n2_ n3_; (try clear hb); (try clear hb2); (try clear hk); (try clear hi); (try clear ho0)))
         (try simp only [Act.put, List.setIfInBounds_toArray, List.set_cons_zero, List.set_cons_succ])
         go_cut [111] (fun v111 wc => ∃ (kq : Nat) (x111_37 : Bool), v111 = .bool x111_37 ∧ Aside0 (graverlaw09_RelrecAll.j3 kq a2 bl7 x9_7 t251 x111_37 t239 t240 = some r) ∧ Aside0 (kq ≤ kj26) ∧ Aside0 (Kd.R k33 33 wc w.heap.size (fun k_ => some k_ ≠ (v252 : Value).ownBlock) (.slice Ao29 x9_7.length co29) x9_7) ∧ Aside0 (Kd.R k33 33 wc w.heap.size (fun k_ => some k_ ≠ ((.slice Ao29 x9_7.length co29) : Value).ownBlock) v252 t251) ∧ Aside0 (wc.heap[gb241]? = some (.cells #[.bool t239, .bool t240] 29 (0, 0))) ∧ Aside0 (Below w.heap.size w wc))
         case first =>
          have H := HC38.out
          clear HC38
          by_cases c41 : t254 = true
          ·
           subst c41
           have H1 : (graverlaw09_RelrecAll.j3 kj26 a2 bl7 x9_7 t251 ((t251.length : Int) != (x9_7.length : Int)) t239 t240) = some r := by rw [if_pos rfl] at H; exact H
           clear H
           have H := H1
           clear H1
           have H' := aS H
           clear H
           obtain ⟨Ao42, co42, eo42⟩ := Kd.R_slice HO253.out
           subst eo42
           go_wp2
           go_meet
           case rel => exact ⟨_, (((t251.length : Int) != (x9_7.length : Int))), (by first | rfl | (simp; done) | (simp [*]; done)), H', ⟨by have := HJ7.out; have := HJ26.out; first | omega | exact Nat.le_refl _⟩, ⟨by (with_reducible repeat (first | apply Kd.R_alloc | apply Kd.R_drewN | apply Kd.R_drew)); exact Kd.R_mono HO_9.out (fun _ hk => hk.2)⟩, ⟨by (with_reducible repeat (first | apply Kd.R_alloc | apply Kd.R_drewN | apply Kd.R_drew)); exact Kd.R_mono HO253.out (fun _ hk => hk.2)⟩, ⟨by (with_reducible repeat (first | apply bN | apply bD | apply bA)); exact BK241.out⟩, ⟨by repeat (first | (with_reducible first | exact HB.out | apply eA | apply eN | apply eD | refine below_set ?_ GE241.out) | exact HB.out)⟩⟩
          ·
           replace c41 := Bool.eq_false_iff.mpr c41
           subst c41
           have H1 : (graverlaw09_RelrecAll.j3 kj26 a2 bl7 x9_7 t251 true t239 t240) = some r := by rw [if_neg (show ¬ (false = true) by decide)] at H; exact H
           clear H
           have H := H1
           clear H1
           have H' := aS H
           clear H
           go_wp2
           go_meet
           case rel => exact ⟨_, (true), (by first | rfl | (simp; done) | (simp [*]; done)), H', ⟨by have := HJ7.out; have := HJ26.out; first | omega | exact Nat.le_refl _⟩, ⟨by (with_reducible repeat (first | apply Kd.R_alloc | apply Kd.R_drewN | apply Kd.R_drew)); exact Kd.R_mono HO_9.out (fun _ hk => hk.2)⟩, ⟨by (with_reducible repeat (first | apply Kd.R_alloc | apply Kd.R_drewN | apply Kd.R_drew)); exact Kd.R_mono HO253.out (fun _ hk => hk.2)⟩, ⟨by (with_reducible repeat (first | apply bN | apply bD | apply bA)); exact BK241.out⟩, ⟨by repeat (first | (with_reducible first | exact HB.out | apply eA | apply eN | apply eD | refine below_set ?_ GE241.out) | exact HB.out)⟩⟩
         case rest =>
          clear HC38
          try clear c1
          try clear p2
          try clear q2
          try clear hx2
          try clear c3
          try clear c4
          try clear c5
          try clear p6
          try clear c8
          try clear c9
          try clear c11
          try clear c13
          try clear c13b0
          try clear c14
          try clear c14b0
          try clear c15
          try clear c15b0
          try clear c16
          try clear c18
          try clear c18b0
          try clear c18b1
          try clear c18b2
          try clear c19
          try clear p24
          try clear q24
          try clear hx24
          try clear c31
          try clear c31b0
          try clear c31b1
          try clear c31b2
          try clear c32
          try clear c33
          try clear c33b0
          try clear c33b1
          try clear c34
          try clear c36
          try clear c41
          try clear hcz12_0
          try clear hcz12_1
          try clear hcz28_0
          try clear hcz28_1
          try clear hcz39_0
          try clear hcz39_1
          try clear hfz12_0
          try clear hfz12_1
          try clear hfz28_0
          try clear hfz28_1
          try clear hfz39_0
          try clear hfz39_1
          try clear hx242_0
          try clear hx242_1
          try clear hx242_2
          try clear hx242_3
          try clear hx246_0
          try clear hx246_1
          try clear hx246_2
          try clear hx246_3
          try clear p2
          try clear p24
          try clear p242
          try clear p246
          try clear p6
          try clear q2
          try clear q24
          try clear q242
          try clear q246
          obtain ⟨kq, x111_37, rfl, HA, HJ37, HO_9, HO_17, BK241, HB⟩ := hcut
          cases kq with
          | zero => exact absurd HA.out (by simp [graverlaw09_RelrecAll.j3])
          | succ kj37 =>
           have H := HA.out
           clear HA
           simp only [graverlaw09_RelrecAll.j3] at H
           by_cases c43 : x111_37 = true
           ·
            subst c43
            have H1 : (some false) = some r := by rw [if_pos rfl] at H; exact H
            clear H
            have H := H1
            clear H1
            exact absurd ((Option.some.inj H).trans HRT.out) (by decide)
           ·
            replace c43 := Bool.eq_false_iff.mpr c43
            subst c43
            have H1 : (graverlaw09_RelrecAll.l1 kj37 a2 bl7 x9_7 t251 0 t239 t240) = some r := by rw [if_neg (show ¬ (false = true) by decide)] at H; exact H
            clear H
            have H := H1
            clear H1
            have H' := aS H
            clear H
            go_wp2
            go_loopg [19] kj37 (fun kq v19 w' => ∃ (x19_4 : Int), v19 = .int .i64 x19_4 ∧ Aside0 (graverlaw09_RelrecAll.l1 kq a2 bl7 x9_7 t251 x19_4 t239 t240 = some r) ∧ Aside0 (kq ≤ kj37) ∧ Aside0 (Kd.R k33 33 w' w.heap.size (fun k_ => some k_ ≠ (v252 : Value).ownBlock) (.slice Ao29 x9_7.length co29) x9_7) ∧ Aside0 (Kd.R k33 33 w' w.heap.size (fun k_ => some k_ ≠ ((.slice Ao29 x9_7.length co29) : Value).ownBlock) v252 t251) ∧ Aside0 (w'.heap[gb241]? = some (.cells #[.bool t239, .bool t240] 29 (0, 0))) ∧ Aside0 (Below w.heap.size w w'))
            case atStart => exact ⟨(0), (by first | rfl | (simp; done) | (simp [*]; done)), H', ⟨Nat.le_refl _⟩, ⟨by (with_reducible repeat (first | apply Kd.R_alloc | apply Kd.R_drewN | apply Kd.R_drew)); exact HO_9.out⟩, ⟨by (with_reducible repeat (first | apply Kd.R_alloc | apply Kd.R_drewN | apply Kd.R_drew)); exact HO_17.out⟩, ⟨by (with_reducible repeat (first | apply bN | apply bD | apply bA)); exact BK241.out⟩, ⟨by repeat (first | (with_reducible first | exact HB.out | apply eA | apply eN | apply eD | refine below_set ?_ GE241.out) | exact HB.out)⟩⟩
            case round =>
             clear H'
             try clear c1
             try clear p2
             try clear q2
             try clear hx2
             try clear c3
             try clear c4
             try clear c5
             try clear p6
             try clear c8
             try clear c9
             try clear c11
             try clear c13
             try clear c13b0
             try clear c14
             try clear c14b0
             try clear c15
             try clear c15b0
             try clear c16
             try clear c18
             try clear c18b0
             try clear c18b1
             try clear c18b2
             try clear c19
             try clear p24
             try clear q24
             try clear hx24
             try clear c31
             try clear c31b0
             try clear c31b1
             try clear c31b2
             try clear c32
             try clear c33
             try clear c33b0
             try clear c33b1
             try clear c34
             try clear c36
             try clear c41
             try clear c43
             try clear hcz12_0
             try clear hcz12_1
             try clear hcz28_0
             try clear hcz28_1
             try clear hcz39_0
             try clear hcz39_1
             try clear hfz12_0
             try clear hfz12_1
             try clear hfz28_0
             try clear hfz28_1
             try clear hfz39_0
             try clear hfz39_1
             try clear hx242_0
             try clear hx242_1
             try clear hx242_2
             try clear hx242_3
             try clear hx246_0
             try clear hx246_1
             try clear hx246_2
             try clear hx246_3
             try clear p2
             try clear p24
             try clear p242
             try clear p246
             try clear p6
             try clear q2
             try clear q24
             try clear q242
             try clear q246
             obtain ⟨x19_4, rfl, HA, HK4, HO_9, HO_17, BK241, HB⟩ := hrel
             cases gk with
             | zero => exact absurd HA.out (by simp [graverlaw09_RelrecAll.l1])
             | succ k4 =>
              have H := HA.out
              clear HA
              simp only [graverlaw09_RelrecAll.l1] at H
              by_cases c44 : x19_4 < (x9_7.length : Int)
              ·
               rw [if_pos c44] at H
               have c44b0 : decide (x19_4 < (x9_7.length : Int)) = true := decide_eq_true c44
               clear c44
               by_cases c45 : 0 ≤ x19_4
               ·
                rw [if_pos c45] at H
                have c45b0 : decide (0 ≤ x19_4) = true := decide_eq_true c45
                clear c45
                by_cases c46 : x19_4 < (t251.length : Int)
                ·
                 rw [if_pos c46] at H
                 have c46b0 : decide (x19_4 < (t251.length : Int)) = true := decide_eq_true c46
                 clear c46
                 by_cases c47 : (!(((rd_T33 t251 x19_4).f0) == ((rd_T33 x9_7 x19_4).f0)) || (!(((rd_T33 t251 x19_4).f1) == ((rd_T33 x9_7 x19_4).f1)) || (!(((rd_T33 t251 x19_4).f2) == ((rd_T33 x9_7 x19_4).f2)) || (!(((rd_T33 t251 x19_4).f3) == ((rd_T33 x9_7 x19_4).f3)))))) = true
                 ·
                  rw [if_pos c47] at H
                  have c47b0 : (!(((rd_T33 t251 x19_4).f0) == ((rd_T33 x9_7 x19_4).f0)) || (!(((rd_T33 t251 x19_4).f1) == ((rd_T33 x9_7 x19_4).f1)) || (!(((rd_T33 t251 x19_4).f2) == ((rd_T33 x9_7 x19_4).f2)) || (!(((rd_T33 t251 x19_4).f3) == ((rd_T33 x9_7 x19_4).f3)))))) = true := c47
                  clear c47
                  exact absurd ((Option.some.inj H).trans HRT.out) (by decide)
                 ·
                  rw [if_neg c47] at H
                  have c47b0 : (!(((rd_T33 t251 x19_4).f0) == ((rd_T33 x9_7 x19_4).f0)) || (!(((rd_T33 t251 x19_4).f1) == ((rd_T33 x9_7 x19_4).f1)) || (!(((rd_T33 t251 x19_4).f2) == ((rd_T33 x9_7 x19_4).f2)) || (!(((rd_T33 t251 x19_4).f3) == ((rd_T33 x9_7 x19_4).f3)))))) = false := by simpa using c47
                  clear c47
                  have H' := aS H
                  clear H
                  try go_wp2
                  have n0_ := aS (Kd.R_drew HO_9.out)
                  have n1_ := aS (Kd.R_drew HO_17.out)
                  have n2_ := aS (blk_drew BK241.out)
                  have n3_ := aS (below_drew1 HB.out)
                  clear HO_9
                  clear HO_17
                  clear BK241
                  clear HB
                  have HO_9 := n0_
                  have HO_17 := n1_
                  have BK241 := n2_
                  have HB := n3_
                  clear n0_ n1_ n2_ n3_
                  obtain ⟨Ao49, co49, eo49⟩ := Kd.R_slice HO_17.out
                  (first | subst eo49 | (injection eo49 with f1_ f2_ f3_; have f4_ := f1_.symm; have f5_ := f3_.symm; clear f1_ f2_ f3_; subst f4_; subst f5_))
                  have p255 : 0 ≤ (x19_4 : Int) := of_decide_eq_true (by first | (with_reducible assumption) | assumption)
                  have q255 : x19_4 < (t251.length : Int) := of_decide_eq_true (by first | (with_reducible assumption) | assumption)
                  obtain ⟨ad255, e255, hx255_0, hx255_1, hx255_2, hx255_3⟩ := at_T33 (Kd.R_reads' HO_17.out).2.2 x19_4 p255 q255
                  cases e255
                  replace p255 := eq_true p255
                  replace q255 := eq_true q255
                  have p256 : 0 ≤ (x19_4 : Int) := of_decide_eq_true (by first | (with_reducible assumption) | assumption)
                  have q256 : x19_4 < (x9_7.length : Int) := of_decide_eq_true (by first | (with_reducible assumption) | assumption)
                  obtain ⟨ad256, e256, hx256_0, hx256_1, hx256_2, hx256_3⟩ := at_T33 (Kd.R_reads' HO_9.out).2.2 x19_4 p256 q256
                  cases e256
                  replace p256 := eq_true p256
                  replace q256 := eq_true q256
                  refine start_ (n := 9) (S := fun w' => w'.cell? (ad255.add ((x19_4).toNat * 4)) = some (.int .u64 ((rd_T33 t251 x19_4).f0)) ∧ w'.cell? ⟨(ad255.add ((x19_4).toNat * 4)).block, (ad255.add ((x19_4).toNat * 4)).off + 1, none⟩ = some (.int .u64 ((rd_T33 t251 x19_4).f1)) ∧ w'.cell? ⟨(ad255.add ((x19_4).toNat * 4)).block, (ad255.add ((x19_4).toNat * 4)).off + 2, none⟩ = some (.int .u64 ((rd_T33 t251 x19_4).f2)) ∧ w'.cell? ⟨(ad255.add ((x19_4).toNat * 4)).block, (ad255.add ((x19_4).toNat * 4)).off + 3, none⟩ = some (.int .u64 ((rd_T33 t251 x19_4).f3)) ∧ w'.cell? (ad256.add ((x19_4).toNat * 4)) = some (.int .u64 ((rd_T33 x9_7 x19_4).f0)) ∧ w'.cell? ⟨(ad256.add ((x19_4).toNat * 4)).block, (ad256.add ((x19_4).toNat * 4)).off + 1, none⟩ = some (.int .u64 ((rd_T33 x9_7 x19_4).f1)) ∧ w'.cell? ⟨(ad256.add ((x19_4).toNat * 4)).block, (ad256.add ((x19_4).toNat * 4)).off + 2, none⟩ = some (.int .u64 ((rd_T33 x9_7 x19_4).f2)) ∧ w'.cell? ⟨(ad256.add ((x19_4).toNat * 4)).block, (ad256.add ((x19_4).toNat * 4)).off + 3, none⟩ = some (.int .u64 ((rd_T33 x9_7 x19_4).f3))) (ds := []) #[false, false, false, false, false, false, false, false, false] (by kernel_rfl) rfl rfl ⟨hx255_0, hx255_1, hx255_2, hx255_3, hx256_0, hx256_1, hx256_2, hx256_3⟩ (fun hHeld => ?_); refine with_tabW graverlaw09_RelrecAll.tab23 graverlaw09_RelrecAll.bits23 (fun HT_ HW_ => ?_)
                  generalize wr.drew = w48 at HO_9 HO_17 BK241 HB hx255_0 hx255_1 hx255_2 hx255_3 hx256_0 hx256_1 hx256_2 hx256_3 hHeld ⊢
                  refine pure_ (i := 0) (N := some 118) (v := ?_) (a' := ?_) #[true, false, false, false, false, false, false, false, false] rfl rfl (any_of HT_.out (by kernel_rfl)) (fun _ _ _ h => h) (Or.inl ⟨by rfl, ?_⟩) ?_ ?_
                  rotate_left
                  ·
                   intro w'
                   go_simp
                   with_reducible rfl
                  rotate_left
                  ·
                   simp only [Act.put, aput]
                   rfl
                  refine pure_ (i := 1) (N := some 119) (v := ?_) (a' := ?_) #[true, true, false, false, false, false, false, false, false] rfl rfl (any_of HT_.out (by kernel_rfl)) (fun _ _ _ h => h) (Or.inl ⟨by rfl, ?_⟩) ?_ ?_
                  rotate_left
                  ·
                   intro w'
                   go_simp
                   with_reducible rfl
                  rotate_left
                  ·
                   simp only [Act.put, aput]
                   rfl
                  refine pure_ (i := 2) (N := some 120) (v := ?_) (a' := ?_) #[true, true, true, false, false, false, false, false, false] rfl rfl (any_of HT_.out (by kernel_rfl)) (fun _ _ _ h => h) (Or.inl ⟨by rfl, ?_⟩) ?_ ?_
                  rotate_left
                  ·
                   intro w'
                   go_simp
                   with_reducible rfl
                  rotate_left
                  ·
                   simp only [Act.put, aput]
                   rfl
                  refine pure_ (i := 4) (N := some 122) (v := ?_) (a' := ?_) #[true, true, true, false, true, false, false, false, false] rfl rfl (any_of HT_.out (by kernel_rfl)) (fun _ _ _ h => h) (Or.inl ⟨by rfl, ?_⟩) ?_ ?_
                  rotate_left
                  ·
                   intro w'
                   go_simp
                   with_reducible rfl
                  rotate_left
                  ·
                   simp only [Act.put, aput]
                   rfl
                  refine pure_ (i := 5) (N := some 123) (v := ?_) (a' := ?_) #[true, true, true, false, true, true, false, false, false] rfl rfl (any_of HT_.out (by kernel_rfl)) (fun _ _ _ h => h) (Or.inl ⟨by rfl, ?_⟩) ?_ ?_
                  rotate_left
                  ·
                   intro w'
                   go_simp
                   with_reducible rfl
                  rotate_left
                  ·
                   simp only [Act.put, aput]
                   rfl
                  refine pure_ (i := 6) (N := some 124) (v := ?_) (a' := ?_) #[true, true, true, false, true, true, true, false, false] rfl rfl (any_of HT_.out (by kernel_rfl)) (fun _ _ _ h => h) (Or.inl ⟨by rfl, ?_⟩) ?_ ?_
                  rotate_left
                  ·
                   intro w'
                   go_simp
                   with_reducible rfl
                  rotate_left
                  ·
                   simp only [Act.put, aput]
                   rfl
                  refine take_ (i := 3) (N := some 121) (v := ?_) (a' := ?_) #[true, true, true, true, true, true, true, false, false] rfl rfl (take_ofW HT_.out HW_.out (by kernel_rfl)) (fun _ _ _ h => h) (Or.inl ⟨by rfl, ?_⟩) hHeld ?_ ?_
                  rotate_left
                  ·
                   intro w' s0
                   go_simp
                   with_reducible rfl
                  rotate_left
                  ·
                   simp only [Act.put, aput]
                   rfl
                  refine take_ (i := 7) (N := some 125) (v := ?_) (a' := ?_) #[true, true, true, true, true, true, true, true, false] rfl rfl (take_ofW HT_.out HW_.out (by kernel_rfl)) (fun _ _ _ h => h) (Or.inl ⟨by rfl, ?_⟩) hHeld ?_ ?_
                  rotate_left
                  ·
                   intro w' s0
                   go_simp
                   with_reducible rfl
                  rotate_left
                  ·
                   simp only [Act.put, aput]
                   rfl
                  refine pure_ (i := 8) (N := some 126) (v := ?_) (a' := ?_) #[true, true, true, true, true, true, true, true, true] rfl rfl (any_of HT_.out (by kernel_rfl)) (fun _ _ _ h => h) (Or.inl ⟨by rfl, ?_⟩) ?_ ?_
                  rotate_left
                  ·
                   intro w'
                   go_simp
                   with_reducible rfl
                  rotate_left
                  ·
                   simp only [Act.put, aput]
                   rfl
                  refine done_ (done_of HT_.out (by kernel_rfl)) ?_
                  try go_wp2
                  go_roundg k4
                  case measure => have := HJ7.out; have := HJ26.out; have := HJ37.out; have := HK4.out; omega
                  case rel => exact ⟨(wrap64 (x19_4 + 1)), (by first | rfl | (simp; done) | (simp [*]; done)), H', ⟨by have := HJ7.out; have := HJ26.out; have := HJ37.out; have := HK4.out; omega⟩, ⟨by (with_reducible repeat (first | apply Kd.R_alloc | apply Kd.R_drewN | apply Kd.R_drew)); exact HO_9.out⟩, ⟨by (with_reducible repeat (first | apply Kd.R_alloc | apply Kd.R_drewN | apply Kd.R_drew)); exact HO_17.out⟩, ⟨by (with_reducible repeat (first | apply bN | apply bD | apply bA)); exact BK241.out⟩, ⟨by repeat (first | (with_reducible first | exact HB.out | apply eA | apply eN | apply eD | refine below_set ?_ GE241.out) | exact HB.out)⟩⟩
                ·
                 rw [if_neg c46] at H
                 exact absurd H (by simp)
               ·
                rw [if_neg c45] at H
                exact absurd H (by simp)
              ·
               rw [if_neg c44] at H
               have c44b0 : decide (x19_4 < (x9_7.length : Int)) = false := decide_eq_false c44
               clear c44
               have H' := aS H
               clear H
               go_wp2
               go_meet
               case rel => exact ⟨_, H', ⟨by have := HJ7.out; have := HJ26.out; have := HJ37.out; have := HK4.out; first | omega | exact Nat.le_refl _⟩, ⟨by (with_reducible repeat (first | apply bN | apply bD | apply bA)); exact BK241.out⟩, ⟨by repeat (first | (with_reducible first | exact HB.out | apply eA | apply eN | apply eD | refine below_set ?_ GE241.out) | exact HB.out)⟩⟩
        ·
         replace c36 := Bool.eq_false_iff.mpr c36
         subst c36
         have H1 : (graverlaw09_RelrecAll.j5 kj26 a2 bl7 t239 t240) = some r := by rw [if_neg (show ¬ (false = true) by decide)] at H; exact H
         clear H
         have H := H1
         clear H1
         have H' := aS H
         clear H
         go_wp2
         go_meet
         case rel => exact ⟨_, H', ⟨by have := HJ7.out; have := HJ26.out; first | omega | exact Nat.le_refl _⟩, ⟨by (with_reducible repeat (first | apply bN | apply bD | apply bA)); exact BK241.out⟩, ⟨by repeat (first | (with_reducible first | exact HB.out | apply eA | apply eN | apply eD | refine below_set ?_ GE241.out) | exact HB.out)⟩⟩
       case rest =>
        clear HC35
        try clear c1
        try clear p2
        try clear q2
        try clear hx2
        try clear c3
        try clear c4
        try clear c5
        try clear p6
        try clear c8
        try clear c9
        try clear c11
        try clear c13
        try clear c13b0
        try clear c14
        try clear c14b0
        try clear c15
        try clear c15b0
        try clear c16
        try clear c18
        try clear c18b0
        try clear c18b1
        try clear c18b2
        try clear c19
        try clear p24
        try clear q24
        try clear hx24
        try clear p25
        try clear q25
        try clear hx25
        try clear c31
        try clear c31b0
        try clear c31b1
        try clear c31b2
        try clear c32
        try clear c33
        try clear c33b0
        try clear c33b1
        try clear c34
        try clear c36
        try clear c41
        try clear c43
        try clear c44
        try clear c44b0
        try clear c45
        try clear c45b0
        try clear c46
        try clear c46b0
        try clear c47
        try clear c47b0
        try clear hcz12_0
        try clear hcz12_1
        try clear hcz28_0
        try clear hcz28_1
        try clear hcz39_0
        try clear hcz39_1
        try clear hfz12_0
        try clear hfz12_1
        try clear hfz28_0
        try clear hfz28_1
        try clear hfz39_0
        try clear hfz39_1
        try clear hx242_0
        try clear hx242_1
        try clear hx242_2
        try clear hx242_3
        try clear hx246_0
        try clear hx246_1
        try clear hx246_2
        try clear hx246_3
        try clear hx255_0
        try clear hx255_1
        try clear hx255_2
        try clear hx255_3
        try clear hx256_0
        try clear hx256_1
        try clear hx256_2
        try clear hx256_3
        try clear p2
        try clear p24
        try clear p242
        try clear p246
        try clear p255
        try clear p256
        try clear p6
        try clear q2
        try clear q24
        try clear q242
        try clear q246
        try clear q255
        try clear q256
        obtain ⟨kq, HA, HJ34, BK241, HB⟩ := hcut
        cases kq with
        | zero => exact absurd HA.out (by simp [graverlaw09_RelrecAll.j5])
        | succ kj34 =>
         have H := HA.out
         clear HA
         simp only [graverlaw09_RelrecAll.j5] at H
         obtain ⟨ji50, hji50⟩ : ∃ j_ : Int, (mn (a2.size : Int) 100) = j_ := ⟨_, rfl⟩
         replace H : (if 0 ≤ (ji50) then (if (ji50) ≤ (a2.size : Int) then ((relrec_ReadAll.f kj34 t239 t240 bl7 (a2.extract 0 ((ji50) : Int).toNat)).bind fun bt257 => ((relrec_Size.f t239 t240 bl7).bind fun t261 => (if t261 = 0 then (none) else (if (bt257.2 != ((((a2.extract 0 ((ji50) : Int).toNat).size : Int) % t261) == 0)) = true then (some false) else ((relrec_PutAll.f kj34 t239 t240 bl7 bt257.1).bind fun bt262 => (if bt257.2 = true then (if bt262.2 = true then (some (bt262.1.toList == (a2.extract 0 ((ji50) : Int).toNat).toList)) else (some false)) else (if (bt257.1.length : Int) = 0 then (some true) else (some false)))))))) else (none)) else (none)) = some r := by first | (rw [hji50] at H; exact H) | (simp only [hji50] at H ⊢; exact H)
         have hji50_ : (if 100 < (a2.size : Int) then 100 else (a2.size : Int)) = ji50 := hji50
         by_cases c51 : 0 ≤ (ji50)
         ·
          rw [if_pos c51] at H
          have c51b0 := eq_true c51
          have c51b1 : decide (0 ≤ (ji50)) = true := decide_eq_true c51
          clear c51
          by_cases c52 : (ji50) ≤ (a2.size : Int)
          ·
           rw [if_pos c52] at H
           have c52b0 := eq_true c52
           have c52b1 : decide ((ji50) ≤ (a2.size : Int)) = true := decide_eq_true c52
           clear c52
           obtain ⟨sc53, hsc53⟩ : ∃ s_ : ByteArray, (a2.extract 0 ((ji50) : Int).toNat) = s_ := ⟨_, rfl⟩
           replace H : ((relrec_ReadAll.f kj34 t239 t240 bl7 sc53).bind fun bt257 => ((relrec_Size.f t239 t240 bl7).bind fun t261 => (if t261 = 0 then (none) else (if (bt257.2 != (((sc53.size : Int) % t261) == 0)) = true then (some false) else ((relrec_PutAll.f kj34 t239 t240 bl7 bt257.1).bind fun bt262 => (if bt257.2 = true then (if bt262.2 = true then (some (bt262.1.toList == sc53.toList)) else (some false)) else (if (bt257.1.length : Int) = 0 then (some true) else (some false)))))))) = some r := by first | (rw [hsc53] at H; exact H) | (simp only [hsc53] at H ⊢; exact H) | exact H
           (try (have hsc53n := hsc53; simp only [Int.toNat_natCast] at hsc53n))
           replace H := Option.bind_eq_some_iff.mp H
           obtain ⟨⟨t257, t260⟩, A540, H⟩ := H
           replace H : ((relrec_Size.f t239 t240 bl7).bind fun t261 => (if t261 = 0 then (none) else (if (t260 != (((sc53.size : Int) % t261) == 0)) = true then (some false) else ((relrec_PutAll.f kj34 t239 t240 bl7 t257).bind fun bt262 => (if t260 = true then (if bt262.2 = true then (some (bt262.1.toList == sc53.toList)) else (some false)) else (if (t257.length : Int) = 0 then (some true) else (some false))))))) = some r := H
           have A54 := aS A540
           clear A540
           replace H := Option.bind_eq_some_iff.mp H
           obtain ⟨t261, A550, H⟩ := H
           replace H : (if t261 = 0 then (none) else (if (t260 != (((sc53.size : Int) % t261) == 0)) = true then (some false) else ((relrec_PutAll.f kj34 t239 t240 bl7 t257).bind fun bt262 => (if t260 = true then (if bt262.2 = true then (some (bt262.1.toList == sc53.toList)) else (some false)) else (if (t257.length : Int) = 0 then (some true) else (some false)))))) = some r := H
           have A55 := aS A550
           clear A550
           by_cases c56 : t261 = 0
           ·
            rw [if_pos c56] at H
            exact absurd H (by simp)
           ·
            rw [if_neg c56] at H
            have c56b0 : (t261 == 0) = false := beq_eq_false_iff_ne.mpr c56
            have c56b1 : (t261 != 0) = true := bne_iff_ne.mpr c56
            by_cases c57 : (t260 != (((sc53.size : Int) % t261) == 0)) = true
            ·
             rw [if_pos c57] at H
             have c57b0 : (t260 != (((sc53.size : Int) % t261) == 0)) = true := c57
             (try (have c57b1 : decide (t260 = (((sc53.size : Int) % t261) == 0)) = false := by simpa using c57))
             (try (have c57b2 : (t260 == (((sc53.size : Int) % t261) == 0)) = false := by simpa using c57))
             (try (have c57b3 : ¬ (t260 = (((sc53.size : Int) % t261) == 0)) := by simpa using c57))
             clear c57
             exact absurd ((Option.some.inj H).trans HRT.out) (by decide)
            ·
             rw [if_neg c57] at H
             have c57b0 : (t260 != (((sc53.size : Int) % t261) == 0)) = false := by simpa using c57
             (try (have c57b1 : decide (t260 = (((sc53.size : Int) % t261) == 0)) = true := by simpa using c57))
             (try (have c57b2 : (t260 == (((sc53.size : Int) % t261) == 0)) = true := by simpa using c57))
             clear c57
             replace H := Option.bind_eq_some_iff.mp H
             obtain ⟨⟨t262, t263⟩, A580, H⟩ := H
             replace H : (if t260 = true then (if t263 = true then (some (t262.toList == sc53.toList)) else (some false)) else (if (t257.length : Int) = 0 then (some true) else (some false))) = some r := H
             have A58 := aS A580
             clear A580
             by_cases c59 : t260 = true
             ·
              subst c59
              have H1 : (if t263 = true then (some (t262.toList == sc53.toList)) else (some false)) = some r := by rw [if_pos rfl] at H; exact H
              clear H
              have H := H1
              clear H1
              by_cases c60 : t263 = true
              ·
               subst c60
               have H1 : (some (t262.toList == sc53.toList)) = some r := by rw [if_pos rfl] at H; exact H
               clear H
               have H := H1
               clear H1
               obtain rfl := Option.some.inj H
               have hcz61_0 : wc.cell? ⟨gb241, 0, none⟩ = some (.bool t239) := (blk_cell BK241.out 0).trans rfl
               have hcz61_1 : wc.cell? ⟨gb241, 1, none⟩ = some (.bool t240) := (blk_cell BK241.out 1).trans rfl
               have hfz61_0 := blk_frozen BK241.out 0
               have hfz61_1 := blk_frozen BK241.out 1
               go_wp2_with (first | ((with_reducible refine gate_callee (f := 16) rfl ?_); refine goesL_ (some 136) rfl rfl Try.func16 (by kernel_rfl) rfl #[.agg #[.bool t239, .bool t240], .bool bl7, .string sc53] rfl (by (try simp only [List.map_toArray, List.map_cons, List.map_nil]); first | done | rfl | (simp only [List.length_drop, List.length_take]; rfl)) ?_; (with_reducible refine (relrec_ReadAll.calls kj34 t239 t240 bl7 sc53 t257 true _ A54.out).mono ?_); rintro e w62 ⟨v258, rfl, ho0, hb⟩; refine ⟨_, rfl, ?_⟩; have n0_ := aS (Kd.R_lower ho0 (below_size (by repeat (first | (with_reducible first | exact HB.out | apply eA | apply eN | apply eD | refine below_set ?_ GE241.out) | exact HB.out)))); have n1_ := aS (blk_below (g := gb241) (o := .cells #[.bool t239, .bool t240] 29 (0, 0)) (by (with_reducible repeat (first | apply bN | apply bD | apply bA)); exact BK241.out) hb); have n2_ := aS (below_step (by repeat (first | (with_reducible first | exact HB.out | apply eA | apply eN | apply eD | refine below_set ?_ GE241.out) | exact HB.out)) hb); clear BK241; clear HB; have HO259 := n0_; have BK241 := n1_; have HB := n2_; clear n0_ n1_ n2_; (try clear hb); (try clear hb2); (try clear hk); (try clear hi); (try clear ho0); have hcz63_0 : w62.cell? ⟨gb241, 0, none⟩ = some (.bool t239) := (blk_cell BK241.out 0).trans rfl; have hcz63_1 : w62.cell? ⟨gb241, 1, none⟩ = some (.bool t240) := (blk_cell BK241.out 1).trans rfl; have hfz63_0 := blk_frozen BK241.out 0; have hfz63_1 := blk_frozen BK241.out 1) | ((with_reducible refine gate_callee (f := 14) rfl ?_); refine goesL_ (some 144) rfl rfl Try.func14 (by kernel_rfl) rfl #[.agg #[.bool t239, .bool t240], .bool bl7] rfl (by (try simp only [List.map_toArray, List.map_cons, List.map_nil]); first | done | rfl | (simp only [List.length_drop, List.length_take]; rfl)) ?_; (with_reducible refine (relrec_Size.calls t239 t240 bl7 t261 _ A55.out).mono ?_); rintro e w64 ⟨rfl, hb⟩; refine ⟨_, rfl, ?_⟩; have n0_ := aS (Kd.R_below (by (with_reducible repeat (first | apply Kd.R_alloc | apply Kd.R_drewN | apply Kd.R_drew)); exact HO259.out) hb); have n1_ := aS (blk_below (g := gb241) (o := .cells #[.bool t239, .bool t240] 29 (0, 0)) (by (with_reducible repeat (first | apply bN | apply bD | apply bA)); exact BK241.out) hb); have n2_ := aS (below_step (by repeat (first | (with_reducible first | exact HB.out | apply eA | apply eN | apply eD | refine below_set ?_ GE241.out) | exact HB.out)) hb); clear HO259; clear BK241; clear HB; have HO259 := n0_; have BK241 := n1_; have HB := n2_; clear n0_ n1_ n2_; (try clear hb); (try clear hb2); (try clear hk); (try clear hi); have hcz65_0 : w64.cell? ⟨gb241, 0, none⟩ = some (.bool t239) := (blk_cell BK241.out 0).trans rfl; have hcz65_1 : w64.cell? ⟨gb241, 1, none⟩ = some (.bool t240) := (blk_cell BK241.out 1).trans rfl; have hfz65_0 := blk_frozen BK241.out 0; have hfz65_1 := blk_frozen BK241.out 1; obtain ⟨Ao66, co66, eo66⟩ := Kd.R_slice HO259.out; subst eo66) | ((with_reducible refine gate_callee (f := 15) rfl ?_); refine goesL_ (some 152) rfl rfl Try.func15 (by kernel_rfl) rfl #[.agg #[.bool t239, .bool t240], .bool bl7, .slice Ao66 t257.length co66] rfl (by (try simp only [List.map_toArray, List.map_cons, List.map_nil]); first | done | rfl | (simp only [List.length_drop, List.length_take]; rfl)) ?_; (with_reducible refine (relrec_PutAll.calls kj34 t239 t240 bl7 _ _ t257 t262 true _ ?side1 ?side2 A58.out).mono ?_); (case side1 => repeat (first | exact (Kd.R_reads' HO259.out).2.2 | (with_reducible refine Kd.C_alloc ?_ _) | (with_reducible refine Kd.C_drewN ?_ _) | (with_reducible refine Kd.C_drew ?_))); (case side2 => exact (Kd.R_reads' HO259.out).2.1); rintro e w67 ⟨rfl, hb⟩; refine ⟨_, rfl, ?_⟩; have n0_ := aS (Kd.R_below (by (with_reducible repeat (first | apply Kd.R_alloc | apply Kd.R_drewN | apply Kd.R_drew)); exact HO259.out) hb); have n1_ := aS (blk_below (g := gb241) (o := .cells #[.bool t239, .bool t240] 29 (0, 0)) (by (with_reducible repeat (first | apply bN | apply bD | apply bA)); exact BK241.out) hb); have n2_ := aS (below_step (by repeat (first | (with_reducible first | exact HB.out | apply eA | apply eN | apply eD | refine below_set ?_ GE241.out) | exact HB.out)) hb); clear HO259; clear BK241; clear HB; have HO259 := n0_; have BK241 := n1_; have HB := n2_; clear n0_ n1_ n2_; (try clear hb); (try clear hb2); (try clear hk); (try clear hi)))
               go_ret
               exact ⟨by first | rfl | (simp [errW_none, errW_some] <;> rfl) | (simp only [← hji50]; first | rfl | (simp [errW_none, errW_some] <;> rfl)) | (simp [*, errW_none, errW_some] <;> rfl), by repeat (first | (with_reducible first | exact HB.out | apply eA | apply eN | apply eD | refine below_set ?_ GE241.out) | exact HB.out)⟩
              ·
               replace c60 := Bool.eq_false_iff.mpr c60
               subst c60
               have H1 : (some false) = some r := by rw [if_neg (show ¬ (false = true) by decide)] at H; exact H
               clear H
               have H := H1
               clear H1
               exact absurd ((Option.some.inj H).trans HRT.out) (by decide)
             ·
              replace c59 := Bool.eq_false_iff.mpr c59
              subst c59
              have H1 : (if (t257.length : Int) = 0 then (some true) else (some false)) = some r := by rw [if_neg (show ¬ (false = true) by decide)] at H; exact H
              clear H
              have H := H1
              clear H1
              by_cases c68 : (t257.length : Int) = 0
              ·
               rw [if_pos c68] at H
               have c68b0 : ((t257.length : Int) == 0) = true := beq_iff_eq.mpr c68
               have c68b1 : ((t257.length : Int) != 0) = false := bne_eq_false_iff_eq.mpr c68
               clear c68
               obtain rfl := Option.some.inj H
               have hcz69_0 : wc.cell? ⟨gb241, 0, none⟩ = some (.bool t239) := (blk_cell BK241.out 0).trans rfl
               have hcz69_1 : wc.cell? ⟨gb241, 1, none⟩ = some (.bool t240) := (blk_cell BK241.out 1).trans rfl
               have hfz69_0 := blk_frozen BK241.out 0
               have hfz69_1 := blk_frozen BK241.out 1
               go_wp2_with (first | ((with_reducible refine gate_callee (f := 16) rfl ?_); refine goesL_ (some 136) rfl rfl Try.func16 (by kernel_rfl) rfl #[.agg #[.bool t239, .bool t240], .bool bl7, .string sc53] rfl (by (try simp only [List.map_toArray, List.map_cons, List.map_nil]); first | done | rfl | (simp only [List.length_drop, List.length_take]; rfl)) ?_; (with_reducible refine (relrec_ReadAll.calls kj34 t239 t240 bl7 sc53 t257 false _ A54.out).mono ?_); rintro e w70 ⟨v258, rfl, ho0, hb⟩; refine ⟨_, rfl, ?_⟩; have n0_ := aS (Kd.R_lower ho0 (below_size (by repeat (first | (with_reducible first | exact HB.out | apply eA | apply eN | apply eD | refine below_set ?_ GE241.out) | exact HB.out)))); have n1_ := aS (blk_below (g := gb241) (o := .cells #[.bool t239, .bool t240] 29 (0, 0)) (by (with_reducible repeat (first | apply bN | apply bD | apply bA)); exact BK241.out) hb); have n2_ := aS (below_step (by repeat (first | (with_reducible first | exact HB.out | apply eA | apply eN | apply eD | refine below_set ?_ GE241.out) | exact HB.out)) hb); clear BK241; clear HB; have HO259 := n0_; have BK241 := n1_; have HB := n2_; clear n0_ n1_ n2_; (try clear hb); (try clear hb2); (try clear hk); (try clear hi); (try clear ho0); have hcz71_0 : w70.cell? ⟨gb241, 0, none⟩ = some (.bool t239) := (blk_cell BK241.out 0).trans rfl; have hcz71_1 : w70.cell? ⟨gb241, 1, none⟩ = some (.bool t240) := (blk_cell BK241.out 1).trans rfl; have hfz71_0 := blk_frozen BK241.out 0; have hfz71_1 := blk_frozen BK241.out 1) | ((with_reducible refine gate_callee (f := 14) rfl ?_); refine goesL_ (some 144) rfl rfl Try.func14 (by kernel_rfl) rfl #[.agg #[.bool t239, .bool t240], .bool bl7] rfl (by (try simp only [List.map_toArray, List.map_cons, List.map_nil]); first | done | rfl | (simp only [List.length_drop, List.length_take]; rfl)) ?_; (with_reducible refine (relrec_Size.calls t239 t240 bl7 t261 _ A55.out).mono ?_); rintro e w72 ⟨rfl, hb⟩; refine ⟨_, rfl, ?_⟩; have n0_ := aS (Kd.R_below (by (with_reducible repeat (first | apply Kd.R_alloc | apply Kd.R_drewN | apply Kd.R_drew)); exact HO259.out) hb); have n1_ := aS (blk_below (g := gb241) (o := .cells #[.bool t239, .bool t240] 29 (0, 0)) (by (with_reducible repeat (first | apply bN | apply bD | apply bA)); exact BK241.out) hb); have n2_ := aS (below_step (by repeat (first | (with_reducible first | exact HB.out | apply eA | apply eN | apply eD | refine below_set ?_ GE241.out) | exact HB.out)) hb); clear HO259; clear BK241; clear HB; have HO259 := n0_; have BK241 := n1_; have HB := n2_; clear n0_ n1_ n2_; (try clear hb); (try clear hb2); (try clear hk); (try clear hi); have hcz73_0 : w72.cell? ⟨gb241, 0, none⟩ = some (.bool t239) := (blk_cell BK241.out 0).trans rfl; have hcz73_1 : w72.cell? ⟨gb241, 1, none⟩ = some (.bool t240) := (blk_cell BK241.out 1).trans rfl; have hfz73_0 := blk_frozen BK241.out 0; have hfz73_1 := blk_frozen BK241.out 1; obtain ⟨Ao74, co74, eo74⟩ := Kd.R_slice HO259.out; subst eo74) | ((with_reducible refine gate_callee (f := 15) rfl ?_); refine goesL_ (some 152) rfl rfl Try.func15 (by kernel_rfl) rfl #[.agg #[.bool t239, .bool t240], .bool bl7, .slice Ao74 t257.length co74] rfl (by (try simp only [List.map_toArray, List.map_cons, List.map_nil]); first | done | rfl | (simp only [List.length_drop, List.length_take]; rfl)) ?_; (with_reducible refine (relrec_PutAll.calls kj34 t239 t240 bl7 _ _ t257 t262 t263 _ ?side1 ?side2 A58.out).mono ?_); (case side1 => repeat (first | exact (Kd.R_reads' HO259.out).2.2 | (with_reducible refine Kd.C_alloc ?_ _) | (with_reducible refine Kd.C_drewN ?_ _) | (with_reducible refine Kd.C_drew ?_))); (case side2 => exact (Kd.R_reads' HO259.out).2.1); rintro e w75 ⟨rfl, hb⟩; refine ⟨_, rfl, ?_⟩; have n0_ := aS (Kd.R_below (by (with_reducible repeat (first | apply Kd.R_alloc | apply Kd.R_drewN | apply Kd.R_drew)); exact HO259.out) hb); have n1_ := aS (blk_below (g := gb241) (o := .cells #[.bool t239, .bool t240] 29 (0, 0)) (by (with_reducible repeat (first | apply bN | apply bD | apply bA)); exact BK241.out) hb); have n2_ := aS (below_step (by repeat (first | (with_reducible first | exact HB.out | apply eA | apply eN | apply eD | refine below_set ?_ GE241.out) | exact HB.out)) hb); clear HO259; clear BK241; clear HB; have HO259 := n0_; have BK241 := n1_; have HB := n2_; clear n0_ n1_ n2_; (try clear hb); (try clear hb2); (try clear hk); (try clear hi)))
               go_ret
               exact ⟨by first | rfl | (simp [errW_none, errW_some] <;> rfl) | (simp only [← hji50]; first | rfl | (simp [errW_none, errW_some] <;> rfl)) | (simp [*, errW_none, errW_some] <;> rfl), by repeat (first | (with_reducible first | exact HB.out | apply eA | apply eN | apply eD | refine below_set ?_ GE241.out) | exact HB.out)⟩
              ·
               rw [if_neg c68] at H
               have c68b0 : ((t257.length : Int) == 0) = false := beq_eq_false_iff_ne.mpr c68
               have c68b1 : ((t257.length : Int) != 0) = true := bne_iff_ne.mpr c68
               have c68b2 : ¬ (t257 = []) := fun h_ => c68 (by rw [h_]; rfl)
               exact absurd ((Option.some.inj H).trans HRT.out) (by decide)
          ·
           rw [if_neg c52] at H
           exact absurd H (by simp)
         ·
          rw [if_neg c51] at H
          exact absurd H (by simp)
 ·
  replace c5 := Bool.eq_false_iff.mpr c5
  subst c5
  have H1 : (some false) = some r := by rw [if_neg (show ¬ (false = true) by decide)] at H; exact H
  clear H
  have H := H1
  clear H1
  exact absurd ((Option.some.inj H).trans HRT.out) (by decide)

/-- THE ONE PURE STATEMENT of graverlaw09_RelrecAll: yours. -/
def graverlaw09_RelrecAll.Pure : Prop := ∀ (a0 : Int) (l1 : List (S24)) (a2 : ByteArray), (Lit.int .i64 a0).wf = true → l1.length * 32 ≤ 140737488351232 → (∀ x ∈ l1, (Lit.int .u64 x.f0).wf = true ∧ (Lit.int .u64 x.f1).wf = true ∧ (Lit.int .u64 x.f2).wf = true ∧ (Lit.int .u64 x.f3).wf = true) → a2.size ≤ 140737488351232 → ∃ k, graverlaw09_RelrecAll.f k a0 l1 a2 = some true
theorem graverlaw09_RelrecAll.walk (P : graverlaw09_RelrecAll.Pure) (a0 : Int) (a1 : Option Addr) (cap1 : Nat) (l1 : List (S24)) (a2 : ByteArray) (w : World) (w0 : (Lit.int .i64 a0).wf = true) (hr1 : Kd.C k24 w a1 l1.length l1) (hc1 : l1.length ≤ cap1) (hw1 : ∀ x ∈ l1, (Lit.int .u64 x.f0).wf = true ∧ (Lit.int .u64 x.f1).wf = true ∧ (Lit.int .u64 x.f2).wf = true ∧ (Lit.int .u64 x.f3).wf = true) (y1 : l1.length * 32 ≤ 140737488351232) (w2 : a2.size ≤ 140737488351232) :
  Calls Try.prog 5 #[.int .i64 a0, .slice a1 l1.length cap1, .string a2] w fun e w' => e = .returned (.bool true) ∧ Below w.heap.size w w' := by
 obtain ⟨k, h⟩ := P a0 l1 a2 w0 y1 hw1 w2
 refine (graverlaw09_RelrecAll.calls k a0 _ _ l1 a2 true w rfl hr1 hc1 h).mono ?_
 rintro e w' ⟨rfl, hd⟩
 exact ⟨rfl, hd⟩

end Go.Proofs.Ytjmjebbjfjgbeaa.Q
