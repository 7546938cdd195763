/- What Go functions of the program compute, each as a Lean function with the proof that the call returns just that. No condition but those in the statements. -/
import Derived.Test.YthbkjppaimjpmaaQ0
import Derived.Test.YthbkjppaimjpmaaQ4
import Derived.Test.YthbkjppaimjpmaaQ5
import Derived.Test.YthbkjppaimjpmaaQ6
import Derived.Test.YthbkjppaimjpmaaQ8
import Derived.Test.YthbkjppaimjpmaaQ9
namespace Go.Proofs.Ythbkjppaimjpmaa.Q
open Go.RowKit Go.Proofs.YthbkjppaimjpmaaW.PrintWords Go.Proofs.YthbkjppaimjpmaaW.PrintLast Go.Proofs.YthbkjppaimjpmaaW.PrintMore
attribute [local go_sem] max2_int min2_int max_two min_two max_three min_three max_four min_four   -- for this text's walks alone
set_option linter.unusedVariables false
set_option linter.unusedSimpArgs false

/-! ### graverlaw01_OrderSigned: function 4 -/
mutual
def graverlaw01_OrderSigned.j0 : Nat → Bool → ByteArray → Int → Int → Bool → Option (Bool)
  | 0, _, _, _, _, _ => none
  | k + 1, x0, x1, x2, x8, x32 => if x32 = true then (some (x8 == 0)) else ((graverref01_Get.f k x0 x1).bind fun t131 => (if 0 ≤ (wrap64 ((x1.size : Int) - 1)) then (if (wrap64 ((x1.size : Int) - 1)) < (x1.size : Int) then (if x0 = true then (if 0 < (x1.size : Int) then (graverlaw01_OrderSigned.j1 k x0 x1 x2 x8 t131 (bt x1 0)) else (none)) else (graverlaw01_OrderSigned.j1 k x0 x1 x2 x8 t131 (bt x1 (wrap64 ((x1.size : Int) - 1))))) else (none)) else (none)))
def graverlaw01_OrderSigned.j1 : Nat → Bool → ByteArray → Int → Int → Int → Int → Option (Bool)
  | 0, _, _, _, _, _, _ => none
  | k + 1, x0, x1, x2, x8, x9, x10 => if ((decide (x8 < 0)) != (decide (x10 ≥ 128))) = true then (graverlaw01_OrderSigned.j2 k x2 true) else ((graverref01_Put.f k x0 (IntKind.u64.wrap (x8)) (x1.size : Int)).bind fun t132 => (if t132.toList = x1.toList then (if (x1.size : Int) < 8 then (if x8 ≥ 0 then (graverlaw01_OrderSigned.j2 k x2 ((IntKind.u64.wrap (x8)) != x9)) else (graverlaw01_OrderSigned.j2 k x2 false)) else (graverlaw01_OrderSigned.j2 k x2 false)) else (graverlaw01_OrderSigned.j2 k x2 true)))
def graverlaw01_OrderSigned.j2 : Nat → Int → Bool → Option (Bool)
  | 0, _, _ => none
  | k + 1, x2, x75 => if x75 = true then (some false) else (graverlaw01_OrderSigned.l0 k x2 0)
def graverlaw01_OrderSigned.l0 : Nat → Int → Int → Option (Bool)
  | 0, _, _ => none
  | k + 1, x2, x11 => if x11 ≤ 9 then ((order_Swap.f k x2 x11).bind fun t133 => (if x11 < 1 then (graverlaw01_OrderSigned.j4 k x2 x11 t133 true) else (graverlaw01_OrderSigned.j4 k x2 x11 t133 (decide (x11 > 8))))) else (some true)
def graverlaw01_OrderSigned.j4 : Nat → Int → Int → Int → Bool → Option (Bool)
  | 0, _, _, _, _ => none
  | k + 1, x2, x11, x12, x88 => if x88 = true then (if x12 = 0 then (graverlaw01_OrderSigned.l0 k x2 (wrap64 (x11 + 1))) else (some false)) else ((graverref01_Put.f k true x12 x11).bind fun t134 => ((graverref01_Put.f k false x2 x11).bind fun t135 => (if t134.toList = t135.toList then ((order_Swap.f k x12 x11).bind fun t136 => ((graverref01_Put.f k false x2 x11).bind fun t137 => ((graverref01_Get.f k false t137).bind fun t138 => (if t136 = t138 then (graverlaw01_OrderSigned.l0 k x2 (wrap64 (x11 + 1))) else (some false))))) else (some false))))
end
def graverlaw01_OrderSigned.f (k : Nat) (a0 : Bool) (a1 : ByteArray) (a2 : Int) : Option (Bool) := (graverlaw01_speaks.f k).bind fun t128 => (if t128 = true then (if 0 ≤ (mn (a1.size : Int) 10) then (if (mn (a1.size : Int) 10) ≤ (a1.size : Int) then ((order_Order_Signed.f k a0 (a1.extract 0 ((mn (a1.size : Int) 10) : Int).toNat)).bind fun t130 => (if ((a1.extract 0 ((mn (a1.size : Int) 10) : Int).toNat).size : Int) = 0 then (graverlaw01_OrderSigned.j0 k a0 (a1.extract 0 ((mn (a1.size : Int) 10) : Int).toNat) a2 t130 true) else (graverlaw01_OrderSigned.j0 k a0 (a1.extract 0 ((mn (a1.size : Int) 10) : Int).toNat) a2 t130 (decide (((a1.extract 0 ((mn (a1.size : Int) 10) : Int).toNat).size : Int) > 8))))) else (none)) else (none)) else (some false))
theorem graverlaw01_OrderSigned.mono_l : ∀ k, (∀ y0 y1 y2 y3 y4, LeO (graverlaw01_OrderSigned.j0 k y0 y1 y2 y3 y4) (graverlaw01_OrderSigned.j0 (k + 1) y0 y1 y2 y3 y4)) ∧ (∀ y0 y1 y2 y3 y4 y5, LeO (graverlaw01_OrderSigned.j1 k y0 y1 y2 y3 y4 y5) (graverlaw01_OrderSigned.j1 (k + 1) y0 y1 y2 y3 y4 y5)) ∧ (∀ y0 y1, LeO (graverlaw01_OrderSigned.j2 k y0 y1) (graverlaw01_OrderSigned.j2 (k + 1) y0 y1)) ∧ (∀ y0 y1, LeO (graverlaw01_OrderSigned.l0 k y0 y1) (graverlaw01_OrderSigned.l0 (k + 1) y0 y1)) ∧ (∀ y0 y1 y2 y3, LeO (graverlaw01_OrderSigned.j4 k y0 y1 y2 y3) (graverlaw01_OrderSigned.j4 (k + 1) y0 y1 y2 y3))
  | 0 => ⟨fun _ _ _ _ _ r h => by simp [graverlaw01_OrderSigned.j0] at h, fun _ _ _ _ _ _ r h => by simp [graverlaw01_OrderSigned.j1] at h, fun _ _ r h => by simp [graverlaw01_OrderSigned.j2] at h, fun _ _ r h => by simp [graverlaw01_OrderSigned.l0] at h, fun _ _ _ _ r h => by simp [graverlaw01_OrderSigned.j4] at h⟩
  | k + 1 => by
    obtain ⟨ih0, ih1, ih2, ih3, ih4⟩ := graverlaw01_OrderSigned.mono_l k
    refine ⟨?_, ?_, ?_, ?_, ?_⟩
    · intro y0 y1 y2 y3 y4
      unfold graverlaw01_OrderSigned.j0
      repeat' first
      | (with_reducible exact ih0 _ _ _ _ _)
      | (with_reducible exact ih1 _ _ _ _ _ _)
      | (with_reducible exact ih2 _ _)
      | (with_reducible exact ih3 _ _)
      | (with_reducible exact ih4 _ _ _ _)
      | (with_reducible exact graverlaw01_speaks.mono _)
      | (with_reducible exact graverref01_Get.mono _ _ _)
      | (with_reducible exact graverref01_Put.mono _ _ _ _)
      | (with_reducible exact order_Order_Signed.mono _ _ _)
      | (with_reducible exact order_Swap.mono _ _ _)
      | (with_reducible exact LeO.refl _)
      | (with_reducible exact LeO.none _)
      | (with_reducible refine LeO.ite ?_ ?_)
      | (with_reducible refine LeO.bind ?_ (fun _ => ?_))
      | exact ih0 _ _ _ _ _
      | exact ih1 _ _ _ _ _ _
      | exact ih2 _ _
      | exact ih3 _ _
      | exact ih4 _ _ _ _
      | exact graverlaw01_speaks.mono _
      | exact graverref01_Get.mono _ _ _
      | exact graverref01_Put.mono _ _ _ _
      | exact order_Order_Signed.mono _ _ _
      | exact order_Swap.mono _ _ _
      | exact LeO.none _
      | refine LeO.ite ?_ ?_
      | refine LeO.bind ?_ (fun _ => ?_)
    · intro y0 y1 y2 y3 y4 y5
      unfold graverlaw01_OrderSigned.j1
      repeat' first
      | (with_reducible exact ih0 _ _ _ _ _)
      | (with_reducible exact ih1 _ _ _ _ _ _)
      | (with_reducible exact ih2 _ _)
      | (with_reducible exact ih3 _ _)
      | (with_reducible exact ih4 _ _ _ _)
      | (with_reducible exact graverlaw01_speaks.mono _)
      | (with_reducible exact graverref01_Get.mono _ _ _)
      | (with_reducible exact graverref01_Put.mono _ _ _ _)
      | (with_reducible exact order_Order_Signed.mono _ _ _)
      | (with_reducible exact order_Swap.mono _ _ _)
      | (with_reducible exact LeO.refl _)
      | (with_reducible exact LeO.none _)
      | (with_reducible refine LeO.ite ?_ ?_)
      | (with_reducible refine LeO.bind ?_ (fun _ => ?_))
      | exact ih0 _ _ _ _ _
      | exact ih1 _ _ _ _ _ _
      | exact ih2 _ _
      | exact ih3 _ _
      | exact ih4 _ _ _ _
      | exact graverlaw01_speaks.mono _
      | exact graverref01_Get.mono _ _ _
      | exact graverref01_Put.mono _ _ _ _
      | exact order_Order_Signed.mono _ _ _
      | exact order_Swap.mono _ _ _
      | exact LeO.none _
      | refine LeO.ite ?_ ?_
      | refine LeO.bind ?_ (fun _ => ?_)
    · intro y0 y1
      unfold graverlaw01_OrderSigned.j2
      repeat' first
      | (with_reducible exact ih0 _ _ _ _ _)
      | (with_reducible exact ih1 _ _ _ _ _ _)
      | (with_reducible exact ih2 _ _)
      | (with_reducible exact ih3 _ _)
      | (with_reducible exact ih4 _ _ _ _)
      | (with_reducible exact graverlaw01_speaks.mono _)
      | (with_reducible exact graverref01_Get.mono _ _ _)
      | (with_reducible exact graverref01_Put.mono _ _ _ _)
      | (with_reducible exact order_Order_Signed.mono _ _ _)
      | (with_reducible exact order_Swap.mono _ _ _)
      | (with_reducible exact LeO.refl _)
      | (with_reducible exact LeO.none _)
      | (with_reducible refine LeO.ite ?_ ?_)
      | (with_reducible refine LeO.bind ?_ (fun _ => ?_))
      | exact ih0 _ _ _ _ _
      | exact ih1 _ _ _ _ _ _
      | exact ih2 _ _
      | exact ih3 _ _
      | exact ih4 _ _ _ _
      | exact graverlaw01_speaks.mono _
      | exact graverref01_Get.mono _ _ _
      | exact graverref01_Put.mono _ _ _ _
      | exact order_Order_Signed.mono _ _ _
      | exact order_Swap.mono _ _ _
      | exact LeO.none _
      | refine LeO.ite ?_ ?_
      | refine LeO.bind ?_ (fun _ => ?_)
    · intro y0 y1
      unfold graverlaw01_OrderSigned.l0
      repeat' first
      | (with_reducible exact ih0 _ _ _ _ _)
      | (with_reducible exact ih1 _ _ _ _ _ _)
      | (with_reducible exact ih2 _ _)
      | (with_reducible exact ih3 _ _)
      | (with_reducible exact ih4 _ _ _ _)
      | (with_reducible exact graverlaw01_speaks.mono _)
      | (with_reducible exact graverref01_Get.mono _ _ _)
      | (with_reducible exact graverref01_Put.mono _ _ _ _)
      | (with_reducible exact order_Order_Signed.mono _ _ _)
      | (with_reducible exact order_Swap.mono _ _ _)
      | (with_reducible exact LeO.refl _)
      | (with_reducible exact LeO.none _)
      | (with_reducible refine LeO.ite ?_ ?_)
      | (with_reducible refine LeO.bind ?_ (fun _ => ?_))
      | exact ih0 _ _ _ _ _
      | exact ih1 _ _ _ _ _ _
      | exact ih2 _ _
      | exact ih3 _ _
      | exact ih4 _ _ _ _
      | exact graverlaw01_speaks.mono _
      | exact graverref01_Get.mono _ _ _
      | exact graverref01_Put.mono _ _ _ _
      | exact order_Order_Signed.mono _ _ _
      | exact order_Swap.mono _ _ _
      | exact LeO.none _
      | refine LeO.ite ?_ ?_
      | refine LeO.bind ?_ (fun _ => ?_)
    · intro y0 y1 y2 y3
      unfold graverlaw01_OrderSigned.j4
      repeat' first
      | (with_reducible exact ih0 _ _ _ _ _)
      | (with_reducible exact ih1 _ _ _ _ _ _)
      | (with_reducible exact ih2 _ _)
      | (with_reducible exact ih3 _ _)
      | (with_reducible exact ih4 _ _ _ _)
      | (with_reducible exact graverlaw01_speaks.mono _)
      | (with_reducible exact graverref01_Get.mono _ _ _)
      | (with_reducible exact graverref01_Put.mono _ _ _ _)
      | (with_reducible exact order_Order_Signed.mono _ _ _)
      | (with_reducible exact order_Swap.mono _ _ _)
      | (with_reducible exact LeO.refl _)
      | (with_reducible exact LeO.none _)
      | (with_reducible refine LeO.ite ?_ ?_)
      | (with_reducible refine LeO.bind ?_ (fun _ => ?_))
      | exact ih0 _ _ _ _ _
      | exact ih1 _ _ _ _ _ _
      | exact ih2 _ _
      | exact ih3 _ _
      | exact ih4 _ _ _ _
      | exact graverlaw01_speaks.mono _
      | exact graverref01_Get.mono _ _ _
      | exact graverref01_Put.mono _ _ _ _
      | exact order_Order_Signed.mono _ _ _
      | exact order_Swap.mono _ _ _
      | exact LeO.none _
      | refine LeO.ite ?_ ?_
      | refine LeO.bind ?_ (fun _ => ?_)
theorem graverlaw01_OrderSigned.mono : ∀ a0 a1 a2 k, LeO (graverlaw01_OrderSigned.f k a0 a1 a2) (graverlaw01_OrderSigned.f (k + 1) a0 a1 a2) := by
  intro a0 a1 a2 k
  obtain ⟨ih0, ih1, ih2, ih3, ih4⟩ := graverlaw01_OrderSigned.mono_l k
  unfold graverlaw01_OrderSigned.f
  repeat' first
      | (with_reducible exact ih0 _ _ _ _ _)
      | (with_reducible exact ih1 _ _ _ _ _ _)
      | (with_reducible exact ih2 _ _)
      | (with_reducible exact ih3 _ _)
      | (with_reducible exact ih4 _ _ _ _)
      | (with_reducible exact graverlaw01_speaks.mono _)
      | (with_reducible exact graverref01_Get.mono _ _ _)
      | (with_reducible exact graverref01_Put.mono _ _ _ _)
      | (with_reducible exact order_Order_Signed.mono _ _ _)
      | (with_reducible exact order_Swap.mono _ _ _)
      | (with_reducible exact LeO.refl _)
      | (with_reducible exact LeO.none _)
      | (with_reducible refine LeO.ite ?_ ?_)
      | (with_reducible refine LeO.bind ?_ (fun _ => ?_))
      | exact ih0 _ _ _ _ _
      | exact ih1 _ _ _ _ _ _
      | exact ih2 _ _
      | exact ih3 _ _
      | exact ih4 _ _ _ _
      | exact graverlaw01_speaks.mono _
      | exact graverref01_Get.mono _ _ _
      | exact graverref01_Put.mono _ _ _ _
      | exact order_Order_Signed.mono _ _ _
      | exact order_Swap.mono _ _ _
      | exact LeO.none _
      | refine LeO.ite ?_ ?_
      | refine LeO.bind ?_ (fun _ => ?_)
set_option maxHeartbeats 8000000 in
set_option maxRecDepth 100000 in
theorem graverlaw01_OrderSigned.calls (k : Nat) (a0 : Bool) (a1 : ByteArray) (a2 : Int) (r : Bool) (w : World) (h : graverlaw01_OrderSigned.f k a0 a1 a2 = some r) :
    Calls Try.prog 4 #[.bool a0, .string a1, .int .u64 a2] w fun e w' => e = .returned (.bool r) ∧ Below w.heap.size w w' := by
  have hu25 := Try.underlying25
  have HB := Aside0.mk (Below.refl w.heap.size w)
  have H : ((graverlaw01_speaks.f k).bind fun t128 => (if t128 = true then (if 0 ≤ (mn (a1.size : Int) 10) then (if (mn (a1.size : Int) 10) ≤ (a1.size : Int) then ((order_Order_Signed.f k a0 (a1.extract 0 ((mn (a1.size : Int) 10) : Int).toNat)).bind fun t130 => (if ((a1.extract 0 ((mn (a1.size : Int) 10) : Int).toNat).size : Int) = 0 then (graverlaw01_OrderSigned.j0 k a0 (a1.extract 0 ((mn (a1.size : Int) 10) : Int).toNat) a2 t130 true) else (graverlaw01_OrderSigned.j0 k a0 (a1.extract 0 ((mn (a1.size : Int) 10) : Int).toNat) a2 t130 (decide (((a1.extract 0 ((mn (a1.size : Int) 10) : Int).toNat).size : Int) > 8))))) else (none)) else (none)) else (some false))) = some r := h
  clear h
  replace H := Option.bind_eq_some_iff.mp H
  obtain ⟨t128, A40, H⟩ := H
  replace H : (if t128 = true then (if 0 ≤ (mn (a1.size : Int) 10) then (if (mn (a1.size : Int) 10) ≤ (a1.size : Int) then ((order_Order_Signed.f k a0 (a1.extract 0 ((mn (a1.size : Int) 10) : Int).toNat)).bind fun t130 => (if ((a1.extract 0 ((mn (a1.size : Int) 10) : Int).toNat).size : Int) = 0 then (graverlaw01_OrderSigned.j0 k a0 (a1.extract 0 ((mn (a1.size : Int) 10) : Int).toNat) a2 t130 true) else (graverlaw01_OrderSigned.j0 k a0 (a1.extract 0 ((mn (a1.size : Int) 10) : Int).toNat) a2 t130 (decide (((a1.extract 0 ((mn (a1.size : Int) 10) : Int).toNat).size : Int) > 8))))) else (none)) else (none)) else (some false)) = some r := H
  have A4 := Aside0.mk A40
  clear A40
  by_cases c5 : t128 = true
  · subst c5
    have H1 : (if 0 ≤ (mn (a1.size : Int) 10) then (if (mn (a1.size : Int) 10) ≤ (a1.size : Int) then ((order_Order_Signed.f k a0 (a1.extract 0 ((mn (a1.size : Int) 10) : Int).toNat)).bind fun t130 => (if ((a1.extract 0 ((mn (a1.size : Int) 10) : Int).toNat).size : Int) = 0 then (graverlaw01_OrderSigned.j0 k a0 (a1.extract 0 ((mn (a1.size : Int) 10) : Int).toNat) a2 t130 true) else (graverlaw01_OrderSigned.j0 k a0 (a1.extract 0 ((mn (a1.size : Int) 10) : Int).toNat) a2 t130 (decide (((a1.extract 0 ((mn (a1.size : Int) 10) : Int).toNat).size : Int) > 8))))) else (none)) else (none)) = some r := by rw [if_pos rfl] at H; exact H
    clear H
    have H := H1
    clear H1
    obtain ⟨ji6, hji6⟩ : ∃ j_ : Int, (mn (a1.size : Int) 10) = j_ := ⟨_, rfl⟩
    replace H : (if 0 ≤ (ji6) then (if (ji6) ≤ (a1.size : Int) then ((order_Order_Signed.f k a0 (a1.extract 0 ((ji6) : Int).toNat)).bind fun t130 => (if ((a1.extract 0 ((ji6) : Int).toNat).size : Int) = 0 then (graverlaw01_OrderSigned.j0 k a0 (a1.extract 0 ((ji6) : Int).toNat) a2 t130 true) else (graverlaw01_OrderSigned.j0 k a0 (a1.extract 0 ((ji6) : Int).toNat) a2 t130 (decide (((a1.extract 0 ((ji6) : Int).toNat).size : Int) > 8))))) else (none)) else (none)) = some r := by first | (rw [hji6] at H; exact H) | (simp only [hji6] at H ⊢; exact H)
    (try rw [hji6] at A4)
    (try (have hji6h : ji6 ≤ 10 := by (rw [← hji6]; unfold mn; (repeat' split) <;> omega)))
    (try (have hji6g : ji6 ≤ 64 := by omega))
    (try (have hji6l : 0 ≤ ji6 := by (rw [← hji6]; unfold mn; (repeat' split) <;> omega)))
    (try (have hji6m : 0 ≤ ji6 := by omega))
    have hji6_ : (if 10 < (a1.size : Int) then 10 else (a1.size : Int)) = ji6 := hji6
    by_cases c7 : 0 ≤ (ji6)
    · rw [if_pos c7] at H
      have c7b0 := eq_true c7
      have c7b1 : decide (0 ≤ (ji6)) = true := decide_eq_true c7
      clear c7
      by_cases c8 : (ji6) ≤ (a1.size : Int)
      · rw [if_pos c8] at H
        have c8b0 := eq_true c8
        have c8b1 : decide ((ji6) ≤ (a1.size : Int)) = true := decide_eq_true c8
        clear c8
        obtain ⟨sc9, hsc9⟩ : ∃ s_ : ByteArray, (a1.extract 0 ((ji6) : Int).toNat) = s_ := ⟨_, rfl⟩
        replace H : ((order_Order_Signed.f k a0 sc9).bind fun t130 => (if (sc9.size : Int) = 0 then (graverlaw01_OrderSigned.j0 k a0 sc9 a2 t130 true) else (graverlaw01_OrderSigned.j0 k a0 sc9 a2 t130 (decide ((sc9.size : Int) > 8))))) = some r := by first | (rw [hsc9] at H; exact H) | (simp only [hsc9] at H ⊢; exact H) | exact H
        (try (have hsc9n := hsc9; simp only [Int.toNat_natCast] at hsc9n))
        replace H := Option.bind_eq_some_iff.mp H
        obtain ⟨t130, A100, H⟩ := H
        replace H : (if (sc9.size : Int) = 0 then (graverlaw01_OrderSigned.j0 k a0 sc9 a2 t130 true) else (graverlaw01_OrderSigned.j0 k a0 sc9 a2 t130 (decide ((sc9.size : Int) > 8)))) = some r := H
        have A10 := Aside0.mk A100
        clear A100
        have HC11 := Aside0.mk H
        clear H
        go_enter Try.func4, Try.ntmps4
        go_upto_region 6 with (first | ((with_reducible refine gate_callee (f := 9) rfl ?_); refine goesL_ (some 13) rfl rfl Try.func9 (by kernel_rfl) rfl #[] rfl (by (try simp only [List.map_toArray, List.map_cons, List.map_nil]); first | done | rfl | (simp only [List.length_drop, List.length_take]; rfl)) ?_; (with_reducible refine (graverlaw01_speaks.calls k  true _ A4.out).mono ?_); rintro e w12 ⟨rfl, hb⟩; refine ⟨_, rfl, ?_⟩; have n0_ := Aside0.mk (below_step (by repeat (first | (with_reducible first | exact HB.out | apply below_alloc | apply pw_below_drewN | apply below_drew1) | exact HB.out)) hb); clear HB; have HB := n0_; clear n0_; (try clear hb); (try clear hb2); (try clear hk); (try clear hi)) | ((with_reducible refine gate_dst (N := 7) rfl ?_); (try (refine gate_guard (by rfl) ?_; dsimp only)); refine box_event ?hg (N := 7) ?hd (cs := #[.bool false]) (t := 25) ?hr ?_; (case hd => rfl); (case hg => rfl); (case hr => first | (go_simp; done) | (go_simp; rfl)); intro gb129 hg w13 hbox hb; have n0_ := Aside0.mk (below_step (by repeat (first | (with_reducible first | exact HB.out | apply below_alloc | apply pw_below_drewN | apply below_drew1) | exact HB.out)) hb); have n1_ := Aside0.mk (hbox); have n2_ := Aside0.mk ((by rw [hg]; exact (below_size (by repeat (first | (with_reducible first | exact HB.out | apply below_alloc | apply pw_below_drewN | apply below_drew1) | exact HB.out))) : w.heap.size ≤ gb129)); have n3_ := Aside0.mk ((by rw [hg]; exact (below_size (by repeat (first | (with_reducible first | exact HB.out | apply below_alloc | apply pw_below_drewN | apply below_drew1) | exact HB.out))) : w.heap.size ≤ gb129)); clear HB; have HB := n0_; have BK129 := n1_; have GW129 := n2_; have GE129 := n3_; clear n0_ n1_ n2_ n3_; clear hb hbox hg; have hcz14_0 : w13.cell? ⟨gb129, 0, none⟩ = some (.bool false) := (blk_cell BK129.out 0).trans rfl; have hfz14_0 := blk_frozen BK129.out 0) | ((with_reducible refine gate_callee (f := 14) rfl ?_); refine goesL_ (some 24) rfl rfl Try.func14 (by kernel_rfl) rfl #[.agg #[.bool a0], .string sc9] rfl (by (try simp only [List.map_toArray, List.map_cons, List.map_nil]); first | done | rfl | (simp only [List.length_drop, List.length_take]; rfl)) ?_; (with_reducible refine (order_Order_Signed.calls k a0 sc9 t130 _ A10.out).mono ?_); rintro e w15 ⟨rfl, hb⟩; refine ⟨_, rfl, ?_⟩; have n0_ := Aside0.mk (blk_below (g := gb129) (o := .cells #[.bool a0] 25 (0, 0)) (by (with_reducible repeat (first | refine blk_drewN ?_ _ | refine blk_drew ?_ | refine blk_alloc ?_ _)); refine blk_put (cs := #[.bool false]) ?_ 0 _ rfl; (with_reducible repeat (first | refine blk_drewN ?_ _ | refine blk_drew ?_ | refine blk_alloc ?_ _)); exact BK129.out) hb); have n1_ := Aside0.mk (below_step (by repeat (first | (with_reducible first | exact HB.out | apply below_alloc | apply pw_below_drewN | apply below_drew1 | refine below_set ?_ GE129.out) | exact HB.out)) hb); clear BK129; clear HB; have BK129 := n0_; have HB := n1_; clear n0_ n1_; (try clear hb); (try clear hb2); (try clear hk); (try clear hi)))
        (try simp only [Act.put, List.setIfInBounds_toArray, List.set_cons_zero, List.set_cons_succ])
        go_cut [32] (fun v32 wc => ∃ (kq : Nat) (x32_10 : Bool), v32 = .bool x32_10 ∧ Aside0 (graverlaw01_OrderSigned.j0 kq a0 sc9 a2 t130 x32_10 = some r) ∧ Aside0 (kq ≤ k) ∧ Aside0 (wc.heap[gb129]? = some (.cells #[.bool a0] 25 (0, 0))) ∧ Aside0 (Below w.heap.size w wc))
        case first =>
          have H := HC11.out
          clear HC11
          by_cases c16 : (sc9.size : Int) = 0
          · rw [if_pos c16] at H
            have c16b0 : ((sc9.size : Int) == 0) = true := beq_iff_eq.mpr c16
            have c16b1 : ((sc9.size : Int) != 0) = false := bne_eq_false_iff_eq.mpr c16
            clear c16
            (first | rw [c16b0] | (simp only [i64_w, i32_w]; rw [c16b0]) | skip)
            have H' := Aside0.mk H
            clear H
            go_wp2
            go_meet
            case rel => exact ⟨_, (true), (by first | rfl | (simp; done) | (simp [*]; done)), H', ⟨by first | omega | exact Nat.le_refl _⟩, ⟨by (with_reducible repeat (first | refine blk_drewN ?_ _ | refine blk_drew ?_ | refine blk_alloc ?_ _)); exact BK129.out⟩, ⟨by repeat (first | (with_reducible first | exact HB.out | apply below_alloc | apply pw_below_drewN | apply below_drew1 | refine below_set ?_ GE129.out) | exact HB.out)⟩⟩
          · rw [if_neg c16] at H
            have c16b0 : ((sc9.size : Int) == 0) = false := beq_eq_false_iff_ne.mpr c16
            have c16b1 : ((sc9.size : Int) != 0) = true := bne_iff_ne.mpr c16
            (first | rw [c16b0] | (simp only [i64_w, i32_w]; rw [c16b0]) | skip)
            have H' := Aside0.mk H
            clear H
            go_wp2
            go_meet
            case rel => exact ⟨_, (decide ((sc9.size : Int) > 8)), (by first | rfl | (simp; done) | (simp [*]; done)), H', ⟨by first | omega | exact Nat.le_refl _⟩, ⟨by (with_reducible repeat (first | refine blk_drewN ?_ _ | refine blk_drew ?_ | refine blk_alloc ?_ _)); exact BK129.out⟩, ⟨by repeat (first | (with_reducible first | exact HB.out | apply below_alloc | apply pw_below_drewN | apply below_drew1 | refine below_set ?_ GE129.out) | exact HB.out)⟩⟩
        case rest =>
          clear HC11
          try clear c1
          try clear p2
          try clear c4
          try clear c5
          try clear c7
          try clear c7b0
          try clear c7b1
          try clear c8
          try clear c8b0
          try clear c8b1
          try clear c9
          try clear c14
          try clear c16
          try clear c16b0
          try clear c16b1
          try clear hcz14_0
          try clear hfz14_0
          obtain ⟨kq, x32_10, rfl, HA, HJ10, BK129, HB⟩ := hcut
          cases kq with
          | zero => exact absurd HA.out (by simp [graverlaw01_OrderSigned.j0])
          | succ kj10 =>
            have H := HA.out
            clear HA
            simp only [graverlaw01_OrderSigned.j0] at H
            by_cases c17 : x32_10 = true
            · subst c17
              have H1 : (some (t130 == 0)) = some r := by rw [if_pos rfl] at H; exact H
              clear H
              have H := H1
              clear H1
              obtain rfl := Option.some.inj H
              go_wp2
              go_ret
              exact ⟨by first | rfl | (simp [errW_none, errW_some] <;> rfl) | (simp only [← hji6]; first | rfl | (simp [errW_none, errW_some] <;> rfl)) | (simp [*, errW_none, errW_some] <;> rfl), by repeat (first | (with_reducible first | exact HB.out | apply below_alloc | apply pw_below_drewN | apply below_drew1 | refine below_set ?_ GE129.out) | exact HB.out)⟩
            · replace c17 := Bool.eq_false_iff.mpr c17
              subst c17
              have H1 : ((graverref01_Get.f kj10 a0 sc9).bind fun t131 => (if 0 ≤ (wrap64 ((sc9.size : Int) - 1)) then (if (wrap64 ((sc9.size : Int) - 1)) < (sc9.size : Int) then (if a0 = true then (if 0 < (sc9.size : Int) then (graverlaw01_OrderSigned.j1 kj10 a0 sc9 a2 t130 t131 (bt sc9 0)) else (none)) else (graverlaw01_OrderSigned.j1 kj10 a0 sc9 a2 t130 t131 (bt sc9 (wrap64 ((sc9.size : Int) - 1))))) else (none)) else (none))) = some r := by rw [if_neg (show ¬ (false = true) by decide)] at H; exact H
              clear H
              have H := H1
              clear H1
              replace H := Option.bind_eq_some_iff.mp H
              obtain ⟨t131, A180, H⟩ := H
              replace H : (if 0 ≤ (wrap64 ((sc9.size : Int) - 1)) then (if (wrap64 ((sc9.size : Int) - 1)) < (sc9.size : Int) then (if a0 = true then (if 0 < (sc9.size : Int) then (graverlaw01_OrderSigned.j1 kj10 a0 sc9 a2 t130 t131 (bt sc9 0)) else (none)) else (graverlaw01_OrderSigned.j1 kj10 a0 sc9 a2 t130 t131 (bt sc9 (wrap64 ((sc9.size : Int) - 1))))) else (none)) else (none)) = some r := H
              have A18 := Aside0.mk A180
              clear A180
              obtain ⟨ji19, hji19⟩ : ∃ j_ : Int, (wrap64 ((sc9.size : Int) - 1)) = j_ := ⟨_, rfl⟩
              replace H : (if 0 ≤ (ji19) then (if (ji19) < (sc9.size : Int) then (if a0 = true then (if 0 < (sc9.size : Int) then (graverlaw01_OrderSigned.j1 kj10 a0 sc9 a2 t130 t131 (bt sc9 0)) else (none)) else (graverlaw01_OrderSigned.j1 kj10 a0 sc9 a2 t130 t131 (bt sc9 (ji19)))) else (none)) else (none)) = some r := by first | (rw [hji19] at H; exact H) | (simp only [hji19] at H ⊢; exact H)
              (try rw [hji19] at A18)
              have hji19w : (IntKind.i64.wrap ((sc9.size : Int) - 1)) = ji19 := (i64_w _).trans hji19
              by_cases c20 : 0 ≤ (ji19)
              · rw [if_pos c20] at H
                have c20b0 : decide (0 ≤ (ji19)) = true := decide_eq_true c20
                clear c20
                by_cases c21 : (ji19) < (sc9.size : Int)
                · rw [if_pos c21] at H
                  have c21b0 : decide ((ji19) < (sc9.size : Int)) = true := decide_eq_true c21
                  clear c21
                  have HC23 := Aside0.mk H
                  clear H
                  go_upto_if 43 with (first | ((with_reducible refine gate_callee (f := 13) rfl ?_); refine goesL_ (some 37) rfl rfl Try.func13 (by kernel_rfl) rfl #[.bool a0, .string sc9] rfl (by (try simp only [List.map_toArray, List.map_cons, List.map_nil]); first | done | rfl | (simp only [List.length_drop, List.length_take]; rfl)) ?_; (with_reducible refine (graverref01_Get.calls kj10 a0 sc9 t131 _ A18.out).mono ?_); rintro e w' ⟨rfl, ⟨nd, rfl⟩⟩; refine ⟨_, rfl, ?_⟩; have p22 : 0 ≤ ((ji19) : Int) := of_decide_eq_true (by first | (with_reducible assumption) | assumption); have q22 : (ji19) < (sc9.size : Int) := of_decide_eq_true (by first | (with_reducible assumption) | assumption); have hx22 := bt_at sc9 (ji19); replace p22 := eq_true p22; replace q22 := eq_true q22))
                  (try simp only [Act.put, List.setIfInBounds_toArray, List.set_cons_zero, List.set_cons_succ])
                  go_cut [10] (fun v10 wc => ∃ (kq : Nat) (x10_22 : Int), v10 = .int .u8 x10_22 ∧ Aside0 (graverlaw01_OrderSigned.j1 kq a0 sc9 a2 t130 t131 x10_22 = some r) ∧ Aside0 (kq ≤ kj10) ∧ Aside0 (wc.heap[gb129]? = some (.cells #[.bool a0] 25 (0, 0))) ∧ Aside0 (Below w.heap.size w wc))
                  case first =>
                    have H := HC23.out
                    clear HC23
                    by_cases c24 : a0 = true
                    · subst c24
                      have H1 : (if 0 < (sc9.size : Int) then (graverlaw01_OrderSigned.j1 kj10 true sc9 a2 t130 t131 (bt sc9 0)) else (none)) = some r := by rw [if_pos rfl] at H; exact H
                      clear H
                      have H := H1
                      clear H1
                      by_cases c25 : 0 < (sc9.size : Int)
                      · rw [if_pos c25] at H
                        have c25b0 : decide (0 < (sc9.size : Int)) = true := decide_eq_true c25
                        have c25b1 : decide (0 < sc9.size) = true := decide_eq_true (by omega)
                        clear c25
                        (first | rw [c25b0] | (simp only [i64_w, i32_w]; rw [c25b0]) | skip)
                        have H' := Aside0.mk H
                        clear H
                        have p26 : 0 ≤ (0 : Int) := (by omega)
                        have q26 : 0 < sc9.size := (by have : (0 : Int) < (sc9.size : Int) := of_decide_eq_true (by first | (with_reducible assumption) | assumption); omega)
                        have hx26 : ∀ h : 0 < sc9.size, ((sc9[0]'h).toNat : Int) = bt sc9 0 := bt_at sc9 0
                        clear p26
                        have qi26 : (0 < (sc9.size : Int)) = True := eq_true (of_decide_eq_true (by first | (with_reducible assumption) | assumption))
                        replace q26 := eq_true q26
                        go_wp2
                        go_meet
                        case rel => exact ⟨_, (bt sc9 0), (by first | rfl | (simp; done) | (simp [*]; done)), H', ⟨by have := HJ10.out; first | omega | exact Nat.le_refl _⟩, ⟨by (with_reducible repeat (first | refine blk_drewN ?_ _ | refine blk_drew ?_ | refine blk_alloc ?_ _)); exact BK129.out⟩, ⟨by repeat (first | (with_reducible first | exact HB.out | apply below_alloc | apply pw_below_drewN | apply below_drew1 | refine below_set ?_ GE129.out) | exact HB.out)⟩⟩
                      · rw [if_neg c25] at H
                        exact absurd H (by simp)
                    · replace c24 := Bool.eq_false_iff.mpr c24
                      subst c24
                      have H1 : (graverlaw01_OrderSigned.j1 kj10 false sc9 a2 t130 t131 (bt sc9 (ji19))) = some r := by rw [if_neg (show ¬ (false = true) by decide)] at H; exact H
                      clear H
                      have H := H1
                      clear H1
                      have H' := Aside0.mk H
                      clear H
                      go_wp2
                      go_meet
                      case rel => exact ⟨_, (bt sc9 (ji19)), (by first | rfl | (simp; done) | (simp only [← hji19] <;> (first | rfl | simp)) | (simp [*]; done)), H', ⟨by have := HJ10.out; first | omega | exact Nat.le_refl _⟩, ⟨by (with_reducible repeat (first | refine blk_drewN ?_ _ | refine blk_drew ?_ | refine blk_alloc ?_ _)); exact BK129.out⟩, ⟨by repeat (first | (with_reducible first | exact HB.out | apply below_alloc | apply pw_below_drewN | apply below_drew1 | refine below_set ?_ GE129.out) | exact HB.out)⟩⟩
                  case rest =>
                    clear HC23
                    try clear c1
                    try clear c2
                    try clear p2
                    try clear q2
                    try clear hx2
                    try clear qi2
                    try clear c4
                    try clear c5
                    try clear p6
                    try clear c7
                    try clear c7b0
                    try clear c7b1
                    try clear c8
                    try clear c8b0
                    try clear c8b1
                    try clear c9
                    try clear c13
                    try clear c14
                    try clear c16
                    try clear c16b0
                    try clear c16b1
                    try clear c17
                    try clear c20
                    try clear c20b0
                    try clear c21
                    try clear c21b0
                    try clear p22
                    try clear q22
                    try clear hx22
                    try clear c24
                    try clear c25
                    try clear c25b0
                    try clear c25b1
                    try clear p26
                    try clear q26
                    try clear hx26
                    try clear qi26
                    try clear hcz14_0
                    try clear hfz14_0
                    try clear p2
                    try clear p22
                    try clear p26
                    try clear q22
                    try clear q26
                    obtain ⟨kq, x10_22, rfl, HA, HJ22, BK129, HB⟩ := hcut
                    cases kq with
                    | zero => exact absurd HA.out (by simp [graverlaw01_OrderSigned.j1])
                    | succ kj22 =>
                      have H := HA.out
                      clear HA
                      simp only [graverlaw01_OrderSigned.j1] at H
                      have HC27 := Aside0.mk H
                      clear H
                      go_upto_region 12 with (fail)
                      go_cut [75] (fun v75 wc => ∃ (kq : Nat) (x75_26 : Bool), v75 = .bool x75_26 ∧ Aside0 (graverlaw01_OrderSigned.j2 kq a2 x75_26 = some r) ∧ Aside0 (kq ≤ kj22) ∧ Aside0 (wc.heap[gb129]? = some (.cells #[.bool a0] 25 (0, 0))) ∧ Aside0 (Below w.heap.size w wc))
                      case first =>
                        have H := HC27.out
                        clear HC27
                        by_cases c28 : ((decide (t130 < 0)) != (decide (x10_22 ≥ 128))) = true
                        · rw [if_pos c28] at H
                          have c28b0 : ((decide (t130 < 0)) != (decide (x10_22 ≥ 128))) = true := c28
                          (try (have c28b1 : decide ((decide (t130 < 0)) = (decide (x10_22 ≥ 128))) = false := by simpa using c28))
                          (try (have c28b2 : ((decide (t130 < 0)) == (decide (x10_22 ≥ 128))) = false := by simpa using c28))
                          (try (have c28b3 : ¬ ((decide (t130 < 0)) = (decide (x10_22 ≥ 128))) := by simpa using c28))
                          clear c28
                          (first | rw [c28b0] | (simp only [i64_w, i32_w]; rw [c28b0]) | skip)
                          have H' := Aside0.mk H
                          clear H
                          go_wp2
                          go_meet
                          case rel => exact ⟨_, (true), (by first | rfl | (simp; done) | (simp [*]; done)), H', ⟨by have := HJ10.out; have := HJ22.out; first | omega | exact Nat.le_refl _⟩, ⟨by (with_reducible repeat (first | refine blk_drewN ?_ _ | refine blk_drew ?_ | refine blk_alloc ?_ _)); exact BK129.out⟩, ⟨by repeat (first | (with_reducible first | exact HB.out | apply below_alloc | apply pw_below_drewN | apply below_drew1 | refine below_set ?_ GE129.out) | exact HB.out)⟩⟩
                        · rw [if_neg c28] at H
                          have c28b0 : ((decide (t130 < 0)) != (decide (x10_22 ≥ 128))) = false := by simpa using c28
                          (try (have c28b1 : decide ((decide (t130 < 0)) = (decide (x10_22 ≥ 128))) = true := by simpa using c28))
                          (try (have c28b2 : ((decide (t130 < 0)) == (decide (x10_22 ≥ 128))) = true := by simpa using c28))
                          clear c28
                          (first | rw [c28b0] | (simp only [i64_w, i32_w]; rw [c28b0]) | skip)
                          replace H := Option.bind_eq_some_iff.mp H
                          obtain ⟨t132, A290, H⟩ := H
                          replace H : (if t132.toList = sc9.toList then (if (sc9.size : Int) < 8 then (if t130 ≥ 0 then (graverlaw01_OrderSigned.j2 kj22 a2 ((IntKind.u64.wrap (t130)) != t131)) else (graverlaw01_OrderSigned.j2 kj22 a2 false)) else (graverlaw01_OrderSigned.j2 kj22 a2 false)) else (graverlaw01_OrderSigned.j2 kj22 a2 true)) = some r := H
                          have A29 := Aside0.mk A290
                          clear A290
                          by_cases c30 : t132.toList = sc9.toList
                          · rw [if_pos c30] at H
                            have c30b0 : (t132.toList == sc9.toList) = true := beq_iff_eq.mpr c30
                            have c30b1 : (t132.toList != sc9.toList) = false := bne_eq_false_iff_eq.mpr c30
                            clear c30
                            by_cases c31 : (sc9.size : Int) < 8
                            · rw [if_pos c31] at H
                              have c31b0 : decide ((sc9.size : Int) < 8) = true := decide_eq_true c31
                              have c31b1 : decide (sc9.size < 8) = true := decide_eq_true (by omega)
                              clear c31
                              by_cases c32 : t130 ≥ 0
                              · rw [if_pos c32] at H
                                have c32b0 : decide (0 ≤ t130) = true := decide_eq_true c32
                                clear c32
                                have H' := Aside0.mk H
                                clear H
                                go_wp2_with (first | (go_at_call 11; (with_reducible refine (graverref01_Put.calls kj22 a0 (IntKind.u64.wrap (t130)) (sc9.size : Int) t132 _ A29.out).mono ?_); rintro e w33 ⟨rfl, hb⟩; have n0_ := Aside0.mk (blk_below (g := gb129) (o := .cells #[.bool a0] 25 (0, 0)) (by (with_reducible repeat (first | refine blk_drewN ?_ _ | refine blk_drew ?_ | refine blk_alloc ?_ _)); exact BK129.out) hb); have n1_ := Aside0.mk (below_step (by repeat (first | (with_reducible first | exact HB.out | apply below_alloc | apply pw_below_drewN | apply below_drew1 | refine below_set ?_ GE129.out) | exact HB.out)) hb); clear BK129; clear HB; have BK129 := n0_; have HB := n1_; clear n0_ n1_; (try clear hb); (try clear hb2); (try clear hk); (try clear hi)))
                                go_meet
                                case rel => exact ⟨_, (((IntKind.u64.wrap (t130)) != t131)), (by first | rfl | (simp; done) | (simp [*]; done)), H', ⟨by have := HJ10.out; have := HJ22.out; first | omega | exact Nat.le_refl _⟩, ⟨by (with_reducible repeat (first | refine blk_drewN ?_ _ | refine blk_drew ?_ | refine blk_alloc ?_ _)); exact BK129.out⟩, ⟨by repeat (first | (with_reducible first | exact HB.out | apply below_alloc | apply pw_below_drewN | apply below_drew1 | refine below_set ?_ GE129.out) | exact HB.out)⟩⟩
                              · rw [if_neg c32] at H
                                have c32b0 : decide (0 ≤ t130) = false := decide_eq_false c32
                                clear c32
                                have H' := Aside0.mk H
                                clear H
                                go_wp2_with (first | (go_at_call 11; (with_reducible refine (graverref01_Put.calls kj22 a0 (IntKind.u64.wrap (t130)) (sc9.size : Int) t132 _ A29.out).mono ?_); rintro e w34 ⟨rfl, hb⟩; have n0_ := Aside0.mk (blk_below (g := gb129) (o := .cells #[.bool a0] 25 (0, 0)) (by (with_reducible repeat (first | refine blk_drewN ?_ _ | refine blk_drew ?_ | refine blk_alloc ?_ _)); exact BK129.out) hb); have n1_ := Aside0.mk (below_step (by repeat (first | (with_reducible first | exact HB.out | apply below_alloc | apply pw_below_drewN | apply below_drew1 | refine below_set ?_ GE129.out) | exact HB.out)) hb); clear BK129; clear HB; have BK129 := n0_; have HB := n1_; clear n0_ n1_; (try clear hb); (try clear hb2); (try clear hk); (try clear hi)))
                                go_meet
                                case rel => exact ⟨_, (false), (by first | rfl | (simp; done) | (simp [*]; done)), H', ⟨by have := HJ10.out; have := HJ22.out; first | omega | exact Nat.le_refl _⟩, ⟨by (with_reducible repeat (first | refine blk_drewN ?_ _ | refine blk_drew ?_ | refine blk_alloc ?_ _)); exact BK129.out⟩, ⟨by repeat (first | (with_reducible first | exact HB.out | apply below_alloc | apply pw_below_drewN | apply below_drew1 | refine below_set ?_ GE129.out) | exact HB.out)⟩⟩
                            · rw [if_neg c31] at H
                              have c31b0 : decide ((sc9.size : Int) < 8) = false := decide_eq_false c31
                              have c31b1 : decide (sc9.size < 8) = false := decide_eq_false (by omega)
                              clear c31
                              have H' := Aside0.mk H
                              clear H
                              go_wp2_with (first | (go_at_call 11; (with_reducible refine (graverref01_Put.calls kj22 a0 (IntKind.u64.wrap (t130)) (sc9.size : Int) t132 _ A29.out).mono ?_); rintro e w35 ⟨rfl, hb⟩; have n0_ := Aside0.mk (blk_below (g := gb129) (o := .cells #[.bool a0] 25 (0, 0)) (by (with_reducible repeat (first | refine blk_drewN ?_ _ | refine blk_drew ?_ | refine blk_alloc ?_ _)); exact BK129.out) hb); have n1_ := Aside0.mk (below_step (by repeat (first | (with_reducible first | exact HB.out | apply below_alloc | apply pw_below_drewN | apply below_drew1 | refine below_set ?_ GE129.out) | exact HB.out)) hb); clear BK129; clear HB; have BK129 := n0_; have HB := n1_; clear n0_ n1_; (try clear hb); (try clear hb2); (try clear hk); (try clear hi)))
                              go_meet
                              case rel => exact ⟨_, (false), (by first | rfl | (simp; done) | (simp [*]; done)), H', ⟨by have := HJ10.out; have := HJ22.out; first | omega | exact Nat.le_refl _⟩, ⟨by (with_reducible repeat (first | refine blk_drewN ?_ _ | refine blk_drew ?_ | refine blk_alloc ?_ _)); exact BK129.out⟩, ⟨by repeat (first | (with_reducible first | exact HB.out | apply below_alloc | apply pw_below_drewN | apply below_drew1 | refine below_set ?_ GE129.out) | exact HB.out)⟩⟩
                          · rw [if_neg c30] at H
                            have c30b0 : (t132.toList == sc9.toList) = false := beq_eq_false_iff_ne.mpr c30
                            have c30b1 : (t132.toList != sc9.toList) = true := bne_iff_ne.mpr c30
                            have H' := Aside0.mk H
                            clear H
                            go_wp2_with (first | (go_at_call 11; (with_reducible refine (graverref01_Put.calls kj22 a0 (IntKind.u64.wrap (t130)) (sc9.size : Int) t132 _ A29.out).mono ?_); rintro e w36 ⟨rfl, hb⟩; have n0_ := Aside0.mk (blk_below (g := gb129) (o := .cells #[.bool a0] 25 (0, 0)) (by (with_reducible repeat (first | refine blk_drewN ?_ _ | refine blk_drew ?_ | refine blk_alloc ?_ _)); exact BK129.out) hb); have n1_ := Aside0.mk (below_step (by repeat (first | (with_reducible first | exact HB.out | apply below_alloc | apply pw_below_drewN | apply below_drew1 | refine below_set ?_ GE129.out) | exact HB.out)) hb); clear BK129; clear HB; have BK129 := n0_; have HB := n1_; clear n0_ n1_; (try clear hb); (try clear hb2); (try clear hk); (try clear hi)))
                            go_meet
                            case rel => exact ⟨_, (true), (by first | rfl | (simp; done) | (simp [*]; done)), H', ⟨by have := HJ10.out; have := HJ22.out; first | omega | exact Nat.le_refl _⟩, ⟨by (with_reducible repeat (first | refine blk_drewN ?_ _ | refine blk_drew ?_ | refine blk_alloc ?_ _)); exact BK129.out⟩, ⟨by repeat (first | (with_reducible first | exact HB.out | apply below_alloc | apply pw_below_drewN | apply below_drew1 | refine below_set ?_ GE129.out) | exact HB.out)⟩⟩
                      case rest =>
                        clear HC27
                        try clear c1
                        try clear c2
                        try clear p2
                        try clear q2
                        try clear hx2
                        try clear qi2
                        try clear c3
                        try clear c4
                        try clear c5
                        try clear p6
                        try clear c7
                        try clear c7b0
                        try clear c7b1
                        try clear c8
                        try clear c8b0
                        try clear c8b1
                        try clear c9
                        try clear c13
                        try clear c14
                        try clear c16
                        try clear c16b0
                        try clear c16b1
                        try clear c17
                        try clear c20
                        try clear c20b0
                        try clear c21
                        try clear c21b0
                        try clear p22
                        try clear q22
                        try clear hx22
                        try clear c24
                        try clear c25
                        try clear c25b0
                        try clear c25b1
                        try clear p26
                        try clear q26
                        try clear hx26
                        try clear qi26
                        try clear c28
                        try clear c28b0
                        try clear c28b1
                        try clear c28b2
                        try clear c30
                        try clear c30b0
                        try clear c30b1
                        try clear c31
                        try clear c31b0
                        try clear c31b1
                        try clear c32
                        try clear c32b0
                        try clear hcz14_0
                        try clear hfz14_0
                        try clear p2
                        try clear p22
                        try clear p26
                        try clear p6
                        try clear q2
                        try clear q22
                        try clear q26
                        obtain ⟨kq, x75_26, rfl, HA, HJ26, BK129, HB⟩ := hcut
                        cases kq with
                        | zero => exact absurd HA.out (by simp [graverlaw01_OrderSigned.j2])
                        | succ kj26 =>
                          have H := HA.out
                          clear HA
                          simp only [graverlaw01_OrderSigned.j2] at H
                          by_cases c37 : x75_26 = true
                          · subst c37
                            have H1 : (some false) = some r := by rw [if_pos rfl] at H; exact H
                            clear H
                            have H := H1
                            clear H1
                            obtain rfl := Option.some.inj H
                            go_wp2
                            go_ret
                            exact ⟨by first | rfl | (simp [errW_none, errW_some] <;> rfl) | (simp only [← hji6, ← hji19]; first | rfl | (simp [errW_none, errW_some] <;> rfl)) | (simp [*, errW_none, errW_some] <;> rfl), by repeat (first | (with_reducible first | exact HB.out | apply below_alloc | apply pw_below_drewN | apply below_drew1 | refine below_set ?_ GE129.out) | exact HB.out)⟩
                          · replace c37 := Bool.eq_false_iff.mpr c37
                            subst c37
                            have H1 : (graverlaw01_OrderSigned.l0 kj26 a2 0) = some r := by rw [if_neg (show ¬ (false = true) by decide)] at H; exact H
                            clear H
                            have H := H1
                            clear H1
                            have H' := Aside0.mk H
                            clear H
                            go_wp2
                            go_loopg [11] kj26 (fun kq v11 w' => ∃ (x11_4 : Int), v11 = .int .i64 x11_4 ∧ Aside0 (graverlaw01_OrderSigned.l0 kq a2 x11_4 = some r) ∧ Aside0 (kq ≤ kj26) ∧ Aside0 (w'.heap[gb129]? = some (.cells #[.bool a0] 25 (0, 0))) ∧ Aside0 (Below w.heap.size w w'))
                            case atStart => exact ⟨(0), (by first | rfl | (simp; done) | (simp [*]; done)), H', ⟨Nat.le_refl _⟩, ⟨by (with_reducible repeat (first | refine blk_drewN ?_ _ | refine blk_drew ?_ | refine blk_alloc ?_ _)); exact BK129.out⟩, ⟨by repeat (first | (with_reducible first | exact HB.out | apply below_alloc | apply pw_below_drewN | apply below_drew1 | refine below_set ?_ GE129.out) | exact HB.out)⟩⟩
                            case round =>
                              clear H'
                              try clear c1
                              try clear c2
                              try clear p2
                              try clear q2
                              try clear hx2
                              try clear qi2
                              try clear c3
                              try clear c4
                              try clear c5
                              try clear p6
                              try clear c7
                              try clear c7b0
                              try clear c7b1
                              try clear c8
                              try clear c8b0
                              try clear c8b1
                              try clear c9
                              try clear c13
                              try clear c14
                              try clear c16
                              try clear c16b0
                              try clear c16b1
                              try clear c17
                              try clear c20
                              try clear c20b0
                              try clear c21
                              try clear c21b0
                              try clear p22
                              try clear q22
                              try clear hx22
                              try clear c24
                              try clear c25
                              try clear c25b0
                              try clear c25b1
                              try clear p26
                              try clear q26
                              try clear hx26
                              try clear qi26
                              try clear c28
                              try clear c28b0
                              try clear c28b1
                              try clear c28b2
                              try clear c30
                              try clear c30b0
                              try clear c30b1
                              try clear c31
                              try clear c31b0
                              try clear c31b1
                              try clear c32
                              try clear c32b0
                              try clear c37
                              try clear hcz14_0
                              try clear hfz14_0
                              try clear p2
                              try clear p22
                              try clear p26
                              try clear p6
                              try clear q2
                              try clear q22
                              try clear q26
                              obtain ⟨x11_4, rfl, HA, HK4, BK129, HB⟩ := hrel
                              cases gk with
                              | zero => exact absurd HA.out (by simp [graverlaw01_OrderSigned.l0])
                              | succ k4 =>
                                have H := HA.out
                                clear HA
                                simp only [graverlaw01_OrderSigned.l0] at H
                                by_cases c38 : x11_4 ≤ 9
                                · rw [if_pos c38] at H
                                  have c38b0 : decide (x11_4 ≤ 9) = true := decide_eq_true c38
                                  clear c38
                                  replace H := Option.bind_eq_some_iff.mp H
                                  obtain ⟨t133, A390, H⟩ := H
                                  replace H : (if x11_4 < 1 then (graverlaw01_OrderSigned.j4 k4 a2 x11_4 t133 true) else (graverlaw01_OrderSigned.j4 k4 a2 x11_4 t133 (decide (x11_4 > 8)))) = some r := H
                                  have A39 := Aside0.mk A390
                                  clear A390
                                  have HC40 := Aside0.mk H
                                  clear H
                                  go_upto_region 18 with (first | ((with_reducible refine gate_callee (f := 15) rfl ?_); refine goesL_ (some 82) rfl rfl Try.func15 (by kernel_rfl) rfl #[.int .u64 a2, .int .i64 x11_4] rfl (by (try simp only [List.map_toArray, List.map_cons, List.map_nil]); first | done | rfl | (simp only [List.length_drop, List.length_take]; rfl)) ?_; (with_reducible refine (order_Swap.calls k4 a2 x11_4 t133 _ A39.out).mono ?_); rintro e w41 ⟨rfl, hb⟩; refine ⟨_, rfl, ?_⟩; have n0_ := Aside0.mk (blk_below (g := gb129) (o := .cells #[.bool a0] 25 (0, 0)) (by (with_reducible repeat (first | refine blk_drewN ?_ _ | refine blk_drew ?_ | refine blk_alloc ?_ _)); exact BK129.out) hb); have n1_ := Aside0.mk (below_step (by repeat (first | (with_reducible first | exact HB.out | apply below_alloc | apply pw_below_drewN | apply below_drew1 | refine below_set ?_ GE129.out) | exact HB.out)) hb); clear BK129; clear HB; have BK129 := n0_; have HB := n1_; clear n0_ n1_; (try clear hb); (try clear hb2); (try clear hk); (try clear hi)))
                                  (try simp only [Act.put, List.setIfInBounds_toArray, List.set_cons_zero, List.set_cons_succ])
                                  go_cut [88] (fun v88 wc => ∃ (kq : Nat) (x88_39 : Bool), v88 = .bool x88_39 ∧ Aside0 (graverlaw01_OrderSigned.j4 kq a2 x11_4 t133 x88_39 = some r) ∧ Aside0 (kq ≤ k4) ∧ Aside0 (wc.heap[gb129]? = some (.cells #[.bool a0] 25 (0, 0))) ∧ Aside0 (Below w.heap.size w wc))
                                  case first =>
                                    have H := HC40.out
                                    clear HC40
                                    by_cases c42 : x11_4 < 1
                                    · rw [if_pos c42] at H
                                      have c42b0 : decide (x11_4 < 1) = true := decide_eq_true c42
                                      clear c42
                                      (first | rw [c42b0] | (simp only [i64_w, i32_w]; rw [c42b0]) | skip)
                                      have H' := Aside0.mk H
                                      clear H
                                      go_wp2
                                      go_meet
                                      case rel => exact ⟨_, (true), (by first | rfl | (simp; done) | (simp [*]; done)), H', ⟨by have := HJ10.out; have := HJ22.out; have := HJ26.out; have := HK4.out; first | omega | exact Nat.le_refl _⟩, ⟨by (with_reducible repeat (first | refine blk_drewN ?_ _ | refine blk_drew ?_ | refine blk_alloc ?_ _)); exact BK129.out⟩, ⟨by repeat (first | (with_reducible first | exact HB.out | apply below_alloc | apply pw_below_drewN | apply below_drew1 | refine below_set ?_ GE129.out) | exact HB.out)⟩⟩
                                    · rw [if_neg c42] at H
                                      have c42b0 : decide (x11_4 < 1) = false := decide_eq_false c42
                                      clear c42
                                      (first | rw [c42b0] | (simp only [i64_w, i32_w]; rw [c42b0]) | skip)
                                      have H' := Aside0.mk H
                                      clear H
                                      go_wp2
                                      go_meet
                                      case rel => exact ⟨_, (decide (x11_4 > 8)), (by first | rfl | (simp; done) | (simp [*]; done)), H', ⟨by have := HJ10.out; have := HJ22.out; have := HJ26.out; have := HK4.out; first | omega | exact Nat.le_refl _⟩, ⟨by (with_reducible repeat (first | refine blk_drewN ?_ _ | refine blk_drew ?_ | refine blk_alloc ?_ _)); exact BK129.out⟩, ⟨by repeat (first | (with_reducible first | exact HB.out | apply below_alloc | apply pw_below_drewN | apply below_drew1 | refine below_set ?_ GE129.out) | exact HB.out)⟩⟩
                                  case rest =>
                                    clear HC40
                                    try clear c1
                                    try clear c2
                                    try clear p2
                                    try clear q2
                                    try clear hx2
                                    try clear qi2
                                    try clear c3
                                    try clear c4
                                    try clear c5
                                    try clear p6
                                    try clear c7
                                    try clear c7b0
                                    try clear c7b1
                                    try clear c8
                                    try clear c8b0
                                    try clear c8b1
                                    try clear c9
                                    try clear c13
                                    try clear c14
                                    try clear c15
                                    try clear c16
                                    try clear c16b0
                                    try clear c16b1
                                    try clear c17
                                    try clear c20
                                    try clear c20b0
                                    try clear c21
                                    try clear c21b0
                                    try clear p22
                                    try clear q22
                                    try clear hx22
                                    try clear c24
                                    try clear c25
                                    try clear c25b0
                                    try clear c25b1
                                    try clear p26
                                    try clear q26
                                    try clear hx26
                                    try clear qi26
                                    try clear c28
                                    try clear c28b0
                                    try clear c28b1
                                    try clear c28b2
                                    try clear c30
                                    try clear c30b0
                                    try clear c30b1
                                    try clear c31
                                    try clear c31b0
                                    try clear c31b1
                                    try clear c32
                                    try clear c32b0
                                    try clear c37
                                    try clear c38
                                    try clear c38b0
                                    try clear c42
                                    try clear c42b0
                                    try clear hcz14_0
                                    try clear hfz14_0
                                    try clear p2
                                    try clear p22
                                    try clear p26
                                    try clear p6
                                    try clear q2
                                    try clear q22
                                    try clear q26
                                    obtain ⟨kq, x88_39, rfl, HA, HJ39, BK129, HB⟩ := hcut
                                    cases kq with
                                    | zero => exact absurd HA.out (by simp [graverlaw01_OrderSigned.j4])
                                    | succ kj39 =>
                                      have H := HA.out
                                      clear HA
                                      simp only [graverlaw01_OrderSigned.j4] at H
                                      by_cases c43 : x88_39 = true
                                      · subst c43
                                        have H1 : (if t133 = 0 then (graverlaw01_OrderSigned.l0 kj39 a2 (wrap64 (x11_4 + 1))) else (some false)) = some r := by rw [if_pos rfl] at H; exact H
                                        clear H
                                        have H := H1
                                        clear H1
                                        by_cases c44 : t133 = 0
                                        · rw [if_pos c44] at H
                                          have c44b0 : (t133 == 0) = true := beq_iff_eq.mpr c44
                                          have c44b1 : (t133 != 0) = false := bne_eq_false_iff_eq.mpr c44
                                          clear c44
                                          have H' := Aside0.mk H
                                          clear H
                                          go_wp2
                                          go_roundg kj39
                                          case measure => have := HJ10.out; have := HJ22.out; have := HJ26.out; have := HK4.out; have := HJ39.out; omega
                                          case rel => exact ⟨(wrap64 (x11_4 + 1)), (by first | rfl | (simp; done) | (simp [*]; done)), H', ⟨by have := HJ10.out; have := HJ22.out; have := HJ26.out; have := HK4.out; have := HJ39.out; omega⟩, ⟨by (with_reducible repeat (first | refine blk_drewN ?_ _ | refine blk_drew ?_ | refine blk_alloc ?_ _)); exact BK129.out⟩, ⟨by repeat (first | (with_reducible first | exact HB.out | apply below_alloc | apply pw_below_drewN | apply below_drew1 | refine below_set ?_ GE129.out) | exact HB.out)⟩⟩
                                        · rw [if_neg c44] at H
                                          have c44b0 : (t133 == 0) = false := beq_eq_false_iff_ne.mpr c44
                                          have c44b1 : (t133 != 0) = true := bne_iff_ne.mpr c44
                                          obtain rfl := Option.some.inj H
                                          go_wp2
                                          go_ret
                                          exact ⟨by first | rfl | (simp [errW_none, errW_some] <;> rfl) | (simp only [← hji6, ← hji19]; first | rfl | (simp [errW_none, errW_some] <;> rfl)) | (simp [*, errW_none, errW_some] <;> rfl), by repeat (first | (with_reducible first | exact HB.out | apply below_alloc | apply pw_below_drewN | apply below_drew1 | refine below_set ?_ GE129.out) | exact HB.out)⟩
                                      · replace c43 := Bool.eq_false_iff.mpr c43
                                        subst c43
                                        have H1 : ((graverref01_Put.f kj39 true t133 x11_4).bind fun t134 => ((graverref01_Put.f kj39 false a2 x11_4).bind fun t135 => (if t134.toList = t135.toList then ((order_Swap.f kj39 t133 x11_4).bind fun t136 => ((graverref01_Put.f kj39 false a2 x11_4).bind fun t137 => ((graverref01_Get.f kj39 false t137).bind fun t138 => (if t136 = t138 then (graverlaw01_OrderSigned.l0 kj39 a2 (wrap64 (x11_4 + 1))) else (some false))))) else (some false)))) = some r := by rw [if_neg (show ¬ (false = true) by decide)] at H; exact H
                                        clear H
                                        have H := H1
                                        clear H1
                                        replace H := Option.bind_eq_some_iff.mp H
                                        obtain ⟨t134, A450, H⟩ := H
                                        replace H : ((graverref01_Put.f kj39 false a2 x11_4).bind fun t135 => (if t134.toList = t135.toList then ((order_Swap.f kj39 t133 x11_4).bind fun t136 => ((graverref01_Put.f kj39 false a2 x11_4).bind fun t137 => ((graverref01_Get.f kj39 false t137).bind fun t138 => (if t136 = t138 then (graverlaw01_OrderSigned.l0 kj39 a2 (wrap64 (x11_4 + 1))) else (some false))))) else (some false))) = some r := H
                                        have A45 := Aside0.mk A450
                                        clear A450
                                        replace H := Option.bind_eq_some_iff.mp H
                                        obtain ⟨t135, A460, H⟩ := H
                                        replace H : (if t134.toList = t135.toList then ((order_Swap.f kj39 t133 x11_4).bind fun t136 => ((graverref01_Put.f kj39 false a2 x11_4).bind fun t137 => ((graverref01_Get.f kj39 false t137).bind fun t138 => (if t136 = t138 then (graverlaw01_OrderSigned.l0 kj39 a2 (wrap64 (x11_4 + 1))) else (some false))))) else (some false)) = some r := H
                                        have A46 := Aside0.mk A460
                                        clear A460
                                        by_cases c47 : t134.toList = t135.toList
                                        · rw [if_pos c47] at H
                                          have c47b0 : (t134.toList == t135.toList) = true := beq_iff_eq.mpr c47
                                          have c47b1 : (t134.toList != t135.toList) = false := bne_eq_false_iff_eq.mpr c47
                                          clear c47
                                          replace H := Option.bind_eq_some_iff.mp H
                                          obtain ⟨t136, A480, H⟩ := H
                                          replace H : ((graverref01_Put.f kj39 false a2 x11_4).bind fun t137 => ((graverref01_Get.f kj39 false t137).bind fun t138 => (if t136 = t138 then (graverlaw01_OrderSigned.l0 kj39 a2 (wrap64 (x11_4 + 1))) else (some false)))) = some r := H
                                          have A48 := Aside0.mk A480
                                          clear A480
                                          replace H := Option.bind_eq_some_iff.mp H
                                          obtain ⟨t137, A490, H⟩ := H
                                          replace H : ((graverref01_Get.f kj39 false t137).bind fun t138 => (if t136 = t138 then (graverlaw01_OrderSigned.l0 kj39 a2 (wrap64 (x11_4 + 1))) else (some false))) = some r := H
                                          have A49 := Aside0.mk A490
                                          clear A490
                                          replace H := Option.bind_eq_some_iff.mp H
                                          obtain ⟨t138, A500, H⟩ := H
                                          replace H : (if t136 = t138 then (graverlaw01_OrderSigned.l0 kj39 a2 (wrap64 (x11_4 + 1))) else (some false)) = some r := H
                                          have A50 := Aside0.mk A500
                                          clear A500
                                          by_cases c51 : t136 = t138
                                          · rw [if_pos c51] at H
                                            have c51b0 : (t136 == t138) = true := beq_iff_eq.mpr c51
                                            have c51b1 : (t136 != t138) = false := bne_eq_false_iff_eq.mpr c51
                                            clear c51
                                            have H' := Aside0.mk H
                                            clear H
                                            go_wp2_with (first | ((with_reducible refine gate_callee (f := 11) rfl ?_); refine goesL_ (some 93) rfl rfl Try.func11 (by kernel_rfl) rfl #[.bool true, .int .u64 t133, .int .i64 x11_4] rfl (by (try simp only [List.map_toArray, List.map_cons, List.map_nil]); first | done | rfl | (simp only [List.length_drop, List.length_take]; rfl)) ?_; (with_reducible refine (graverref01_Put.calls kj39 true t133 x11_4 t134 _ A45.out).mono ?_); rintro e w52 ⟨rfl, hb⟩; refine ⟨_, rfl, ?_⟩; have n0_ := Aside0.mk (blk_below (g := gb129) (o := .cells #[.bool a0] 25 (0, 0)) (by (with_reducible repeat (first | refine blk_drewN ?_ _ | refine blk_drew ?_ | refine blk_alloc ?_ _)); exact BK129.out) hb); have n1_ := Aside0.mk (below_step (by repeat (first | (with_reducible first | exact HB.out | apply below_alloc | apply pw_below_drewN | apply below_drew1 | refine below_set ?_ GE129.out) | exact HB.out)) hb); clear BK129; clear HB; have BK129 := n0_; have HB := n1_; clear n0_ n1_; (try clear hb); (try clear hb2); (try clear hk); (try clear hi)) | ((with_reducible refine gate_callee (f := 11) rfl ?_); refine goesL_ (some 96) rfl rfl Try.func11 (by kernel_rfl) rfl #[.bool false, .int .u64 a2, .int .i64 x11_4] rfl (by (try simp only [List.map_toArray, List.map_cons, List.map_nil]); first | done | rfl | (simp only [List.length_drop, List.length_take]; rfl)) ?_; (with_reducible refine (graverref01_Put.calls kj39 false a2 x11_4 t135 _ A46.out).mono ?_); rintro e w53 ⟨rfl, hb⟩; refine ⟨_, rfl, ?_⟩; have n0_ := Aside0.mk (blk_below (g := gb129) (o := .cells #[.bool a0] 25 (0, 0)) (by (with_reducible repeat (first | refine blk_drewN ?_ _ | refine blk_drew ?_ | refine blk_alloc ?_ _)); exact BK129.out) hb); have n1_ := Aside0.mk (below_step (by repeat (first | (with_reducible first | exact HB.out | apply below_alloc | apply pw_below_drewN | apply below_drew1 | refine below_set ?_ GE129.out) | exact HB.out)) hb); clear BK129; clear HB; have BK129 := n0_; have HB := n1_; clear n0_ n1_; (try clear hb); (try clear hb2); (try clear hk); (try clear hi)) | (go_at_call 15; (with_reducible refine (order_Swap.calls kj39 t133 x11_4 t136 _ A48.out).mono ?_); rintro e w54 ⟨rfl, hb⟩; have n0_ := Aside0.mk (blk_below (g := gb129) (o := .cells #[.bool a0] 25 (0, 0)) (by (with_reducible repeat (first | refine blk_drewN ?_ _ | refine blk_drew ?_ | refine blk_alloc ?_ _)); exact BK129.out) hb); have n1_ := Aside0.mk (below_step (by repeat (first | (with_reducible first | exact HB.out | apply below_alloc | apply pw_below_drewN | apply below_drew1 | refine below_set ?_ GE129.out) | exact HB.out)) hb); clear BK129; clear HB; have BK129 := n0_; have HB := n1_; clear n0_ n1_; (try clear hb); (try clear hb2); (try clear hk); (try clear hi)) | (go_at_call 11; (with_reducible refine (graverref01_Put.calls kj39 false a2 x11_4 t137 _ A49.out).mono ?_); rintro e w55 ⟨rfl, hb⟩; have n0_ := Aside0.mk (blk_below (g := gb129) (o := .cells #[.bool a0] 25 (0, 0)) (by (with_reducible repeat (first | refine blk_drewN ?_ _ | refine blk_drew ?_ | refine blk_alloc ?_ _)); exact BK129.out) hb); have n1_ := Aside0.mk (below_step (by repeat (first | (with_reducible first | exact HB.out | apply below_alloc | apply pw_below_drewN | apply below_drew1 | refine below_set ?_ GE129.out) | exact HB.out)) hb); clear BK129; clear HB; have BK129 := n0_; have HB := n1_; clear n0_ n1_; (try clear hb); (try clear hb2); (try clear hk); (try clear hi)) | (go_at_call 13; (with_reducible refine (graverref01_Get.calls kj39 false t137 t138 _ A50.out).mono ?_); rintro e w' ⟨rfl, ⟨nd, rfl⟩⟩))
                                            go_roundg kj39
                                            case measure => have := HJ10.out; have := HJ22.out; have := HJ26.out; have := HK4.out; have := HJ39.out; omega
                                            case rel => exact ⟨(wrap64 (x11_4 + 1)), (by first | rfl | (simp; done) | (simp [*]; done)), H', ⟨by have := HJ10.out; have := HJ22.out; have := HJ26.out; have := HK4.out; have := HJ39.out; omega⟩, ⟨by (with_reducible repeat (first | refine blk_drewN ?_ _ | refine blk_drew ?_ | refine blk_alloc ?_ _)); exact BK129.out⟩, ⟨by repeat (first | (with_reducible first | exact HB.out | apply below_alloc | apply pw_below_drewN | apply below_drew1 | refine below_set ?_ GE129.out) | exact HB.out)⟩⟩
                                          · rw [if_neg c51] at H
                                            have c51b0 : (t136 == t138) = false := beq_eq_false_iff_ne.mpr c51
                                            have c51b1 : (t136 != t138) = true := bne_iff_ne.mpr c51
                                            obtain rfl := Option.some.inj H
                                            go_wp2_with (first | ((with_reducible refine gate_callee (f := 11) rfl ?_); refine goesL_ (some 93) rfl rfl Try.func11 (by kernel_rfl) rfl #[.bool true, .int .u64 t133, .int .i64 x11_4] rfl (by (try simp only [List.map_toArray, List.map_cons, List.map_nil]); first | done | rfl | (simp only [List.length_drop, List.length_take]; rfl)) ?_; (with_reducible refine (graverref01_Put.calls kj39 true t133 x11_4 t134 _ A45.out).mono ?_); rintro e w56 ⟨rfl, hb⟩; refine ⟨_, rfl, ?_⟩; have n0_ := Aside0.mk (blk_below (g := gb129) (o := .cells #[.bool a0] 25 (0, 0)) (by (with_reducible repeat (first | refine blk_drewN ?_ _ | refine blk_drew ?_ | refine blk_alloc ?_ _)); exact BK129.out) hb); have n1_ := Aside0.mk (below_step (by repeat (first | (with_reducible first | exact HB.out | apply below_alloc | apply pw_below_drewN | apply below_drew1 | refine below_set ?_ GE129.out) | exact HB.out)) hb); clear BK129; clear HB; have BK129 := n0_; have HB := n1_; clear n0_ n1_; (try clear hb); (try clear hb2); (try clear hk); (try clear hi)) | ((with_reducible refine gate_callee (f := 11) rfl ?_); refine goesL_ (some 96) rfl rfl Try.func11 (by kernel_rfl) rfl #[.bool false, .int .u64 a2, .int .i64 x11_4] rfl (by (try simp only [List.map_toArray, List.map_cons, List.map_nil]); first | done | rfl | (simp only [List.length_drop, List.length_take]; rfl)) ?_; (with_reducible refine (graverref01_Put.calls kj39 false a2 x11_4 t135 _ A46.out).mono ?_); rintro e w57 ⟨rfl, hb⟩; refine ⟨_, rfl, ?_⟩; have n0_ := Aside0.mk (blk_below (g := gb129) (o := .cells #[.bool a0] 25 (0, 0)) (by (with_reducible repeat (first | refine blk_drewN ?_ _ | refine blk_drew ?_ | refine blk_alloc ?_ _)); exact BK129.out) hb); have n1_ := Aside0.mk (below_step (by repeat (first | (with_reducible first | exact HB.out | apply below_alloc | apply pw_below_drewN | apply below_drew1 | refine below_set ?_ GE129.out) | exact HB.out)) hb); clear BK129; clear HB; have BK129 := n0_; have HB := n1_; clear n0_ n1_; (try clear hb); (try clear hb2); (try clear hk); (try clear hi)) | (go_at_call 15; (with_reducible refine (order_Swap.calls kj39 t133 x11_4 t136 _ A48.out).mono ?_); rintro e w58 ⟨rfl, hb⟩; have n0_ := Aside0.mk (blk_below (g := gb129) (o := .cells #[.bool a0] 25 (0, 0)) (by (with_reducible repeat (first | refine blk_drewN ?_ _ | refine blk_drew ?_ | refine blk_alloc ?_ _)); exact BK129.out) hb); have n1_ := Aside0.mk (below_step (by repeat (first | (with_reducible first | exact HB.out | apply below_alloc | apply pw_below_drewN | apply below_drew1 | refine below_set ?_ GE129.out) | exact HB.out)) hb); clear BK129; clear HB; have BK129 := n0_; have HB := n1_; clear n0_ n1_; (try clear hb); (try clear hb2); (try clear hk); (try clear hi)) | (go_at_call 11; (with_reducible refine (graverref01_Put.calls kj39 false a2 x11_4 t137 _ A49.out).mono ?_); rintro e w59 ⟨rfl, hb⟩; have n0_ := Aside0.mk (blk_below (g := gb129) (o := .cells #[.bool a0] 25 (0, 0)) (by (with_reducible repeat (first | refine blk_drewN ?_ _ | refine blk_drew ?_ | refine blk_alloc ?_ _)); exact BK129.out) hb); have n1_ := Aside0.mk (below_step (by repeat (first | (with_reducible first | exact HB.out | apply below_alloc | apply pw_below_drewN | apply below_drew1 | refine below_set ?_ GE129.out) | exact HB.out)) hb); clear BK129; clear HB; have BK129 := n0_; have HB := n1_; clear n0_ n1_; (try clear hb); (try clear hb2); (try clear hk); (try clear hi)) | (go_at_call 13; (with_reducible refine (graverref01_Get.calls kj39 false t137 t138 _ A50.out).mono ?_); rintro e w' ⟨rfl, ⟨nd, rfl⟩⟩))
                                            go_ret
                                            exact ⟨by first | rfl | (simp [errW_none, errW_some] <;> rfl) | (simp only [← hji6, ← hji19]; first | rfl | (simp [errW_none, errW_some] <;> rfl)) | (simp [*, errW_none, errW_some] <;> rfl), by repeat (first | (with_reducible first | exact HB.out | apply below_alloc | apply pw_below_drewN | apply below_drew1 | refine below_set ?_ GE129.out) | exact HB.out)⟩
                                        · rw [if_neg c47] at H
                                          have c47b0 : (t134.toList == t135.toList) = false := beq_eq_false_iff_ne.mpr c47
                                          have c47b1 : (t134.toList != t135.toList) = true := bne_iff_ne.mpr c47
                                          obtain rfl := Option.some.inj H
                                          go_wp2_with (first | ((with_reducible refine gate_callee (f := 11) rfl ?_); refine goesL_ (some 93) rfl rfl Try.func11 (by kernel_rfl) rfl #[.bool true, .int .u64 t133, .int .i64 x11_4] rfl (by (try simp only [List.map_toArray, List.map_cons, List.map_nil]); first | done | rfl | (simp only [List.length_drop, List.length_take]; rfl)) ?_; (with_reducible refine (graverref01_Put.calls kj39 true t133 x11_4 t134 _ A45.out).mono ?_); rintro e w60 ⟨rfl, hb⟩; refine ⟨_, rfl, ?_⟩; have n0_ := Aside0.mk (blk_below (g := gb129) (o := .cells #[.bool a0] 25 (0, 0)) (by (with_reducible repeat (first | refine blk_drewN ?_ _ | refine blk_drew ?_ | refine blk_alloc ?_ _)); exact BK129.out) hb); have n1_ := Aside0.mk (below_step (by repeat (first | (with_reducible first | exact HB.out | apply below_alloc | apply pw_below_drewN | apply below_drew1 | refine below_set ?_ GE129.out) | exact HB.out)) hb); clear BK129; clear HB; have BK129 := n0_; have HB := n1_; clear n0_ n1_; (try clear hb); (try clear hb2); (try clear hk); (try clear hi)) | ((with_reducible refine gate_callee (f := 11) rfl ?_); refine goesL_ (some 96) rfl rfl Try.func11 (by kernel_rfl) rfl #[.bool false, .int .u64 a2, .int .i64 x11_4] rfl (by (try simp only [List.map_toArray, List.map_cons, List.map_nil]); first | done | rfl | (simp only [List.length_drop, List.length_take]; rfl)) ?_; (with_reducible refine (graverref01_Put.calls kj39 false a2 x11_4 t135 _ A46.out).mono ?_); rintro e w61 ⟨rfl, hb⟩; refine ⟨_, rfl, ?_⟩; have n0_ := Aside0.mk (blk_below (g := gb129) (o := .cells #[.bool a0] 25 (0, 0)) (by (with_reducible repeat (first | refine blk_drewN ?_ _ | refine blk_drew ?_ | refine blk_alloc ?_ _)); exact BK129.out) hb); have n1_ := Aside0.mk (below_step (by repeat (first | (with_reducible first | exact HB.out | apply below_alloc | apply pw_below_drewN | apply below_drew1 | refine below_set ?_ GE129.out) | exact HB.out)) hb); clear BK129; clear HB; have BK129 := n0_; have HB := n1_; clear n0_ n1_; (try clear hb); (try clear hb2); (try clear hk); (try clear hi)))
                                          go_ret
                                          exact ⟨by first | rfl | (simp [errW_none, errW_some] <;> rfl) | (simp only [← hji6, ← hji19]; first | rfl | (simp [errW_none, errW_some] <;> rfl)) | (simp [*, errW_none, errW_some] <;> rfl), by repeat (first | (with_reducible first | exact HB.out | apply below_alloc | apply pw_below_drewN | apply below_drew1 | refine below_set ?_ GE129.out) | exact HB.out)⟩
                                · rw [if_neg c38] at H
                                  have c38b0 : decide (x11_4 ≤ 9) = false := decide_eq_false c38
                                  clear c38
                                  obtain rfl := Option.some.inj H
                                  go_wp2
                                  go_ret
                                  exact ⟨by first | rfl | (simp [errW_none, errW_some] <;> rfl) | (simp only [← hji6, ← hji19]; first | rfl | (simp [errW_none, errW_some] <;> rfl)) | (simp [*, errW_none, errW_some] <;> rfl), by repeat (first | (with_reducible first | exact HB.out | apply below_alloc | apply pw_below_drewN | apply below_drew1 | refine below_set ?_ GE129.out) | exact HB.out)⟩
                · rw [if_neg c21] at H
                  exact absurd H (by simp)
              · rw [if_neg c20] at H
                exact absurd H (by simp)
      · rw [if_neg c8] at H
        exact absurd H (by simp)
    · rw [if_neg c7] at H
      exact absurd H (by simp)
  · replace c5 := Bool.eq_false_iff.mpr c5
    subst c5
    have H1 : (some false) = some r := by rw [if_neg (show ¬ (false = true) by decide)] at H; exact H
    clear H
    have H := H1
    clear H1
    obtain rfl := Option.some.inj H
    go_enter Try.func4, Try.ntmps4
    go_wp2_with (first | ((with_reducible refine gate_callee (f := 9) rfl ?_); refine goesL_ (some 13) rfl rfl Try.func9 (by kernel_rfl) rfl #[] rfl (by (try simp only [List.map_toArray, List.map_cons, List.map_nil]); first | done | rfl | (simp only [List.length_drop, List.length_take]; rfl)) ?_; (with_reducible refine (graverlaw01_speaks.calls k  false _ A4.out).mono ?_); rintro e w62 ⟨rfl, hb⟩; refine ⟨_, rfl, ?_⟩; have n0_ := Aside0.mk (below_step (by repeat (first | (with_reducible first | exact HB.out | apply below_alloc | apply pw_below_drewN | apply below_drew1) | exact HB.out)) hb); clear HB; have HB := n0_; clear n0_; (try clear hb); (try clear hb2); (try clear hk); (try clear hi)))
    go_ret
    exact ⟨by first | rfl | (simp [errW_none, errW_some] <;> rfl) | (simp [*, errW_none, errW_some] <;> rfl), by repeat (first | (with_reducible first | exact HB.out | apply below_alloc | apply pw_below_drewN | apply below_drew1) | exact HB.out)⟩

/-- THE ONE PURE STATEMENT of graverlaw01_OrderSigned: yours. -/
def graverlaw01_OrderSigned.Pure : Prop := ∀ (a0 : Bool) (a1 : ByteArray) (a2 : Int), a1.size ≤ 140737488351232 → (Lit.int .u64 a2).wf = true → ∃ k, graverlaw01_OrderSigned.f k a0 a1 a2 = some true
theorem graverlaw01_OrderSigned.walk (P : graverlaw01_OrderSigned.Pure) (a0 : Bool) (a1 : ByteArray) (a2 : Int) (w : World) (w1 : a1.size ≤ 140737488351232) (w2 : (Lit.int .u64 a2).wf = true) :
    Calls Try.prog 4 #[.bool a0, .string a1, .int .u64 a2] w fun e w' => e = .returned (.bool true) ∧ Below w.heap.size w w' := by
  obtain ⟨k, h⟩ := P a0 a1 a2 w1 w2
  refine (graverlaw01_OrderSigned.calls k a0 a1 a2 true w h).mono ?_
  rintro e w' ⟨rfl, hd⟩
  exact ⟨rfl, hd⟩

end Go.Proofs.Ythbkjppaimjpmaa.Q
