/- Walks. No condition but those in the statements. -/
import Derived.Test.YtceilmhinkkgfaaDoorPts
set_option linter.unusedVariables false
set_option linter.unusedSimpArgs false
section
namespace Go.Proofs.YtceilmhinkkgfaaDoor.Q
open Go.RowKit Go.Proofs.YtceilmhinkkgfaaDoorW.PrintWords Go.Proofs.YtceilmhinkkgfaaDoorW.PrintLast Go.Proofs.YtceilmhinkkgfaaDoorW.PrintMore
attribute [local go_sem] max2_int min2_int max_two min_two max_three min_three max_four min_four

mutual
def g01Get.l0 : Nat → Bool → ByteArray → Int → Int → Option (Int)
 | 0, _, _, _, _ => none
 | k + 1, x0, x1, x5, x6 => if x6 < (x1.size : Int) then (g01Get.j1 k x0 x1 x5 x6 (decide ((x1.size : Int) ≤ 8))) else (g01Get.j1 k x0 x1 x5 x6 false)
def g01Get.j1 : Nat → Bool → ByteArray → Int → Int → Bool → Option (Int)
 | 0, _, _, _, _, _ => none
 | k + 1, x0, x1, x5, x6, x15 => if x15 = true then (if x0 = true then (if 0 ≤ x6 then (if x6 < (x1.size : Int) then (g01Get.l0 k x0 x1 (IntKind.u64.wrap ((IntKind.u64.wrap (256 * x5)) + (IntKind.u64.wrap (bt x1 x6)))) (wrap64 (x6 + 1))) else (none)) else (none)) else (if 0 ≤ (wrap64 ((wrap64 ((x1.size : Int) - 1)) - x6)) then (if (wrap64 ((wrap64 ((x1.size : Int) - 1)) - x6)) < (x1.size : Int) then (g01Get.l0 k x0 x1 (IntKind.u64.wrap ((IntKind.u64.wrap (256 * x5)) + (IntKind.u64.wrap (bt x1 (wrap64 ((wrap64 ((x1.size : Int) - 1)) - x6)))))) (wrap64 (x6 + 1))) else (none)) else (none))) else (some x5)
end
def g01Get.f (k : Nat) (a0 : Bool) (a1 : ByteArray) : Option (Int) := g01Get.l0 k a0 a1 0 0
theorem g01Get.mono_l : ∀ k, (∀ y0 y1 y2 y3, LeO (g01Get.l0 k y0 y1 y2 y3) (g01Get.l0 (k + 1) y0 y1 y2 y3)) ∧ (∀ y0 y1 y2 y3 y4, LeO (g01Get.j1 k y0 y1 y2 y3 y4) (g01Get.j1 (k + 1) y0 y1 y2 y3 y4))
 | 0 => ⟨fun _ _ _ _ r h => by simp [g01Get.l0] at h, fun _ _ _ _ _ r h => by simp [g01Get.j1] at h⟩
 | k + 1 => by
  obtain ⟨ih0, ih1⟩ := g01Get.mono_l k; refine ⟨?_, ?_⟩
  ·intro y0 y1 y2 y3
   unfold g01Get.l0
   repeat' first
   | (with_reducible apply ih0)
   | (with_reducible apply ih1)
   | (with_reducible exact LeO.refl _)
   | (with_reducible exact LeO.none _)
   | (with_reducible refine LeO.ite ?_ ?_)
   | (with_reducible refine LeO.bind ?_ (fun _ => ?_))
   | exact ih0 _ _ _ _
   | exact ih1 _ _ _ _ _
   | exact LeO.none _
   | refine LeO.ite ?_ ?_
   | refine LeO.bind ?_ (fun _ => ?_)
  ·intro y0 y1 y2 y3 y4
   unfold g01Get.j1
   repeat' first
   | (with_reducible apply ih0)
   | (with_reducible apply ih1)
   | (with_reducible exact LeO.refl _)
   | (with_reducible exact LeO.none _)
   | (with_reducible refine LeO.ite ?_ ?_)
   | (with_reducible refine LeO.bind ?_ (fun _ => ?_))
   | exact ih0 _ _ _ _
   | exact ih1 _ _ _ _ _
   | exact LeO.none _
   | refine LeO.ite ?_ ?_
   | refine LeO.bind ?_ (fun _ => ?_)
theorem g01Get.mono : ∀ a0 a1 k, LeO (g01Get.f k a0 a1) (g01Get.f (k + 1) a0 a1) := by
 intro a0 a1 k; obtain ⟨ih0, ih1⟩ := g01Get.mono_l k; unfold g01Get.f
 repeat' first
  | (with_reducible apply ih0)
  | (with_reducible apply ih1)
  | (with_reducible exact LeO.refl _)
  | (with_reducible exact LeO.none _)
  | (with_reducible refine LeO.ite ?_ ?_)
  | (with_reducible refine LeO.bind ?_ (fun _ => ?_))
  | exact ih0 _ _ _ _
  | exact ih1 _ _ _ _ _
  | exact LeO.none _
  | refine LeO.ite ?_ ?_
  | refine LeO.bind ?_ (fun _ => ?_)
set_option maxHeartbeats 8000000 in
set_option maxRecDepth 100000 in
theorem g01Get.calls (k : Nat) (a0 : Bool) (a1 : ByteArray) (r : Int) (w : World) (h : g01Get.f k a0 a1 = some r) :
 Calls Tryd.prog 55 #[.bool a0, .string a1] w fun e w' => e = .returned (.int .u64 r) ∧ Drawn0 w w' := by
 have H : (g01Get.l0 k a0 a1 0 0) = some r := h; clear h; have H' := aS H; clear H; go_enter Tryd.func55, Tryd.ntmps55; (go_wp2); go_loopg [5, 6] k (fun kq v5 v6 w' => ∃ (x5_1 : Int) (x6_1 : Int), v5 = .int .u64 x5_1 ∧ v6 = .int .i64 x6_1 ∧ Aside0 (g01Get.l0 kq a0 a1 x5_1 x6_1 = some r) ∧ Aside0 (kq ≤ k) ∧ Drawn0 w w')
 case atStart => exact ⟨(0), (0), sr, sr, H', ⟨Nat.le_refl _⟩, by repeat (first | exact Drawn0.refl _ | apply Drawn0.step)⟩
 case round =>
  clear H'; (try clear p2); obtain ⟨x5_1, x6_1, rfl, rfl, HA, HK1, ⟨m1, rfl⟩⟩ := hrel
  cases gk with
  | zero => exact absurd HA.out (by simp [g01Get.l0])
  | succ k1 =>
   have H := HA.out; clear HA; simp only [g01Get.l0] at H; have HC3 := aS H; clear H; (go_upto_region 3 with (fail)); go_cut [15] (fun v15 wc => ∃ (kq : Nat) (x15_2 : Bool), v15 = .bool x15_2 ∧ Aside0 (g01Get.j1 kq a0 a1 x5_1 x6_1 x15_2 = some r) ∧ Aside0 (kq ≤ k1) ∧ Drawn0 w wc)
   case first =>
    have H := HC3.out; clear HC3
    by_cases c4 : x6_1 < (a1.size : Int)
    ·rw [if_pos c4] at H
     have c4b0 : decide (x6_1 < (a1.size : Int)) = true := decide_eq_true c4; clear c4; ((first | rw [c4b0] | (simp only [i64_w, i32_w]; rw [c4b0]) | skip)); have H' := aS H; clear H; (go_wp2); go_meet
     case rel => exact ⟨_, (decide ((a1.size : Int) ≤ 8)), sr, H', ⟨by have := HK1.out; first | omega | exact Nat.le_refl _⟩, by repeat (first | exact Drawn0.refl _ | apply Drawn0.step)⟩
    ·rw [if_neg c4] at H
     have c4b0 : decide (x6_1 < (a1.size : Int)) = false := decide_eq_false c4; clear c4; ((first | rw [c4b0] | (simp only [i64_w, i32_w]; rw [c4b0]) | skip)); have H' := aS H; clear H; (go_wp2); go_meet
     case rel => exact ⟨_, (false), sr, H', ⟨by have := HK1.out; first | omega | exact Nat.le_refl _⟩, by repeat (first | exact Drawn0.refl _ | apply Drawn0.step)⟩
   case rest =>
    clear HC3; (try clear c4); (try clear c4b0); obtain ⟨kq, x15_2, rfl, HA, HJ2, ⟨mc2, rfl⟩⟩ := hcut
    cases kq with
    | zero => exact absurd HA.out (by simp [g01Get.j1])
    | succ kj2 =>
     have H := HA.out; clear HA; simp only [g01Get.j1] at H
     by_cases c5 : x15_2 = true
     ·subst c5
      (have H1 : (if a0 = true then (if 0 ≤ x6_1 then (if x6_1 < (a1.size : Int) then (g01Get.l0 kj2 a0 a1 (IntKind.u64.wrap ((IntKind.u64.wrap (256 * x5_1)) + (IntKind.u64.wrap (bt a1 x6_1)))) (wrap64 (x6_1 + 1))) else (none)) else (none)) else (if 0 ≤ (wrap64 ((wrap64 ((a1.size : Int) - 1)) - x6_1)) then (if (wrap64 ((wrap64 ((a1.size : Int) - 1)) - x6_1)) < (a1.size : Int) then (g01Get.l0 kj2 a0 a1 (IntKind.u64.wrap ((IntKind.u64.wrap (256 * x5_1)) + (IntKind.u64.wrap (bt a1 (wrap64 ((wrap64 ((a1.size : Int) - 1)) - x6_1)))))) (wrap64 (x6_1 + 1))) else (none)) else (none))) = some r := by rw [if_pos rfl] at H; exact H); clear H; have H := H1; clear H1
      by_cases c6 : a0 = true
      ·subst c6
       (have H1 : (if 0 ≤ x6_1 then (if x6_1 < (a1.size : Int) then (g01Get.l0 kj2 true a1 (IntKind.u64.wrap ((IntKind.u64.wrap (256 * x5_1)) + (IntKind.u64.wrap (bt a1 x6_1)))) (wrap64 (x6_1 + 1))) else (none)) else (none)) = some r := by rw [if_pos rfl] at H; exact H); clear H; have H := H1; clear H1
       by_cases c7 : 0 ≤ x6_1
       ·rw [if_pos c7] at H
        have c7b0 : decide (0 ≤ x6_1) = true := decide_eq_true c7; clear c7
        by_cases c8 : x6_1 < (a1.size : Int)
        ·rw [if_pos c8] at H
         have c8b0 : decide (x6_1 < (a1.size : Int)) = true := decide_eq_true c8; clear c8; have H' := aS H; clear H; (have p9 : 0 ≤ (x6_1 : Int) := of_decide_eq_true (by first | (with_reducible assumption) | assumption)); (have q9 : x6_1 < (a1.size : Int) := of_decide_eq_true (by first | (with_reducible assumption) | assumption)); have hx9 := bt_at a1 x6_1; replace p9 := eq_true p9; replace q9 := eq_true q9; (go_wp2); go_roundg kj2
         case measure => have := HK1.out; have := HJ2.out; omega
         case rel => exact ⟨(IntKind.u64.wrap ((IntKind.u64.wrap (256 * x5_1)) + (IntKind.u64.wrap (bt a1 x6_1)))), (wrap64 (x6_1 + 1)), sr, sr, H', ⟨by have := HK1.out; have := HJ2.out; omega⟩, by repeat (first | exact Drawn0.refl _ | apply Drawn0.step)⟩
        ·(rw [if_neg c8] at H); exact absurd H (by simp)
       ·(rw [if_neg c7] at H); exact absurd H (by simp)
      ·replace c6 := Bool.eq_false_iff.mpr c6
       subst c6; (have H1 : (if 0 ≤ (wrap64 ((wrap64 ((a1.size : Int) - 1)) - x6_1)) then (if (wrap64 ((wrap64 ((a1.size : Int) - 1)) - x6_1)) < (a1.size : Int) then (g01Get.l0 kj2 false a1 (IntKind.u64.wrap ((IntKind.u64.wrap (256 * x5_1)) + (IntKind.u64.wrap (bt a1 (wrap64 ((wrap64 ((a1.size : Int) - 1)) - x6_1)))))) (wrap64 (x6_1 + 1))) else (none)) else (none)) = some r := by rw [if_neg (show ¬ (false = true) by decide)] at H; exact H); clear H; have H := H1; clear H1; obtain ⟨ji10, hji10⟩ : ∃ j_ : Int, (wrap64 ((wrap64 ((a1.size : Int) - 1)) - x6_1)) = j_ := ⟨_, rfl⟩; (replace H : (if 0 ≤ (ji10) then (if (ji10) < (a1.size : Int) then (g01Get.l0 kj2 false a1 (IntKind.u64.wrap ((IntKind.u64.wrap (256 * x5_1)) + (IntKind.u64.wrap (bt a1 (ji10))))) (wrap64 (x6_1 + 1))) else (none)) else (none)) = some r := by first | (rw [hji10] at H; exact H) | (simp only [hji10] at H ⊢; exact H)); have hji10w : (IntKind.i64.wrap ((wrap64 ((a1.size : Int) - 1)) - x6_1)) = ji10 := (i64_w _).trans hji10
       by_cases c11 : 0 ≤ (ji10)
       ·rw [if_pos c11] at H
        have c11b0 : decide (0 ≤ (ji10)) = true := decide_eq_true c11; clear c11
        by_cases c12 : (ji10) < (a1.size : Int)
        ·rw [if_pos c12] at H
         have c12b0 : decide ((ji10) < (a1.size : Int)) = true := decide_eq_true c12; clear c12; have H' := aS H; clear H; (have p13 : 0 ≤ ((ji10) : Int) := of_decide_eq_true (by first | (with_reducible assumption) | assumption)); (have q13 : (ji10) < (a1.size : Int) := of_decide_eq_true (by first | (with_reducible assumption) | assumption)); have hx13 := bt_at a1 (ji10); replace p13 := eq_true p13; replace q13 := eq_true q13; (go_wp2); go_roundg kj2
         case measure => have := HK1.out; have := HJ2.out; omega
         case rel => exact ⟨(IntKind.u64.wrap ((IntKind.u64.wrap (256 * x5_1)) + (IntKind.u64.wrap (bt a1 (ji10))))), (wrap64 (x6_1 + 1)), (by first | rfl | (simp; done) | (simp only [← hji10] <;> (first | rfl | simp)) | (simp [*]; done)), sr, H', ⟨by have := HK1.out; have := HJ2.out; omega⟩, by repeat (first | exact Drawn0.refl _ | apply Drawn0.step)⟩
        ·(rw [if_neg c12] at H); exact absurd H (by simp)
       ·(rw [if_neg c11] at H); exact absurd H (by simp)
     ·replace c5 := Bool.eq_false_iff.mpr c5
      subst c5; (have H1 : (some x5_1) = some r := by rw [if_neg (show ¬ (false = true) by decide)] at H; exact H); clear H; have H := H1; clear H1; obtain rfl := Option.some.inj H; (go_wp2); go_ret
      exact ⟨by first | rfl | (simp; done) | (simp [*]; done), by repeat (first | exact Drawn0.refl _ | apply Drawn0.step)⟩

def g11Num.f (k : Nat) (a0 : Bool) (a1 : ByteArray) (a2 : Int) (a3 : Int) : Option (Int) := if 0 ≤ a2 then (if a2 ≤ (IntKind.u64.wrap (a2 + a3)) then (if (IntKind.u64.wrap (a2 + a3)) ≤ (a1.size : Int) then ((g01Get.f k a0 (a1.extract (a2 : Int).toNat ((IntKind.u64.wrap (a2 + a3)) : Int).toNat)).bind fun t333 => (some t333)) else (none)) else (none)) else (none)
theorem g11Num.mono : ∀ a0 a1 a2 a3 k, LeO (g11Num.f k a0 a1 a2 a3) (g11Num.f (k + 1) a0 a1 a2 a3) := by
 intro a0 a1 a2 a3 k; unfold g11Num.f
 repeat' first
  | (with_reducible exact g01Get.mono _ _ _)
  | (with_reducible exact LeO.refl _)
  | (with_reducible exact LeO.none _)
  | (with_reducible refine LeO.ite ?_ ?_)
  | (with_reducible refine LeO.bind ?_ (fun _ => ?_))
  | exact g01Get.mono _ _ _
  | exact LeO.none _
  | refine LeO.ite ?_ ?_
  | refine LeO.bind ?_ (fun _ => ?_)
set_option maxHeartbeats 8000000 in
set_option maxRecDepth 100000 in
theorem g11Num.calls (k : Nat) (a0 : Bool) (a1 : ByteArray) (a2 : Int) (a3 : Int) (r : Int) (w : World) (h : g11Num.f k a0 a1 a2 a3 = some r) :
 Calls Tryd.prog 33 #[.bool a0, .string a1, .int .u64 a2, .int .u64 a3] w fun e w' => e = .returned (.int .u64 r) ∧ Drawn0 w w' := by
 (have H : (if 0 ≤ a2 then (if a2 ≤ (IntKind.u64.wrap (a2 + a3)) then (if (IntKind.u64.wrap (a2 + a3)) ≤ (a1.size : Int) then ((g01Get.f k a0 (a1.extract (a2 : Int).toNat ((IntKind.u64.wrap (a2 + a3)) : Int).toNat)).bind fun t333 => (some t333)) else (none)) else (none)) else (none)) = some r := h); clear h
 by_cases c5 : 0 ≤ a2
 ·rw [if_pos c5] at H
  have c5b0 := eq_true c5; have c5b1 : decide (0 ≤ a2) = true := decide_eq_true c5; clear c5
  by_cases c6 : a2 ≤ (IntKind.u64.wrap (a2 + a3))
  ·rw [if_pos c6] at H
   have c6b0 := eq_true c6; have c6b1 : decide (a2 ≤ (IntKind.u64.wrap (a2 + a3))) = true := decide_eq_true c6
   by_cases c7 : (IntKind.u64.wrap (a2 + a3)) ≤ (a1.size : Int)
   ·(rw [if_pos c7] at H); have c7b0 := eq_true c7; have c7b1 : decide ((IntKind.u64.wrap (a2 + a3)) ≤ (a1.size : Int)) = true := decide_eq_true c7; obtain ⟨sc8, hsc8⟩ : ∃ s_ : ByteArray, (a1.extract (a2 : Int).toNat ((IntKind.u64.wrap (a2 + a3)) : Int).toNat) = s_ := ⟨_, rfl⟩; (replace H : ((g01Get.f k a0 sc8).bind fun t333 => (some t333)) = some r := by first | (rw [hsc8] at H; exact H) | (simp only [hsc8] at H ⊢; exact H) | exact H); ((try (have hsc8n := hsc8; simp only [Int.toNat_natCast] at hsc8n))); replace H := Option.bind_eq_some_iff.mp H; obtain ⟨t333, A90, H⟩ := H; replace H : (some t333) = some r := H; have A9 := aS A90; clear A90; obtain rfl := Option.some.inj H; go_enter Tryd.func33, Tryd.ntmps33; (go_wp2_with (first | ((with_reducible refine gate_callee (f := 55) rfl ?_); refine gL (some 16) Tryd.func55 #[.bool a0, .string sc8] ?_; (with_reducible refine (g01Get.calls k a0 sc8 t333 _ A9.out).mono ?_); rintro e w' ⟨rfl, ⟨nd, rfl⟩⟩; refine ⟨_, rfl, ?_⟩))); (go_ret); exact ⟨by first | rfl | (simp; done) | (simp [*]; done), by repeat (first | exact Drawn0.refl _ | apply Drawn0.step)⟩
   ·(rw [if_neg c7] at H); exact absurd H (by simp)
  ·(rw [if_neg c6] at H); exact absurd H (by simp)
 ·rw [if_neg c5] at H
  exact absurd H (by simp)

end Go.Proofs.YtceilmhinkkgfaaDoor.Q
end
section
namespace Go.Proofs.YtceilmhinkkgfaaDoor.Q
open Go.RowKit Go.Proofs.YtceilmhinkkgfaaDoorW.PrintWords Go.Proofs.YtceilmhinkkgfaaDoorW.PrintLast Go.Proofs.YtceilmhinkkgfaaDoorW.PrintMore
attribute [local go_sem] max2_int min2_int max_two min_two max_three min_three max_four min_four

def g11Head.g8 (k : Nat) (b : Bool) (s : ByteArray) : Option (Int × Int × Int × Int × Int × Int × Int × Int × Int) := (g11Num.f k b s 52 2).bind fun n0 => (g11Num.f k b s 54 2).bind fun n1 => (g11Num.f k b s 56 2).bind fun n2 => (g11Num.f k b s 58 2).bind fun n3 => (g11Num.f k b s 60 2).bind fun n4 => (g11Num.f k b s 62 2).bind fun n5 => (g11Num.f k b s 32 8).bind fun p => (g11Num.f k b s 40 8).bind fun q => some (8, p, q, n0, n1, n2, n3, n4, n5)
theorem g11Head.mono_g8 (k : Nat) (b : Bool) (s : ByteArray) : LeO (g11Head.g8 k b s) (g11Head.g8 (k + 1) b s) := LeO.bind (g11Num.mono _ _ _ _ _) (fun _ => LeO.bind (g11Num.mono _ _ _ _ _) (fun _ => LeO.bind (g11Num.mono _ _ _ _ _) (fun _ => LeO.bind (g11Num.mono _ _ _ _ _) (fun _ => LeO.bind (g11Num.mono _ _ _ _ _) (fun _ => LeO.bind (g11Num.mono _ _ _ _ _) (fun _ => LeO.bind (g11Num.mono _ _ _ _ _) (fun _ => LeO.bind (g11Num.mono _ _ _ _ _) (fun _ => LeO.refl _))))))))
def g11Head.g4 (k : Nat) (b : Bool) (s : ByteArray) : Option (Int × Int × Int × Int × Int × Int × Int × Int × Int) := (g11Num.f k b s 40 2).bind fun n0 => (g11Num.f k b s 42 2).bind fun n1 => (g11Num.f k b s 44 2).bind fun n2 => (g11Num.f k b s 46 2).bind fun n3 => (g11Num.f k b s 48 2).bind fun n4 => (g11Num.f k b s 50 2).bind fun n5 => (g11Num.f k b s 28 4).bind fun p => (g11Num.f k b s 32 4).bind fun q => some (4, p, q, n0, n1, n2, n3, n4, n5)
theorem g11Head.mono_g4 (k : Nat) (b : Bool) (s : ByteArray) : LeO (g11Head.g4 k b s) (g11Head.g4 (k + 1) b s) := LeO.bind (g11Num.mono _ _ _ _ _) (fun _ => LeO.bind (g11Num.mono _ _ _ _ _) (fun _ => LeO.bind (g11Num.mono _ _ _ _ _) (fun _ => LeO.bind (g11Num.mono _ _ _ _ _) (fun _ => LeO.bind (g11Num.mono _ _ _ _ _) (fun _ => LeO.bind (g11Num.mono _ _ _ _ _) (fun _ => LeO.bind (g11Num.mono _ _ _ _ _) (fun _ => LeO.bind (g11Num.mono _ _ _ _ _) (fun _ => LeO.refl _))))))))
def g11Head.f (k : Nat) (s : ByteArray) : Option (Int × Int × Int × Int × Int × Int × Int × Int × Int) := if 5 < (s.size : Int) then (if bt s 4 = 2 then g11Head.g8 k (bt s 5 == 2) s else g11Head.g4 k (bt s 5 == 2) s) else none
theorem g11Head.mono : ∀ a0 k, LeO (g11Head.f k a0) (g11Head.f (k + 1) a0) := fun a0 k => LeO.ite (LeO.ite (g11Head.mono_g8 _ _ _) (g11Head.mono_g4 _ _ _)) (LeO.refl _)
theorem g11Head.blk {w w' : World} {g : Nat} {o : Obj} (h : w.heap[g]? = some o) (hd : Drawn0 w w') : w'.heap[g]? = some o := by
 obtain ⟨⟨n, rfl⟩⟩ := hd; exact h
def g11Head.T10 : Bool × List (List Nat × List Nat) := (true, [([], []), ([], []), ([], []), ([], []), ([3], [3]), ([], []), ([1, 2, 4, 5], [1, 2, 4, 5]), ([], []), ([], []), ([], []), ([9], [9]), ([10], [10]), ([], []), ([7, 8, 11, 12, 6], [7, 8, 11, 12]), ([], []), ([0, 13, 0], [0]), ([6, 15, 0, 1, 2, 3, 4, 5, 6, 15], [6]), ([13, 16, 0, 1, 2, 3, 4, 5, 6, 7, 8, 9, 10, 11, 12, 13, 15, 16], [13]), ([14, 17, 0, 1, 2, 3, 4, 5, 6, 7, 8, 9, 10, 11, 12, 13, 14, 15, 16, 17], [14])])
def g11Head.B10 : List Nat := [0, 0, 0, 0, 8, 0, 62, 0, 0, 0, 512, 1536, 0, 8190, 0, 16383, 49151, 114687, 262143]
theorem g11Head.tab10 : rtab .any (opsOf Tryd.f11 10) = g11Head.T10 := by kernel_rfl
theorem g11Head.bits10 : waitsOk g11Head.T10.2 g11Head.B10 = true := by kernel_rfl
set_option maxHeartbeats 8000000 in
set_option maxRecDepth 100000 in
theorem g11Head.calls (k : Nat) (s : ByteArray) (r1 r2 r3 r4 r5 r6 r7 r8 r9 : Int) (w : World) (h : g11Head.f k s = some (r1, r2, r3, r4, r5, r6, r7, r8, r9)) :
 Calls Tryd.prog 11 #[.string s] w fun e w' => e = .returned (.tuple #[.int .u64 r1, .int .u64 r2, .int .u64 r3, .agg #[.int .u64 r4, .int .u64 r5, .int .u64 r6, .int .u64 r7, .int .u64 r8, .int .u64 r9]]) ∧ Below w.heap.size w w' := by
 unfold g11Head.f at h
 by_cases p0 : 5 < (s.size : Int)
 ·rw [if_pos p0] at h
  (have p1 : 4 < (s.size : Int) := by omega); generalize hb : (bt s 5 == 2) = b at h
  by_cases c : bt s 4 = 2
  ·rw [if_pos c] at h
   (have cb : (bt s 4 == 2) = true := by simp [c]); unfold g11Head.g8 at h; obtain ⟨n0, h0, h⟩ := Option.bind_eq_some_iff.mp h; have H0 := aS h0; clear h0; obtain ⟨n1, h1, h⟩ := Option.bind_eq_some_iff.mp h; have H1 := aS h1; clear h1; obtain ⟨n2, h2, h⟩ := Option.bind_eq_some_iff.mp h; have H2 := aS h2; clear h2; obtain ⟨n3, h3, h⟩ := Option.bind_eq_some_iff.mp h; have H3 := aS h3; clear h3; obtain ⟨n4, h4, h⟩ := Option.bind_eq_some_iff.mp h; have H4 := aS h4; clear h4; obtain ⟨n5, h5, h⟩ := Option.bind_eq_some_iff.mp h; have H5 := aS h5; clear h5; obtain ⟨p, hp, h⟩ := Option.bind_eq_some_iff.mp h; have Hp := aS hp; clear hp; obtain ⟨q, hq, h⟩ := Option.bind_eq_some_iff.mp h; have Hq := aS hq; clear hq; simp only [Option.some.injEq, Prod.mk.injEq] at h; obtain ⟨rfl, rfl, rfl, rfl, rfl, rfl, rfl, rfl, rfl⟩ := h; have hx5 : ∀ h : 5 < s.size, ((s[5]'h).toNat : Int) = bt s 5 := bt_at s 5; have hx4 : ∀ h : 4 < s.size, ((s[4]'h).toNat : Int) = bt s 4 := bt_at s 4; go_enter Tryd.func11, Tryd.ntmps11; (go_wp2); have HB := aS (show Below w.heap.size w ((w.alloc (Obj.cells #[Value.int IntKind.u64 0, Value.int IntKind.u64 0, Value.int IntKind.u64 0, Value.int IntKind.u64 0, Value.int IntKind.u64 0, Value.int IntKind.u64 0] 47)).alloc (Obj.cells #[Value.int IntKind.u64 0, Value.int IntKind.u64 0, Value.int IntKind.u64 0, Value.int IntKind.u64 0, Value.int IntKind.u64 0, Value.int IntKind.u64 0] 47)) from below_alloc (below_alloc (Below.refl _ _) _) _); have BR := aS (show ((w.alloc (Obj.cells #[Value.int IntKind.u64 0, Value.int IntKind.u64 0, Value.int IntKind.u64 0, Value.int IntKind.u64 0, Value.int IntKind.u64 0, Value.int IntKind.u64 0] 47)).alloc (Obj.cells #[Value.int IntKind.u64 0, Value.int IntKind.u64 0, Value.int IntKind.u64 0, Value.int IntKind.u64 0, Value.int IntKind.u64 0, Value.int IntKind.u64 0] 47)).heap[w.heap.size]? = some (.cells #[Value.int IntKind.u64 0, Value.int IntKind.u64 0, Value.int IntKind.u64 0, Value.int IntKind.u64 0, Value.int IntKind.u64 0, Value.int IntKind.u64 0] 47 (0, 0)) from blk_alloc (heap_alloc_new w _) _)
   (have BL := aS (show ((w.alloc (Obj.cells #[Value.int IntKind.u64 0, Value.int IntKind.u64 0, Value.int IntKind.u64 0, Value.int IntKind.u64 0, Value.int IntKind.u64 0, Value.int IntKind.u64 0] 47)).alloc (Obj.cells #[Value.int IntKind.u64 0, Value.int IntKind.u64 0, Value.int IntKind.u64 0, Value.int IntKind.u64 0, Value.int IntKind.u64 0, Value.int IntKind.u64 0] 47)).heap[w.heap.size + 1]? = some (.cells #[Value.int IntKind.u64 0, Value.int IntKind.u64 0, Value.int IntKind.u64 0, Value.int IntKind.u64 0, Value.int IntKind.u64 0, Value.int IntKind.u64 0] 47 (0, 0)) from (by have := heap_alloc_new (w.alloc (Obj.cells #[Value.int IntKind.u64 0, Value.int IntKind.u64 0, Value.int IntKind.u64 0, Value.int IntKind.u64 0, Value.int IntKind.u64 0, Value.int IntKind.u64 0] 47)) (Obj.cells #[Value.int IntKind.u64 0, Value.int IntKind.u64 0, Value.int IntKind.u64 0, Value.int IntKind.u64 0, Value.int IntKind.u64 0, Value.int IntKind.u64 0] 47); simpa using this))); (have NB := aS (show w.heap.size ≠ w.heap.size + 1 from by omega)); (have GB := aS (show w.heap.size ≤ w.heap.size + 1 from by omega)); generalize hg8 : w.heap.size + 1 = g8 at BL NB GB ⊢; clear hg8; generalize ((w.alloc (Obj.cells #[Value.int IntKind.u64 0, Value.int IntKind.u64 0, Value.int IntKind.u64 0, Value.int IntKind.u64 0, Value.int IntKind.u64 0, Value.int IntKind.u64 0] 47)).alloc (Obj.cells #[Value.int IntKind.u64 0, Value.int IntKind.u64 0, Value.int IntKind.u64 0, Value.int IntKind.u64 0, Value.int IntKind.u64 0, Value.int IntKind.u64 0] 47)) = W0 at HB BR BL ⊢
   refine wp_loop_rounds 7 ?_; rw [rounds_succ]; (go_wp2_with (go_at_call 33; refine (g11Num.calls k b s 52 2 n0 _ H0.out).mono ?_; rintro e w1 ⟨rfl, hd⟩; have BL_ := aS (g11Head.blk BL.out hd); have BR_ := aS (g11Head.blk BR.out hd); have HB_ := aS (below_step HB.out hd.below); clear BL BR HB hd; have BL := BL_; have BR := BR_; have HB := HB_; clear BL_ BR_ HB_; have hc0 := (blk_cell BL.out 0).trans rfl; have hf0 := blk_frozen BL.out 0)); have BLX := aS (show (w1.setCell ⟨g8, 0, none⟩ (.int .u64 n0)).heap[g8]? = some (.cells #[.int .u64 n0, .int .u64 0, .int .u64 0, .int .u64 0, .int .u64 0, .int .u64 0] 47 (0, 0)) from blk_put (cs := #[.int .u64 0, .int .u64 0, .int .u64 0, .int .u64 0, .int .u64 0, .int .u64 0]) BL.out 0 _ rfl); have BRX := aS (blk_far BR.out NB.out (p := ⟨g8, 0, none⟩) (.int .u64 n0)); have HBX := aS (below_set HB.out GB.out : Below w.heap.size w (w1.setCell ⟨g8, 0, none⟩ (.int .u64 n0))); clear BL BR HB hc0 hf0; generalize w1.setCell ⟨g8, 0, none⟩ (.int .u64 n0) = W1 at BLX BRX HBX ⊢; have BL := BLX; have BR := BRX; have HB := HBX; clear BLX BRX HBX; rw [rounds_succ]; go_wp2_with (go_at_call 33; refine (g11Num.calls k b s 54 2 n1 _ H1.out).mono ?_; rintro e w2 ⟨rfl, hd⟩; have BL_ := aS (g11Head.blk BL.out hd); have BR_ := aS (g11Head.blk BR.out hd); have HB_ := aS (below_step HB.out hd.below); clear BL BR HB hd; have BL := BL_; have BR := BR_; have HB := HB_; clear BL_ BR_ HB_; have hc1 := (blk_cell BL.out 1).trans rfl; have hf1 := blk_frozen BL.out 1)
   have BLX := aS (show (w2.setCell ⟨g8, 1, none⟩ (.int .u64 n1)).heap[g8]? = some (.cells #[.int .u64 n0, .int .u64 n1, .int .u64 0, .int .u64 0, .int .u64 0, .int .u64 0] 47 (0, 0)) from blk_put (cs := #[.int .u64 n0, .int .u64 0, .int .u64 0, .int .u64 0, .int .u64 0, .int .u64 0]) BL.out 1 _ rfl); have BRX := aS (blk_far BR.out NB.out (p := ⟨g8, 1, none⟩) (.int .u64 n1)); have HBX := aS (below_set HB.out GB.out : Below w.heap.size w (w2.setCell ⟨g8, 1, none⟩ (.int .u64 n1))); clear BL BR HB hc1 hf1; generalize w2.setCell ⟨g8, 1, none⟩ (.int .u64 n1) = W2 at BLX BRX HBX ⊢; have BL := BLX; have BR := BRX; have HB := HBX; clear BLX BRX HBX; rw [rounds_succ]; (go_wp2_with (go_at_call 33; refine (g11Num.calls k b s 56 2 n2 _ H2.out).mono ?_; rintro e w3 ⟨rfl, hd⟩; have BL_ := aS (g11Head.blk BL.out hd); have BR_ := aS (g11Head.blk BR.out hd); have HB_ := aS (below_step HB.out hd.below); clear BL BR HB hd; have BL := BL_; have BR := BR_; have HB := HB_; clear BL_ BR_ HB_; have hc2 := (blk_cell BL.out 2).trans rfl; have hf2 := blk_frozen BL.out 2)); have BLX := aS (show (w3.setCell ⟨g8, 2, none⟩ (.int .u64 n2)).heap[g8]? = some (.cells #[.int .u64 n0, .int .u64 n1, .int .u64 n2, .int .u64 0, .int .u64 0, .int .u64 0] 47 (0, 0)) from blk_put (cs := #[.int .u64 n0, .int .u64 n1, .int .u64 0, .int .u64 0, .int .u64 0, .int .u64 0]) BL.out 2 _ rfl); have BRX := aS (blk_far BR.out NB.out (p := ⟨g8, 2, none⟩) (.int .u64 n2)); have HBX := aS (below_set HB.out GB.out : Below w.heap.size w (w3.setCell ⟨g8, 2, none⟩ (.int .u64 n2)))
   clear BL BR HB hc2 hf2; generalize w3.setCell ⟨g8, 2, none⟩ (.int .u64 n2) = W3 at BLX BRX HBX ⊢; have BL := BLX; have BR := BRX; have HB := HBX; clear BLX BRX HBX; rw [rounds_succ]; (go_wp2_with (go_at_call 33; refine (g11Num.calls k b s 58 2 n3 _ H3.out).mono ?_; rintro e w4 ⟨rfl, hd⟩; have BL_ := aS (g11Head.blk BL.out hd); have BR_ := aS (g11Head.blk BR.out hd); have HB_ := aS (below_step HB.out hd.below); clear BL BR HB hd; have BL := BL_; have BR := BR_; have HB := HB_; clear BL_ BR_ HB_; have hc3 := (blk_cell BL.out 3).trans rfl; have hf3 := blk_frozen BL.out 3)); have BLX := aS (show (w4.setCell ⟨g8, 3, none⟩ (.int .u64 n3)).heap[g8]? = some (.cells #[.int .u64 n0, .int .u64 n1, .int .u64 n2, .int .u64 n3, .int .u64 0, .int .u64 0] 47 (0, 0)) from blk_put (cs := #[.int .u64 n0, .int .u64 n1, .int .u64 n2, .int .u64 0, .int .u64 0, .int .u64 0]) BL.out 3 _ rfl); have BRX := aS (blk_far BR.out NB.out (p := ⟨g8, 3, none⟩) (.int .u64 n3)); have HBX := aS (below_set HB.out GB.out : Below w.heap.size w (w4.setCell ⟨g8, 3, none⟩ (.int .u64 n3))); clear BL BR HB hc3 hf3; generalize w4.setCell ⟨g8, 3, none⟩ (.int .u64 n3) = W4 at BLX BRX HBX ⊢; have BL := BLX; have BR := BRX; have HB := HBX; clear BLX BRX HBX; rw [rounds_succ]; go_wp2_with (go_at_call 33; refine (g11Num.calls k b s 60 2 n4 _ H4.out).mono ?_; rintro e w5 ⟨rfl, hd⟩; have BL_ := aS (g11Head.blk BL.out hd); have BR_ := aS (g11Head.blk BR.out hd); have HB_ := aS (below_step HB.out hd.below); clear BL BR HB hd; have BL := BL_; have BR := BR_; have HB := HB_; clear BL_ BR_ HB_; have hc4 := (blk_cell BL.out 4).trans rfl; have hf4 := blk_frozen BL.out 4)
   have BLX := aS (show (w5.setCell ⟨g8, 4, none⟩ (.int .u64 n4)).heap[g8]? = some (.cells #[.int .u64 n0, .int .u64 n1, .int .u64 n2, .int .u64 n3, .int .u64 n4, .int .u64 0] 47 (0, 0)) from blk_put (cs := #[.int .u64 n0, .int .u64 n1, .int .u64 n2, .int .u64 n3, .int .u64 0, .int .u64 0]) BL.out 4 _ rfl); have BRX := aS (blk_far BR.out NB.out (p := ⟨g8, 4, none⟩) (.int .u64 n4)); have HBX := aS (below_set HB.out GB.out : Below w.heap.size w (w5.setCell ⟨g8, 4, none⟩ (.int .u64 n4))); clear BL BR HB hc4 hf4; generalize w5.setCell ⟨g8, 4, none⟩ (.int .u64 n4) = W5 at BLX BRX HBX ⊢; have BL := BLX; have BR := BRX; have HB := HBX; clear BLX BRX HBX; rw [rounds_succ]; (go_wp2_with (go_at_call 33; refine (g11Num.calls k b s 62 2 n5 _ H5.out).mono ?_; rintro e w6 ⟨rfl, hd⟩; have BL_ := aS (g11Head.blk BL.out hd); have BR_ := aS (g11Head.blk BR.out hd); have HB_ := aS (below_step HB.out hd.below); clear BL BR HB hd; have BL := BL_; have BR := BR_; have HB := HB_; clear BL_ BR_ HB_; have hc5 := (blk_cell BL.out 5).trans rfl; have hf5 := blk_frozen BL.out 5)); have BLX := aS (show (w6.setCell ⟨g8, 5, none⟩ (.int .u64 n5)).heap[g8]? = some (.cells #[.int .u64 n0, .int .u64 n1, .int .u64 n2, .int .u64 n3, .int .u64 n4, .int .u64 n5] 47 (0, 0)) from blk_put (cs := #[.int .u64 n0, .int .u64 n1, .int .u64 n2, .int .u64 n3, .int .u64 n4, .int .u64 0]) BL.out 5 _ rfl); have BRX := aS (blk_far BR.out NB.out (p := ⟨g8, 5, none⟩) (.int .u64 n5)); have HBX := aS (below_set HB.out GB.out : Below w.heap.size w (w6.setCell ⟨g8, 5, none⟩ (.int .u64 n5)))
   clear BL BR HB hc5 hf5; generalize w6.setCell ⟨g8, 5, none⟩ (.int .u64 n5) = W6 at BLX BRX HBX ⊢; have BL := BLX; have BR := BRX; have HB := HBX; clear BLX BRX HBX; rw [rounds_succ]; (go_wp2); (refine start_ (n := 19) (S := (fun w' => w'.cell? ⟨g8, 0, none⟩ = some (.int .u64 n0) ∧ w'.cell? ⟨g8, 1, none⟩ = some (.int .u64 n1) ∧ w'.cell? ⟨g8, 2, none⟩ = some (.int .u64 n2) ∧ w'.cell? ⟨g8, 3, none⟩ = some (.int .u64 n3) ∧ w'.cell? ⟨g8, 4, none⟩ = some (.int .u64 n4) ∧ w'.cell? ⟨g8, 5, none⟩ = some (.int .u64 n5))) (ds := []) #[false, false, false, false, false, false, false, false, false, false, false, false, false, false, false, false, false, false, false] (by kernel_rfl) rfl rfl ((⟨(blk_cell (blk_drew BL.out) 0).trans rfl, (blk_cell (blk_drew BL.out) 1).trans rfl, (blk_cell (blk_drew BL.out) 2).trans rfl, (blk_cell (blk_drew BL.out) 3).trans rfl, (blk_cell (blk_drew BL.out) 4).trans rfl, (blk_cell (blk_drew BL.out) 5).trans rfl⟩)) (fun hHeld => ?_); refine with_tabW g11Head.tab10 g11Head.bits10 (fun HT_ HW_ => ?_)); refine pU 0 31 (bm 19 1) ?_; refine pU 1 32 (bm 19 3) ?_; refine pU 2 33 (bm 19 7) ?_; refine pU 3 34 (bm 19 15) ?_; refine pU 4 35 (bm 19 31) ?_; refine pU 5 36 (bm 19 63) ?_; refine pU 7 38 (bm 19 191) ?_; refine pU 8 39 (bm 19 447) ?_; refine pU 9 40 (bm 19 959) ?_; refine pU 10 41 (bm 19 1983) ?_; refine pU 11 42 (bm 19 4031) ?_; refine pU 12 43 (bm 19 8127) ?_; refine tU 14 45 (bm 19 24511) hHeld ?_; refine one_ (i := 6) (N := (some 37)) (bm 19 24575) rfl rfl (one_of HT_.out (by kernel_rfl)) (by decide) (fun K hK => ?_)
   (refine goes_ Tryd.func33 (by kernel_rfl) rfl #[.bool b, .string s, .int .u64 32, .int .u64 8] (by rfl) rfl rfl (by (try simp only [List.map_toArray, List.map_cons, List.map_nil]); first | done | rfl) ?_); refine (g11Num.calls k b s 32 8 p _ Hp.out).mono ?_; rintro e w7 ⟨rfl, hd⟩; refine ⟨_, rfl, ?_⟩; have BL_ := aS (g11Head.blk (blk_drew BL.out) hd); have BR_ := aS (g11Head.blk (blk_drew BR.out) hd); have HB_ := aS (below_step (below_drew1 HB.out) hd.below); clear BL BR HB hd; have BL := BL_; have BR := BR_; have HB := HB_; clear BL_ BR_ HB_; (refine hK.out _ _ (⟨(blk_cell BL.out 0).trans rfl, (blk_cell BL.out 1).trans rfl, (blk_cell BL.out 2).trans rfl, (blk_cell BL.out 3).trans rfl, (blk_cell BL.out 4).trans rfl, (blk_cell BL.out 5).trans rfl⟩) (fun hHeld => ?_)); clear hK K; refine norm_ (a' := ?_) ?_ ?_; rotate_left
   ·(show Act.put _ (some 37) _ = _); simp only [Act.put, List.setIfInBounds_toArray, List.set_cons_zero, List.set_cons_succ, i64_w, i32_w]; rfl
   (refine one_ (i := 13) (N := (some 44)) (bm 19 32767) rfl rfl (one_of HT_.out (by kernel_rfl)) (by decide) (fun K hK => ?_)); (refine goes_ Tryd.func33 (by kernel_rfl) rfl #[.bool b, .string s, .int .u64 40, .int .u64 8] (by rfl) rfl rfl (by (try simp only [List.map_toArray, List.map_cons, List.map_nil]); first | done | rfl) ?_); refine (g11Num.calls k b s 40 8 q _ Hq.out).mono ?_; rintro e w8 ⟨rfl, hd⟩; refine ⟨_, rfl, ?_⟩; have BL_ := aS (g11Head.blk BL.out hd); have BR_ := aS (g11Head.blk BR.out hd); have HB_ := aS (below_step HB.out hd.below); clear BL BR HB hd; have BL := BL_; have BR := BR_; have HB := HB_; clear BL_ BR_ HB_; (refine hK.out _ _ (⟨(blk_cell BL.out 0).trans rfl, (blk_cell BL.out 1).trans rfl, (blk_cell BL.out 2).trans rfl, (blk_cell BL.out 3).trans rfl, (blk_cell BL.out 4).trans rfl, (blk_cell BL.out 5).trans rfl⟩) (fun hHeld => ?_)); clear hK K; refine norm_ (a' := ?_) ?_ ?_; rotate_left
   ·(show Act.put _ (some 44) _ = _); simp only [Act.put, List.setIfInBounds_toArray, List.set_cons_zero, List.set_cons_succ, i64_w, i32_w]; rfl
   refine pU 15 2 (bm 19 65535) ?_; refine pU 16 3 (bm 19 131071) ?_; refine pU 17 4 (bm 19 262143) ?_; (refine one_ (i := 18) (N := none) (bm 19 524287) rfl rfl (one_of HT_.out (by kernel_rfl)) (by decide) (fun K hK => ?_)); refine sB 47 [.int .u64 n0, .int .u64 n1, .int .u64 n2, .int .u64 n3, .int .u64 n4, .int .u64 n5] BR.out ?_; have BR_ := aS (sF_eq [.int .u64 n0, .int .u64 n1, .int .u64 n2, .int .u64 n3, .int .u64 n4, .int .u64 n5] BR.out rfl); have BL_ := aS (sF_ne [.int .u64 n0, .int .u64 n1, .int .u64 n2, .int .u64 n3, .int .u64 n4, .int .u64 n5] BR.out rfl NB.out.symm BL.out); have HB_ := aS (sF_below [.int .u64 n0, .int .u64 n1, .int .u64 n2, .int .u64 n3, .int .u64 n4, .int .u64 n5] BR.out rfl HB.out (Nat.le_refl _)); generalize setFrom w.heap.size [.int .u64 n0, .int .u64 n1, .int .u64 n2, .int .u64 n3, .int .u64 n4, .int .u64 n5] 0 w8 = w9 at BR_ BL_ HB_ ⊢; clear BL BR HB; have BL := BL_; have BR := BR_; have HB := HB_; clear BL_ BR_ HB_; (refine hK.out _ _ (⟨(blk_cell BL.out 0).trans rfl, (blk_cell BL.out 1).trans rfl, (blk_cell BL.out 2).trans rfl, (blk_cell BL.out 3).trans rfl, (blk_cell BL.out 4).trans rfl, (blk_cell BL.out 5).trans rfl⟩) (fun hHeld => ?_)); clear hK K; (refine done_ (done_of HT_.out (by kernel_rfl)) ?_); (go_wp2); refine bodyPost_ret (results_list (rs := [.tmp 2, .tmp 3, .tmp 4, .cell 5 47]) (vs := [.int .u64 8, .int .u64 p, .int .u64 q, .agg #[.int .u64 n0, .int .u64 n1, .int .u64 n2, .int .u64 n3, .int .u64 n4, .int .u64 n5]]) rfl (by simp) (.tmp (.tmp (.tmp (.cell w.heap.size 47 #[.int .u64 n0, .int .u64 n1, .int .u64 n2, .int .u64 n3, .int .u64 n4, .int .u64 n5] (0, 0) _ rfl BR.out Tryd.underlying47 rfl (by kernel_rfl) .nil))))) rfl ?_
   exact ⟨rfl, HB.out⟩
  ·rw [if_neg c] at h
   (have cb : (bt s 4 == 2) = false := by simp [c]); unfold g11Head.g4 at h; obtain ⟨n0, h0, h⟩ := Option.bind_eq_some_iff.mp h; have H0 := aS h0; clear h0; obtain ⟨n1, h1, h⟩ := Option.bind_eq_some_iff.mp h; have H1 := aS h1; clear h1; obtain ⟨n2, h2, h⟩ := Option.bind_eq_some_iff.mp h; have H2 := aS h2; clear h2; obtain ⟨n3, h3, h⟩ := Option.bind_eq_some_iff.mp h; have H3 := aS h3; clear h3; obtain ⟨n4, h4, h⟩ := Option.bind_eq_some_iff.mp h; have H4 := aS h4; clear h4; obtain ⟨n5, h5, h⟩ := Option.bind_eq_some_iff.mp h; have H5 := aS h5; clear h5; obtain ⟨p, hp, h⟩ := Option.bind_eq_some_iff.mp h; have Hp := aS hp; clear hp; obtain ⟨q, hq, h⟩ := Option.bind_eq_some_iff.mp h; have Hq := aS hq; clear hq; simp only [Option.some.injEq, Prod.mk.injEq] at h; obtain ⟨rfl, rfl, rfl, rfl, rfl, rfl, rfl, rfl, rfl⟩ := h; have hx5 : ∀ h : 5 < s.size, ((s[5]'h).toNat : Int) = bt s 5 := bt_at s 5; have hx4 : ∀ h : 4 < s.size, ((s[4]'h).toNat : Int) = bt s 4 := bt_at s 4; go_enter Tryd.func11, Tryd.ntmps11; (go_wp2); have HB := aS (show Below w.heap.size w ((w.alloc (Obj.cells #[Value.int IntKind.u64 0, Value.int IntKind.u64 0, Value.int IntKind.u64 0, Value.int IntKind.u64 0, Value.int IntKind.u64 0, Value.int IntKind.u64 0] 47)).alloc (Obj.cells #[Value.int IntKind.u64 0, Value.int IntKind.u64 0, Value.int IntKind.u64 0, Value.int IntKind.u64 0, Value.int IntKind.u64 0, Value.int IntKind.u64 0] 47)) from below_alloc (below_alloc (Below.refl _ _) _) _); have BR := aS (show ((w.alloc (Obj.cells #[Value.int IntKind.u64 0, Value.int IntKind.u64 0, Value.int IntKind.u64 0, Value.int IntKind.u64 0, Value.int IntKind.u64 0, Value.int IntKind.u64 0] 47)).alloc (Obj.cells #[Value.int IntKind.u64 0, Value.int IntKind.u64 0, Value.int IntKind.u64 0, Value.int IntKind.u64 0, Value.int IntKind.u64 0, Value.int IntKind.u64 0] 47)).heap[w.heap.size]? = some (.cells #[Value.int IntKind.u64 0, Value.int IntKind.u64 0, Value.int IntKind.u64 0, Value.int IntKind.u64 0, Value.int IntKind.u64 0, Value.int IntKind.u64 0] 47 (0, 0)) from blk_alloc (heap_alloc_new w _) _)
   (have BL := aS (show ((w.alloc (Obj.cells #[Value.int IntKind.u64 0, Value.int IntKind.u64 0, Value.int IntKind.u64 0, Value.int IntKind.u64 0, Value.int IntKind.u64 0, Value.int IntKind.u64 0] 47)).alloc (Obj.cells #[Value.int IntKind.u64 0, Value.int IntKind.u64 0, Value.int IntKind.u64 0, Value.int IntKind.u64 0, Value.int IntKind.u64 0, Value.int IntKind.u64 0] 47)).heap[w.heap.size + 1]? = some (.cells #[Value.int IntKind.u64 0, Value.int IntKind.u64 0, Value.int IntKind.u64 0, Value.int IntKind.u64 0, Value.int IntKind.u64 0, Value.int IntKind.u64 0] 47 (0, 0)) from (by have := heap_alloc_new (w.alloc (Obj.cells #[Value.int IntKind.u64 0, Value.int IntKind.u64 0, Value.int IntKind.u64 0, Value.int IntKind.u64 0, Value.int IntKind.u64 0, Value.int IntKind.u64 0] 47)) (Obj.cells #[Value.int IntKind.u64 0, Value.int IntKind.u64 0, Value.int IntKind.u64 0, Value.int IntKind.u64 0, Value.int IntKind.u64 0, Value.int IntKind.u64 0] 47); simpa using this))); (have NB := aS (show w.heap.size ≠ w.heap.size + 1 from by omega)); (have GB := aS (show w.heap.size ≤ w.heap.size + 1 from by omega)); generalize hg8 : w.heap.size + 1 = g8 at BL NB GB ⊢; clear hg8; generalize ((w.alloc (Obj.cells #[Value.int IntKind.u64 0, Value.int IntKind.u64 0, Value.int IntKind.u64 0, Value.int IntKind.u64 0, Value.int IntKind.u64 0, Value.int IntKind.u64 0] 47)).alloc (Obj.cells #[Value.int IntKind.u64 0, Value.int IntKind.u64 0, Value.int IntKind.u64 0, Value.int IntKind.u64 0, Value.int IntKind.u64 0, Value.int IntKind.u64 0] 47)) = W0 at HB BR BL ⊢
   refine wp_loop_rounds 7 ?_; rw [rounds_succ]; (go_wp2_with (go_at_call 33; refine (g11Num.calls k b s 40 2 n0 _ H0.out).mono ?_; rintro e w1 ⟨rfl, hd⟩; have BL_ := aS (g11Head.blk BL.out hd); have BR_ := aS (g11Head.blk BR.out hd); have HB_ := aS (below_step HB.out hd.below); clear BL BR HB hd; have BL := BL_; have BR := BR_; have HB := HB_; clear BL_ BR_ HB_; have hc0 := (blk_cell BL.out 0).trans rfl; have hf0 := blk_frozen BL.out 0)); have BLX := aS (show (w1.setCell ⟨g8, 0, none⟩ (.int .u64 n0)).heap[g8]? = some (.cells #[.int .u64 n0, .int .u64 0, .int .u64 0, .int .u64 0, .int .u64 0, .int .u64 0] 47 (0, 0)) from blk_put (cs := #[.int .u64 0, .int .u64 0, .int .u64 0, .int .u64 0, .int .u64 0, .int .u64 0]) BL.out 0 _ rfl); have BRX := aS (blk_far BR.out NB.out (p := ⟨g8, 0, none⟩) (.int .u64 n0)); have HBX := aS (below_set HB.out GB.out : Below w.heap.size w (w1.setCell ⟨g8, 0, none⟩ (.int .u64 n0))); clear BL BR HB hc0 hf0; generalize w1.setCell ⟨g8, 0, none⟩ (.int .u64 n0) = W1 at BLX BRX HBX ⊢; have BL := BLX; have BR := BRX; have HB := HBX; clear BLX BRX HBX; rw [rounds_succ]; go_wp2_with (go_at_call 33; refine (g11Num.calls k b s 42 2 n1 _ H1.out).mono ?_; rintro e w2 ⟨rfl, hd⟩; have BL_ := aS (g11Head.blk BL.out hd); have BR_ := aS (g11Head.blk BR.out hd); have HB_ := aS (below_step HB.out hd.below); clear BL BR HB hd; have BL := BL_; have BR := BR_; have HB := HB_; clear BL_ BR_ HB_; have hc1 := (blk_cell BL.out 1).trans rfl; have hf1 := blk_frozen BL.out 1)
   have BLX := aS (show (w2.setCell ⟨g8, 1, none⟩ (.int .u64 n1)).heap[g8]? = some (.cells #[.int .u64 n0, .int .u64 n1, .int .u64 0, .int .u64 0, .int .u64 0, .int .u64 0] 47 (0, 0)) from blk_put (cs := #[.int .u64 n0, .int .u64 0, .int .u64 0, .int .u64 0, .int .u64 0, .int .u64 0]) BL.out 1 _ rfl); have BRX := aS (blk_far BR.out NB.out (p := ⟨g8, 1, none⟩) (.int .u64 n1)); have HBX := aS (below_set HB.out GB.out : Below w.heap.size w (w2.setCell ⟨g8, 1, none⟩ (.int .u64 n1))); clear BL BR HB hc1 hf1; generalize w2.setCell ⟨g8, 1, none⟩ (.int .u64 n1) = W2 at BLX BRX HBX ⊢; have BL := BLX; have BR := BRX; have HB := HBX; clear BLX BRX HBX; rw [rounds_succ]; (go_wp2_with (go_at_call 33; refine (g11Num.calls k b s 44 2 n2 _ H2.out).mono ?_; rintro e w3 ⟨rfl, hd⟩; have BL_ := aS (g11Head.blk BL.out hd); have BR_ := aS (g11Head.blk BR.out hd); have HB_ := aS (below_step HB.out hd.below); clear BL BR HB hd; have BL := BL_; have BR := BR_; have HB := HB_; clear BL_ BR_ HB_; have hc2 := (blk_cell BL.out 2).trans rfl; have hf2 := blk_frozen BL.out 2)); have BLX := aS (show (w3.setCell ⟨g8, 2, none⟩ (.int .u64 n2)).heap[g8]? = some (.cells #[.int .u64 n0, .int .u64 n1, .int .u64 n2, .int .u64 0, .int .u64 0, .int .u64 0] 47 (0, 0)) from blk_put (cs := #[.int .u64 n0, .int .u64 n1, .int .u64 0, .int .u64 0, .int .u64 0, .int .u64 0]) BL.out 2 _ rfl); have BRX := aS (blk_far BR.out NB.out (p := ⟨g8, 2, none⟩) (.int .u64 n2)); have HBX := aS (below_set HB.out GB.out : Below w.heap.size w (w3.setCell ⟨g8, 2, none⟩ (.int .u64 n2)))
   clear BL BR HB hc2 hf2; generalize w3.setCell ⟨g8, 2, none⟩ (.int .u64 n2) = W3 at BLX BRX HBX ⊢; have BL := BLX; have BR := BRX; have HB := HBX; clear BLX BRX HBX; rw [rounds_succ]; (go_wp2_with (go_at_call 33; refine (g11Num.calls k b s 46 2 n3 _ H3.out).mono ?_; rintro e w4 ⟨rfl, hd⟩; have BL_ := aS (g11Head.blk BL.out hd); have BR_ := aS (g11Head.blk BR.out hd); have HB_ := aS (below_step HB.out hd.below); clear BL BR HB hd; have BL := BL_; have BR := BR_; have HB := HB_; clear BL_ BR_ HB_; have hc3 := (blk_cell BL.out 3).trans rfl; have hf3 := blk_frozen BL.out 3)); have BLX := aS (show (w4.setCell ⟨g8, 3, none⟩ (.int .u64 n3)).heap[g8]? = some (.cells #[.int .u64 n0, .int .u64 n1, .int .u64 n2, .int .u64 n3, .int .u64 0, .int .u64 0] 47 (0, 0)) from blk_put (cs := #[.int .u64 n0, .int .u64 n1, .int .u64 n2, .int .u64 0, .int .u64 0, .int .u64 0]) BL.out 3 _ rfl); have BRX := aS (blk_far BR.out NB.out (p := ⟨g8, 3, none⟩) (.int .u64 n3)); have HBX := aS (below_set HB.out GB.out : Below w.heap.size w (w4.setCell ⟨g8, 3, none⟩ (.int .u64 n3))); clear BL BR HB hc3 hf3; generalize w4.setCell ⟨g8, 3, none⟩ (.int .u64 n3) = W4 at BLX BRX HBX ⊢; have BL := BLX; have BR := BRX; have HB := HBX; clear BLX BRX HBX; rw [rounds_succ]; go_wp2_with (go_at_call 33; refine (g11Num.calls k b s 48 2 n4 _ H4.out).mono ?_; rintro e w5 ⟨rfl, hd⟩; have BL_ := aS (g11Head.blk BL.out hd); have BR_ := aS (g11Head.blk BR.out hd); have HB_ := aS (below_step HB.out hd.below); clear BL BR HB hd; have BL := BL_; have BR := BR_; have HB := HB_; clear BL_ BR_ HB_; have hc4 := (blk_cell BL.out 4).trans rfl; have hf4 := blk_frozen BL.out 4)
   have BLX := aS (show (w5.setCell ⟨g8, 4, none⟩ (.int .u64 n4)).heap[g8]? = some (.cells #[.int .u64 n0, .int .u64 n1, .int .u64 n2, .int .u64 n3, .int .u64 n4, .int .u64 0] 47 (0, 0)) from blk_put (cs := #[.int .u64 n0, .int .u64 n1, .int .u64 n2, .int .u64 n3, .int .u64 0, .int .u64 0]) BL.out 4 _ rfl); have BRX := aS (blk_far BR.out NB.out (p := ⟨g8, 4, none⟩) (.int .u64 n4)); have HBX := aS (below_set HB.out GB.out : Below w.heap.size w (w5.setCell ⟨g8, 4, none⟩ (.int .u64 n4))); clear BL BR HB hc4 hf4; generalize w5.setCell ⟨g8, 4, none⟩ (.int .u64 n4) = W5 at BLX BRX HBX ⊢; have BL := BLX; have BR := BRX; have HB := HBX; clear BLX BRX HBX; rw [rounds_succ]; (go_wp2_with (go_at_call 33; refine (g11Num.calls k b s 50 2 n5 _ H5.out).mono ?_; rintro e w6 ⟨rfl, hd⟩; have BL_ := aS (g11Head.blk BL.out hd); have BR_ := aS (g11Head.blk BR.out hd); have HB_ := aS (below_step HB.out hd.below); clear BL BR HB hd; have BL := BL_; have BR := BR_; have HB := HB_; clear BL_ BR_ HB_; have hc5 := (blk_cell BL.out 5).trans rfl; have hf5 := blk_frozen BL.out 5)); have BLX := aS (show (w6.setCell ⟨g8, 5, none⟩ (.int .u64 n5)).heap[g8]? = some (.cells #[.int .u64 n0, .int .u64 n1, .int .u64 n2, .int .u64 n3, .int .u64 n4, .int .u64 n5] 47 (0, 0)) from blk_put (cs := #[.int .u64 n0, .int .u64 n1, .int .u64 n2, .int .u64 n3, .int .u64 n4, .int .u64 0]) BL.out 5 _ rfl); have BRX := aS (blk_far BR.out NB.out (p := ⟨g8, 5, none⟩) (.int .u64 n5)); have HBX := aS (below_set HB.out GB.out : Below w.heap.size w (w6.setCell ⟨g8, 5, none⟩ (.int .u64 n5)))
   clear BL BR HB hc5 hf5; generalize w6.setCell ⟨g8, 5, none⟩ (.int .u64 n5) = W6 at BLX BRX HBX ⊢; have BL := BLX; have BR := BRX; have HB := HBX; clear BLX BRX HBX; rw [rounds_succ]; (go_wp2); (refine start_ (n := 19) (S := (fun w' => w'.cell? ⟨g8, 0, none⟩ = some (.int .u64 n0) ∧ w'.cell? ⟨g8, 1, none⟩ = some (.int .u64 n1) ∧ w'.cell? ⟨g8, 2, none⟩ = some (.int .u64 n2) ∧ w'.cell? ⟨g8, 3, none⟩ = some (.int .u64 n3) ∧ w'.cell? ⟨g8, 4, none⟩ = some (.int .u64 n4) ∧ w'.cell? ⟨g8, 5, none⟩ = some (.int .u64 n5))) (ds := []) #[false, false, false, false, false, false, false, false, false, false, false, false, false, false, false, false, false, false, false] (by kernel_rfl) rfl rfl ((⟨(blk_cell (blk_drew BL.out) 0).trans rfl, (blk_cell (blk_drew BL.out) 1).trans rfl, (blk_cell (blk_drew BL.out) 2).trans rfl, (blk_cell (blk_drew BL.out) 3).trans rfl, (blk_cell (blk_drew BL.out) 4).trans rfl, (blk_cell (blk_drew BL.out) 5).trans rfl⟩)) (fun hHeld => ?_); refine with_tabW g11Head.tab10 g11Head.bits10 (fun HT_ HW_ => ?_)); refine pU 0 31 (bm 19 1) ?_; refine pU 1 32 (bm 19 3) ?_; refine pU 2 33 (bm 19 7) ?_; refine pU 3 34 (bm 19 15) ?_; refine pU 4 35 (bm 19 31) ?_; refine pU 5 36 (bm 19 63) ?_; refine pU 7 38 (bm 19 191) ?_; refine pU 8 39 (bm 19 447) ?_; refine pU 9 40 (bm 19 959) ?_; refine pU 10 41 (bm 19 1983) ?_; refine pU 11 42 (bm 19 4031) ?_; refine pU 12 43 (bm 19 8127) ?_; refine tU 14 45 (bm 19 24511) hHeld ?_; refine one_ (i := 6) (N := (some 37)) (bm 19 24575) rfl rfl (one_of HT_.out (by kernel_rfl)) (by decide) (fun K hK => ?_)
   (refine goes_ Tryd.func33 (by kernel_rfl) rfl #[.bool b, .string s, .int .u64 28, .int .u64 4] (by rfl) rfl rfl (by (try simp only [List.map_toArray, List.map_cons, List.map_nil]); first | done | rfl) ?_); refine (g11Num.calls k b s 28 4 p _ Hp.out).mono ?_; rintro e w7 ⟨rfl, hd⟩; refine ⟨_, rfl, ?_⟩; have BL_ := aS (g11Head.blk (blk_drew BL.out) hd); have BR_ := aS (g11Head.blk (blk_drew BR.out) hd); have HB_ := aS (below_step (below_drew1 HB.out) hd.below); clear BL BR HB hd; have BL := BL_; have BR := BR_; have HB := HB_; clear BL_ BR_ HB_; (refine hK.out _ _ (⟨(blk_cell BL.out 0).trans rfl, (blk_cell BL.out 1).trans rfl, (blk_cell BL.out 2).trans rfl, (blk_cell BL.out 3).trans rfl, (blk_cell BL.out 4).trans rfl, (blk_cell BL.out 5).trans rfl⟩) (fun hHeld => ?_)); clear hK K; refine norm_ (a' := ?_) ?_ ?_; rotate_left
   ·(show Act.put _ (some 37) _ = _); simp only [Act.put, List.setIfInBounds_toArray, List.set_cons_zero, List.set_cons_succ, i64_w, i32_w]; rfl
   (refine one_ (i := 13) (N := (some 44)) (bm 19 32767) rfl rfl (one_of HT_.out (by kernel_rfl)) (by decide) (fun K hK => ?_)); (refine goes_ Tryd.func33 (by kernel_rfl) rfl #[.bool b, .string s, .int .u64 32, .int .u64 4] (by rfl) rfl rfl (by (try simp only [List.map_toArray, List.map_cons, List.map_nil]); first | done | rfl) ?_); refine (g11Num.calls k b s 32 4 q _ Hq.out).mono ?_; rintro e w8 ⟨rfl, hd⟩; refine ⟨_, rfl, ?_⟩; have BL_ := aS (g11Head.blk BL.out hd); have BR_ := aS (g11Head.blk BR.out hd); have HB_ := aS (below_step HB.out hd.below); clear BL BR HB hd; have BL := BL_; have BR := BR_; have HB := HB_; clear BL_ BR_ HB_; (refine hK.out _ _ (⟨(blk_cell BL.out 0).trans rfl, (blk_cell BL.out 1).trans rfl, (blk_cell BL.out 2).trans rfl, (blk_cell BL.out 3).trans rfl, (blk_cell BL.out 4).trans rfl, (blk_cell BL.out 5).trans rfl⟩) (fun hHeld => ?_)); clear hK K; refine norm_ (a' := ?_) ?_ ?_; rotate_left
   ·(show Act.put _ (some 44) _ = _); simp only [Act.put, List.setIfInBounds_toArray, List.set_cons_zero, List.set_cons_succ, i64_w, i32_w]; rfl
   refine pU 15 2 (bm 19 65535) ?_; refine pU 16 3 (bm 19 131071) ?_; refine pU 17 4 (bm 19 262143) ?_; (refine one_ (i := 18) (N := none) (bm 19 524287) rfl rfl (one_of HT_.out (by kernel_rfl)) (by decide) (fun K hK => ?_)); refine sB 47 [.int .u64 n0, .int .u64 n1, .int .u64 n2, .int .u64 n3, .int .u64 n4, .int .u64 n5] BR.out ?_; have BR_ := aS (sF_eq [.int .u64 n0, .int .u64 n1, .int .u64 n2, .int .u64 n3, .int .u64 n4, .int .u64 n5] BR.out rfl); have BL_ := aS (sF_ne [.int .u64 n0, .int .u64 n1, .int .u64 n2, .int .u64 n3, .int .u64 n4, .int .u64 n5] BR.out rfl NB.out.symm BL.out); have HB_ := aS (sF_below [.int .u64 n0, .int .u64 n1, .int .u64 n2, .int .u64 n3, .int .u64 n4, .int .u64 n5] BR.out rfl HB.out (Nat.le_refl _)); generalize setFrom w.heap.size [.int .u64 n0, .int .u64 n1, .int .u64 n2, .int .u64 n3, .int .u64 n4, .int .u64 n5] 0 w8 = w9 at BR_ BL_ HB_ ⊢; clear BL BR HB; have BL := BL_; have BR := BR_; have HB := HB_; clear BL_ BR_ HB_; (refine hK.out _ _ (⟨(blk_cell BL.out 0).trans rfl, (blk_cell BL.out 1).trans rfl, (blk_cell BL.out 2).trans rfl, (blk_cell BL.out 3).trans rfl, (blk_cell BL.out 4).trans rfl, (blk_cell BL.out 5).trans rfl⟩) (fun hHeld => ?_)); clear hK K; (refine done_ (done_of HT_.out (by kernel_rfl)) ?_); (go_wp2); refine bodyPost_ret (results_list (rs := [.tmp 2, .tmp 3, .tmp 4, .cell 5 47]) (vs := [.int .u64 4, .int .u64 p, .int .u64 q, .agg #[.int .u64 n0, .int .u64 n1, .int .u64 n2, .int .u64 n3, .int .u64 n4, .int .u64 n5]]) rfl (by simp) (.tmp (.tmp (.tmp (.cell w.heap.size 47 #[.int .u64 n0, .int .u64 n1, .int .u64 n2, .int .u64 n3, .int .u64 n4, .int .u64 n5] (0, 0) _ rfl BR.out Tryd.underlying47 rfl (by kernel_rfl) .nil))))) rfl ?_
   exact ⟨rfl, HB.out⟩
 ·rw [if_neg p0] at h; cases h


end Go.Proofs.YtceilmhinkkgfaaDoor.Q
end
section
namespace Go.Proofs.YtceilmhinkkgfaaDoor.Q
open Go.RowKit Go.Proofs.YtceilmhinkkgfaaDoorW.PrintWords Go.Proofs.YtceilmhinkkgfaaDoorW.PrintLast Go.Proofs.YtceilmhinkkgfaaDoorW.PrintMore
attribute [local go_sem] max2_int min2_int max_two min_two max_three min_three max_four min_four

def g11Field.offs (w : Int) : List Int := [0, 4, 8, IntKind.u64.wrap (8 + w), IntKind.u64.wrap (8 + IntKind.u64.wrap (2 * w)), IntKind.u64.wrap (8 + IntKind.u64.wrap (3 * w)), IntKind.u64.wrap (8 + IntKind.u64.wrap (4 * w)), IntKind.u64.wrap (12 + IntKind.u64.wrap (4 * w)), IntKind.u64.wrap (16 + IntKind.u64.wrap (4 * w)), IntKind.u64.wrap (16 + IntKind.u64.wrap (5 * w))]
def g11Field.f (k : Nat) (a0 : Bool) (a1 : Int) (a2 : ByteArray) (a3 : Int) (a4 : Int) : Option Int := if 0 ≤ a4 then (if a4 < 10 then (g11Num.f k a0 a2 (IntKind.u64.wrap (a3 + (g11Field.offs a1).getD a4.toNat 0)) (if a4 < 2 then 4 else if a4 = 6 then 4 else if a4 = 7 then 4 else a1)) else none) else none
theorem g11Field.mono : ∀ a0 a1 a2 a3 a4 k, LeO (g11Field.f k a0 a1 a2 a3 a4) (g11Field.f (k + 1) a0 a1 a2 a3 a4) := fun a0 a1 a2 a3 a4 k => LeO.ite (LeO.ite (g11Num.mono _ _ _ _ _) (LeO.refl _)) (LeO.refl _)
theorem g11Field.low {w w' : World} {o : Obj} (h : Drawn0 (w.alloc o) w') : Below w.heap.size w w' := below_step (below_alloc (Below.refl _ _) o) h.below
set_option maxHeartbeats 4000000 in
set_option maxRecDepth 100000 in
theorem g11Field.calls (k : Nat) (a0 : Bool) (a1 : Int) (a2 : ByteArray) (a3 : Int) (a4 : Int) (r : Int) (w : World) (h : g11Field.f k a0 a1 a2 a3 a4 = some r) :
 Calls Tryd.prog 13 #[.bool a0, .int .u64 a1, .string a2, .int .u64 a3, .int .i64 a4] w fun e w' => e = .returned (.int .u64 r) ∧ Below w.heap.size w w' := by
 unfold g11Field.f at h
 by_cases p0 : 0 ≤ a4
 ·rw [if_pos p0] at h
  by_cases p1 : a4 < 10
  ·rw [if_pos p1] at h
   (have hk : a4 = 0 ∨ a4 = 1 ∨ a4 = 2 ∨ a4 = 3 ∨ a4 = 4 ∨ a4 = 5 ∨ a4 = 6 ∨ a4 = 7 ∨ a4 = 8 ∨ a4 = 9 := by omega); clear p0 p1; rcases hk with rfl | rfl | rfl | rfl | rfl | rfl | rfl | rfl | rfl | rfl
   ·(have H := aS (show g11Num.f k a0 a2 (IntKind.u64.wrap a3) 4 = some r from by have h2 : g11Num.f k a0 a2 (IntKind.u64.wrap (a3 + 0)) 4 = some r := h; rwa [Int.add_zero] at h2)); clear h; go_enter Tryd.func13, Tryd.ntmps13; (go_wp2_with (go_at_call 33; refine (g11Num.calls k a0 a2 (IntKind.u64.wrap a3) 4 r _ H.out).mono ?_; rintro e w' ⟨rfl, hd⟩)); (go_ret); exact ⟨rfl, g11Field.low hd⟩
   ·(have H := aS (show g11Num.f k a0 a2 (IntKind.u64.wrap (a3 + 4)) 4 = some r from h)); clear h; go_enter Tryd.func13, Tryd.ntmps13; (go_wp2_with (go_at_call 33; refine (g11Num.calls k a0 a2 (IntKind.u64.wrap (a3 + 4)) 4 r _ H.out).mono ?_; rintro e w' ⟨rfl, hd⟩)); (go_ret); exact ⟨rfl, g11Field.low hd⟩
   ·(have H := aS (show g11Num.f k a0 a2 (IntKind.u64.wrap (a3 + 8)) a1 = some r from h)); clear h; go_enter Tryd.func13, Tryd.ntmps13; (go_wp2_with (go_at_call 33; refine (g11Num.calls k a0 a2 (IntKind.u64.wrap (a3 + 8)) a1 r _ H.out).mono ?_; rintro e w' ⟨rfl, hd⟩)); (go_ret); exact ⟨rfl, g11Field.low hd⟩
   ·(have H := aS (show g11Num.f k a0 a2 (IntKind.u64.wrap (a3 + IntKind.u64.wrap (8 + a1))) a1 = some r from h)); clear h; go_enter Tryd.func13, Tryd.ntmps13; (go_wp2_with (go_at_call 33; refine (g11Num.calls k a0 a2 (IntKind.u64.wrap (a3 + IntKind.u64.wrap (8 + a1))) a1 r _ H.out).mono ?_; rintro e w' ⟨rfl, hd⟩)); (go_ret); exact ⟨rfl, g11Field.low hd⟩
   ·(have H := aS (show g11Num.f k a0 a2 (IntKind.u64.wrap (a3 + IntKind.u64.wrap (8 + IntKind.u64.wrap (2 * a1)))) a1 = some r from h)); clear h; go_enter Tryd.func13, Tryd.ntmps13; (go_wp2_with (go_at_call 33; refine (g11Num.calls k a0 a2 (IntKind.u64.wrap (a3 + IntKind.u64.wrap (8 + IntKind.u64.wrap (2 * a1)))) a1 r _ H.out).mono ?_; rintro e w' ⟨rfl, hd⟩)); (go_ret); exact ⟨rfl, g11Field.low hd⟩
   ·(have H := aS (show g11Num.f k a0 a2 (IntKind.u64.wrap (a3 + IntKind.u64.wrap (8 + IntKind.u64.wrap (3 * a1)))) a1 = some r from h)); clear h; go_enter Tryd.func13, Tryd.ntmps13; (go_wp2_with (go_at_call 33; refine (g11Num.calls k a0 a2 (IntKind.u64.wrap (a3 + IntKind.u64.wrap (8 + IntKind.u64.wrap (3 * a1)))) a1 r _ H.out).mono ?_; rintro e w' ⟨rfl, hd⟩)); (go_ret); exact ⟨rfl, g11Field.low hd⟩
   ·(have H := aS (show g11Num.f k a0 a2 (IntKind.u64.wrap (a3 + IntKind.u64.wrap (8 + IntKind.u64.wrap (4 * a1)))) 4 = some r from h)); clear h; go_enter Tryd.func13, Tryd.ntmps13; (go_wp2_with (go_at_call 33; refine (g11Num.calls k a0 a2 (IntKind.u64.wrap (a3 + IntKind.u64.wrap (8 + IntKind.u64.wrap (4 * a1)))) 4 r _ H.out).mono ?_; rintro e w' ⟨rfl, hd⟩)); (go_ret); exact ⟨rfl, g11Field.low hd⟩
   ·(have H := aS (show g11Num.f k a0 a2 (IntKind.u64.wrap (a3 + IntKind.u64.wrap (12 + IntKind.u64.wrap (4 * a1)))) 4 = some r from h)); clear h; go_enter Tryd.func13, Tryd.ntmps13; (go_wp2_with (go_at_call 33; refine (g11Num.calls k a0 a2 (IntKind.u64.wrap (a3 + IntKind.u64.wrap (12 + IntKind.u64.wrap (4 * a1)))) 4 r _ H.out).mono ?_; rintro e w' ⟨rfl, hd⟩)); (go_ret); exact ⟨rfl, g11Field.low hd⟩
   ·(have H := aS (show g11Num.f k a0 a2 (IntKind.u64.wrap (a3 + IntKind.u64.wrap (16 + IntKind.u64.wrap (4 * a1)))) a1 = some r from h)); clear h; go_enter Tryd.func13, Tryd.ntmps13; (go_wp2_with (go_at_call 33; refine (g11Num.calls k a0 a2 (IntKind.u64.wrap (a3 + IntKind.u64.wrap (16 + IntKind.u64.wrap (4 * a1)))) a1 r _ H.out).mono ?_; rintro e w' ⟨rfl, hd⟩)); (go_ret); exact ⟨rfl, g11Field.low hd⟩
   ·(have H := aS (show g11Num.f k a0 a2 (IntKind.u64.wrap (a3 + IntKind.u64.wrap (16 + IntKind.u64.wrap (5 * a1)))) a1 = some r from h)); clear h; go_enter Tryd.func13, Tryd.ntmps13; (go_wp2_with (go_at_call 33; refine (g11Num.calls k a0 a2 (IntKind.u64.wrap (a3 + IntKind.u64.wrap (16 + IntKind.u64.wrap (5 * a1)))) a1 r _ H.out).mono ?_; rintro e w' ⟨rfl, hd⟩)); (go_ret); exact ⟨rfl, g11Field.low hd⟩
  ·rw [if_neg p1] at h; cases h
 ·rw [if_neg p0] at h; cases h


mutual
def g04Why.j0 : Nat → ByteArray → Bool → Option (Int)
 | 0, _, _ => none
 | k + 1, x0, x16 => if x16 = true then (some 5) else (if 5 < (x0.size : Int) then (if (bt x0 5) = 1 then (g04Why.j1 k x0 false) else (g04Why.j1 k x0 ((bt x0 5) != 2))) else (none))
def g04Why.j1 : Nat → ByteArray → Bool → Option (Int)
 | 0, _, _ => none
 | k + 1, x0, x24 => if x24 = true then (some 6) else (if 6 < (x0.size : Int) then (if (bt x0 6) = 1 then (some 0) else (some 7)) else (none))
end
def g04Why.f (k : Nat) (a0 : ByteArray) : Option (Int) := if (a0.size : Int) < 16 then (some 3) else (if 0 ≤ 4 then (if 4 ≤ (a0.size : Int) then (if (a0.extract 0 4).toList = ([127, 69, 76, 70] : List UInt8) then (if 4 < (a0.size : Int) then (if (bt a0 4) = 1 then (g04Why.j0 k a0 false) else (g04Why.j0 k a0 ((bt a0 4) != 2))) else (none)) else (some 4)) else (none)) else (none))
theorem g04Why.mono_l : ∀ k, (∀ y0 y1, LeO (g04Why.j0 k y0 y1) (g04Why.j0 (k + 1) y0 y1)) ∧ (∀ y0 y1, LeO (g04Why.j1 k y0 y1) (g04Why.j1 (k + 1) y0 y1))
 | 0 => ⟨fun _ _ r h => by simp [g04Why.j0] at h, fun _ _ r h => by simp [g04Why.j1] at h⟩
 | k + 1 => by
  obtain ⟨ih0, ih1⟩ := g04Why.mono_l k; refine ⟨?_, ?_⟩
  ·intro y0 y1
   unfold g04Why.j0
   repeat' first
   | (with_reducible apply ih0)
   | (with_reducible apply ih1)
   | (with_reducible exact LeO.refl _)
   | (with_reducible exact LeO.none _)
   | (with_reducible refine LeO.ite ?_ ?_)
   | (with_reducible refine LeO.bind ?_ (fun _ => ?_))
   | exact ih0 _ _
   | exact ih1 _ _
   | exact LeO.none _
   | refine LeO.ite ?_ ?_
   | refine LeO.bind ?_ (fun _ => ?_)
  ·intro y0 y1
   unfold g04Why.j1
   repeat' first
   | (with_reducible apply ih0)
   | (with_reducible apply ih1)
   | (with_reducible exact LeO.refl _)
   | (with_reducible exact LeO.none _)
   | (with_reducible refine LeO.ite ?_ ?_)
   | (with_reducible refine LeO.bind ?_ (fun _ => ?_))
   | exact ih0 _ _
   | exact ih1 _ _
   | exact LeO.none _
   | refine LeO.ite ?_ ?_
   | refine LeO.bind ?_ (fun _ => ?_)
theorem g04Why.mono : ∀ a0 k, LeO (g04Why.f k a0) (g04Why.f (k + 1) a0) := by
 intro a0 k; obtain ⟨ih0, ih1⟩ := g04Why.mono_l k; unfold g04Why.f
 repeat' first
  | (with_reducible apply ih0)
  | (with_reducible apply ih1)
  | (with_reducible exact LeO.refl _)
  | (with_reducible exact LeO.none _)
  | (with_reducible refine LeO.ite ?_ ?_)
  | (with_reducible refine LeO.bind ?_ (fun _ => ?_))
  | exact ih0 _ _
  | exact ih1 _ _
  | exact LeO.none _
  | refine LeO.ite ?_ ?_
  | refine LeO.bind ?_ (fun _ => ?_)
set_option maxHeartbeats 8000000 in
set_option maxRecDepth 100000 in
theorem g04Why.calls (k : Nat) (a0 : ByteArray) (r : Int) (w : World) (h : g04Why.f k a0 = some r) :
 Calls Tryd.prog 32 #[.string a0] w fun e w' => e = .returned (.int .i64 r) ∧ Drawn0 w w' := by
 have H : (if (a0.size : Int) < 16 then (some 3) else (if 0 ≤ 4 then (if 4 ≤ (a0.size : Int) then (if (a0.extract 0 4).toList = ([127, 69, 76, 70] : List UInt8) then (if 4 < (a0.size : Int) then (if (bt a0 4) = 1 then (g04Why.j0 k a0 false) else (g04Why.j0 k a0 ((bt a0 4) != 2))) else (none)) else (some 4)) else (none)) else (none))) = some r := h; clear h
 by_cases c2 : (a0.size : Int) < 16
 ·(rw [if_pos c2] at H); have c2b0 : decide ((a0.size : Int) < 16) = true := decide_eq_true c2; (have c2b1 : decide (a0.size < 16) = true := decide_eq_true (by omega)); clear c2; obtain rfl := Option.some.inj H; go_enter Tryd.func32, Tryd.ntmps32; (go_wp2); (go_ret); exact ⟨by first | rfl | (simp; done) | (simp [*]; done), by repeat (first | exact Drawn0.refl _ | apply Drawn0.step)⟩
 ·rw [if_neg c2] at H
  have c2b0 : decide ((a0.size : Int) < 16) = false := decide_eq_false c2; (have c2b1 : decide (a0.size < 16) = false := decide_eq_false (by omega)); clear c2
  by_cases c3 : 0 ≤ 4
  ·rw [if_pos c3] at H
   have c3b0 := eq_true c3; have c3b1 : decide (0 ≤ 4) = true := decide_eq_true c3; clear c3
   by_cases c4 : 4 ≤ (a0.size : Int)
   ·rw [if_pos c4] at H
    have c4b0 := eq_true c4; have c4b1 : decide (4 ≤ (a0.size : Int)) = true := decide_eq_true c4; clear c4; obtain ⟨sc5, hsc5⟩ : ∃ s_ : ByteArray, (a0.extract 0 4) = s_ := ⟨_, rfl⟩; (replace H : (if sc5.toList = ([127, 69, 76, 70] : List UInt8) then (if 4 < (a0.size : Int) then (if (bt a0 4) = 1 then (g04Why.j0 k a0 false) else (g04Why.j0 k a0 ((bt a0 4) != 2))) else (none)) else (some 4)) = some r := by first | (rw [hsc5] at H; exact H) | (simp only [hsc5] at H ⊢; exact H) | exact H); (try (have hsc5n := hsc5; simp only [Int.toNat_natCast] at hsc5n))
    by_cases c6 : sc5.toList = ([127, 69, 76, 70] : List UInt8)
    ·rw [if_pos c6] at H
     have c6b0 : (sc5.toList == ([127, 69, 76, 70] : List UInt8)) = true := beq_iff_eq.mpr c6; have c6b1 : (sc5.toList != ([127, 69, 76, 70] : List UInt8)) = false := bne_eq_false_iff_eq.mpr c6; clear c6; have HC7 := aS H; clear H; go_enter Tryd.func32, Tryd.ntmps32; (go_upto_region 5 with (fail)); go_cut [16] (fun v16 wc => ∃ (kq : Nat) (x16_6 : Bool), v16 = .bool x16_6 ∧ Aside0 (g04Why.j0 kq a0 x16_6 = some r) ∧ Aside0 (kq ≤ k) ∧ Drawn0 w wc)
     case first =>
      have H := HC7.out; clear HC7
      by_cases c8 : 4 < (a0.size : Int)
      ·rw [if_pos c8] at H
       have c8b0 : decide (4 < (a0.size : Int)) = true := decide_eq_true c8; (have c8b1 : decide (4 < a0.size) = true := decide_eq_true (by omega)); clear c8; (first | rw [c8b0] | (simp only [i64_w, i32_w]; rw [c8b0]) | skip)
       by_cases c10 : (bt a0 4) = 1
       ·rw [if_pos c10] at H
        have c10b0 : ((bt a0 4) == 1) = true := beq_iff_eq.mpr c10; have c10b1 : ((bt a0 4) != 1) = false := bne_eq_false_iff_eq.mpr c10; clear c10; have H' := aS H; clear H; (have p9 : 0 ≤ (4 : Int) := (by omega)); (have q9 : 4 < a0.size := (by have : (4 : Int) < (a0.size : Int) := of_decide_eq_true (by first | (with_reducible assumption) | assumption); omega)); have hx9 : ∀ h : 4 < a0.size, ((a0[4]'h).toNat : Int) = bt a0 4 := bt_at a0 4; clear p9; (have qi9 : (4 < (a0.size : Int)) = True := eq_true (of_decide_eq_true (by first | (with_reducible assumption) | assumption))); replace q9 := eq_true q9; (go_wp2); go_meet
        case rel => exact ⟨_, (false), sr, H', ⟨by first | omega | exact Nat.le_refl _⟩, by repeat (first | exact Drawn0.refl _ | apply Drawn0.step)⟩
       ·rw [if_neg c10] at H
        have c10b0 : ((bt a0 4) == 1) = false := beq_eq_false_iff_ne.mpr c10; have c10b1 : ((bt a0 4) != 1) = true := bne_iff_ne.mpr c10; have H' := aS H; clear H; (have p9 : 0 ≤ (4 : Int) := (by omega)); (have q9 : 4 < a0.size := (by have : (4 : Int) < (a0.size : Int) := of_decide_eq_true (by first | (with_reducible assumption) | assumption); omega)); have hx9 : ∀ h : 4 < a0.size, ((a0[4]'h).toNat : Int) = bt a0 4 := bt_at a0 4; clear p9; (have qi9 : (4 < (a0.size : Int)) = True := eq_true (of_decide_eq_true (by first | (with_reducible assumption) | assumption))); replace q9 := eq_true q9; (have p11 : 0 ≤ (4 : Int) := (by omega)); (have q11 : 4 < a0.size := (by have : (4 : Int) < (a0.size : Int) := of_decide_eq_true (by first | (with_reducible assumption) | assumption); omega)); have hx11 : ∀ h : 4 < a0.size, ((a0[4]'h).toNat : Int) = bt a0 4 := bt_at a0 4; clear p11; (have qi11 : (4 < (a0.size : Int)) = True := eq_true (of_decide_eq_true (by first | (with_reducible assumption) | assumption))); replace q11 := eq_true q11; (go_wp2); go_meet
        case rel => exact ⟨_, (((bt a0 4) != 2)), sr, H', ⟨by first | omega | exact Nat.le_refl _⟩, by repeat (first | exact Drawn0.refl _ | apply Drawn0.step)⟩
      ·(rw [if_neg c8] at H); exact absurd H (by simp)
     case rest =>
      clear HC7; (try clear c1); (try clear p1); (try clear q1); (try clear hx1); (try clear qi1); (try clear c2); (try clear c2b0); (try clear c2b1); (try clear p2); (try clear c3); (try clear c3b0); (try clear c3b1); (try clear c4); (try clear c4b0); (try clear c4b1); (try clear c5); (try clear c6); (try clear c6b0); (try clear c6b1); (try clear c8); (try clear c8b0); (try clear c8b1); (try clear p9); (try clear q9); (try clear hx9); (try clear qi9); (try clear c10); (try clear c10b0); (try clear c10b1); (try clear p11); (try clear q11); (try clear hx11); (try clear qi11); obtain ⟨kq, x16_6, rfl, HA, HJ6, ⟨mc6, rfl⟩⟩ := hcut
      cases kq with
      | zero => exact absurd HA.out (by simp [g04Why.j0])
      | succ kj6 =>
       have H := HA.out; clear HA; simp only [g04Why.j0] at H
       by_cases c12 : x16_6 = true
       ·(subst c12); (have H1 : (some 5) = some r := by rw [if_pos rfl] at H; exact H); clear H; have H := H1; clear H1; obtain rfl := Option.some.inj H; (go_wp2); (go_ret); exact ⟨by first | rfl | (simp; done) | (simp [*]; done), by repeat (first | exact Drawn0.refl _ | apply Drawn0.step)⟩
       ·replace c12 := Bool.eq_false_iff.mpr c12
        subst c12; (have H1 : (if 5 < (a0.size : Int) then (if (bt a0 5) = 1 then (g04Why.j1 kj6 a0 false) else (g04Why.j1 kj6 a0 ((bt a0 5) != 2))) else (none)) = some r := by rw [if_neg (show ¬ (false = true) by decide)] at H; exact H); clear H; have H := H1; clear H1; have HC13 := aS H; clear H; (go_upto_region 7 with (fail)); go_cut [24] (fun v24 wc => ∃ (kq : Nat) (x24_12 : Bool), v24 = .bool x24_12 ∧ Aside0 (g04Why.j1 kq a0 x24_12 = some r) ∧ Aside0 (kq ≤ kj6) ∧ Drawn0 w wc)
        case first =>
         have H := HC13.out; clear HC13
         by_cases c14 : 5 < (a0.size : Int)
         ·rw [if_pos c14] at H
          have c14b0 : decide (5 < (a0.size : Int)) = true := decide_eq_true c14; (have c14b1 : decide (5 < a0.size) = true := decide_eq_true (by omega)); clear c14; (first | rw [c14b0] | (simp only [i64_w, i32_w]; rw [c14b0]) | skip)
          by_cases c16 : (bt a0 5) = 1
          ·rw [if_pos c16] at H
           have c16b0 : ((bt a0 5) == 1) = true := beq_iff_eq.mpr c16; have c16b1 : ((bt a0 5) != 1) = false := bne_eq_false_iff_eq.mpr c16; clear c16; have H' := aS H; clear H; (have p15 : 0 ≤ (5 : Int) := (by omega)); (have q15 : 5 < a0.size := (by have : (5 : Int) < (a0.size : Int) := of_decide_eq_true (by first | (with_reducible assumption) | assumption); omega)); have hx15 : ∀ h : 5 < a0.size, ((a0[5]'h).toNat : Int) = bt a0 5 := bt_at a0 5; clear p15; (have qi15 : (5 < (a0.size : Int)) = True := eq_true (of_decide_eq_true (by first | (with_reducible assumption) | assumption))); replace q15 := eq_true q15; (go_wp2); go_meet
           case rel => exact ⟨_, (false), sr, H', ⟨by have := HJ6.out; first | omega | exact Nat.le_refl _⟩, by repeat (first | exact Drawn0.refl _ | apply Drawn0.step)⟩
          ·rw [if_neg c16] at H
           have c16b0 : ((bt a0 5) == 1) = false := beq_eq_false_iff_ne.mpr c16; have c16b1 : ((bt a0 5) != 1) = true := bne_iff_ne.mpr c16; have H' := aS H; clear H; (have p15 : 0 ≤ (5 : Int) := (by omega)); (have q15 : 5 < a0.size := (by have : (5 : Int) < (a0.size : Int) := of_decide_eq_true (by first | (with_reducible assumption) | assumption); omega)); have hx15 : ∀ h : 5 < a0.size, ((a0[5]'h).toNat : Int) = bt a0 5 := bt_at a0 5; clear p15; (have qi15 : (5 < (a0.size : Int)) = True := eq_true (of_decide_eq_true (by first | (with_reducible assumption) | assumption))); replace q15 := eq_true q15; (have p17 : 0 ≤ (5 : Int) := (by omega)); (have q17 : 5 < a0.size := (by have : (5 : Int) < (a0.size : Int) := of_decide_eq_true (by first | (with_reducible assumption) | assumption); omega)); have hx17 : ∀ h : 5 < a0.size, ((a0[5]'h).toNat : Int) = bt a0 5 := bt_at a0 5; clear p17; (have qi17 : (5 < (a0.size : Int)) = True := eq_true (of_decide_eq_true (by first | (with_reducible assumption) | assumption))); replace q17 := eq_true q17; (go_wp2); go_meet
           case rel => exact ⟨_, (((bt a0 5) != 2)), sr, H', ⟨by have := HJ6.out; first | omega | exact Nat.le_refl _⟩, by repeat (first | exact Drawn0.refl _ | apply Drawn0.step)⟩
         ·(rw [if_neg c14] at H); exact absurd H (by simp)
        case rest =>
         clear HC13; (try clear c12); (try clear c14); (try clear c14b0); (try clear c14b1); (try clear p15); (try clear q15); (try clear hx15); (try clear qi15); (try clear c16); (try clear c16b0); (try clear c16b1); (try clear p17); (try clear q17); (try clear hx17); (try clear qi17); obtain ⟨kq, x24_12, rfl, HA, HJ12, ⟨mc12, rfl⟩⟩ := hcut
         cases kq with
         | zero => exact absurd HA.out (by simp [g04Why.j1])
         | succ kj12 =>
          have H := HA.out; clear HA; simp only [g04Why.j1] at H
          by_cases c18 : x24_12 = true
          ·(subst c18); (have H1 : (some 6) = some r := by rw [if_pos rfl] at H; exact H); clear H; have H := H1; clear H1; obtain rfl := Option.some.inj H; (go_wp2); (go_ret); exact ⟨by first | rfl | (simp; done) | (simp [*]; done), by repeat (first | exact Drawn0.refl _ | apply Drawn0.step)⟩
          ·replace c18 := Bool.eq_false_iff.mpr c18
           subst c18; (have H1 : (if 6 < (a0.size : Int) then (if (bt a0 6) = 1 then (some 0) else (some 7)) else (none)) = some r := by rw [if_neg (show ¬ (false = true) by decide)] at H; exact H); clear H; have H := H1; clear H1
           by_cases c19 : 6 < (a0.size : Int)
           ·rw [if_pos c19] at H
            have c19b0 : decide (6 < (a0.size : Int)) = true := decide_eq_true c19; (have c19b1 : decide (6 < a0.size) = true := decide_eq_true (by omega)); clear c19
            by_cases c21 : (bt a0 6) = 1
            ·(rw [if_pos c21] at H); have c21b0 : ((bt a0 6) == 1) = true := beq_iff_eq.mpr c21; have c21b1 : ((bt a0 6) != 1) = false := bne_eq_false_iff_eq.mpr c21; clear c21; obtain rfl := Option.some.inj H; (have p20 : 0 ≤ (6 : Int) := (by omega)); (have q20 : 6 < a0.size := (by have : (6 : Int) < (a0.size : Int) := of_decide_eq_true (by first | (with_reducible assumption) | assumption); omega)); have hx20 : ∀ h : 6 < a0.size, ((a0[6]'h).toNat : Int) = bt a0 6 := bt_at a0 6; clear p20; (have qi20 : (6 < (a0.size : Int)) = True := eq_true (of_decide_eq_true (by first | (with_reducible assumption) | assumption))); replace q20 := eq_true q20; (go_wp2); (go_ret); exact ⟨by first | rfl | (simp; done) | (simp [*]; done), by repeat (first | exact Drawn0.refl _ | apply Drawn0.step)⟩
            ·(rw [if_neg c21] at H); have c21b0 : ((bt a0 6) == 1) = false := beq_eq_false_iff_ne.mpr c21; have c21b1 : ((bt a0 6) != 1) = true := bne_iff_ne.mpr c21; obtain rfl := Option.some.inj H; (have p20 : 0 ≤ (6 : Int) := (by omega)); (have q20 : 6 < a0.size := (by have : (6 : Int) < (a0.size : Int) := of_decide_eq_true (by first | (with_reducible assumption) | assumption); omega)); have hx20 : ∀ h : 6 < a0.size, ((a0[6]'h).toNat : Int) = bt a0 6 := bt_at a0 6; clear p20; (have qi20 : (6 < (a0.size : Int)) = True := eq_true (of_decide_eq_true (by first | (with_reducible assumption) | assumption))); replace q20 := eq_true q20; (go_wp2); (go_ret); exact ⟨by first | rfl | (simp; done) | (simp [*]; done), by repeat (first | exact Drawn0.refl _ | apply Drawn0.step)⟩
           ·(rw [if_neg c19] at H); exact absurd H (by simp)
    ·(rw [if_neg c6] at H); have c6b0 : (sc5.toList == ([127, 69, 76, 70] : List UInt8)) = false := beq_eq_false_iff_ne.mpr c6; have c6b1 : (sc5.toList != ([127, 69, 76, 70] : List UInt8)) = true := bne_iff_ne.mpr c6; obtain rfl := Option.some.inj H; go_enter Tryd.func32, Tryd.ntmps32; (go_wp2); (go_ret); exact ⟨by first | rfl | (simp; done) | (simp [*]; done), by repeat (first | exact Drawn0.refl _ | apply Drawn0.step)⟩
   ·(rw [if_neg c4] at H); exact absurd H (by simp)
  ·rw [if_neg c3] at H
   exact absurd H (by simp)

def g11there.f (a0 : ByteArray) (a1 : Int) (a2 : Int) : Option (Bool) := if a1 ≤ (IntKind.u64.wrap ((a0.size : Int))) then (some (decide (a2 ≤ (IntKind.u64.wrap ((IntKind.u64.wrap ((a0.size : Int))) - a1))))) else (some false)
set_option maxHeartbeats 8000000 in
set_option maxRecDepth 100000 in
theorem g11there.calls (a0 : ByteArray) (a1 : Int) (a2 : Int) (r : Bool) (w : World) (h : g11there.f a0 a1 a2 = some r) :
 Calls Tryd.prog 34 #[.string a0, .int .u64 a1, .int .u64 a2] w fun e w' => e = .returned (.bool r) ∧ Drawn0 w w' := by
 have H : (if a1 ≤ (IntKind.u64.wrap ((a0.size : Int))) then (some (decide (a2 ≤ (IntKind.u64.wrap ((IntKind.u64.wrap ((a0.size : Int))) - a1))))) else (some false)) = some r := h; clear h
 by_cases c4 : a1 ≤ (IntKind.u64.wrap ((a0.size : Int)))
 ·(rw [if_pos c4] at H); have c4b0 : decide (a1 ≤ (IntKind.u64.wrap ((a0.size : Int)))) = true := decide_eq_true c4; clear c4; obtain rfl := Option.some.inj H; go_enter Tryd.func34, Tryd.ntmps34; (go_wp2); (go_ret); exact ⟨by first | rfl | (simp; done) | (simp [*]; done), by repeat (first | exact Drawn0.refl _ | apply Drawn0.step)⟩
 ·rw [if_neg c4] at H
  have c4b0 : decide (a1 ≤ (IntKind.u64.wrap ((a0.size : Int)))) = false := decide_eq_false c4; clear c4; obtain rfl := Option.some.inj H; go_enter Tryd.func34, Tryd.ntmps34; (go_wp2); go_ret
  exact ⟨by first | rfl | (simp; done) | (simp [*]; done), by repeat (first | exact Drawn0.refl _ | apply Drawn0.step)⟩

def g11power.l0 : Nat → Int → Option (Bool)
 | 0, _ => none
 | k + 1, x0 => if x0 > 1 then (if (Int.tmod x0 2) = 0 then (g11power.l0 k (IntKind.u64.wrap (Int.tdiv x0 2))) else (some (decide (x0 < 2)))) else (some (decide (x0 < 2)))
def g11power.f (k : Nat) (a0 : Int) : Option (Bool) := g11power.l0 k a0
theorem g11power.mono_l : ∀ k, (∀ y0, LeO (g11power.l0 k y0) (g11power.l0 (k + 1) y0))
 | 0 => fun _ r h => by simp [g11power.l0] at h
 | k + 1 => by
  have ih0 := g11power.mono_l k
  ·intro y0
   unfold g11power.l0
   repeat' first
   | (with_reducible apply ih0)
   | (with_reducible exact LeO.refl _)
   | (with_reducible exact LeO.none _)
   | (with_reducible refine LeO.ite ?_ ?_)
   | (with_reducible refine LeO.bind ?_ (fun _ => ?_))
   | exact ih0 _
   | exact LeO.none _
   | refine LeO.ite ?_ ?_
   | refine LeO.bind ?_ (fun _ => ?_)
theorem g11power.mono : ∀ a0 k, LeO (g11power.f k a0) (g11power.f (k + 1) a0) := by
 intro a0 k; have ih0 := g11power.mono_l k; unfold g11power.f
 repeat' first
  | (with_reducible apply ih0)
  | (with_reducible exact LeO.refl _)
  | (with_reducible exact LeO.none _)
  | (with_reducible refine LeO.ite ?_ ?_)
  | (with_reducible refine LeO.bind ?_ (fun _ => ?_))
  | exact ih0 _
  | exact LeO.none _
  | refine LeO.ite ?_ ?_
  | refine LeO.bind ?_ (fun _ => ?_)
set_option maxHeartbeats 8000000 in
set_option maxRecDepth 100000 in
theorem g11power.calls (k : Nat) (a0 : Int) (r : Bool) (w : World) (h : g11power.f k a0 = some r) :
 Calls Tryd.prog 35 #[.int .u64 a0] w fun e w' => e = .returned (.bool r) ∧ Drawn0 w w' := by
 have H : (g11power.l0 k a0) = some r := h; clear h; have H' := aS H; clear H; go_enter Tryd.func35, Tryd.ntmps35; (go_wp2); go_loopg [0] k (fun kq v0 w' => ∃ (x0_1 : Int), v0 = .int .u64 x0_1 ∧ Aside0 (g11power.l0 kq x0_1 = some r) ∧ Aside0 (kq ≤ k) ∧ Drawn0 w w')
 case atStart => exact ⟨(a0), sr, H', ⟨Nat.le_refl _⟩, by repeat (first | exact Drawn0.refl _ | apply Drawn0.step)⟩
 case round =>
  clear H'; obtain ⟨x0_1, rfl, HA, HK1, ⟨m1, rfl⟩⟩ := hrel
  cases gk with
  | zero => exact absurd HA.out (by simp [g11power.l0])
  | succ k1 =>
   have H := HA.out; clear HA; simp only [g11power.l0] at H
   by_cases c2 : x0_1 > 1
   ·rw [if_pos c2] at H
    have c2b0 : decide (1 < x0_1) = true := decide_eq_true c2; clear c2
    by_cases c3 : (Int.tmod x0_1 2) = 0
    ·rw [if_pos c3] at H
     have c3b0 : ((Int.tmod x0_1 2) == 0) = true := beq_iff_eq.mpr c3; have c3b1 : ((Int.tmod x0_1 2) != 0) = false := bne_eq_false_iff_eq.mpr c3; clear c3; have H' := aS H; clear H; (go_wp2); go_roundg k1
     case measure => have := HK1.out; omega
     case rel => exact ⟨(IntKind.u64.wrap (Int.tdiv x0_1 2)), sr, H', ⟨by have := HK1.out; omega⟩, by repeat (first | exact Drawn0.refl _ | apply Drawn0.step)⟩
    ·(rw [if_neg c3] at H); have c3b0 : ((Int.tmod x0_1 2) == 0) = false := beq_eq_false_iff_ne.mpr c3; have c3b1 : ((Int.tmod x0_1 2) != 0) = true := bne_iff_ne.mpr c3; obtain rfl := Option.some.inj H; (go_wp2); (go_ret); exact ⟨by first | rfl | (simp; done) | (simp [*]; done), by repeat (first | exact Drawn0.refl _ | apply Drawn0.step)⟩
   ·rw [if_neg c2] at H
    have c2b0 : decide (1 < x0_1) = false := decide_eq_false c2; clear c2; obtain rfl := Option.some.inj H; (go_wp2); go_ret
    exact ⟨by first | rfl | (simp; done) | (simp [*]; done), by repeat (first | exact Drawn0.refl _ | apply Drawn0.step)⟩

end Go.Proofs.YtceilmhinkkgfaaDoor.Q
end
