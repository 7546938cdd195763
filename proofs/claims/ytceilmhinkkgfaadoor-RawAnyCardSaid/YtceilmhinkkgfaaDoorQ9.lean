/- Walks. No condition but those in the statements. -/
import Derived.Test.YtceilmhinkkgfaaDoorQ4
set_option linter.unusedVariables false
set_option linter.unusedSimpArgs false
section
namespace Go.Proofs.YtceilmhinkkgfaaDoor.Q
open Go.RowKit Go.Proofs.YtceilmhinkkgfaaDoorW.PrintWords Go.Proofs.YtceilmhinkkgfaaDoorW.PrintLast Go.Proofs.YtceilmhinkkgfaaDoorW.PrintMore
attribute [local go_sem] max2_int min2_int max_two min_two max_three min_three max_four min_four

def class_fits.f (a0 : Int) (a1 : Int) : Option (Bool) := if a1 ≥ 8 then (some true) else (if 0 ≤ (wrap64 (8 * a1)) then (some ((shr .u64 a0 (wrap64 (8 * a1))) == 0)) else (none))
set_option maxHeartbeats 8000000 in
set_option maxRecDepth 100000 in
theorem class_fits.calls (a0 : Int) (a1 : Int) (r : Bool) (w : World) (h : class_fits.f a0 a1 = some r) :
 Calls Tryd.prog 64 #[.int .u64 a0, .int .i64 a1] w fun e w' => e = .returned (.bool r) ∧ Drawn0 w w' := by
 have H : (if a1 ≥ 8 then (some true) else (if 0 ≤ (wrap64 (8 * a1)) then (some ((shr .u64 a0 (wrap64 (8 * a1))) == 0)) else (none))) = some r := h; clear h
 by_cases c3 : a1 ≥ 8
 ·(rw [if_pos c3] at H); have c3b0 : decide (8 ≤ a1) = true := decide_eq_true c3; clear c3; obtain rfl := Option.some.inj H; go_enter Tryd.func64, Tryd.ntmps64; (go_wp2); (go_ret); exact ⟨by first | rfl | (simp; done) | (simp [*]; done), by repeat (first | exact Drawn0.refl _ | apply Drawn0.step)⟩
 ·rw [if_neg c3] at H
  have c3b0 : decide (8 ≤ a1) = false := decide_eq_false c3; clear c3; obtain ⟨ji4, hji4⟩ : ∃ j_ : Int, (wrap64 (8 * a1)) = j_ := ⟨_, rfl⟩; (replace H : (if 0 ≤ (ji4) then (some ((shr .u64 a0 (ji4)) == 0)) else (none)) = some r := by first | (rw [hji4] at H; exact H) | (simp only [hji4] at H ⊢; exact H)); have hji4w : (IntKind.i64.wrap (8 * a1)) = ji4 := (i64_w _).trans hji4
  by_cases c5 : 0 ≤ (ji4)
  ·(rw [if_pos c5] at H); have c5b0 := eq_true c5; have c5b1 : decide (0 ≤ (ji4)) = true := decide_eq_true c5; clear c5; obtain ⟨ji6, hji6⟩ : ∃ j_ : Int, (shr .u64 a0 (ji4)) = j_ := ⟨_, rfl⟩; (replace H : (some ((ji6) == 0)) = some r := by first | (rw [hji6] at H; exact H) | (simp only [hji6] at H ⊢; exact H)); have hji6_ : (a0 / 2 ^ min (ji4).toNat 64) = ji6 := hji6; have hji6z : (ji4) ≤ 64 → (a0 / 2 ^ (ji4).toNat) = ji6 := shr_small hji6; ((try have hji6y := hji6z (by first | omega | (simp only [decide_eq_true_eq] at *; omega)))); obtain rfl := Option.some.inj H; go_enter Tryd.func64, Tryd.ntmps64; (go_wp2); (go_ret); exact ⟨by first | rfl | (simp; done) | (simp only [← hji4, ← hji6] <;> (first | rfl | simp)) | (simp [*]; done), by repeat (first | exact Drawn0.refl _ | apply Drawn0.step)⟩
  ·rw [if_neg c5] at H
   exact absurd H (by simp)

def oO_place.f (a0_0 : Bool) (a1 : Int) (a2 : Int) : Option (Int) := if a0_0 = true then (some (wrap64 ((wrap64 (a2 - 1)) - a1))) else (some a1)
set_option maxHeartbeats 8000000 in
set_option maxRecDepth 100000 in
theorem oO_place.calls (a0_0 : Bool) (a1 : Int) (a2 : Int) (r : Int) (w : World) (h : oO_place.f a0_0 a1 a2 = some r) :
 Calls Tryd.prog 76 #[.agg #[.bool a0_0], .int .i64 a1, .int .i64 a2] w fun e w' => e = .returned (.int .i64 r) ∧ Below w.heap.size w w' := by
 have hu32 := Tryd.underlying32; have HB := aS (Below.refl w.heap.size w); have H : (if a0_0 = true then (some (wrap64 ((wrap64 (a2 - 1)) - a1))) else (some a1)) = some r := h; clear h
 by_cases c4 : a0_0 = true
 ·(subst c4); (have H1 : (some (wrap64 ((wrap64 (a2 - 1)) - a1))) = some r := by rw [if_pos rfl] at H; exact H); clear H; have H := H1; clear H1; obtain rfl := Option.some.inj H; go_enter Tryd.func76, Tryd.ntmps76; (go_wp2_with (first | ((with_reducible refine gate_dst (N := 3) rfl ?_); refine bE 3 #[.bool true] 32 ?_; intro gb128 hg w5 hbox hb; have BK128 := aS (hbox); have GW128 := aS (bsz hg hbN : w.heap.size ≤ gb128); have GE128 := aS (bsz hg hbN : w.heap.size ≤ gb128); replace HB := aS (below_step hbN hb); clear hb hbox hg; have hcz6_0 : w5.cell? ⟨gb128, 0, none⟩ = some (.bool true) := (blk_cell BK128.out 0).trans rfl; have hfz6_0 := blk_frozen BK128.out 0))); (go_ret); exact ⟨er, hbS⟩
 ·replace c4 := Bool.eq_false_iff.mpr c4
  subst c4; (have H1 : (some a1) = some r := by rw [if_neg (show ¬ (false = true) by decide)] at H; exact H); clear H; have H := H1; clear H1; obtain rfl := Option.some.inj H; go_enter Tryd.func76, Tryd.ntmps76; (go_wp2_with (first | ((with_reducible refine gate_dst (N := 3) rfl ?_); refine bE 3 #[.bool false] 32 ?_; intro gb128 hg w7 hbox hb; have BK128 := aS (hbox); have GW128 := aS (bsz hg hbN : w.heap.size ≤ gb128); have GE128 := aS (bsz hg hbN : w.heap.size ≤ gb128); replace HB := aS (below_step hbN hb); clear hb hbox hg; have hcz8_0 : w7.cell? ⟨gb128, 0, none⟩ = some (.bool false) := (blk_cell BK128.out 0).trans rfl; have hfz8_0 := blk_frozen BK128.out 0))); go_ret
  exact ⟨er, hbS⟩

mutual
def oO_Put.j0 : Nat → Int → Int → Bool → Bool → Option (ByteArray)
 | 0, _, _, _, _ => none
 | k + 1, x1, x2, x14, x130000 => if x14 = true then (some (⟨#[]⟩ : ByteArray)) else (if 0 ≤ x2 then (if (x2 : Int).toNat ≤ 281474976710656 then ((some (List.replicate (x2 : Int).toNat 0 : List Int)).bind fun y130 => (oO_Put.l0 k x1 x2 y130 (y130.length : Int) 0 x130000)) else (none)) else (none))
def oO_Put.l0 : Nat → Int → Int → List Int → Int → Int → Bool → Option (ByteArray)
 | 0, _, _, _, _, _, _ => none
 | k + 1, x1, x2, x7, x18, x19, x130000 => if x19 < x18 then ((oO_place.f x130000 x19 x2).bind fun t133 => (if 0 ≤ (wrap64 (8 * x19)) then (if 0 ≤ t133 then (if t133 < (x7.length : Int) then (oO_Put.l0 k x1 x2 (x7.set (t133 : Int).toNat ((shr .u64 x1 (wrap64 (8 * x19))) % 256)) x18 (wrap64 (x19 + 1)) x130000) else (none)) else (none)) else (none))) else (some (strOfNums x7))
end
def oO_Put.f (k : Nat) (a0_0 : Bool) (a1 : Int) (a2 : Int) : Option (ByteArray) := if a2 < 1 then (oO_Put.j0 k a1 a2 true a0_0) else (oO_Put.j0 k a1 a2 (decide (a2 > 8)) a0_0)
theorem oO_Put.mono_l : ∀ k, (∀ y0 y1 y2 y3, LeO (oO_Put.j0 k y0 y1 y2 y3) (oO_Put.j0 (k + 1) y0 y1 y2 y3)) ∧ (∀ y0 y1 y2 y3 y4 y5, LeO (oO_Put.l0 k y0 y1 y2 y3 y4 y5) (oO_Put.l0 (k + 1) y0 y1 y2 y3 y4 y5))
 | 0 => ⟨fun _ _ _ _ r h => by simp [oO_Put.j0] at h, fun _ _ _ _ _ _ r h => by simp [oO_Put.l0] at h⟩
 | k + 1 => by
  obtain ⟨ih0, ih1⟩ := oO_Put.mono_l k; refine ⟨?_, ?_⟩
  ·intro y0 y1 y2 y3
   unfold oO_Put.j0
   repeat' first
   | (with_reducible apply ih0)
   | (with_reducible apply ih1)
   | (with_reducible exact LeO.refl _)
   | (with_reducible exact LeO.none _)
   | (with_reducible refine LeO.ite ?_ ?_)
   | (with_reducible refine LeO.bind ?_ (fun _ => ?_))
   | exact ih0 _ _ _ _
   | exact ih1 _ _ _ _ _ _
   | exact LeO.none _
   | refine LeO.ite ?_ ?_
   | refine LeO.bind ?_ (fun _ => ?_)
  ·intro y0 y1 y2 y3 y4 y5
   unfold oO_Put.l0
   repeat' first
   | (with_reducible apply ih0)
   | (with_reducible apply ih1)
   | (with_reducible exact LeO.refl _)
   | (with_reducible exact LeO.none _)
   | (with_reducible refine LeO.ite ?_ ?_)
   | (with_reducible refine LeO.bind ?_ (fun _ => ?_))
   | exact ih0 _ _ _ _
   | exact ih1 _ _ _ _ _ _
   | exact LeO.none _
   | refine LeO.ite ?_ ?_
   | refine LeO.bind ?_ (fun _ => ?_)
theorem oO_Put.mono : ∀ a0 a1 a2 k, LeO (oO_Put.f k a0 a1 a2) (oO_Put.f (k + 1) a0 a1 a2) := by
 intro a0 a1 a2 k; obtain ⟨ih0, ih1⟩ := oO_Put.mono_l k; unfold oO_Put.f
 repeat' first
  | (with_reducible apply ih0)
  | (with_reducible apply ih1)
  | (with_reducible exact LeO.refl _)
  | (with_reducible exact LeO.none _)
  | (with_reducible refine LeO.ite ?_ ?_)
  | (with_reducible refine LeO.bind ?_ (fun _ => ?_))
  | exact ih0 _ _ _ _
  | exact ih1 _ _ _ _ _ _
  | exact LeO.none _
  | refine LeO.ite ?_ ?_
  | refine LeO.bind ?_ (fun _ => ?_)
def oO_Put.T7 : Bool × List (List Nat × List Nat) := (true, [([], []), ([], []), ([], []), ([], []), ([1, 2, 3], [1, 2, 3]), ([], []), ([], []), ([6], [6]), ([5, 7], [5, 7]), ([8], [8]), ([0, 4, 0, 1, 2, 3, 4, 5, 6, 7, 8, 9], [0, 4]), ([10, 9, 4, 0, 1, 2, 3, 4, 5, 6, 7, 8, 9], [9, 10])])
def oO_Put.B7 : List Nat := [0, 0, 0, 0, 14, 0, 0, 64, 224, 480, 1023, 2047]
theorem oO_Put.tab7 : rtab .any (opsOf Tryd.f75 7) = oO_Put.T7 := by kernel_rfl
theorem oO_Put.bits7 : waitsOk oO_Put.T7.2 oO_Put.B7 = true := by kernel_rfl
set_option maxHeartbeats 8000000 in
set_option maxRecDepth 100000 in
theorem oO_Put.calls (k : Nat) (a0_0 : Bool) (a1 : Int) (a2 : Int) (r : ByteArray) (w : World) (h : oO_Put.f k a0_0 a1 a2 = some r) :
 Calls Tryd.prog 75 #[.agg #[.bool a0_0], .int .u64 a1, .int .i64 a2] w fun e w' => e = .returned (.string r) ∧ Below w.heap.size w w' := by
 have hu32 := Tryd.underlying32; have HB := aS (Below.refl w.heap.size w); have H : (if a2 < 1 then (oO_Put.j0 k a1 a2 true a0_0) else (oO_Put.j0 k a1 a2 (decide (a2 > 8)) a0_0)) = some r := h; clear h; have HC4 := aS H; clear H; go_enter Tryd.func75, Tryd.ntmps75; (go_upto_region 1 with (first | ((with_reducible refine gate_dst (N := 3) rfl ?_); refine bE 3 #[.bool a0_0] 32 ?_; intro gb129 hg w5 hbox hb; have BK129 := aS (hbox); have GW129 := aS (bsz hg hbN : w.heap.size ≤ gb129); have GE129 := aS (bsz hg hbN : w.heap.size ≤ gb129); replace HB := aS (below_step hbN hb); clear hb hbox hg))); ((try simp only [Act.put, List.setIfInBounds_toArray, List.set_cons_zero, List.set_cons_succ])); go_cut [14] (fun v14 wc => ∃ (kq : Nat) (x14_3 : Bool), v14 = .bool x14_3 ∧ Aside0 (oO_Put.j0 kq a1 a2 x14_3 a0_0 = some r) ∧ Aside0 (kq ≤ k) ∧ Aside0 (wc.heap[gb129]? = some (.cells #[.bool a0_0] 32 (0, 0))) ∧ Aside0 (Below w.heap.size w wc))
 case first =>
  have H := HC4.out; clear HC4
  by_cases c6 : a2 < 1
  ·rw [if_pos c6] at H
   have c6b0 : decide (a2 < 1) = true := decide_eq_true c6; clear c6; ((first | rw [c6b0] | (simp only [i64_w, i32_w]; rw [c6b0]) | skip)); have H' := aS H; clear H; (go_wp2); go_meet
   case rel => exact ⟨_, (true), sr, H', ⟨by first | omega | exact Nat.le_refl _⟩, ⟨pb⟩, ⟨hbS⟩⟩
  ·rw [if_neg c6] at H
   have c6b0 : decide (a2 < 1) = false := decide_eq_false c6; clear c6; ((first | rw [c6b0] | (simp only [i64_w, i32_w]; rw [c6b0]) | skip)); have H' := aS H; clear H; (go_wp2); go_meet
   case rel => exact ⟨_, (decide (a2 > 8)), sr, H', ⟨by first | omega | exact Nat.le_refl _⟩, ⟨pb⟩, ⟨hbS⟩⟩
 case rest =>
  clear HC4; (try clear p2); (try clear c6); (try clear c6b0); obtain ⟨kq, x14_3, rfl, HA, HJ3, BK129, HB⟩ := hcut
  cases kq with
  | zero => exact absurd HA.out (by simp [oO_Put.j0])
  | succ kj3 =>
   have H := HA.out; clear HA; simp only [oO_Put.j0] at H
   by_cases c7 : x14_3 = true
   ·(subst c7); (have H1 : (some (⟨#[]⟩ : ByteArray)) = some r := by rw [if_pos rfl] at H; exact H); clear H; have H := H1; clear H1; obtain rfl := Option.some.inj H; (go_wp2); (go_ret); exact ⟨er, hbS⟩
   ·replace c7 := Bool.eq_false_iff.mpr c7
    subst c7; (have H1 : (if 0 ≤ a2 then (if (a2 : Int).toNat ≤ 281474976710656 then ((some (List.replicate (a2 : Int).toNat 0 : List Int)).bind fun y130 => (oO_Put.l0 kj3 a1 a2 y130 (y130.length : Int) 0 a0_0)) else (none)) else (none)) = some r := by rw [if_neg (show ¬ (false = true) by decide)] at H; exact H); clear H; have H := H1; clear H1
    by_cases c8 : 0 ≤ a2
    ·rw [if_pos c8] at H
     have c8b0 := eq_true c8; have c8b1 : decide (0 ≤ a2) = true := decide_eq_true c8; clear c8
     by_cases c9 : (a2 : Int).toNat ≤ 281474976710656
     ·rw [if_pos c9] at H
      have c9b0 := eq_true c9; have c9b1 : decide ((a2 : Int).toNat ≤ 281474976710656) = true := decide_eq_true c9; clear c9; obtain ⟨y130, hy130⟩ : ∃ y_ : List Int, y_ = (List.replicate (a2 : Int).toNat 0) := ⟨_, rfl⟩; (replace H : (oO_Put.l0 kj3 a1 a2 y130 (y130.length : Int) 0 a0_0) = some r := by first | (rw [hy130]; with_reducible exact H) | (have H2_ := (Option.bind_some _ _).symm.trans H; rw [hy130]; with_reducible exact H2_) | (have H2_ := (Option.bind_some _ _).symm.trans H; with_reducible exact H2_) | with_reducible exact H | (rw [hy130]; exact H) | exact H); have Ny130 := aS hy130; clear hy130; have H' := aS H; clear H; go_wp2_with (first | ((with_reducible refine gate_dst (N := 16) rfl ?_); refine Kd.R_make (Kd.int .u8) _ 5 rfl (N := 16) rfl 25 _ _ rfl a2 rfl rfl Tryd.underlying25 (.int .u8 0) 1 info5 rfl (by decide) (by omega) 0 (ok := fun _ => True) (okp := fun _ => True) rfl (fun _ hk => hk) trivial (of_decide_eq_true (by first | (with_reducible assumption) | assumption)) (Nat.le_trans (Nat.mul_le_mul_right _ (of_decide_eq_true (by first | (with_reducible assumption) | assumption) : a2.toNat ≤ 281474976710656)) (by omega)) (Below.refl _ _) (Nat.le_refl _) ?_; intro v131 w10 ho11 hb hg_ hnew_; clear hg_ hnew_; (first | rw [← Ny130.out] at ho11 | (simp only [Int.reduceToNat] at ho11; rw [← Ny130.out] at ho11)); have HO132 := aS (Kd.R_lower ho11 (below_size hbS)); replace BK129 := aS (blk_below (g := gb129) bkN hb); replace HB := aS (below_step hbS hb); clear hb ho11; obtain ⟨Ao12, co12, eo12⟩ := Kd.R_slice HO132.out; subst eo12))
      go_loopg [19] kj3 (fun kq v19 w' => ∃ (x7_2 : List Int) (x19_2 : Int), v19 = .int .i64 x19_2 ∧ Aside0 (oO_Put.l0 kq a1 a2 x7_2 (y130.length : Int) x19_2 a0_0 = some r) ∧ Aside0 (kq ≤ kj3) ∧ Aside0 (Kd.R (Kd.int .u8) 5 w' w.heap.size (fun _ => True) (.slice Ao12 y130.length co12) x7_2) ∧ Aside0 (w'.heap[gb129]? = some (.cells #[.bool a0_0] 32 (0, 0))) ∧ Aside0 (Below w.heap.size w w'))
      case atStart => exact ⟨(y130), (0), sr, H', ⟨Nat.le_refl _⟩, ⟨by (with_reducible repeat (first | apply Kd.R_alloc | apply Kd.R_drewN | apply Kd.R_drew)); exact HO132.out⟩, ⟨pb⟩, ⟨hbS⟩⟩
      case round =>
       clear H'; (try clear c7); (try clear c8); (try clear c8b0); (try clear c8b1); (try clear c9); (try clear c9b0); (try clear c9b1); obtain ⟨x7_2, x19_2, rfl, HA, HK2, HO_7, BK129, HB⟩ := hrel; have hl7_2 := (Kd.R_reads' HO_7.out).1; rw [hl7_2] at HO_7; ((try simp only [hl7_2])); (try simp only [hl7_2] at BK129)
       cases gk with
       | zero => exact absurd HA.out (by simp [oO_Put.l0])
       | succ k2 =>
        have H := HA.out; clear HA; simp only [oO_Put.l0] at H
        by_cases c13 : x19_2 < (y130.length : Int)
        ·rw [if_pos c13] at H
         have c13b0 : decide (x19_2 < (y130.length : Int)) = true := decide_eq_true c13; ((try simp only [hl7_2] at c13b0)); clear c13; replace H := Option.bind_eq_some_iff.mp H; obtain ⟨t133, A140, H⟩ := H; replace H : (if 0 ≤ (wrap64 (8 * x19_2)) then (if 0 ≤ t133 then (if t133 < (x7_2.length : Int) then (oO_Put.l0 k2 a1 a2 (x7_2.set (t133 : Int).toNat ((shr .u64 a1 (wrap64 (8 * x19_2))) % 256)) (y130.length : Int) (wrap64 (x19_2 + 1)) a0_0) else (none)) else (none)) else (none)) = some r := H; have A14 := aS A140; clear A140; obtain ⟨ji15, hji15⟩ : ∃ j_ : Int, (wrap64 (8 * x19_2)) = j_ := ⟨_, rfl⟩; (replace H : (if 0 ≤ (ji15) then (if 0 ≤ t133 then (if t133 < (x7_2.length : Int) then (oO_Put.l0 k2 a1 a2 (x7_2.set (t133 : Int).toNat ((shr .u64 a1 (ji15)) % 256)) (y130.length : Int) (wrap64 (x19_2 + 1)) a0_0) else (none)) else (none)) else (none)) = some r := by first | (rw [hji15] at H; exact H) | (simp only [hji15] at H ⊢; exact H)); ((try rw [hji15] at A14)); have hji15w : (IntKind.i64.wrap (8 * x19_2)) = ji15 := (i64_w _).trans hji15
         by_cases c16 : 0 ≤ (ji15)
         ·rw [if_pos c16] at H
          have c16b0 := eq_true c16; have c16b1 : decide (0 ≤ (ji15)) = true := decide_eq_true c16; clear c16; obtain ⟨ji17, hji17⟩ : ∃ j_ : Int, (shr .u64 a1 (ji15)) = j_ := ⟨_, rfl⟩; (replace H : (if 0 ≤ t133 then (if t133 < (x7_2.length : Int) then (oO_Put.l0 k2 a1 a2 (x7_2.set (t133 : Int).toNat ((ji17) % 256)) (y130.length : Int) (wrap64 (x19_2 + 1)) a0_0) else (none)) else (none)) = some r := by first | (rw [hji17] at H; exact H) | (simp only [hji17] at H ⊢; exact H)); ((try rw [hji17] at A14)); have hji17_ : (a1 / 2 ^ min (ji15).toNat 64) = ji17 := hji17; have hji17z : (ji15) ≤ 64 → (a1 / 2 ^ (ji15).toNat) = ji17 := shr_small hji17; (try have hji17y := hji17z (by first | omega | (simp only [decide_eq_true_eq] at *; omega)))
          by_cases c18 : 0 ≤ t133
          ·rw [if_pos c18] at H
           have c18b0 : decide (0 ≤ t133) = true := decide_eq_true c18; clear c18
           by_cases c19 : t133 < (x7_2.length : Int)
           ·rw [if_pos c19] at H
            have c19b0 : decide (t133 < (x7_2.length : Int)) = true := decide_eq_true c19; ((try simp only [hl7_2] at c19b0)); clear c19; obtain ⟨y134, hy134⟩ : ∃ y_ : List Int, y_ = (x7_2.set (t133 : Int).toNat ((ji17) % 256)) := ⟨_, rfl⟩; (replace H : (oO_Put.l0 k2 a1 a2 y134 (y130.length : Int) (wrap64 (x19_2 + 1)) a0_0) = some r := by first | (rw [hy134]; with_reducible exact H) | (have H2_ := (Option.bind_some _ _).symm.trans H; rw [hy134]; with_reducible exact H2_) | (have H2_ := (Option.bind_some _ _).symm.trans H; with_reducible exact H2_) | with_reducible exact H | (rw [hy134]; exact H) | exact H); have Ny134 := aS hy134; clear hy134; have H' := aS H; clear H; (try go_wp2); replace HO_7 := aS (Kd.R_drew HO_7.out); replace BK129 := aS (blk_drew BK129.out); replace HB := aS (below_drew1 HB.out); (refine start_ (n := 12) (S := fun w' => w'.cell? ⟨gb129, 0, none⟩ = some (.bool a0_0)) (ds := [11]) #[false, false, false, false, false, false, false, false, false, false, false, false] (by kernel_rfl) rfl rfl ((blk_cell BK129.out 0).trans rfl) (fun hHeld => ?_); refine with_tabW oO_Put.tab7 oO_Put.bits7 (fun HT_ HW_ => ?_)); generalize wr.drew = w21 at HO_7 BK129 HB hHeld ⊢; refine pU 0 22 (bm 12 1) ?_; refine pU 2 24 (bm 12 5) ?_; refine pU 3 25 (bm 12 13) ?_; refine pU 5 27 (bm 12 45) ?_; refine pU 6 28 (bm 12 109) ?_; refine pU 7 29 (bm 12 237) ?_; refine pU 8 30 (bm 12 493) ?_; refine pU 9 31 (bm 12 1005) ?_; refine tU 1 23 (bm 12 1007) hHeld ?_
            (refine one_ (i := 4) (N := some 26) (bm 12 1023) rfl rfl (one_of HT_.out (by kernel_rfl)) (by decide) (fun K hK => ?_)); (refine goes_ Tryd.func76 (by kernel_rfl) rfl #[.agg #[.bool a0_0], .int .i64 x19_2, .int .i64 a2] (by rfl) rfl rfl (by (try simp only [List.map_toArray, List.map_cons, List.map_nil]); first | done | rfl | (simp only [List.length_drop, List.length_take]; rfl)) ?_); (with_reducible refine (oO_place.calls a0_0 x19_2 a2 t133 _ A14.out).mono ?_); rintro e w22 ⟨rfl, hb⟩; refine ⟨_, rfl, ?_⟩; replace HO_7 := aS (Kd.R_below (by (with_reducible repeat (first | apply Kd.R_alloc | apply Kd.R_drewN | apply Kd.R_drew)); exact HO_7.out) hb); replace BK129 := aS (blk_below (g := gb129) bkN hb); replace HB := aS (below_step hbS hb); ((try clear hb)); (skip); (skip); (skip); (have p20 : 0 ≤ (t133 : Int) := of_decide_eq_true (by first | (with_reducible assumption) | assumption)); (have q20 : (t133 : Int) < ((x7_2.length : Int) : Int) := of_decide_eq_true (by first | (with_reducible assumption) | assumption)); (obtain ⟨go20, co20, eo20, gb20, gl20, cl20, HG20⟩ := Kd.R_form HO_7.out (by omega)); ((first | cases eo20 | (injection eo20 with ea_ en_ ec_; (first | subst ea_ | (injection ea_ with ea_; subst ea_)); subst ec_; clear en_))); have GB20 := aS gb20; have GG20 := aS HG20; clear gb20 gl20 HG20; obtain ⟨hx20_0, hf20_0⟩ := Kd.R_celln 0 HO_7.out (t133 : Int) p20 q20; replace p20 := eq_true p20
            replace q20 := eq_true q20; have HP23 := Kd.R_putn HO_7.out (t133 : Int) ((ji17) % 256); rw [← Ny134.out] at HP23; have HQ23 := aS HP23; clear HP23; (refine hK.out _ _ ((blk_cell BK129.out 0).trans rfl) (fun hHeld => ?_)); clear hK K; refine norm_ (a' := ?_) ?_ ?_; rotate_left
            ·(show Act.put _ (some 26) _ = _); simp only [Act.put, List.setIfInBounds_toArray, List.set_cons_zero, List.set_cons_succ, i64_w, i32_w]; rfl
            refine pU 10 32 (bm 12 2047) ?_; (refine last_ (i := 11) (N := none) (bm 12 4095) rfl rfl (one_of HT_.out (by kernel_rfl)) (by decide) (fun K hK => ?_)); (refine skip_ (w1 := ?_) (by rfl) rfl ?_ ?_); rotate_left
            ·go_simp; rfl
            refine hK.out _ _ ?_; clear hK K; (refine done_ (done_of HT_.out (by kernel_rfl)) ?_); (try go_wp2); ((try simp only [← hl7_2])); go_roundg k2
            case measure => have := HJ3.out; have := HK2.out; omega
            case rel => exact ⟨(y134), (wrap64 (x19_2 + 1)), sr, H', ⟨by have := HJ3.out; have := HK2.out; omega⟩, ⟨by (try simp only [hl7_2]); (with_reducible repeat (first | apply Kd.R_alloc | apply Kd.R_drewN | apply Kd.R_drew)); exact HQ23.out⟩, ⟨by (try simp only [hl7_2]); (with_reducible repeat (first | refine blk_drewN ?_ _ | refine blk_drew ?_ | refine blk_alloc ?_ _)); refine blk_far ?_ (by have h_ := Kd.R_ne HO_7.out BK129.out (by decide); intro e_; exact h_ (by rw [e_]; rfl)) _; (with_reducible repeat (first | refine blk_drewN ?_ _ | refine blk_drew ?_ | refine blk_alloc ?_ _)); exact BK129.out⟩, ⟨by repeat (first | (with_reducible first | exact HB.out | apply below_alloc | apply pw_below_drewN | apply below_drew1 | refine below_set ?_ GB20.out | refine below_set ?_ GE129.out) | exact HB.out)⟩⟩
           ·(rw [if_neg c19] at H); exact absurd H (by simp)
          ·(rw [if_neg c18] at H); exact absurd H (by simp)
         ·(rw [if_neg c16] at H); exact absurd H (by simp)
        ·(rw [if_neg c13] at H); have c13b0 : decide (x19_2 < (y130.length : Int)) = false := decide_eq_false c13; ((try simp only [hl7_2] at c13b0)); clear c13; obtain rfl := Option.some.inj H; have hcv24 := own_string (P := Tryd.prog) Tryd.underlying25 Tryd.underlying5 Tryd.underlying9 (Kd.own_of_R HO_7.out); (go_wp2); (go_ret); exact ⟨er, hbS⟩
     ·(rw [if_neg c9] at H); exact absurd H (by simp)
    ·rw [if_neg c8] at H
     exact absurd H (by simp)

end Go.Proofs.YtceilmhinkkgfaaDoor.Q
end
section
namespace Go.Proofs.YtceilmhinkkgfaaDoor.Q
open Go.RowKit Go.Proofs.YtceilmhinkkgfaaDoorW.PrintWords Go.Proofs.YtceilmhinkkgfaaDoorW.PrintLast Go.Proofs.YtceilmhinkkgfaaDoorW.PrintMore
attribute [local go_sem] max2_int min2_int max_two min_two max_three min_three max_four min_four

def oO_Fields.l0 : Nat → Bool → List Int → List Int → ByteArray → Int → Option (ByteArray)
 | 0, _, _, _, _, _ => none
 | k + 1, b, x1, x2, s, i => if i < mn (x1.length : Int) (x2.length : Int) then ((oO_Put.f k b (rd x2 i) (rd x1 i)).bind fun t => (if s.size + t.size ≤ 140737488355328 then (oO_Fields.l0 k b x1 x2 (s ++ t) (i + 1)) else none)) else (some s)
def oO_Fields.f (k : Nat) (a0_0 : Bool) (l1 : List Int) (l2 : List Int) : Option (ByteArray) := oO_Fields.l0 k a0_0 l1 l2 (⟨#[]⟩ : ByteArray) 0
theorem oO_Fields.mono_l : ∀ k y0 y1 y2 y3 y4, LeO (oO_Fields.l0 k y0 y1 y2 y3 y4) (oO_Fields.l0 (k + 1) y0 y1 y2 y3 y4)
 | 0 => fun _ _ _ _ _ r h => by simp [oO_Fields.l0] at h
 | k + 1 => by
  have ih := oO_Fields.mono_l k; intro y0 y1 y2 y3 y4; unfold oO_Fields.l0; refine LeO.ite (LeO.bind (oO_Put.mono _ _ _ _) (fun _ => LeO.ite (ih _ _ _ _ _) (LeO.refl _))) (LeO.refl _)
theorem oO_Fields.mono : ∀ a0 a1 a2 k, LeO (oO_Fields.f k a0 a1 a2) (oO_Fields.f (k + 1) a0 a1 a2) := fun a0 a1 a2 k => oO_Fields.mono_l k a0 a1 a2 _ _
theorem oO_Fields.more {k j : Nat} (h : k ≤ j) {y0 y1 y2 y3 y4 r} (hr : oO_Fields.l0 k y0 y1 y2 y3 y4 = some r) : oO_Fields.l0 j y0 y1 y2 y3 y4 = some r := at_rounds (g := fun k => oO_Fields.l0 k y0 y1 y2 y3 y4) (fun k => oO_Fields.mono_l k _ _ _ _ _) h hr
theorem oO_Fields.cells (l : List UInt8) : Lib.byteCells l = l.map fun b => Value.int .u8 b.toNat := rfl
theorem oO_Fields.strCells (s : ByteArray) : Lib.strCells s = Lib.byteCells s.data.toList := rfl
def oO_Fields.T5 : Bool × List (List Nat × List Nat) := (true, [([], []), ([], []), ([], []), ([1, 2], [1, 2]), ([3], [3]), ([], []), ([], []), ([5, 6], [5, 6]), ([7], [7]), ([0, 4, 8], [0, 4, 8]), ([9, 9], [9])])
def oO_Fields.B5 : List Nat := [0, 0, 0, 6, 14, 0, 0, 96, 224, 511, 1023]
theorem oO_Fields.tab5 : rtab .any (opsOf Tryd.f65 5) = oO_Fields.T5 := by kernel_rfl
theorem oO_Fields.bits5 : waitsOk oO_Fields.T5.2 oO_Fields.B5 = true := by kernel_rfl
theorem oO_Fields.old {W W1 : World} {b : Addr} {v : Value} (hb : Below W.heap.size W W1) (h : W.cell? b = some v) : W1.cell? b = some v := pw_cell_below hb h
theorem oO_Fields.step (i m : Int) (h0 : 0 ≤ i) (h : i < m) {n : Nat} (hm : m ≤ n) (hn : n ≤ 9223372036854775807) : IntKind.i64.wrap (i + 1) = i + 1 := by
 rw [IntKind.wrap_i64]; omega
set_option maxHeartbeats 4000000 in
set_option maxRecDepth 100000 in
theorem oO_Fields.calls (k : Nat) (a0_0 : Bool) (A1 : Option Addr) (c1 : Nat) (l1 : List Int) (A2 : Option Addr) (c2 : Nat) (l2 : List Int) (r : ByteArray) (w : World) (hr1 : Kd.C (Kd.int .i64) w A1 l1.length l1) (hc1 : l1.length ≤ c1) (hr2 : Kd.C (Kd.int .u64) w A2 l2.length l2) (hc2 : l2.length ≤ c2) (h : oO_Fields.f k a0_0 l1 l2 = some r) :
 Calls Tryd.prog 65 #[.agg #[.bool a0_0], .slice A1 l1.length c1, .slice A2 l2.length c2] w fun e w' => e = .returned (.string r) ∧ Below w.heap.size w w' := by
 have H := aS h; clear h; have HR1 := aS hr1; have HR2 := aS hr2; have M1 := Kd.C_max hr1; have M2 := Kd.C_max hr2; clear hr1 hr2 hc1 hc2; obtain ⟨m, hm⟩ : ∃ m : Int, mn (l1.length : Int) (l2.length : Int) = m := ⟨_, rfl⟩; (have hm1 : m ≤ l1.length := by rw [← hm]; unfold mn; split <;> omega); (have hm2 : m ≤ l2.length := by rw [← hm]; unfold mn; split <;> omega); have Hm := aS hm; (have hm_ : (if l2.length < l1.length then (l2.length : Int) else (l1.length : Int)) = m := by rw [← hm]; unfold mn; simp only [Int.ofNat_lt]); clear hm; go_enter Tryd.func65, Tryd.ntmps65; (go_wp2); clear hm_; have hB0 : Below w.heap.size w ((w.alloc (Obj.cells #[Value.bool a0_0] 32)).alloc (Obj.cells #[Value.pointer none, Value.slice none 0 0] 115)) := ((Below.refl _ _).alloc (Nat.le_refl _) _).alloc (by simp) _
 have hI0 : Lib.IsBuilder 115 5 (w.heap.size + 1) (w.heap.size + 1) [] ((w.alloc (Obj.cells #[Value.bool a0_0] 32)).alloc (Obj.cells #[Value.pointer none, Value.slice none 0 0] 115)) := by
  have := Bld.isB_new (B := w.heap.size + 1) (w.alloc (Obj.cells #[Value.bool a0_0] 32)) (by simp)
  simpa using this
 have hC0 : ((w.alloc (Obj.cells #[Value.bool a0_0] 32)).alloc (Obj.cells #[Value.pointer none, Value.slice none 0 0] 115)).heap[w.heap.size]? = some (.cells #[.bool a0_0] 32 (0, 0)) := blk_alloc (heap_alloc_new w _) _; have HI0 := aS hI0; have HC0 := aS hC0; have HB0 := aS hB0; clear hI0 hC0 hB0; go_loopg [14] k (fun kq v14 w' => ∃ (i : Int) (s : ByteArray), v14 = .int .i64 i ∧ 0 ≤ i ∧ Aside0 (oO_Fields.l0 kq a0_0 l1 l2 s i = some r) ∧ Aside0 (kq ≤ k) ∧ Aside0 (Lib.IsBuilder 115 5 (w.heap.size + 1) (w.heap.size + 1) (Lib.byteCells s.data.toList) w') ∧ Aside0 (w'.heap[w.heap.size]? = some (.cells #[.bool a0_0] 32 (0, 0))) ∧ Aside0 (Below w.heap.size w w'))
 case atStart => exact ⟨0, ⟨#[]⟩, rfl, by omega, H, ⟨Nat.le_refl _⟩, HI0, HC0, HB0⟩
 case round =>
  clear H HI0 HC0 HB0; obtain ⟨i, s, rfl, hi0, HA, HK, HI, HC, HB⟩ := hrel
  cases gk with
  | zero => exact absurd HA.out (by simp [oO_Fields.l0])
  | succ gk =>
   have H := HA.out; clear HA; simp only [oO_Fields.l0] at H; rw [Hm.out] at H
   by_cases c1 : i < m
   ·rw [if_pos c1] at H
    have c1b : decide (i < m) = true := decide_eq_true c1; obtain ⟨t, hp, H2⟩ := Option.bind_eq_some_iff.mp H; have HP := aS hp; have HT := aS H2; clear hp H H2; have p0 : (0 ≤ i) = True := eq_true hi0; (have p1 : i < (l1.length : Int) := by omega); (have p2 : i < (l2.length : Int) := by omega); obtain ⟨ad1, e1, hx1⟩ := Kd.at_int HR1.out i hi0 p1; obtain ⟨ad2, e2, hx2⟩ := Kd.at_int HR2.out i hi0 p2
    cases e1
    cases e2
    replace hx1 := aS hx1; replace hx2 := aS hx2; replace p1 := eq_true p1; replace p2 := eq_true p2; (have hS : ∀ W : World, Below w.heap.size w W → W.heap[w.heap.size]? = some (.cells #[.bool a0_0] 32 (0, 0)) → W.cell? ⟨w.heap.size, 0, none⟩ = some (.bool a0_0) ∧ W.cell? (ad2.add i.toNat) = some (.int .u64 (rd l2 i)) ∧ W.cell? (ad1.add i.toNat) = some (.int .i64 (rd l1 i)) := fun W hW hc => ⟨(blk_cell hc 0).trans rfl, pw_cell_below hW hx2.out, pw_cell_below hW hx1.out⟩); have HS := aS hS; clear hS; (go_wp2); have hhs : w.heap.size < wr.heap.size := blk_lt HC.out; have n0_ := aS (below_drew1 HB.out); have n1_ := aS (blk_drew HC.out); have n2_ : Aside0 (Lib.IsBuilder 115 5 (w.heap.size + 1) (w.heap.size + 1) (Lib.byteCells s.data.toList) wr.drew) := ⟨HI.out⟩; clear HB HC HI; have HB := n0_; have HC := n1_; have HI := n2_; clear n0_ n1_ n2_; (refine start_ (n := 11) (S := (fun w' => w'.cell? ⟨w.heap.size, 0, none⟩ = some (.bool a0_0) ∧ w'.cell? (ad2.add i.toNat) = some (.int .u64 (rd l2 i)) ∧ w'.cell? (ad1.add i.toNat) = some (.int .i64 (rd l1 i)))) (ds := []) #[false, false, false, false, false, false, false, false, false, false, false] (by kernel_rfl) rfl rfl ((HS.out _ HB.out HC.out)) (fun hHeld => ?_); refine with_tabW oO_Fields.tab5 oO_Fields.bits5 (fun HT_ HW_ => ?_)); generalize wr.drew = W at HB HC HI hHeld ⊢; refine pU 1 18 (bm 11 2) ?_; refine pU 2 19 (bm 11 6) ?_; refine pU 3 20 (bm 11 14) ?_; refine pU 5 22 (bm 11 46) ?_; refine pU 6 23 (bm 11 110) ?_; refine pU 7 24 (bm 11 238) ?_; refine tU 0 17 (bm 11 239) hHeld ?_
    refine tU 4 21 (bm 11 255) hHeld ?_; refine tU 8 25 (bm 11 511) hHeld ?_; (refine one_ (i := 9) (N := (some 26)) (bm 11 1023) rfl rfl (one_of HT_.out (by kernel_rfl)) (by decide) (fun K hK => ?_)); (refine goes_ Tryd.func75 (by kernel_rfl) rfl #[.agg #[.bool a0_0], .int .u64 (rd l2 i), .int .i64 (rd l1 i)] (by rfl) rfl rfl (by (try simp only [List.map_toArray, List.map_cons, List.map_nil]); first | done | rfl) ?_); (with_reducible refine (oO_Put.calls gk a0_0 (rd l2 i) (rd l1 i) t _ HP.out).mono ?_); rintro e w2 ⟨rfl, hb⟩; refine ⟨_, rfl, ?_⟩; have n0_ := aS (below_step HB.out hb); have n1_ := aS (blk_below HC.out hb); have n2_ := aS (Bld.isB_below HI.out hb); clear HB HC HI hb; have HB := n0_; have HC := n1_; have HI := n2_; clear n0_ n1_ n2_; (refine hK.out _ _ (HS.out _ HB.out HC.out) (fun hHeld => ?_)); clear hK K; refine norm_ (a' := ?_) ?_ ?_; rotate_left
    ·(show Act.put _ (some 26) _ = _); simp only [Act.put, List.setIfInBounds_toArray, List.set_cons_zero, List.set_cons_succ, i64_w, i32_w]; rfl
    by_cases hl : s.size + t.size ≤ 140737488355328
    ·have HL := aS hl
     clear hl; (refine one_ (i := 10) (N := (some 27)) (bm 11 2047) rfl rfl (one_of HT_.out (by kernel_rfl)) (by decide) (fun K hK => ?_)); (refine goes_ Tryd.func58 (by kernel_rfl) rfl #[.pointer (some ⟨w.heap.size + 1, 0, none⟩), .string t] (by rfl) rfl rfl (by (try simp only [List.map_toArray, List.map_cons, List.map_nil]); first | done | rfl) ?_); (with_reducible refine (Bld.writeString (w.heap.size + 1) (w.heap.size + 1) (Lib.byteCells s.data.toList) t _ HI.out (by rw [Bld.bytes_len]; exact HL.out) (by have := blk_lt HC.out; omega)).mono ?_); rintro e w3 ⟨rfl, hbl, hb⟩; refine ⟨_, rfl, ?_⟩; rw [Bld.bytes_app] at hbl; (have n0_ := aS (Bld.low HB.out hb (by omega))); (have n1_ := aS ((hb.block w.heap.size (by omega)).trans HC.out)); have n2_ := aS (Bld.isB_at hbl); have hT := HT.out; rw [if_pos HL.out] at hT; have HT2 := aS hT; clear HB HC HI hb hbl hT HT; have HB := n0_; have HC := n1_; have HI := n2_; clear n0_ n1_ n2_; (refine hK.out _ _ (HS.out _ HB.out HC.out) (fun hHeld => ?_)); clear hK K; refine norm_ (a' := ?_) ?_ ?_; rotate_left
     ·(show Act.put _ (some 27) _ = _); simp only [Act.put, List.setIfInBounds_toArray, List.set_cons_zero, List.set_cons_succ, i64_w, i32_w]; rfl
     (refine done_ (done_of HT_.out (by kernel_rfl)) ?_); have hw := oO_Fields.step i m hi0 (of_decide_eq_true c1b) hm1 M1; (go_wp2); go_roundg gk
     case measure => have := HK.out; omega
     case rel => exact ⟨i + 1, s ++ t, rfl, by omega, HT2, ⟨by have := HK.out; omega⟩, HI, HC, HB⟩
    ·exfalso
     have hT := HT.out; rw [if_neg hl] at hT
     cases hT
   ·rw [if_neg c1] at H
    have c1b : decide (i < m) = false := decide_eq_false c1; obtain rfl := Option.some.inj H; clear H c1; (go_wp2_with (go_at_call 60; refine (Tryd.Builder_String_any (w.heap.size + 1) (w.heap.size + 1) s.data.toList _ HI.out (by have := blk_lt HC.out; omega)).mono ?_; rintro e w4 ⟨rfl, hb⟩)); go_ret
    exact ⟨rfl, Bld.low HB.out hb (by omega)⟩


def cF_Record.l0 : Nat → List Int → List Int → List Int → Int → Int → Bool → Bool → Option (ByteArray × Bool)
 | 0, _, _, _, _, _, _, _ => none
 | k + 1, x2, x8, x23, x24, x25, x136000, x136001 => if x25 < x24 then (if 0 ≤ x25 then (if x25 < (x23.length : Int) then (if (rd x23 x25) < 0 then (some ((⟨#[]⟩ : ByteArray), false)) else (if (rd x23 x25) > 8 then (some ((⟨#[]⟩ : ByteArray), false)) else (if x25 < (x2.length : Int) then ((class_fits.f (rd x2 x25) (rd x23 x25)).bind fun t142 => (if t142 = true then (cF_Record.l0 k x2 x8 x23 x24 (wrap64 (x25 + 1)) x136000 x136001) else (some ((⟨#[]⟩ : ByteArray), false)))) else (none)))) else (none)) else (none)) else ((oO_Fields.f k x136000 x8 x2).bind fun t143 => (some (t143, true)))
def cF_Record.f (k : Nat) (a0_0 : Bool) (a0_1 : Bool) (l1 : List Int) (l2 : List Int) : Option (ByteArray × Bool) := if (l1.length : Int) = (l2.length : Int) then ((cF_Sizes.f k a0_0 a0_1 l1).bind fun bt136 => (cF_Record.l0 k l2 bt136.1 bt136.1 (bt136.1.length : Int) 0 a0_0 a0_1)) else (some ((⟨#[]⟩ : ByteArray), false))
theorem cF_Record.mono_l : ∀ k, (∀ y0 y1 y2 y3 y4 y5 y6, LeO (cF_Record.l0 k y0 y1 y2 y3 y4 y5 y6) (cF_Record.l0 (k + 1) y0 y1 y2 y3 y4 y5 y6))
 | 0 => fun _ _ _ _ _ _ _ r h => by simp [cF_Record.l0] at h
 | k + 1 => by
  have ih0 := cF_Record.mono_l k
  ·intro y0 y1 y2 y3 y4 y5 y6
   unfold cF_Record.l0
   repeat' first
   | (with_reducible apply ih0)
   | (with_reducible exact cF_Sizes.mono _ _ _ _)
   | (with_reducible exact oO_Fields.mono _ _ _ _)
   | (with_reducible exact LeO.refl _)
   | (with_reducible exact LeO.none _)
   | (with_reducible refine LeO.ite ?_ ?_)
   | (with_reducible refine LeO.bind ?_ (fun _ => ?_))
   | exact ih0 _ _ _ _ _ _ _
   | exact cF_Sizes.mono _ _ _ _
   | exact oO_Fields.mono _ _ _ _
   | exact LeO.none _
   | refine LeO.ite ?_ ?_
   | refine LeO.bind ?_ (fun _ => ?_)
theorem cF_Record.mono : ∀ a0 a1 a2 a3 k, LeO (cF_Record.f k a0 a1 a2 a3) (cF_Record.f (k + 1) a0 a1 a2 a3) := by
 intro a0 a1 a2 a3 k; have ih0 := cF_Record.mono_l k; unfold cF_Record.f
 repeat' first
  | (with_reducible apply ih0)
  | (with_reducible exact cF_Sizes.mono _ _ _ _)
  | (with_reducible exact oO_Fields.mono _ _ _ _)
  | (with_reducible exact LeO.refl _)
  | (with_reducible exact LeO.none _)
  | (with_reducible refine LeO.ite ?_ ?_)
  | (with_reducible refine LeO.bind ?_ (fun _ => ?_))
  | exact ih0 _ _ _ _ _ _ _
  | exact cF_Sizes.mono _ _ _ _
  | exact oO_Fields.mono _ _ _ _
  | exact LeO.none _
  | refine LeO.ite ?_ ?_
  | refine LeO.bind ?_ (fun _ => ?_)
set_option maxHeartbeats 8000000 in
set_option maxRecDepth 100000 in
theorem cF_Record.calls (k : Nat) (a0_0 : Bool) (a0_1 : Bool) (A1 : Option Addr) (c1 : Nat) (l1 : List Int) (A2 : Option Addr) (c2 : Nat) (l2 : List Int) (r1 : ByteArray) (r2 : Bool) (w : World) (hr1 : Kd.C (Kd.int .i64) w A1 l1.length l1) (hc1 : l1.length ≤ c1) (hr2 : Kd.C (Kd.int .u64) w A2 l2.length l2) (hc2 : l2.length ≤ c2) (h : cF_Record.f k a0_0 a0_1 l1 l2 = some (r1, r2)) :
 Calls Tryd.prog 43 #[.agg #[.bool a0_0, .bool a0_1], .slice A1 l1.length c1, .slice A2 l2.length c2] w fun e w' => e = .returned (.tuple #[.string r1, .bool r2]) ∧ Below w.heap.size w w' := by
 have hu34 := Tryd.underlying34; have hu32 := Tryd.underlying32; have HR1 := aS hr1; have HC1 := aS hc1; clear hr1 hc1; have HR2 := aS hr2; have HC2 := aS hc2; clear hr2 hc2; have HB := aS (Below.refl w.heap.size w); (have H : (if (l1.length : Int) = (l2.length : Int) then ((cF_Sizes.f k a0_0 a0_1 l1).bind fun bt136 => (cF_Record.l0 k l2 bt136.1 bt136.1 (bt136.1.length : Int) 0 a0_0 a0_1)) else (some ((⟨#[]⟩ : ByteArray), false))) = some (r1, r2) := h); clear h
 by_cases c4 : (l1.length : Int) = (l2.length : Int)
 ·rw [if_pos c4] at H
  have c4b0 : ((l1.length : Int) == (l2.length : Int)) = true := beq_iff_eq.mpr c4; have c4b1 : ((l1.length : Int) != (l2.length : Int)) = false := bne_eq_false_iff_eq.mpr c4; (have c4b2 : (l1.length == l2.length) = true := by first | simpa using c4 | (simp at c4 ⊢; omega)); clear c4; replace H := Option.bind_eq_some_iff.mp H; obtain ⟨⟨t136, t139⟩, A50, H⟩ := H; replace H : (cF_Record.l0 k l2 t136 t136 (t136.length : Int) 0 a0_0 a0_1) = some (r1, r2) := H; have A5 := aS A50; clear A50; have H' := aS H; clear H; go_enter Tryd.func43, Tryd.ntmps43; go_wp2_with (first | ((with_reducible refine gate_dst (N := 3) rfl ?_); refine bE 3 #[.bool a0_0, .bool a0_1] 34 ?_; intro gb135 hg w6 hbox hb; have BK135 := aS (hbox); have GW135 := aS (bsz hg hbN : w.heap.size ≤ gb135); have GE135 := aS (bsz hg hbN : w.heap.size ≤ gb135); replace HB := aS (below_step hbN hb); clear hb hbox hg; obtain ⟨_, _, _, _⟩ := bc2 BK135.out) | ((with_reducible refine gate_callee (f := 61) rfl ?_); refine gL (some 20) Tryd.func61 #[.agg #[.bool a0_0, .bool a0_1], .slice A1 l1.length c1] ?_; (with_reducible refine (cF_Sizes.calls k a0_0 a0_1 _ _ l1 t136 t139 _ ?side1 ?side2 A5.out).mono ?_); (case side1 => repeat (first | exact (Kd.C_below HR1.out HB.out) | (with_reducible refine Kd.C_alloc ?_ _) | (with_reducible refine Kd.C_drewN ?_ _) | (with_reducible refine Kd.C_drew ?_))); (case side2 => exact HC1.out); rintro e w8 ⟨v137, rfl, ho0, hb⟩; refine ⟨_, rfl, ?_⟩; have HO138 := aS (Kd.R_lower ho0 (below_size hbS)); replace BK135 := aS (blk_below (g := gb135) bkN hb); replace HB := aS (below_step hbS hb); obtain ⟨Ao9, co9, eo9⟩ := Kd.R_slice HO138.out; subst eo9))
  go_loopg [25] k (fun kq v25 w' => ∃ (x25_1 : Int), v25 = .int .i64 x25_1 ∧ Aside0 (cF_Record.l0 kq l2 t136 t136 (t136.length : Int) x25_1 a0_0 a0_1 = some (r1, r2)) ∧ Aside0 (kq ≤ k) ∧ Aside0 (Kd.R (Kd.int .i64) 3 w' w.heap.size (fun _ => True) (.slice Ao9 t136.length co9) t136) ∧ Aside0 (Kd.R (Kd.int .i64) 3 w' w.heap.size (fun _ => True) (.slice Ao9 t136.length co9) t136) ∧ Aside0 (w'.heap[gb135]? = some (.cells #[.bool a0_0, .bool a0_1] 34 (0, 0))) ∧ Aside0 (Below w.heap.size w w'))
  case atStart => exact ⟨(0), sr, H', ⟨Nat.le_refl _⟩, ⟨by (with_reducible repeat (first | apply Kd.R_alloc | apply Kd.R_drewN | apply Kd.R_drew)); exact HO138.out⟩, ⟨by (with_reducible repeat (first | apply Kd.R_alloc | apply Kd.R_drewN | apply Kd.R_drew)); exact HO138.out⟩, ⟨pb⟩, ⟨hbS⟩⟩
  case round =>
   clear H'; (try clear c1); (try clear c2); (try clear p2); (try clear c4); (try clear c4b0); (try clear c4b1); (try clear c4b2); (try clear c6); obtain ⟨x25_1, rfl, HA, HK1, HO_8, HO_23, BK135, HB⟩ := hrel
   cases gk with
   | zero => exact absurd HA.out (by simp [cF_Record.l0])
   | succ k1 =>
    have H := HA.out; clear HA; simp only [cF_Record.l0] at H
    by_cases c10 : x25_1 < (t136.length : Int)
    ·rw [if_pos c10] at H
     have c10b0 : decide (x25_1 < (t136.length : Int)) = true := decide_eq_true c10; clear c10
     by_cases c11 : 0 ≤ x25_1
     ·rw [if_pos c11] at H
      have c11b0 : decide (0 ≤ x25_1) = true := decide_eq_true c11; clear c11
      by_cases c12 : x25_1 < (t136.length : Int)
      ·rw [if_pos c12] at H
       have c12b0 : decide (x25_1 < (t136.length : Int)) = true := decide_eq_true c12; clear c12
       by_cases c13 : (rd t136 x25_1) < 0
       ·rw [if_pos c13] at H
        have c13b0 : decide ((rd t136 x25_1) < 0) = true := decide_eq_true c13; clear c13; simp only [Option.some.injEq, Prod.mk.injEq] at H; obtain ⟨rfl, rfl⟩ := H; (have p140 : 0 ≤ (x25_1 : Int) := of_decide_eq_true (by first | (with_reducible assumption) | assumption)); (have q140 : x25_1 < (t136.length : Int) := of_decide_eq_true (by first | (with_reducible assumption) | assumption)); obtain ⟨ad140, e140, hx140_0⟩ := Kd.at_int (Kd.R_reads' HO_23.out).2.2 x25_1 p140 q140
        cases e140
        replace p140 := eq_true p140; replace q140 := eq_true q140; (go_wp2); (go_ret2); exact ⟨er, hbS⟩
       ·rw [if_neg c13] at H
        have c13b0 : decide ((rd t136 x25_1) < 0) = false := decide_eq_false c13; clear c13
        by_cases c14 : (rd t136 x25_1) > 8
        ·rw [if_pos c14] at H
         have c14b0 : decide (8 < (rd t136 x25_1)) = true := decide_eq_true c14; clear c14; simp only [Option.some.injEq, Prod.mk.injEq] at H; obtain ⟨rfl, rfl⟩ := H; (have p140 : 0 ≤ (x25_1 : Int) := of_decide_eq_true (by first | (with_reducible assumption) | assumption)); (have q140 : x25_1 < (t136.length : Int) := of_decide_eq_true (by first | (with_reducible assumption) | assumption)); obtain ⟨ad140, e140, hx140_0⟩ := Kd.at_int (Kd.R_reads' HO_23.out).2.2 x25_1 p140 q140
         cases e140
         replace p140 := eq_true p140; replace q140 := eq_true q140; (go_wp2); (go_ret2); exact ⟨er, hbS⟩
        ·rw [if_neg c14] at H
         have c14b0 : decide (8 < (rd t136 x25_1)) = false := decide_eq_false c14; clear c14
         by_cases c15 : x25_1 < (l2.length : Int)
         ·rw [if_pos c15] at H
          have c15b0 : decide (x25_1 < (l2.length : Int)) = true := decide_eq_true c15; clear c15; replace H := Option.bind_eq_some_iff.mp H; obtain ⟨t142, A160, H⟩ := H; replace H : (if t142 = true then (cF_Record.l0 k1 l2 t136 t136 (t136.length : Int) (wrap64 (x25_1 + 1)) a0_0 a0_1) else (some ((⟨#[]⟩ : ByteArray), false))) = some (r1, r2) := H; have A16 := aS A160; clear A160
          by_cases c17 : t142 = true
          ·subst c17
           (have H1 : (cF_Record.l0 k1 l2 t136 t136 (t136.length : Int) (wrap64 (x25_1 + 1)) a0_0 a0_1) = some (r1, r2) := by rw [if_pos rfl] at H; exact H); clear H; have H := H1; clear H1; have H' := aS H; clear H; (have p140 : 0 ≤ (x25_1 : Int) := of_decide_eq_true (by first | (with_reducible assumption) | assumption)); (have q140 : x25_1 < (t136.length : Int) := of_decide_eq_true (by first | (with_reducible assumption) | assumption)); obtain ⟨ad140, e140, hx140_0⟩ := Kd.at_int (Kd.R_reads' HO_23.out).2.2 x25_1 p140 q140
           cases e140
           replace p140 := eq_true p140; replace q140 := eq_true q140; (have p141 : 0 ≤ (x25_1 : Int) := of_decide_eq_true (by first | (with_reducible assumption) | assumption)); (have q141 : x25_1 < (l2.length : Int) := of_decide_eq_true (by first | (with_reducible assumption) | assumption)); obtain ⟨ad141, e141, hx141_0⟩ := Kd.at_int HR2.out x25_1 p141 q141
           cases e141
           replace hx141_0 := mv HB.out hx141_0; replace p141 := eq_true p141; replace q141 := eq_true q141; (go_wp2_with (first | (go_at_call 64; (with_reducible refine (class_fits.calls (rd l2 x25_1) (rd t136 x25_1) true _ A16.out).mono ?_); rintro e w' ⟨rfl, ⟨nd, rfl⟩⟩))); go_roundg k1
           case measure => have := HK1.out; omega
           case rel => exact ⟨(wrap64 (x25_1 + 1)), sr, H', ⟨by have := HK1.out; omega⟩, ⟨by (with_reducible repeat (first | apply Kd.R_alloc | apply Kd.R_drewN | apply Kd.R_drew)); exact HO_8.out⟩, ⟨by (with_reducible repeat (first | apply Kd.R_alloc | apply Kd.R_drewN | apply Kd.R_drew)); exact HO_23.out⟩, ⟨pb⟩, ⟨hbS⟩⟩
          ·replace c17 := Bool.eq_false_iff.mpr c17
           subst c17; (have H1 : (some ((⟨#[]⟩ : ByteArray), false)) = some (r1, r2) := by rw [if_neg (show ¬ (false = true) by decide)] at H; exact H); clear H; have H := H1; clear H1; simp only [Option.some.injEq, Prod.mk.injEq] at H; obtain ⟨rfl, rfl⟩ := H; (have p140 : 0 ≤ (x25_1 : Int) := of_decide_eq_true (by first | (with_reducible assumption) | assumption)); (have q140 : x25_1 < (t136.length : Int) := of_decide_eq_true (by first | (with_reducible assumption) | assumption)); obtain ⟨ad140, e140, hx140_0⟩ := Kd.at_int (Kd.R_reads' HO_23.out).2.2 x25_1 p140 q140
           cases e140
           replace p140 := eq_true p140; replace q140 := eq_true q140; (have p141 : 0 ≤ (x25_1 : Int) := of_decide_eq_true (by first | (with_reducible assumption) | assumption)); (have q141 : x25_1 < (l2.length : Int) := of_decide_eq_true (by first | (with_reducible assumption) | assumption)); obtain ⟨ad141, e141, hx141_0⟩ := Kd.at_int HR2.out x25_1 p141 q141
           cases e141
           replace hx141_0 := mv HB.out hx141_0; replace p141 := eq_true p141; replace q141 := eq_true q141; (go_wp2_with (first | (go_at_call 64; (with_reducible refine (class_fits.calls (rd l2 x25_1) (rd t136 x25_1) false _ A16.out).mono ?_); rintro e w' ⟨rfl, ⟨nd, rfl⟩⟩))); (go_ret2); exact ⟨er, hbS⟩
         ·(rw [if_neg c15] at H); exact absurd H (by simp)
      ·(rw [if_neg c12] at H); exact absurd H (by simp)
     ·(rw [if_neg c11] at H); exact absurd H (by simp)
    ·rw [if_neg c10] at H
     have c10b0 : decide (x25_1 < (t136.length : Int)) = false := decide_eq_false c10; clear c10; replace H := Option.bind_eq_some_iff.mp H; obtain ⟨t143, A180, H⟩ := H; replace H : (some (t143, true)) = some (r1, r2) := H; have A18 := aS A180; clear A180; simp only [Option.some.injEq, Prod.mk.injEq] at H; obtain ⟨rfl, rfl⟩ := H; obtain ⟨_, _, _, _⟩ := bc2 BK135.out; go_wp2_with (first | ((with_reducible refine gate_callee (f := 65) rfl ?_); refine gL (some 50) Tryd.func65 #[.agg #[.bool a0_0], .slice Ao9 t136.length co9, .slice A2 l2.length c2] ?_; (with_reducible refine (oO_Fields.calls k1 a0_0 _ _ t136 _ _ l2 t143 _ ?side1 ?side2 ?side3 ?side4 A18.out).mono ?_); (case side1 => repeat (first | exact (Kd.R_reads' HO_8.out).2.2 | (with_reducible refine Kd.C_alloc ?_ _) | (with_reducible refine Kd.C_drewN ?_ _) | (with_reducible refine Kd.C_drew ?_))); (case side2 => exact (Kd.R_reads' HO_8.out).2.1); (case side3 => repeat (first | exact (Kd.C_below HR2.out HB.out) | (with_reducible refine Kd.C_alloc ?_ _) | (with_reducible refine Kd.C_drewN ?_ _) | (with_reducible refine Kd.C_drew ?_))); (case side4 => exact HC2.out); rintro e w20 ⟨rfl, hb⟩; refine ⟨_, rfl, ?_⟩; replace HO_8 := aS (Kd.R_below (by (with_reducible repeat (first | apply Kd.R_alloc | apply Kd.R_drewN | apply Kd.R_drew)); exact HO_8.out) hb); replace HO_23 := aS (Kd.R_below (by (with_reducible repeat (first | apply Kd.R_alloc | apply Kd.R_drewN | apply Kd.R_drew)); exact HO_23.out) hb); replace BK135 := aS (blk_below (g := gb135) bkN hb); replace HB := aS (below_step hbS hb)))
     (go_ret2); exact ⟨er, hbS⟩
 ·rw [if_neg c4] at H
  have c4b0 : ((l1.length : Int) == (l2.length : Int)) = false := beq_eq_false_iff_ne.mpr c4; have c4b1 : ((l1.length : Int) != (l2.length : Int)) = true := bne_iff_ne.mpr c4; (have c4b2 : (l1.length == l2.length) = false := by first | simpa using c4 | (simp at c4 ⊢; omega)); simp only [Option.some.injEq, Prod.mk.injEq] at H; obtain ⟨rfl, rfl⟩ := H; go_enter Tryd.func43, Tryd.ntmps43; (go_wp2_with (first | ((with_reducible refine gate_dst (N := 3) rfl ?_); refine bE 3 #[.bool a0_0, .bool a0_1] 34 ?_; intro gb135 hg w21 hbox hb; have BK135 := aS (hbox); have GW135 := aS (bsz hg hbN : w.heap.size ≤ gb135); have GE135 := aS (bsz hg hbN : w.heap.size ≤ gb135); replace HB := aS (below_step hbN hb); clear hb hbox hg))); go_ret2
  exact ⟨er, hbS⟩

end Go.Proofs.YtceilmhinkkgfaaDoor.Q
end
