/- What Go functions of the program compute, each as a Lean function with the proof that the call returns just that. No condition but those in the statements. -/
import Derived.Test.YteoeohkjomehoaaDoorQ0
import Derived.Test.YteoeohkjomehoaaDoorQ2
import Derived.Test.YteoeohkjomehoaaDoorPts
namespace Go.Proofs.YteoeohkjomehoaaDoor.Q
open Go.RowKit Go.Proofs.YteoeohkjomehoaaDoorW.PrintWords Go.Proofs.YteoeohkjomehoaaDoorW.PrintLast Go.Proofs.YteoeohkjomehoaaDoorW.PrintMore
attribute [local go_sem] max2_int min2_int max_two min_two max_three min_three max_four min_four   -- for this text's walks alone
set_option linter.unusedVariables false
set_option linter.unusedSimpArgs false

/-! ### order_Order_Put: function 136 -/
mutual
def order_Order_Put.j0 : Nat → Int → Int → Bool → Bool → Option (ByteArray)
  | 0, _, _, _, _ => none
  | k + 1, x1, x2, x14, x114000 => if x14 = true then (some (⟨#[]⟩ : ByteArray)) else (if 0 ≤ x2 then (if (x2 : Int).toNat ≤ 281474976710656 then ((some (List.replicate (x2 : Int).toNat 0 : List Int)).bind fun y114 => (order_Order_Put.l0 k x1 x2 y114 (y114.length : Int) 0 x114000)) else (none)) else (none))
def order_Order_Put.l0 : Nat → Int → Int → List Int → Int → Int → Bool → Option (ByteArray)
  | 0, _, _, _, _, _, _ => none
  | k + 1, x1, x2, x7, x18, x19, x114000 => if x19 < x18 then ((order_Order_place.f x114000 x19 x2).bind fun t117 => (if 0 ≤ (wrap64 (8 * x19)) then (if 0 ≤ t117 then (if t117 < (x7.length : Int) then (order_Order_Put.l0 k x1 x2 (x7.set (t117 : Int).toNat ((shr .u64 x1 (wrap64 (8 * x19))) % 256)) x18 (wrap64 (x19 + 1)) x114000) else (none)) else (none)) else (none))) else (some (strOfNums x7))
end
def order_Order_Put.f (k : Nat) (a0_0 : Bool) (a1 : Int) (a2 : Int) : Option (ByteArray) := if a2 < 1 then (order_Order_Put.j0 k a1 a2 true a0_0) else (order_Order_Put.j0 k a1 a2 (decide (a2 > 8)) a0_0)
theorem order_Order_Put.mono_l : ∀ k, (∀ y0 y1 y2 y3, LeO (order_Order_Put.j0 k y0 y1 y2 y3) (order_Order_Put.j0 (k + 1) y0 y1 y2 y3)) ∧ (∀ y0 y1 y2 y3 y4 y5, LeO (order_Order_Put.l0 k y0 y1 y2 y3 y4 y5) (order_Order_Put.l0 (k + 1) y0 y1 y2 y3 y4 y5))
  | 0 => ⟨fun _ _ _ _ r h => by simp [order_Order_Put.j0] at h, fun _ _ _ _ _ _ r h => by simp [order_Order_Put.l0] at h⟩
  | k + 1 => by
    (obtain ⟨ih0, ih1⟩ := order_Order_Put.mono_l k); refine ⟨?_, ?_⟩
    · intro y0 y1 y2 y3
      unfold order_Order_Put.j0
      repeat' first
      | (with_reducible exact ih0 _ _ _ _)
      | (with_reducible exact ih1 _ _ _ _ _ _)
      | (with_reducible exact LeO.refl _)
      | (with_reducible exact LeO.none _)
      | (with_reducible refine LeO.ite ?_ ?_)
      | (with_reducible refine LeO.bind ?_ (fun _ => ?_))
      | exact ih0 _ _ _ _
      | exact ih1 _ _ _ _ _ _
      | exact LeO.none _
      | refine LeO.ite ?_ ?_
      | refine LeO.bind ?_ (fun _ => ?_)
    · intro y0 y1 y2 y3 y4 y5
      unfold order_Order_Put.l0
      repeat' first
      | (with_reducible exact ih0 _ _ _ _)
      | (with_reducible exact ih1 _ _ _ _ _ _)
      | (with_reducible exact LeO.refl _)
      | (with_reducible exact LeO.none _)
      | (with_reducible refine LeO.ite ?_ ?_)
      | (with_reducible refine LeO.bind ?_ (fun _ => ?_))
      | exact ih0 _ _ _ _
      | exact ih1 _ _ _ _ _ _
      | exact LeO.none _
      | refine LeO.ite ?_ ?_
      | refine LeO.bind ?_ (fun _ => ?_)
theorem order_Order_Put.mono : ∀ a0 a1 a2 k, LeO (order_Order_Put.f k a0 a1 a2) (order_Order_Put.f (k + 1) a0 a1 a2) := by
  intro a0 a1 a2 k; (obtain ⟨ih0, ih1⟩ := order_Order_Put.mono_l k); unfold order_Order_Put.f
  repeat' first
      | (with_reducible exact ih0 _ _ _ _)
      | (with_reducible exact ih1 _ _ _ _ _ _)
      | (with_reducible exact LeO.refl _)
      | (with_reducible exact LeO.none _)
      | (with_reducible refine LeO.ite ?_ ?_)
      | (with_reducible refine LeO.bind ?_ (fun _ => ?_))
      | exact ih0 _ _ _ _
      | exact ih1 _ _ _ _ _ _
      | exact LeO.none _
      | refine LeO.ite ?_ ?_
      | refine LeO.bind ?_ (fun _ => ?_)
def order_Order_Put.T7 : Bool × List (List Nat × List Nat) := (true, [([], []), ([], []), ([], []), ([], []), ([1, 2, 3], [1, 2, 3]), ([], []), ([], []), ([6], [6]), ([5, 7], [5, 7]), ([8], [8]), ([0, 4, 0, 1, 2, 3, 4, 5, 6, 7, 8, 9], [0, 4]), ([10, 9, 4, 0, 1, 2, 3, 4, 5, 6, 7, 8, 9], [9, 10])])
def order_Order_Put.B7 : List Nat := [0, 0, 0, 0, 14, 0, 0, 64, 224, 480, 1023, 2047]
theorem order_Order_Put.tab7 : rtab .any (opsOf Tryd.f136 7) = order_Order_Put.T7 := by kernel_rfl
theorem order_Order_Put.bits7 : waitsOk order_Order_Put.T7.2 order_Order_Put.B7 = true := by kernel_rfl
set_option maxHeartbeats 8000000 in
set_option maxRecDepth 100000 in
theorem order_Order_Put.calls (k : Nat) (a0_0 : Bool) (a1 : Int) (a2 : Int) (r : ByteArray) (w : World) (h : order_Order_Put.f k a0_0 a1 a2 = some r) :
    Calls Tryd.prog 136 #[.agg #[.bool a0_0], .int .u64 a1, .int .i64 a2] w fun e w' => e = .returned (.string r) ∧ Below w.heap.size w w' := by
  (have hu25 := Tryd.underlying25); (have HB := aS (Below.refl w.heap.size w)); (have H : (if a2 < 1 then (order_Order_Put.j0 k a1 a2 true a0_0) else (order_Order_Put.j0 k a1 a2 (decide (a2 > 8)) a0_0)) = some r := h); clear h; (have HC4 := aS H); clear H; (go_enter Tryd.func136, Tryd.ntmps136); (go_upto_region 1 with (first | ((with_reducible refine gate_dst (N := 3) rfl ?_); refine bE 3 #[.bool a0_0] 25 ?_; intro gb113 hg w5 hbox hb; have n0_ := aS (below_step hbN hb); have n1_ := aS (hbox); have n2_ := aS (bsz hg hbN : w.heap.size ≤ gb113); have n3_ := aS (bsz hg hbN : w.heap.size ≤ gb113); clear HB; have HB := n0_; have BK113 := n1_; have GW113 := n2_; have GE113 := n3_; clear n0_ n1_ n2_ n3_; clear hb hbox hg))); ((try simp only [Act.put, List.setIfInBounds_toArray, List.set_cons_zero, List.set_cons_succ])); go_cut [14] (fun v14 wc => ∃ (kq : Nat) (x14_3 : Bool), v14 = .bool x14_3 ∧ Aside0 (order_Order_Put.j0 kq a1 a2 x14_3 a0_0 = some r) ∧ Aside0 (kq ≤ k) ∧ Aside0 (wc.heap[gb113]? = some (.cells #[.bool a0_0] 25 (0, 0))) ∧ Aside0 (Below w.heap.size w wc))
  case first =>
    (have H := HC4.out); clear HC4
    by_cases c6 : a2 < 1
    · rw [if_pos c6] at H
      (have c6b0 : decide (a2 < 1) = true := decide_eq_true c6); clear c6; ((first | rw [c6b0] | (simp only [i64_w, i32_w]; rw [c6b0]) | skip)); (have H' := aS H); clear H; (go_wp2); go_meet
      case rel => exact ⟨_, (true), (by first | rfl | (simp; done) | (simp [*]; done)), H', ⟨by first | omega | exact Nat.le_refl _⟩, ⟨by (with_reducible repeat (first | refine blk_drewN ?_ _ | refine blk_drew ?_ | refine blk_alloc ?_ _)); exact BK113.out⟩, ⟨by repeat (first | (with_reducible first | exact HB.out | apply below_alloc | apply pw_below_drewN | apply below_drew1 | refine below_set ?_ GE113.out) | exact HB.out)⟩⟩
    · rw [if_neg c6] at H
      (have c6b0 : decide (a2 < 1) = false := decide_eq_false c6); clear c6; ((first | rw [c6b0] | (simp only [i64_w, i32_w]; rw [c6b0]) | skip)); (have H' := aS H); clear H; (go_wp2); go_meet
      case rel => exact ⟨_, (decide (a2 > 8)), (by first | rfl | (simp; done) | (simp [*]; done)), H', ⟨by first | omega | exact Nat.le_refl _⟩, ⟨by (with_reducible repeat (first | refine blk_drewN ?_ _ | refine blk_drew ?_ | refine blk_alloc ?_ _)); exact BK113.out⟩, ⟨by repeat (first | (with_reducible first | exact HB.out | apply below_alloc | apply pw_below_drewN | apply below_drew1 | refine below_set ?_ GE113.out) | exact HB.out)⟩⟩
  case rest =>
    clear HC4; (try clear c1); (try clear p2); (try clear c6); (try clear c6b0); obtain ⟨kq, x14_3, rfl, HA, HJ3, BK113, HB⟩ := hcut
    cases kq with
    | zero => exact absurd HA.out (by simp [order_Order_Put.j0])
    | succ kj3 =>
      (have H := HA.out); clear HA; simp only [order_Order_Put.j0] at H
      by_cases c7 : x14_3 = true
      · (subst c7); (have H1 : (some (⟨#[]⟩ : ByteArray)) = some r := by rw [if_pos rfl] at H; exact H); clear H; (have H := H1); clear H1; (obtain rfl := Option.some.inj H); (go_wp2); (go_ret); exact ⟨by first | rfl | (simp [errW_none, errW_some] <;> rfl) | (simp [*, errW_none, errW_some] <;> rfl), by repeat (first | (with_reducible first | exact HB.out | apply below_alloc | apply pw_below_drewN | apply below_drew1 | refine below_set ?_ GE113.out) | exact HB.out)⟩
      · replace c7 := Bool.eq_false_iff.mpr c7
        (subst c7); (have H1 : (if 0 ≤ a2 then (if (a2 : Int).toNat ≤ 281474976710656 then ((some (List.replicate (a2 : Int).toNat 0 : List Int)).bind fun y114 => (order_Order_Put.l0 kj3 a1 a2 y114 (y114.length : Int) 0 a0_0)) else (none)) else (none)) = some r := by rw [if_neg (show ¬ (false = true) by decide)] at H; exact H); clear H; (have H := H1); clear H1
        by_cases c8 : 0 ≤ a2
        · rw [if_pos c8] at H
          (have c8b0 := eq_true c8); (have c8b1 : decide (0 ≤ a2) = true := decide_eq_true c8); clear c8
          by_cases c9 : (a2 : Int).toNat ≤ 281474976710656
          · rw [if_pos c9] at H
            (have c9b0 := eq_true c9); (have c9b1 : decide ((a2 : Int).toNat ≤ 281474976710656) = true := decide_eq_true c9); clear c9; (obtain ⟨y114, hy114⟩ : ∃ y_ : List Int, y_ = (List.replicate (a2 : Int).toNat 0) := ⟨_, rfl⟩); (replace H : (order_Order_Put.l0 kj3 a1 a2 y114 (y114.length : Int) 0 a0_0) = some r := by first | (rw [hy114]; with_reducible exact H) | (have H2_ := (Option.bind_some _ _).symm.trans H; rw [hy114]; with_reducible exact H2_) | (have H2_ := (Option.bind_some _ _).symm.trans H; with_reducible exact H2_) | with_reducible exact H | (rw [hy114]; exact H) | exact H); (have Ny114 := aS hy114); clear hy114; (have H' := aS H); clear H; go_wp2_with (first | ((with_reducible refine gate_dst (N := 16) rfl ?_); refine Kd.R_make (Kd.int .u8) _ 5 rfl (N := 16) rfl 130 _ _ rfl a2 rfl rfl Tryd.underlying130 (.int .u8 0) 1 info5 rfl (by decide) (by omega) 0 (ok := fun _ => True) (okp := fun _ => True) rfl (fun _ hk => hk) trivial (of_decide_eq_true (by first | (with_reducible assumption) | assumption)) (Nat.le_trans (Nat.mul_le_mul_right _ (of_decide_eq_true (by first | (with_reducible assumption) | assumption) : a2.toNat ≤ 281474976710656)) (by omega)) (Below.refl _ _) (Nat.le_refl _) ?_; intro v115 w10 ho11 hb hg_ hnew_; clear hg_ hnew_; (first | rw [← Ny114.out] at ho11 | (simp only [Int.reduceToNat] at ho11; rw [← Ny114.out] at ho11)); have n0_ := aS (Kd.R_lower ho11 (below_size hbS)); have n1_ := aS (blk_below (g := gb113) (o := .cells #[.bool a0_0] 25 (0, 0)) bkN hb); have n2_ := aS (below_step hbS hb); clear BK113; clear HB; have HO116 := n0_; have BK113 := n1_; have HB := n2_; clear n0_ n1_ n2_; clear hb ho11; obtain ⟨Ao12, co12, eo12⟩ := Kd.R_slice HO116.out; subst eo12))
            go_loopg [19] kj3 (fun kq v19 w' => ∃ (x7_2 : List Int) (x19_2 : Int), v19 = .int .i64 x19_2 ∧ Aside0 (order_Order_Put.l0 kq a1 a2 x7_2 (y114.length : Int) x19_2 a0_0 = some r) ∧ Aside0 (kq ≤ kj3) ∧ Aside0 (Kd.R (Kd.int .u8) 5 w' w.heap.size (fun _ => True) (.slice Ao12 y114.length co12) x7_2) ∧ Aside0 (w'.heap[gb113]? = some (.cells #[.bool a0_0] 25 (0, 0))) ∧ Aside0 (Below w.heap.size w w'))
            case atStart => exact ⟨(y114), (0), (by first | rfl | (simp; done) | (simp [*]; done)), H', ⟨Nat.le_refl _⟩, ⟨by (with_reducible repeat (first | apply Kd.R_alloc | apply Kd.R_drewN | apply Kd.R_drew)); exact HO116.out⟩, ⟨by (with_reducible repeat (first | refine blk_drewN ?_ _ | refine blk_drew ?_ | refine blk_alloc ?_ _)); exact BK113.out⟩, ⟨by repeat (first | (with_reducible first | exact HB.out | apply below_alloc | apply pw_below_drewN | apply below_drew1 | refine below_set ?_ GE113.out) | exact HB.out)⟩⟩
            case round =>
              clear H'; (try clear c1); (try clear p2); (try clear c6); (try clear c6b0); (try clear c7); (try clear c8); (try clear c8b0); (try clear c8b1); (try clear c9); (try clear c9b0); (try clear c9b1); (try clear p2); (obtain ⟨x7_2, x19_2, rfl, HA, HK2, HO_7, BK113, HB⟩ := hrel); (have hl7_2 := (Kd.R_reads' HO_7.out).1); (rw [hl7_2] at HO_7); ((try simp only [hl7_2])); (try simp only [hl7_2] at BK113)
              cases gk with
              | zero => exact absurd HA.out (by simp [order_Order_Put.l0])
              | succ k2 =>
                (have H := HA.out); clear HA; simp only [order_Order_Put.l0] at H
                by_cases c13 : x19_2 < (y114.length : Int)
                · rw [if_pos c13] at H
                  (have c13b0 : decide (x19_2 < (y114.length : Int)) = true := decide_eq_true c13); ((try simp only [hl7_2] at c13b0)); clear c13; (replace H := Option.bind_eq_some_iff.mp H); (obtain ⟨t117, A140, H⟩ := H); (replace H : (if 0 ≤ (wrap64 (8 * x19_2)) then (if 0 ≤ t117 then (if t117 < (x7_2.length : Int) then (order_Order_Put.l0 k2 a1 a2 (x7_2.set (t117 : Int).toNat ((shr .u64 a1 (wrap64 (8 * x19_2))) % 256)) (y114.length : Int) (wrap64 (x19_2 + 1)) a0_0) else (none)) else (none)) else (none)) = some r := H); (have A14 := aS A140); clear A140; (obtain ⟨ji15, hji15⟩ : ∃ j_ : Int, (wrap64 (8 * x19_2)) = j_ := ⟨_, rfl⟩); (replace H : (if 0 ≤ (ji15) then (if 0 ≤ t117 then (if t117 < (x7_2.length : Int) then (order_Order_Put.l0 k2 a1 a2 (x7_2.set (t117 : Int).toNat ((shr .u64 a1 (ji15)) % 256)) (y114.length : Int) (wrap64 (x19_2 + 1)) a0_0) else (none)) else (none)) else (none)) = some r := by first | (rw [hji15] at H; exact H) | (simp only [hji15] at H ⊢; exact H)); ((try rw [hji15] at A14)); have hji15w : (IntKind.i64.wrap (8 * x19_2)) = ji15 := (i64_w _).trans hji15
                  by_cases c16 : 0 ≤ (ji15)
                  · rw [if_pos c16] at H
                    (have c16b0 := eq_true c16); (have c16b1 : decide (0 ≤ (ji15)) = true := decide_eq_true c16); clear c16; (obtain ⟨ji17, hji17⟩ : ∃ j_ : Int, (shr .u64 a1 (ji15)) = j_ := ⟨_, rfl⟩); (replace H : (if 0 ≤ t117 then (if t117 < (x7_2.length : Int) then (order_Order_Put.l0 k2 a1 a2 (x7_2.set (t117 : Int).toNat ((ji17) % 256)) (y114.length : Int) (wrap64 (x19_2 + 1)) a0_0) else (none)) else (none)) = some r := by first | (rw [hji17] at H; exact H) | (simp only [hji17] at H ⊢; exact H)); ((try rw [hji17] at A14)); (have hji17_ : (a1 / 2 ^ min (ji15).toNat 64) = ji17 := hji17); (have hji17z : (ji15) ≤ 64 → (a1 / 2 ^ (ji15).toNat) = ji17 := shr_small hji17); (try have hji17y := hji17z (by first | omega | (simp only [decide_eq_true_eq] at *; omega)))
                    by_cases c18 : 0 ≤ t117
                    · rw [if_pos c18] at H
                      (have c18b0 : decide (0 ≤ t117) = true := decide_eq_true c18); clear c18
                      by_cases c19 : t117 < (x7_2.length : Int)
                      · rw [if_pos c19] at H
                        (have c19b0 : decide (t117 < (x7_2.length : Int)) = true := decide_eq_true c19); ((try simp only [hl7_2] at c19b0)); clear c19; (obtain ⟨y118, hy118⟩ : ∃ y_ : List Int, y_ = (x7_2.set (t117 : Int).toNat ((ji17) % 256)) := ⟨_, rfl⟩); (replace H : (order_Order_Put.l0 k2 a1 a2 y118 (y114.length : Int) (wrap64 (x19_2 + 1)) a0_0) = some r := by first | (rw [hy118]; with_reducible exact H) | (have H2_ := (Option.bind_some _ _).symm.trans H; rw [hy118]; with_reducible exact H2_) | (have H2_ := (Option.bind_some _ _).symm.trans H; with_reducible exact H2_) | with_reducible exact H | (rw [hy118]; exact H) | exact H); (have Ny118 := aS hy118); clear hy118; (have H' := aS H); clear H; (try go_wp2); (have n0_ := aS (Kd.R_drew HO_7.out)); (have n1_ := aS (blk_drew BK113.out)); (have n2_ := aS (below_drew1 HB.out)); clear HO_7; clear BK113; clear HB; (have HO_7 := n0_); (have BK113 := n1_); (have HB := n2_); clear n0_ n1_ n2_; (refine start_ (n := 12) (S := fun w' => w'.cell? ⟨gb113, 0, none⟩ = some (.bool a0_0)) (ds := [11]) #[false, false, false, false, false, false, false, false, false, false, false, false] (by kernel_rfl) rfl rfl ((blk_cell BK113.out 0).trans rfl) (fun hHeld => ?_); refine with_tabW order_Order_Put.tab7 order_Order_Put.bits7 (fun HT_ HW_ => ?_)); (generalize wr.drew = w21 at HO_7 BK113 HB hHeld ⊢); (refine pU 0 22 (bm 12 1) ?_); (refine pU 2 24 (bm 12 5) ?_); (refine pU 3 25 (bm 12 13) ?_); (refine pU 5 27 (bm 12 45) ?_); (refine pU 6 28 (bm 12 109) ?_); (refine pU 7 29 (bm 12 237) ?_); (refine pU 8 30 (bm 12 493) ?_); (refine pU 9 31 (bm 12 1005) ?_); refine tU 1 23 (bm 12 1007) hHeld ?_
                        (refine one_ (i := 4) (N := some 26) (bm 12 1023) rfl rfl (one_of HT_.out (by kernel_rfl)) (by decide) (fun K hK => ?_)); (refine goes_ Tryd.func137 (by kernel_rfl) rfl #[.agg #[.bool a0_0], .int .i64 x19_2, .int .i64 a2] (by rfl) rfl rfl (by (try simp only [List.map_toArray, List.map_cons, List.map_nil]); first | done | rfl | (simp only [List.length_drop, List.length_take]; rfl)) ?_); (with_reducible refine (order_Order_place.calls a0_0 x19_2 a2 t117 _ A14.out).mono ?_); (rintro e w22 ⟨rfl, hb⟩); (refine ⟨_, rfl, ?_⟩); (have n0_ := aS (Kd.R_below (by (with_reducible repeat (first | apply Kd.R_alloc | apply Kd.R_drewN | apply Kd.R_drew)); exact HO_7.out) hb)); (have n1_ := aS (blk_below (g := gb113) (o := .cells #[.bool a0_0] 25 (0, 0)) bkN hb)); (have n2_ := aS (below_step hbS hb)); clear HO_7; clear BK113; clear HB; (have HO_7 := n0_); (have BK113 := n1_); (have HB := n2_); clear n0_ n1_ n2_; ((try clear hb)); ((try clear hb2)); ((try clear hk)); ((try clear hi)); (have p20 : 0 ≤ (t117 : Int) := of_decide_eq_true (by first | (with_reducible assumption) | assumption)); (have q20 : (t117 : Int) < ((x7_2.length : Int) : Int) := of_decide_eq_true (by first | (with_reducible assumption) | assumption)); (obtain ⟨go20, co20, eo20, gb20, gl20, cl20, HG20⟩ := Kd.R_form HO_7.out (by omega)); ((first | cases eo20 | (injection eo20 with ea_ en_ ec_; (first | subst ea_ | (injection ea_ with ea_; subst ea_)); subst ec_; clear en_))); (have GB20 := aS gb20); (have GG20 := aS HG20); clear gb20 gl20 HG20; (obtain ⟨hx20_0, hf20_0⟩ := Kd.R_celln 0 HO_7.out (t117 : Int) p20 q20); replace p20 := eq_true p20
                        (replace q20 := eq_true q20); (have HP23 := Kd.R_putn HO_7.out (t117 : Int) ((ji17) % 256)); (rw [← Ny118.out] at HP23); (have HQ23 := aS HP23); clear HP23; (refine hK.out _ _ ((blk_cell BK113.out 0).trans rfl) (fun hHeld => ?_)); clear hK K; (refine norm_ (a' := ?_) ?_ ?_); rotate_left
                        · (show Act.put _ (some 26) _ = _); (simp only [Act.put, List.setIfInBounds_toArray, List.set_cons_zero, List.set_cons_succ, i64_w, i32_w]); rfl
                        (refine pU 10 32 (bm 12 2047) ?_); (refine last_ (i := 11) (N := none) (bm 12 4095) rfl rfl (one_of HT_.out (by kernel_rfl)) (by decide) (fun K hK => ?_)); (refine skip_ (w1 := ?_) (by rfl) rfl ?_ ?_); rotate_left
                        · go_simp; rfl
                        (refine hK.out _ _ ?_); clear hK K; (refine done_ (done_of HT_.out (by kernel_rfl)) ?_); (try go_wp2); ((try simp only [← hl7_2])); go_roundg k2
                        case measure => have := HJ3.out; have := HK2.out; omega
                        case rel => exact ⟨(y118), (wrap64 (x19_2 + 1)), (by first | rfl | (simp; done) | (simp [*]; done)), H', ⟨by have := HJ3.out; have := HK2.out; omega⟩, ⟨by (try simp only [hl7_2]); (with_reducible repeat (first | apply Kd.R_alloc | apply Kd.R_drewN | apply Kd.R_drew)); exact HQ23.out⟩, ⟨by (try simp only [hl7_2]); (with_reducible repeat (first | refine blk_drewN ?_ _ | refine blk_drew ?_ | refine blk_alloc ?_ _)); refine blk_far ?_ (by have h_ := Kd.R_ne HO_7.out BK113.out (by decide); intro e_; exact h_ (by rw [e_]; rfl)) _; (with_reducible repeat (first | refine blk_drewN ?_ _ | refine blk_drew ?_ | refine blk_alloc ?_ _)); exact BK113.out⟩, ⟨by repeat (first | (with_reducible first | exact HB.out | apply below_alloc | apply pw_below_drewN | apply below_drew1 | refine below_set ?_ GB20.out | refine below_set ?_ GE113.out) | exact HB.out)⟩⟩
                      · (rw [if_neg c19] at H); exact absurd H (by simp)
                    · (rw [if_neg c18] at H); exact absurd H (by simp)
                  · (rw [if_neg c16] at H); exact absurd H (by simp)
                · (rw [if_neg c13] at H); (have c13b0 : decide (x19_2 < (y114.length : Int)) = false := decide_eq_false c13); ((try simp only [hl7_2] at c13b0)); clear c13; (obtain rfl := Option.some.inj H); (have hcv24 := own_string (P := Tryd.prog) Tryd.underlying130 Tryd.underlying5 Tryd.underlying9 (Kd.own_of_R HO_7.out)); (go_wp2); (go_ret); exact ⟨by first | rfl | (simp [errW_none, errW_some] <;> rfl) | (simp [*, errW_none, errW_some] <;> rfl), by repeat (first | (with_reducible first | exact HB.out | apply below_alloc | apply pw_below_drewN | apply below_drew1 | refine below_set ?_ GE113.out) | exact HB.out)⟩
          · (rw [if_neg c9] at H); exact absurd H (by simp)
        · rw [if_neg c8] at H
          exact absurd H (by simp)

end Go.Proofs.YteoeohkjomehoaaDoor.Q
