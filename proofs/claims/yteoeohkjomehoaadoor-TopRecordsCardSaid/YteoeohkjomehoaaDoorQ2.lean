/- What Go functions of the program compute, each as a Lean function with the proof that the call returns just that. No condition but those in the statements. -/
import Derived.Test.YteoeohkjomehoaaDoorQ0
import Derived.Test.YteoeohkjomehoaaDoorPts
namespace Go.Proofs.YteoeohkjomehoaaDoor.Q
open Go.RowKit Go.Proofs.YteoeohkjomehoaaDoorW.PrintWords Go.Proofs.YteoeohkjomehoaaDoorW.PrintLast Go.Proofs.YteoeohkjomehoaaDoorW.PrintMore
attribute [local go_sem] max2_int min2_int max_two min_two max_three min_three max_four min_four   -- for this text's walks alone
set_option linter.unusedVariables false
set_option linter.unusedSimpArgs false

/-! ### gravertop_formOf: function 12 -/
def gravertop_formOf.f (a0 : Int) : Option (Bool × Bool) := some (((Go.bits .and .i64 a0 1) == 1), ((Go.bits .and .i64 a0 2) == 2))
set_option maxHeartbeats 8000000 in
set_option maxRecDepth 100000 in
theorem gravertop_formOf.calls (a0 : Int) (r1 : Bool) (r2 : Bool) (w : World) (h : gravertop_formOf.f a0 = some (r1, r2)) :
    Calls Tryd.prog 12 #[.int .i64 a0] w fun e w' => e = .returned (.agg #[.bool r1, .bool r2]) ∧ Below w.heap.size w w' := by
  (have hu27 := Tryd.underlying27); (have hu25 := Tryd.underlying25); (have HB := aS (Below.refl w.heap.size w)); (have H : (some (((Go.bits .and .i64 a0 1) == 1), ((Go.bits .and .i64 a0 2) == 2))) = some (r1, r2) := h); clear h; (obtain ⟨bl2, hbl2⟩ : ∃ s_ : Bool, (((Go.bits .and .i64 a0 1) == 1)) = s_ := ⟨_, rfl⟩); (replace H : (some (bl2, ((Go.bits .and .i64 a0 2) == 2))) = some (r1, r2) := by first | (rw [hbl2] at H; exact H) | (simp only [hbl2] at H ⊢; exact H) | exact H); (obtain ⟨bl3, hbl3⟩ : ∃ s_ : Bool, (((Go.bits .and .i64 a0 2) == 2)) = s_ := ⟨_, rfl⟩); (replace H : (some (bl2, bl3)) = some (r1, r2) := by first | (rw [hbl3] at H; exact H) | (simp only [hbl3] at H ⊢; exact H) | exact H); (simp only [Option.some.injEq, Prod.mk.injEq] at H); (obtain ⟨rfl, rfl⟩ := H); (go_enter Tryd.func12, Tryd.ntmps12); (go_wp2_with (first | ((with_reducible refine gate_dst (N := 2) rfl ?_); refine bE 2 #[.bool false, .bool false] 27 ?_; intro gb101 hg w4 hbox hb; have n0_ := aS (below_step hbN hb); have n1_ := aS (hbox); have n2_ := aS (bsz hg hbN : w.heap.size ≤ gb101); have n3_ := aS (bsz hg hbN : w.heap.size ≤ gb101); clear HB; have HB := n0_; have BK101 := n1_; have GW101 := n2_; have GE101 := n3_; clear n0_ n1_ n2_ n3_; clear hb hbox hg; have hcz5_0 : w4.cell? ⟨gb101, 0, none⟩ = some (.bool false) := (blk_cell BK101.out 0).trans rfl; have hcz5_1 : w4.cell? ⟨gb101, 1, none⟩ = some (.bool false) := (blk_cell BK101.out 1).trans rfl; have hfz5_0 := blk_frozen BK101.out 0; have hfz5_1 := blk_frozen BK101.out 1))); refine bodyPost_ret (results_cell_row rfl _ _ gb101 27 #[.bool bl2, .bool bl3] (0, 0) _ rfl (by (with_reducible repeat (first | refine blk_drewN ?_ _ | refine blk_drew ?_ | refine blk_alloc ?_ _)); refine blk_put (cs := #[.bool bl2, .bool false]) ?_ 1 _ rfl; (with_reducible repeat (first | refine blk_drewN ?_ _ | refine blk_drew ?_ | refine blk_alloc ?_ _)); refine blk_put (cs := #[.bool false, .bool false]) ?_ 0 _ rfl; (with_reducible repeat (first | refine blk_drewN ?_ _ | refine blk_drew ?_ | refine blk_alloc ?_ _)); exact BK101.out) Tryd.underlying27 rfl (by kernel_rfl)) rfl ?_
  exact ⟨by first | rfl | (simp [errW_none, errW_some] <;> rfl) | (simp [*, errW_none, errW_some] <;> rfl), by repeat (first | (with_reducible first | exact HB.out | apply below_alloc | apply pw_below_drewN | apply below_drew1 | refine below_set ?_ GE101.out) | exact HB.out)⟩

/-! ### class_Form_Word: function 68 -/
def class_Form_Word.f (a0_0 : Bool) (a0_1 : Bool) : Option (Int) := if a0_1 = true then (some 8) else (some 4)
set_option maxHeartbeats 8000000 in
set_option maxRecDepth 100000 in
theorem class_Form_Word.calls (a0_0 : Bool) (a0_1 : Bool) (r : Int) (w : World) (h : class_Form_Word.f a0_0 a0_1 = some r) :
    Calls Tryd.prog 68 #[.agg #[.bool a0_0, .bool a0_1]] w fun e w' => e = .returned (.int .i64 r) ∧ Below w.heap.size w w' := by
  (have hu27 := Tryd.underlying27); (have HB := aS (Below.refl w.heap.size w)); (have H : (if a0_1 = true then (some 8) else (some 4)) = some r := h); clear h
  by_cases c2 : a0_1 = true
  · (subst c2); (have H1 : (some 8) = some r := by rw [if_pos rfl] at H; exact H); clear H; (have H := H1); clear H1; (obtain rfl := Option.some.inj H); (go_enter Tryd.func68, Tryd.ntmps68); (go_wp2_with (first | ((with_reducible refine gate_dst (N := 1) rfl ?_); refine bE 1 #[.bool a0_0, .bool true] 27 ?_; intro gb102 hg w3 hbox hb; have n0_ := aS (below_step hbN hb); have n1_ := aS (hbox); have n2_ := aS (bsz hg hbN : w.heap.size ≤ gb102); have n3_ := aS (bsz hg hbN : w.heap.size ≤ gb102); clear HB; have HB := n0_; have BK102 := n1_; have GW102 := n2_; have GE102 := n3_; clear n0_ n1_ n2_ n3_; clear hb hbox hg; have hcz4_0 : w3.cell? ⟨gb102, 0, none⟩ = some (.bool a0_0) := (blk_cell BK102.out 0).trans rfl; have hcz4_1 : w3.cell? ⟨gb102, 1, none⟩ = some (.bool true) := (blk_cell BK102.out 1).trans rfl; have hfz4_0 := blk_frozen BK102.out 0; have hfz4_1 := blk_frozen BK102.out 1))); (go_ret); exact ⟨by first | rfl | (simp [errW_none, errW_some] <;> rfl) | (simp [*, errW_none, errW_some] <;> rfl), by repeat (first | (with_reducible first | exact HB.out | apply below_alloc | apply pw_below_drewN | apply below_drew1 | refine below_set ?_ GE102.out) | exact HB.out)⟩
  · replace c2 := Bool.eq_false_iff.mpr c2
    (subst c2); (have H1 : (some 4) = some r := by rw [if_neg (show ¬ (false = true) by decide)] at H; exact H); clear H; (have H := H1); clear H1; (obtain rfl := Option.some.inj H); (go_enter Tryd.func68, Tryd.ntmps68); (go_wp2_with (first | ((with_reducible refine gate_dst (N := 1) rfl ?_); refine bE 1 #[.bool a0_0, .bool false] 27 ?_; intro gb102 hg w5 hbox hb; have n0_ := aS (below_step hbN hb); have n1_ := aS (hbox); have n2_ := aS (bsz hg hbN : w.heap.size ≤ gb102); have n3_ := aS (bsz hg hbN : w.heap.size ≤ gb102); clear HB; have HB := n0_; have BK102 := n1_; have GW102 := n2_; have GE102 := n3_; clear n0_ n1_ n2_ n3_; clear hb hbox hg; have hcz6_0 : w5.cell? ⟨gb102, 0, none⟩ = some (.bool a0_0) := (blk_cell BK102.out 0).trans rfl; have hcz6_1 : w5.cell? ⟨gb102, 1, none⟩ = some (.bool false) := (blk_cell BK102.out 1).trans rfl; have hfz6_0 := blk_frozen BK102.out 0; have hfz6_1 := blk_frozen BK102.out 1))); go_ret
    exact ⟨by first | rfl | (simp [errW_none, errW_some] <;> rfl) | (simp [*, errW_none, errW_some] <;> rfl), by repeat (first | (with_reducible first | exact HB.out | apply below_alloc | apply pw_below_drewN | apply below_drew1 | refine below_set ?_ GE102.out) | exact HB.out)⟩

/-! ### class_Form_Sizes: function 97 -/
def class_Form_Sizes.l0 : Nat → List Int → Int → List Int → Int → Int → Bool → Bool → Option (List Int × Int)
  | 0, _, _, _, _, _, _, _ => none
  | k + 1, x6, x7, x10, x11, x12, x104000, x104001 => if x12 < x11 then (if 0 ≤ x12 then (if x12 < (x10.length : Int) then (if (rd x10 x12) = 0 then ((class_Form_Word.f x104000 x104001).bind fun t105 => (if x6.length < 17592186044416 then (class_Form_Sizes.l0 k (x6 ++ [t105]) (wrap64 (x7 + t105)) x10 x11 (wrap64 (x12 + 1)) x104000 x104001) else (none))) else (if x6.length < 17592186044416 then (class_Form_Sizes.l0 k (x6 ++ [rd x10 x12]) (wrap64 (x7 + (rd x10 x12))) x10 x11 (wrap64 (x12 + 1)) x104000 x104001) else (none))) else (none)) else (none)) else (some (x6, x7))
def class_Form_Sizes.f (k : Nat) (a0_0 : Bool) (a0_1 : Bool) (l1 : List Int) : Option (List Int × Int) := class_Form_Sizes.l0 k ([] : List Int) 0 l1 (l1.length : Int) 0 a0_0 a0_1
theorem class_Form_Sizes.mono_l : ∀ k, (∀ y0 y1 y2 y3 y4 y5 y6, LeO (class_Form_Sizes.l0 k y0 y1 y2 y3 y4 y5 y6) (class_Form_Sizes.l0 (k + 1) y0 y1 y2 y3 y4 y5 y6))
  | 0 => fun _ _ _ _ _ _ _ r h => by simp [class_Form_Sizes.l0] at h
  | k + 1 => by
    have ih0 := class_Form_Sizes.mono_l k
    · intro y0 y1 y2 y3 y4 y5 y6
      unfold class_Form_Sizes.l0
      repeat' first
      | (with_reducible exact ih0 _ _ _ _ _ _ _)
      | (with_reducible exact LeO.refl _)
      | (with_reducible exact LeO.none _)
      | (with_reducible refine LeO.ite ?_ ?_)
      | (with_reducible refine LeO.bind ?_ (fun _ => ?_))
      | exact ih0 _ _ _ _ _ _ _
      | exact LeO.none _
      | refine LeO.ite ?_ ?_
      | refine LeO.bind ?_ (fun _ => ?_)
theorem class_Form_Sizes.mono : ∀ a0 a1 a2 k, LeO (class_Form_Sizes.f k a0 a1 a2) (class_Form_Sizes.f (k + 1) a0 a1 a2) := by
  intro a0 a1 a2 k; (have ih0 := class_Form_Sizes.mono_l k); unfold class_Form_Sizes.f
  repeat' first
      | (with_reducible exact ih0 _ _ _ _ _ _ _)
      | (with_reducible exact LeO.refl _)
      | (with_reducible exact LeO.none _)
      | (with_reducible refine LeO.ite ?_ ?_)
      | (with_reducible refine LeO.bind ?_ (fun _ => ?_))
      | exact ih0 _ _ _ _ _ _ _
      | exact LeO.none _
      | refine LeO.ite ?_ ?_
      | refine LeO.bind ?_ (fun _ => ?_)
set_option maxHeartbeats 8000000 in
set_option maxRecDepth 100000 in
theorem class_Form_Sizes.calls (k : Nat) (a0_0 : Bool) (a0_1 : Bool) (A1 : Option Addr) (c1 : Nat) (l1 : List Int) (r1 : List Int) (r2 : Int) (w : World) (hr1 : Kd.C (Kd.int .i64) w A1 l1.length l1) (hc1 : l1.length ≤ c1) (h : class_Form_Sizes.f k a0_0 a0_1 l1 = some (r1, r2)) :
    Calls Tryd.prog 97 #[.agg #[.bool a0_0, .bool a0_1], .slice A1 l1.length c1] w fun e w' => ∃ v0_ : Value, e = .returned (.tuple #[v0_, .int .i64 r2]) ∧ Kd.R (Kd.int .i64) 3 w' w.heap.size (fun _ => True) v0_ r1 ∧ Below w.heap.size w w' := by
  (have hu27 := Tryd.underlying27); (have HR1 := aS hr1); (have HC1 := aS hc1); clear hr1 hc1; (have HB := aS (Below.refl w.heap.size w)); (have H : (class_Form_Sizes.l0 k ([] : List Int) 0 l1 (l1.length : Int) 0 a0_0 a0_1) = some (r1, r2) := h); clear h; (have H' := aS H); clear H; (go_enter Tryd.func97, Tryd.ntmps97); (go_wp2_with (first | ((with_reducible refine gate_dst (N := 2) rfl ?_); refine bE 2 #[.bool a0_0, .bool a0_1] 27 ?_; intro gb103 hg w3 hbox hb; have n0_ := aS (below_step hbN hb); have n1_ := aS (hbox); have n2_ := aS (bsz hg hbN : w.heap.size ≤ gb103); have n3_ := aS (bsz hg hbN : w.heap.size ≤ gb103); clear HB; have HB := n0_; have BK103 := n1_; have GW103 := n2_; have GE103 := n3_; clear n0_ n1_ n2_ n3_; clear hb hbox hg))); go_loopg [6, 7, 12] k (fun kq v6 v7 v12 w' => ∃ (x6_1 : List Int) (x7_1 : Int) (x12_1 : Int), v7 = .int .i64 x7_1 ∧ v12 = .int .i64 x12_1 ∧ Aside0 (class_Form_Sizes.l0 kq x6_1 x7_1 l1 (l1.length : Int) x12_1 a0_0 a0_1 = some (r1, r2)) ∧ Aside0 (kq ≤ k) ∧ Aside0 (Kd.R (Kd.int .i64) 3 w' w.heap.size (fun _ => True) v6 x6_1) ∧ Aside0 (w'.heap[gb103]? = some (.cells #[.bool a0_0, .bool a0_1] 27 (0, 0))) ∧ Aside0 (Below w.heap.size w w'))
  case atStart => exact ⟨(([] : List Int)), (0), (0), (by first | rfl | (simp; done) | (simp [*]; done)), (by first | rfl | (simp; done) | (simp [*]; done)), H', ⟨Nat.le_refl _⟩, ⟨by first | exact Kd.R_nil _ _ _ _ _ | exact Kd.N_nil _ _ _ _ _ | exact Kd.V_nil _ _ _ _ _ | exact Kd.Q_nil _ _ _ _ _ | exact Kd.S_nil _ _ _ _ _⟩, ⟨by (with_reducible repeat (first | refine blk_drewN ?_ _ | refine blk_drew ?_ | refine blk_alloc ?_ _)); exact BK103.out⟩, ⟨by repeat (first | (with_reducible first | exact HB.out | apply below_alloc | apply pw_below_drewN | apply below_drew1 | refine below_set ?_ GE103.out) | exact HB.out)⟩⟩
  case round =>
    clear H'; (try clear c1); (try clear p2); obtain ⟨x6_1, x7_1, x12_1, rfl, rfl, HA, HK1, HO_6, BK103, HB⟩ := hrel
    cases gk with
    | zero => exact absurd HA.out (by simp [class_Form_Sizes.l0])
    | succ k1 =>
      (have H := HA.out); clear HA; simp only [class_Form_Sizes.l0] at H
      by_cases c4 : x12_1 < (l1.length : Int)
      · rw [if_pos c4] at H
        (have c4b0 : decide (x12_1 < (l1.length : Int)) = true := decide_eq_true c4); clear c4
        by_cases c5 : 0 ≤ x12_1
        · rw [if_pos c5] at H
          (have c5b0 : decide (0 ≤ x12_1) = true := decide_eq_true c5); clear c5
          by_cases c6 : x12_1 < (l1.length : Int)
          · rw [if_pos c6] at H
            (have c6b0 : decide (x12_1 < (l1.length : Int)) = true := decide_eq_true c6); clear c6
            by_cases c7 : (rd l1 x12_1) = 0
            · rw [if_pos c7] at H
              (have c7b0 : ((rd l1 x12_1) == 0) = true := beq_iff_eq.mpr c7); (have c7b1 : ((rd l1 x12_1) != 0) = false := bne_eq_false_iff_eq.mpr c7); clear c7; (replace H := Option.bind_eq_some_iff.mp H); (obtain ⟨t105, A80, H⟩ := H); (replace H : (if x6_1.length < 17592186044416 then (class_Form_Sizes.l0 k1 (x6_1 ++ [t105]) (wrap64 (x7_1 + t105)) l1 (l1.length : Int) (wrap64 (x12_1 + 1)) a0_0 a0_1) else (none)) = some (r1, r2) := H); (have A8 := aS A80); clear A80
              by_cases c9 : x6_1.length < 17592186044416
              · rw [if_pos c9] at H
                (have LMc9 := aS c9); clear c9; (obtain ⟨y106, hy106⟩ : ∃ y_ : List Int, y_ = (x6_1 ++ [t105]) := ⟨_, rfl⟩); (replace H : (class_Form_Sizes.l0 k1 y106 (wrap64 (x7_1 + t105)) l1 (l1.length : Int) (wrap64 (x12_1 + 1)) a0_0 a0_1) = some (r1, r2) := by first | (rw [hy106]; with_reducible exact H) | (have H2_ := (Option.bind_some _ _).symm.trans H; rw [hy106]; with_reducible exact H2_) | (have H2_ := (Option.bind_some _ _).symm.trans H; with_reducible exact H2_) | with_reducible exact H | (rw [hy106]; exact H) | exact H); (have Ny106 := aS hy106); clear hy106; (have H' := aS H); clear H; (have p104 : 0 ≤ (x12_1 : Int) := of_decide_eq_true (by first | (with_reducible assumption) | assumption)); (have q104 : x12_1 < (l1.length : Int) := of_decide_eq_true (by first | (with_reducible assumption) | assumption)); obtain ⟨ad104, e104, hx104_0⟩ := Kd.at_int HR1.out x12_1 p104 q104
                cases e104
                (replace hx104_0 := (HB.out.cell (World.block_lt_of_cell? w _ hx104_0)).trans hx104_0); (replace p104 := eq_true p104); (replace q104 := eq_true q104); (have hcz10_0 : wr.cell? ⟨gb103, 0, none⟩ = some (.bool a0_0) := (blk_cell BK103.out 0).trans rfl); (have hcz10_1 : wr.cell? ⟨gb103, 1, none⟩ = some (.bool a0_1) := (blk_cell BK103.out 1).trans rfl); (have hfz10_0 := blk_frozen BK103.out 0); (have hfz10_1 := blk_frozen BK103.out 1); go_wp2_with (first | ((with_reducible refine gate_callee (f := 68) rfl ?_); refine gL (some 19) Tryd.func68 #[.agg #[.bool a0_0, .bool a0_1]] ?_; (with_reducible refine (class_Form_Word.calls a0_0 a0_1 t105 _ A8.out).mono ?_); rintro e w11 ⟨rfl, hb⟩; refine ⟨_, rfl, ?_⟩; have n0_ := aS (Kd.R_below (by (with_reducible repeat (first | apply Kd.R_alloc | apply Kd.R_drewN | apply Kd.R_drew)); exact HO_6.out) hb); have n1_ := aS (blk_below (g := gb103) (o := .cells #[.bool a0_0, .bool a0_1] 27 (0, 0)) bkN hb); have n2_ := aS (below_step hbS hb); clear HO_6; clear BK103; clear HB; have HO_6 := n0_; have BK103 := n1_; have HB := n2_; clear n0_ n1_ n2_; (try clear hb); (try clear hb2); (try clear hk); (try clear hi)) | ((with_reducible refine gate_builtin (b := .append) (xs := #[.tmp 20, .tmp 22]) rfl ?_); at_builtin; refine Kd.R_append (Kd.int .i64) (w0 := w) w.heap.size rfl (.tmp 20) (.tmp 22) 110 3 (.int .i64 0) 8 rfl Tryd.underlying110 info3 rfl (by decide) (by omega) u6 x6_1 t105 [.int .i64 t105] (fun _ => True) (fun _ => False) rfl rfl ?aP (fun _ hk => hk.elim) ?aF ?aO ?aB ?aS ?aL ?_; (case aP => exact rfl); (case aB => exact hbS); (case aF => exact (fun _ _ => trivial)); (case aO => exact (by (with_reducible repeat (first | apply Kd.R_alloc | apply Kd.R_drewN | apply Kd.R_drew)); exact HO_6.out)); (case aS => exact (below_size hbS)); (case aL => have := LMc9.out; omega); intro v107 w12 ho hb hg hat; rw [← Ny106.out] at ho; have n0_ := aS (blk_grown (g := gb103) (o := .cells #[.bool a0_0, .bool a0_1] 27 (0, 0)) (by (with_reducible repeat (first | refine blk_drewN ?_ _ | refine blk_drew ?_ | refine blk_alloc ?_ _)); exact BK103.out) hg (Kd.R_ne HO_6.out BK103.out (by decide))); have n1_ := aS (hb); have n2_ := aS (ho); clear BK103; clear HB; clear HO_6; have BK103 := n0_; have HB := n1_; have HO108 := n2_; clear n0_ n1_ n2_; clear ho hb hg hat))
                go_roundg k1
                case measure => have := HK1.out; omega
                case rel => exact ⟨(y106), (wrap64 (x7_1 + t105)), (wrap64 (x12_1 + 1)), (by first | rfl | (simp; done) | (simp [*]; done)), (by first | rfl | (simp; done) | (simp [*]; done)), H', ⟨by have := HK1.out; omega⟩, ⟨by (with_reducible repeat (first | apply Kd.R_alloc | apply Kd.R_drewN | apply Kd.R_drew)); exact HO108.out⟩, ⟨by (with_reducible repeat (first | refine blk_drewN ?_ _ | refine blk_drew ?_ | refine blk_alloc ?_ _)); exact BK103.out⟩, ⟨by repeat (first | (with_reducible first | exact HB.out | apply below_alloc | apply pw_below_drewN | apply below_drew1 | refine below_set ?_ GE103.out) | exact HB.out)⟩⟩
              · (rw [if_neg c9] at H); exact absurd H (by simp)
            · rw [if_neg c7] at H
              (have c7b0 : ((rd l1 x12_1) == 0) = false := beq_eq_false_iff_ne.mpr c7); have c7b1 : ((rd l1 x12_1) != 0) = true := bne_iff_ne.mpr c7
              by_cases c13 : x6_1.length < 17592186044416
              · rw [if_pos c13] at H
                (have LMc13 := aS c13); clear c13; (obtain ⟨y109, hy109⟩ : ∃ y_ : List Int, y_ = (x6_1 ++ [rd l1 x12_1]) := ⟨_, rfl⟩); (replace H : (class_Form_Sizes.l0 k1 y109 (wrap64 (x7_1 + (rd l1 x12_1))) l1 (l1.length : Int) (wrap64 (x12_1 + 1)) a0_0 a0_1) = some (r1, r2) := by first | (rw [hy109]; with_reducible exact H) | (have H2_ := (Option.bind_some _ _).symm.trans H; rw [hy109]; with_reducible exact H2_) | (have H2_ := (Option.bind_some _ _).symm.trans H; with_reducible exact H2_) | with_reducible exact H | (rw [hy109]; exact H) | exact H); (have Ny109 := aS hy109); clear hy109; (have H' := aS H); clear H; (have p104 : 0 ≤ (x12_1 : Int) := of_decide_eq_true (by first | (with_reducible assumption) | assumption)); (have q104 : x12_1 < (l1.length : Int) := of_decide_eq_true (by first | (with_reducible assumption) | assumption)); obtain ⟨ad104, e104, hx104_0⟩ := Kd.at_int HR1.out x12_1 p104 q104
                cases e104
                (replace hx104_0 := (HB.out.cell (World.block_lt_of_cell? w _ hx104_0)).trans hx104_0); (replace p104 := eq_true p104); (replace q104 := eq_true q104); (go_wp2_with (first | ((with_reducible refine gate_builtin (b := .append) (xs := #[.tmp 20, .tmp 22]) rfl ?_); at_builtin; refine Kd.R_append (Kd.int .i64) (w0 := w) w.heap.size rfl (.tmp 20) (.tmp 22) 110 3 (.int .i64 0) 8 rfl Tryd.underlying110 info3 rfl (by decide) (by omega) u6 x6_1 (rd l1 x12_1) [.int .i64 (rd l1 x12_1)] (fun _ => True) (fun _ => False) rfl rfl ?aP (fun _ hk => hk.elim) ?aF ?aO ?aB ?aS ?aL ?_; (case aP => exact rfl); (case aB => exact hbS); (case aF => exact (fun _ _ => trivial)); (case aO => exact (by (with_reducible repeat (first | apply Kd.R_alloc | apply Kd.R_drewN | apply Kd.R_drew)); exact HO_6.out)); (case aS => exact (below_size hbS)); (case aL => have := LMc13.out; omega); intro v110 w14 ho hb hg hat; rw [← Ny109.out] at ho; have n0_ := aS (blk_grown (g := gb103) (o := .cells #[.bool a0_0, .bool a0_1] 27 (0, 0)) (by (with_reducible repeat (first | refine blk_drewN ?_ _ | refine blk_drew ?_ | refine blk_alloc ?_ _)); exact BK103.out) hg (Kd.R_ne HO_6.out BK103.out (by decide))); have n1_ := aS (hb); have n2_ := aS (ho); clear BK103; clear HB; clear HO_6; have BK103 := n0_; have HB := n1_; have HO111 := n2_; clear n0_ n1_ n2_; clear ho hb hg hat))); go_roundg k1
                case measure => have := HK1.out; omega
                case rel => exact ⟨(y109), (wrap64 (x7_1 + (rd l1 x12_1))), (wrap64 (x12_1 + 1)), (by first | rfl | (simp; done) | (simp [*]; done)), (by first | rfl | (simp; done) | (simp [*]; done)), H', ⟨by have := HK1.out; omega⟩, ⟨by (with_reducible repeat (first | apply Kd.R_alloc | apply Kd.R_drewN | apply Kd.R_drew)); exact HO111.out⟩, ⟨by (with_reducible repeat (first | refine blk_drewN ?_ _ | refine blk_drew ?_ | refine blk_alloc ?_ _)); exact BK103.out⟩, ⟨by repeat (first | (with_reducible first | exact HB.out | apply below_alloc | apply pw_below_drewN | apply below_drew1 | refine below_set ?_ GE103.out) | exact HB.out)⟩⟩
              · (rw [if_neg c13] at H); exact absurd H (by simp)
          · (rw [if_neg c6] at H); exact absurd H (by simp)
        · (rw [if_neg c5] at H); exact absurd H (by simp)
      · rw [if_neg c4] at H
        (have c4b0 : decide (x12_1 < (l1.length : Int)) = false := decide_eq_false c4); clear c4; (simp only [Option.some.injEq, Prod.mk.injEq] at H); (obtain ⟨rfl, rfl⟩ := H); (go_wp2); go_ret2
        exact ⟨_, by first | rfl | (simp [errW_none, errW_some] <;> rfl) | (simp [*, errW_none, errW_some] <;> rfl), by (with_reducible repeat (first | apply Kd.R_alloc | apply Kd.R_drewN | apply Kd.R_drew)); exact HO_6.out, by repeat (first | (with_reducible first | exact HB.out | apply below_alloc | apply pw_below_drewN | apply below_drew1 | refine below_set ?_ GE103.out) | exact HB.out)⟩

/-! ### class_fits: function 99 -/
def class_fits.f (a0 : Int) (a1 : Int) : Option (Bool) := if a1 ≥ 8 then (some true) else (if 0 ≤ (wrap64 (8 * a1)) then (some ((shr .u64 a0 (wrap64 (8 * a1))) == 0)) else (none))
set_option maxHeartbeats 8000000 in
set_option maxRecDepth 100000 in
theorem class_fits.calls (a0 : Int) (a1 : Int) (r : Bool) (w : World) (h : class_fits.f a0 a1 = some r) :
    Calls Tryd.prog 99 #[.int .u64 a0, .int .i64 a1] w fun e w' => e = .returned (.bool r) ∧ Drawn0 w w' := by
  (have H : (if a1 ≥ 8 then (some true) else (if 0 ≤ (wrap64 (8 * a1)) then (some ((shr .u64 a0 (wrap64 (8 * a1))) == 0)) else (none))) = some r := h); clear h
  by_cases c3 : a1 ≥ 8
  · (rw [if_pos c3] at H); (have c3b0 : decide (8 ≤ a1) = true := decide_eq_true c3); clear c3; (obtain rfl := Option.some.inj H); (go_enter Tryd.func99, Tryd.ntmps99); (go_wp2); (go_ret); exact ⟨by first | rfl | (simp; done) | (simp [*]; done), by repeat (first | exact Drawn0.refl _ | apply Drawn0.step)⟩
  · rw [if_neg c3] at H
    (have c3b0 : decide (8 ≤ a1) = false := decide_eq_false c3); clear c3; (obtain ⟨ji4, hji4⟩ : ∃ j_ : Int, (wrap64 (8 * a1)) = j_ := ⟨_, rfl⟩); (replace H : (if 0 ≤ (ji4) then (some ((shr .u64 a0 (ji4)) == 0)) else (none)) = some r := by first | (rw [hji4] at H; exact H) | (simp only [hji4] at H ⊢; exact H)); have hji4w : (IntKind.i64.wrap (8 * a1)) = ji4 := (i64_w _).trans hji4
    by_cases c5 : 0 ≤ (ji4)
    · (rw [if_pos c5] at H); (have c5b0 := eq_true c5); (have c5b1 : decide (0 ≤ (ji4)) = true := decide_eq_true c5); clear c5; (obtain ⟨ji6, hji6⟩ : ∃ j_ : Int, (shr .u64 a0 (ji4)) = j_ := ⟨_, rfl⟩); (replace H : (some ((ji6) == 0)) = some r := by first | (rw [hji6] at H; exact H) | (simp only [hji6] at H ⊢; exact H)); (have hji6_ : (a0 / 2 ^ min (ji4).toNat 64) = ji6 := hji6); (have hji6z : (ji4) ≤ 64 → (a0 / 2 ^ (ji4).toNat) = ji6 := shr_small hji6); ((try have hji6y := hji6z (by first | omega | (simp only [decide_eq_true_eq] at *; omega)))); (obtain rfl := Option.some.inj H); (go_enter Tryd.func99, Tryd.ntmps99); (go_wp2); (go_ret); exact ⟨by first | rfl | (simp; done) | (simp only [← hji4, ← hji6] <;> (first | rfl | simp)) | (simp [*]; done), by repeat (first | exact Drawn0.refl _ | apply Drawn0.step)⟩
    · rw [if_neg c5] at H
      exact absurd H (by simp)

-- NOT PRINTED: function 154 (abi_NoEscape)

-- NOT PRINTED: function 134 (strings_Builder_copyCheck)

-- NOT PRINTED: function 94 (strings_Builder_WriteString)

-- NOT PRINTED: function 96 (strings_Builder_String)

/-! ### order_Order_place: function 137 -/
def order_Order_place.f (a0_0 : Bool) (a1 : Int) (a2 : Int) : Option (Int) := if a0_0 = true then (some (wrap64 ((wrap64 (a2 - 1)) - a1))) else (some a1)
set_option maxHeartbeats 8000000 in
set_option maxRecDepth 100000 in
theorem order_Order_place.calls (a0_0 : Bool) (a1 : Int) (a2 : Int) (r : Int) (w : World) (h : order_Order_place.f a0_0 a1 a2 = some r) :
    Calls Tryd.prog 137 #[.agg #[.bool a0_0], .int .i64 a1, .int .i64 a2] w fun e w' => e = .returned (.int .i64 r) ∧ Below w.heap.size w w' := by
  (have hu25 := Tryd.underlying25); (have HB := aS (Below.refl w.heap.size w)); (have H : (if a0_0 = true then (some (wrap64 ((wrap64 (a2 - 1)) - a1))) else (some a1)) = some r := h); clear h
  by_cases c4 : a0_0 = true
  · (subst c4); (have H1 : (some (wrap64 ((wrap64 (a2 - 1)) - a1))) = some r := by rw [if_pos rfl] at H; exact H); clear H; (have H := H1); clear H1; (obtain rfl := Option.some.inj H); (go_enter Tryd.func137, Tryd.ntmps137); (go_wp2_with (first | ((with_reducible refine gate_dst (N := 3) rfl ?_); refine bE 3 #[.bool true] 25 ?_; intro gb112 hg w5 hbox hb; have n0_ := aS (below_step hbN hb); have n1_ := aS (hbox); have n2_ := aS (bsz hg hbN : w.heap.size ≤ gb112); have n3_ := aS (bsz hg hbN : w.heap.size ≤ gb112); clear HB; have HB := n0_; have BK112 := n1_; have GW112 := n2_; have GE112 := n3_; clear n0_ n1_ n2_ n3_; clear hb hbox hg; have hcz6_0 : w5.cell? ⟨gb112, 0, none⟩ = some (.bool true) := (blk_cell BK112.out 0).trans rfl; have hfz6_0 := blk_frozen BK112.out 0))); (go_ret); exact ⟨by first | rfl | (simp [errW_none, errW_some] <;> rfl) | (simp [*, errW_none, errW_some] <;> rfl), by repeat (first | (with_reducible first | exact HB.out | apply below_alloc | apply pw_below_drewN | apply below_drew1 | refine below_set ?_ GE112.out) | exact HB.out)⟩
  · replace c4 := Bool.eq_false_iff.mpr c4
    (subst c4); (have H1 : (some a1) = some r := by rw [if_neg (show ¬ (false = true) by decide)] at H; exact H); clear H; (have H := H1); clear H1; (obtain rfl := Option.some.inj H); (go_enter Tryd.func137, Tryd.ntmps137); (go_wp2_with (first | ((with_reducible refine gate_dst (N := 3) rfl ?_); refine bE 3 #[.bool false] 25 ?_; intro gb112 hg w7 hbox hb; have n0_ := aS (below_step hbN hb); have n1_ := aS (hbox); have n2_ := aS (bsz hg hbN : w.heap.size ≤ gb112); have n3_ := aS (bsz hg hbN : w.heap.size ≤ gb112); clear HB; have HB := n0_; have BK112 := n1_; have GW112 := n2_; have GE112 := n3_; clear n0_ n1_ n2_ n3_; clear hb hbox hg; have hcz8_0 : w7.cell? ⟨gb112, 0, none⟩ = some (.bool false) := (blk_cell BK112.out 0).trans rfl; have hfz8_0 := blk_frozen BK112.out 0))); go_ret
    exact ⟨by first | rfl | (simp [errW_none, errW_some] <;> rfl) | (simp [*, errW_none, errW_some] <;> rfl), by repeat (first | (with_reducible first | exact HB.out | apply below_alloc | apply pw_below_drewN | apply below_drew1 | refine below_set ?_ GE112.out) | exact HB.out)⟩

end Go.Proofs.YteoeohkjomehoaaDoor.Q
