/- Walks. No condition but those in the statements. -/
import Derived.Test.YtceilmhinkkgfaaDoorQ3
set_option linter.unusedVariables false
set_option linter.unusedSimpArgs false
namespace Go.Proofs.YtceilmhinkkgfaaDoor.Q
open Go.RowKit Go.Proofs.YtceilmhinkkgfaaDoorW.PrintWords Go.Proofs.YtceilmhinkkgfaaDoorW.PrintLast Go.Proofs.YtceilmhinkkgfaaDoorW.PrintMore
attribute [local go_sem] max2_int min2_int max_two min_two max_three min_three max_four min_four

def cF_Sizes.l0 : Nat → List Int → Int → List Int → Int → Int → Bool → Bool → Option (List Int × Int)
 | 0, _, _, _, _, _, _, _ => none
 | k + 1, x6, x7, x10, x11, x12, x114000, x114001 => if x12 < x11 then (if 0 ≤ x12 then (if x12 < (x10.length : Int) then (if (rd x10 x12) = 0 then ((cF_Word.f x114000 x114001).bind fun t115 => (if x6.length < 17592186044416 then (cF_Sizes.l0 k (x6 ++ [t115]) (wrap64 (x7 + t115)) x10 x11 (wrap64 (x12 + 1)) x114000 x114001) else (none))) else (if x6.length < 17592186044416 then (cF_Sizes.l0 k (x6 ++ [rd x10 x12]) (wrap64 (x7 + (rd x10 x12))) x10 x11 (wrap64 (x12 + 1)) x114000 x114001) else (none))) else (none)) else (none)) else (some (x6, x7))
def cF_Sizes.f (k : Nat) (a0_0 : Bool) (a0_1 : Bool) (l1 : List Int) : Option (List Int × Int) := cF_Sizes.l0 k ([] : List Int) 0 l1 (l1.length : Int) 0 a0_0 a0_1
theorem cF_Sizes.mono_l : ∀ k, (∀ y0 y1 y2 y3 y4 y5 y6, LeO (cF_Sizes.l0 k y0 y1 y2 y3 y4 y5 y6) (cF_Sizes.l0 (k + 1) y0 y1 y2 y3 y4 y5 y6))
 | 0 => fun _ _ _ _ _ _ _ r h => by simp [cF_Sizes.l0] at h
 | k + 1 => by
  have ih0 := cF_Sizes.mono_l k
  ·intro y0 y1 y2 y3 y4 y5 y6
   unfold cF_Sizes.l0
   repeat' first
   | (with_reducible apply ih0)
   | (with_reducible exact LeO.refl _)
   | (with_reducible exact LeO.none _)
   | (with_reducible refine LeO.ite ?_ ?_)
   | (with_reducible refine LeO.bind ?_ (fun _ => ?_))
   | exact ih0 _ _ _ _ _ _ _
   | exact LeO.none _
   | refine LeO.ite ?_ ?_
   | refine LeO.bind ?_ (fun _ => ?_)
theorem cF_Sizes.mono : ∀ a0 a1 a2 k, LeO (cF_Sizes.f k a0 a1 a2) (cF_Sizes.f (k + 1) a0 a1 a2) := by
 intro a0 a1 a2 k; have ih0 := cF_Sizes.mono_l k; unfold cF_Sizes.f
 repeat' first
  | (with_reducible apply ih0)
  | (with_reducible exact LeO.refl _)
  | (with_reducible exact LeO.none _)
  | (with_reducible refine LeO.ite ?_ ?_)
  | (with_reducible refine LeO.bind ?_ (fun _ => ?_))
  | exact ih0 _ _ _ _ _ _ _
  | exact LeO.none _
  | refine LeO.ite ?_ ?_
  | refine LeO.bind ?_ (fun _ => ?_)
set_option maxHeartbeats 8000000 in
set_option maxRecDepth 100000 in
theorem cF_Sizes.calls (k : Nat) (a0_0 : Bool) (a0_1 : Bool) (A1 : Option Addr) (c1 : Nat) (l1 : List Int) (r1 : List Int) (r2 : Int) (w : World) (hr1 : Kd.C (Kd.int .i64) w A1 l1.length l1) (hc1 : l1.length ≤ c1) (h : cF_Sizes.f k a0_0 a0_1 l1 = some (r1, r2)) :
 Calls Tryd.prog 61 #[.agg #[.bool a0_0, .bool a0_1], .slice A1 l1.length c1] w fun e w' => ∃ v0_ : Value, e = .returned (.tuple #[v0_, .int .i64 r2]) ∧ Kd.R (Kd.int .i64) 3 w' w.heap.size (fun _ => True) v0_ r1 ∧ Below w.heap.size w w' := by
 have hu34 := Tryd.underlying34; have HR1 := aS hr1; have HC1 := aS hc1; clear hr1 hc1; have HB := aS (Below.refl w.heap.size w); have H : (cF_Sizes.l0 k ([] : List Int) 0 l1 (l1.length : Int) 0 a0_0 a0_1) = some (r1, r2) := h; clear h; have H' := aS H; clear H; go_enter Tryd.func61, Tryd.ntmps61; (go_wp2_with (first | ((with_reducible refine gate_dst (N := 2) rfl ?_); refine bE 2 #[.bool a0_0, .bool a0_1] 34 ?_; intro gb113 hg w3 hbox hb; have BK113 := aS (hbox); have GW113 := aS (bsz hg hbN : w.heap.size ≤ gb113); have GE113 := aS (bsz hg hbN : w.heap.size ≤ gb113); replace HB := aS (below_step hbN hb); clear hb hbox hg))); go_loopg [6, 7, 12] k (fun kq v6 v7 v12 w' => ∃ (x6_1 : List Int) (x7_1 : Int) (x12_1 : Int), v7 = .int .i64 x7_1 ∧ v12 = .int .i64 x12_1 ∧ Aside0 (cF_Sizes.l0 kq x6_1 x7_1 l1 (l1.length : Int) x12_1 a0_0 a0_1 = some (r1, r2)) ∧ Aside0 (kq ≤ k) ∧ Aside0 (Kd.R (Kd.int .i64) 3 w' w.heap.size (fun _ => True) v6 x6_1) ∧ Aside0 (w'.heap[gb113]? = some (.cells #[.bool a0_0, .bool a0_1] 34 (0, 0))) ∧ Aside0 (Below w.heap.size w w'))
 case atStart => exact ⟨(([] : List Int)), (0), (0), sr, sr, H', ⟨Nat.le_refl _⟩, ⟨by first | exact Kd.R_nil _ _ _ _ _ | exact Kd.N_nil _ _ _ _ _ | exact Kd.V_nil _ _ _ _ _ | exact Kd.Q_nil _ _ _ _ _ | exact Kd.S_nil _ _ _ _ _⟩, ⟨pb⟩, ⟨hbS⟩⟩
 case round =>
  clear H'; (try clear c1); (try clear p2); obtain ⟨x6_1, x7_1, x12_1, rfl, rfl, HA, HK1, HO_6, BK113, HB⟩ := hrel
  cases gk with
  | zero => exact absurd HA.out (by simp [cF_Sizes.l0])
  | succ k1 =>
   have H := HA.out; clear HA; simp only [cF_Sizes.l0] at H
   by_cases c4 : x12_1 < (l1.length : Int)
   ·rw [if_pos c4] at H
    have c4b0 : decide (x12_1 < (l1.length : Int)) = true := decide_eq_true c4; clear c4
    by_cases c5 : 0 ≤ x12_1
    ·rw [if_pos c5] at H
     have c5b0 : decide (0 ≤ x12_1) = true := decide_eq_true c5; clear c5
     by_cases c6 : x12_1 < (l1.length : Int)
     ·rw [if_pos c6] at H
      have c6b0 : decide (x12_1 < (l1.length : Int)) = true := decide_eq_true c6; clear c6
      by_cases c7 : (rd l1 x12_1) = 0
      ·rw [if_pos c7] at H
       have c7b0 : ((rd l1 x12_1) == 0) = true := beq_iff_eq.mpr c7; have c7b1 : ((rd l1 x12_1) != 0) = false := bne_eq_false_iff_eq.mpr c7; clear c7; replace H := Option.bind_eq_some_iff.mp H; obtain ⟨t115, A80, H⟩ := H; replace H : (if x6_1.length < 17592186044416 then (cF_Sizes.l0 k1 (x6_1 ++ [t115]) (wrap64 (x7_1 + t115)) l1 (l1.length : Int) (wrap64 (x12_1 + 1)) a0_0 a0_1) else (none)) = some (r1, r2) := H; have A8 := aS A80; clear A80
       by_cases c9 : x6_1.length < 17592186044416
       ·rw [if_pos c9] at H
        have LMc9 := aS c9; clear c9; obtain ⟨y116, hy116⟩ : ∃ y_ : List Int, y_ = (x6_1 ++ [t115]) := ⟨_, rfl⟩; (replace H : (cF_Sizes.l0 k1 y116 (wrap64 (x7_1 + t115)) l1 (l1.length : Int) (wrap64 (x12_1 + 1)) a0_0 a0_1) = some (r1, r2) := by first | (rw [hy116]; with_reducible exact H) | (have H2_ := (Option.bind_some _ _).symm.trans H; rw [hy116]; with_reducible exact H2_) | (have H2_ := (Option.bind_some _ _).symm.trans H; with_reducible exact H2_) | with_reducible exact H | (rw [hy116]; exact H) | exact H); have Ny116 := aS hy116; clear hy116; have H' := aS H; clear H; (have p114 : 0 ≤ (x12_1 : Int) := of_decide_eq_true (by first | (with_reducible assumption) | assumption)); (have q114 : x12_1 < (l1.length : Int) := of_decide_eq_true (by first | (with_reducible assumption) | assumption)); obtain ⟨ad114, e114, hx114_0⟩ := Kd.at_int HR1.out x12_1 p114 q114
        cases e114
        replace hx114_0 := mv HB.out hx114_0; replace p114 := eq_true p114; replace q114 := eq_true q114; obtain ⟨_, _, _, _⟩ := bc2 BK113.out; go_wp2_with (first | ((with_reducible refine gate_callee (f := 12) rfl ?_); refine gL (some 19) Tryd.func12 #[.agg #[.bool a0_0, .bool a0_1]] ?_; (with_reducible refine (cF_Word.calls a0_0 a0_1 t115 _ A8.out).mono ?_); rintro e w11 ⟨rfl, hb⟩; refine ⟨_, rfl, ?_⟩; replace HO_6 := aS (Kd.R_below (by (with_reducible repeat (first | apply Kd.R_alloc | apply Kd.R_drewN | apply Kd.R_drew)); exact HO_6.out) hb); replace BK113 := aS (blk_below (g := gb113) bkN hb); replace HB := aS (below_step hbS hb)) | ((with_reducible refine gate_builtin (b := .append) (xs := #[.tmp 20, .tmp 22]) rfl ?_); at_builtin; refine Kd.R_append (Kd.int .i64) (w0 := w) w.heap.size rfl (.tmp 20) (.tmp 22) 91 3 (.int .i64 0) 8 rfl Tryd.underlying91 info3 rfl (by decide) (by omega) u6 x6_1 t115 [.int .i64 t115] (fun _ => True) (fun _ => False) rfl rfl ?aP (fun _ hk => hk.elim) ?aF ?aO ?aB ?aS ?aL ?_; (case aP => exact rfl); (case aB => exact hbS); (case aF => exact (fun _ _ => trivial)); (case aO => exact (by (with_reducible repeat (first | apply Kd.R_alloc | apply Kd.R_drewN | apply Kd.R_drew)); exact HO_6.out)); (case aS => exact (below_size hbS)); (case aL => have := LMc9.out; omega); intro v117 w12 ho hb hg hat; rw [← Ny116.out] at ho; have n0_ := aS (blk_grown (g := gb113) pb hg (Kd.R_ne HO_6.out BK113.out (by decide))); have n1_ := aS (hb); have n2_ := aS (ho); clear BK113; clear HB; clear HO_6; have BK113 := n0_; have HB := n1_; have HO118 := n2_; clear n0_ n1_ n2_; clear ho hb hg hat))
        go_roundg k1
        case measure => have := HK1.out; omega
        case rel => exact ⟨(y116), (wrap64 (x7_1 + t115)), (wrap64 (x12_1 + 1)), sr, sr, H', ⟨by have := HK1.out; omega⟩, ⟨by (with_reducible repeat (first | apply Kd.R_alloc | apply Kd.R_drewN | apply Kd.R_drew)); exact HO118.out⟩, ⟨pb⟩, ⟨hbS⟩⟩
       ·(rw [if_neg c9] at H); exact absurd H (by simp)
      ·rw [if_neg c7] at H
       have c7b0 : ((rd l1 x12_1) == 0) = false := beq_eq_false_iff_ne.mpr c7; have c7b1 : ((rd l1 x12_1) != 0) = true := bne_iff_ne.mpr c7
       by_cases c13 : x6_1.length < 17592186044416
       ·rw [if_pos c13] at H
        have LMc13 := aS c13; clear c13; obtain ⟨y119, hy119⟩ : ∃ y_ : List Int, y_ = (x6_1 ++ [rd l1 x12_1]) := ⟨_, rfl⟩; (replace H : (cF_Sizes.l0 k1 y119 (wrap64 (x7_1 + (rd l1 x12_1))) l1 (l1.length : Int) (wrap64 (x12_1 + 1)) a0_0 a0_1) = some (r1, r2) := by first | (rw [hy119]; with_reducible exact H) | (have H2_ := (Option.bind_some _ _).symm.trans H; rw [hy119]; with_reducible exact H2_) | (have H2_ := (Option.bind_some _ _).symm.trans H; with_reducible exact H2_) | with_reducible exact H | (rw [hy119]; exact H) | exact H); have Ny119 := aS hy119; clear hy119; have H' := aS H; clear H; (have p114 : 0 ≤ (x12_1 : Int) := of_decide_eq_true (by first | (with_reducible assumption) | assumption)); (have q114 : x12_1 < (l1.length : Int) := of_decide_eq_true (by first | (with_reducible assumption) | assumption)); obtain ⟨ad114, e114, hx114_0⟩ := Kd.at_int HR1.out x12_1 p114 q114
        cases e114
        replace hx114_0 := mv HB.out hx114_0; replace p114 := eq_true p114; replace q114 := eq_true q114; (go_wp2_with (first | ((with_reducible refine gate_builtin (b := .append) (xs := #[.tmp 20, .tmp 22]) rfl ?_); at_builtin; refine Kd.R_append (Kd.int .i64) (w0 := w) w.heap.size rfl (.tmp 20) (.tmp 22) 91 3 (.int .i64 0) 8 rfl Tryd.underlying91 info3 rfl (by decide) (by omega) u6 x6_1 (rd l1 x12_1) [.int .i64 (rd l1 x12_1)] (fun _ => True) (fun _ => False) rfl rfl ?aP (fun _ hk => hk.elim) ?aF ?aO ?aB ?aS ?aL ?_; (case aP => exact rfl); (case aB => exact hbS); (case aF => exact (fun _ _ => trivial)); (case aO => exact (by (with_reducible repeat (first | apply Kd.R_alloc | apply Kd.R_drewN | apply Kd.R_drew)); exact HO_6.out)); (case aS => exact (below_size hbS)); (case aL => have := LMc13.out; omega); intro v120 w14 ho hb hg hat; rw [← Ny119.out] at ho; have n0_ := aS (blk_grown (g := gb113) pb hg (Kd.R_ne HO_6.out BK113.out (by decide))); have n1_ := aS (hb); have n2_ := aS (ho); clear BK113; clear HB; clear HO_6; have BK113 := n0_; have HB := n1_; have HO121 := n2_; clear n0_ n1_ n2_; clear ho hb hg hat))); go_roundg k1
        case measure => have := HK1.out; omega
        case rel => exact ⟨(y119), (wrap64 (x7_1 + (rd l1 x12_1))), (wrap64 (x12_1 + 1)), sr, sr, H', ⟨by have := HK1.out; omega⟩, ⟨by (with_reducible repeat (first | apply Kd.R_alloc | apply Kd.R_drewN | apply Kd.R_drew)); exact HO121.out⟩, ⟨pb⟩, ⟨hbS⟩⟩
       ·(rw [if_neg c13] at H); exact absurd H (by simp)
     ·(rw [if_neg c6] at H); exact absurd H (by simp)
    ·(rw [if_neg c5] at H); exact absurd H (by simp)
   ·rw [if_neg c4] at H
    have c4b0 : decide (x12_1 < (l1.length : Int)) = false := decide_eq_false c4; clear c4; simp only [Option.some.injEq, Prod.mk.injEq] at H; obtain ⟨rfl, rfl⟩ := H; (go_wp2); go_ret2
    exact ⟨_, er, by (with_reducible repeat (first | apply Kd.R_alloc | apply Kd.R_drewN | apply Kd.R_drew)); exact HO_6.out, hbS⟩

-- NOT PRINTED: function 62 (eH_numbers)

end Go.Proofs.YtceilmhinkkgfaaDoor.Q
