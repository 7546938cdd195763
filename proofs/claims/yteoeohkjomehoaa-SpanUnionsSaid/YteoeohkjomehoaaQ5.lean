/- What Go functions of the program compute, each as a Lean function with the proof that the call returns just that. No condition but those in the statements. -/
import Derived.Test.YteoeohkjomehoaaQ0
import Derived.Test.YteoeohkjomehoaaQ2
namespace Go.Proofs.Yteoeohkjomehoaa.Q
open Go.RowKit Go.Proofs.YteoeohkjomehoaaW.PrintWords Go.Proofs.YteoeohkjomehoaaW.PrintLast Go.Proofs.YteoeohkjomehoaaW.PrintMore
attribute [local go_sem] max2_int min2_int max_two min_two max_three min_three max_four min_four   -- for this text's walks alone
set_option linter.unusedVariables false
set_option linter.unusedSimpArgs false

/-! ### span_Union: function 19 -/
mutual
def span_Union.l0 : Nat → List (S29) → List (S29) → Int → Int → Option ((List (S29)))
 | 0, _, _, _, _ => none
 | k + 1, x3, x8, x9, x10 => if x10 < x9 then (if 0 ≤ x10 then (if x10 < (x8.length : Int) then ((span_Span_last.f ((rd_T29 x8 x10).f0) ((rd_T29 x8 x10).f1)).bind fun t151 => (if (wrap64 ((x3.length : Int) - 1)) < 0 then (span_Union.j1 k x3 (wrap64 ((x3.length : Int) - 1)) x8 x9 x10 true ((rd_T29 x8 x10).f0) (IntKind.u64.wrap ((IntKind.u64.wrap (t151 - ((rd_T29 x8 x10).f0))) + 1))) else (if ((rd_T29 x8 x10).f0) > 0 then (if 0 ≤ (wrap64 ((x3.length : Int) - 1)) then (if (wrap64 ((x3.length : Int) - 1)) < (x3.length : Int) then ((span_Span_last.f ((rd_T29 x3 (wrap64 ((x3.length : Int) - 1))).f0) ((rd_T29 x3 (wrap64 ((x3.length : Int) - 1))).f1)).bind fun t153 => (span_Union.j1 k x3 (wrap64 ((x3.length : Int) - 1)) x8 x9 x10 (decide (t153 < (IntKind.u64.wrap (((rd_T29 x8 x10).f0) - 1)))) ((rd_T29 x8 x10).f0) (IntKind.u64.wrap ((IntKind.u64.wrap (t151 - ((rd_T29 x8 x10).f0))) + 1)))) else (none)) else (none)) else (span_Union.j1 k x3 (wrap64 ((x3.length : Int) - 1)) x8 x9 x10 false ((rd_T29 x8 x10).f0) (IntKind.u64.wrap ((IntKind.u64.wrap (t151 - ((rd_T29 x8 x10).f0))) + 1)))))) else (none)) else (none)) else (some x3)
def span_Union.j1 : Nat → List (S29) → Int → List (S29) → Int → Int → Bool → Int → Int → Option ((List (S29)))
 | 0, _, _, _, _, _, _, _, _ => none
 | k + 1, x3, x6, x8, x9, x10, x41, x151000, x151001 => if x41 = true then (if x3.length < 8796093022208 then (span_Union.l0 k (x3 ++ [(⟨x151000, x151001⟩ : S29)]) x8 x9 (wrap64 (x10 + 1))) else (none)) else (if 0 ≤ x6 then (if x6 < (x3.length : Int) then ((span_Span_last.f ((rd_T29 x3 x6).f0) ((rd_T29 x3 x6).f1)).bind fun t158 => ((span_Span_last.f x151000 x151001).bind fun t159 => (span_Union.l0 k (x3.set (x6 : Int).toNat (⟨(rd_T29 x3 x6).f0, IntKind.u64.wrap ((IntKind.u64.wrap ((mx t158 t159) - ((rd_T29 x3 x6).f0))) + 1)⟩ : S29)) x8 x9 (wrap64 (x10 + 1))))) else (none)) else (none))
end
def span_Union.f (k : Nat) (l0 : List (S29)) : Option ((List (S29))) := (span_sorted.f l0).bind fun t146 => (span_Union.l0 k ([] : List (S29)) t146 (t146.length : Int) 0)
theorem span_Union.mono_l : ∀ k, (∀ y0 y1 y2 y3, LeO (span_Union.l0 k y0 y1 y2 y3) (span_Union.l0 (k + 1) y0 y1 y2 y3)) ∧ (∀ y0 y1 y2 y3 y4 y5 y6 y7, LeO (span_Union.j1 k y0 y1 y2 y3 y4 y5 y6 y7) (span_Union.j1 (k + 1) y0 y1 y2 y3 y4 y5 y6 y7))
 | 0 => ⟨fun _ _ _ _ r h => by simp [span_Union.l0] at h, fun _ _ _ _ _ _ _ _ r h => by simp [span_Union.j1] at h⟩
 | k + 1 => by
  obtain ⟨ih0, ih1⟩ := span_Union.mono_l k
  refine ⟨?_, ?_⟩
  ·
   intro y0 y1 y2 y3
   unfold span_Union.l0
   repeat' first
   | (with_reducible exact ih0 _ _ _ _)
   | (with_reducible exact ih1 _ _ _ _ _ _ _ _)
   | (with_reducible exact LeO.refl _)
   | (with_reducible exact LeO.none _)
   | (with_reducible refine LeO.ite ?_ ?_)
   | (with_reducible refine LeO.bind ?_ (fun _ => ?_))
   | exact ih0 _ _ _ _
   | exact ih1 _ _ _ _ _ _ _ _
   | exact LeO.none _
   | refine LeO.ite ?_ ?_
   | refine LeO.bind ?_ (fun _ => ?_)
  ·
   intro y0 y1 y2 y3 y4 y5 y6 y7
   unfold span_Union.j1
   repeat' first
   | (with_reducible exact ih0 _ _ _ _)
   | (with_reducible exact ih1 _ _ _ _ _ _ _ _)
   | (with_reducible exact LeO.refl _)
   | (with_reducible exact LeO.none _)
   | (with_reducible refine LeO.ite ?_ ?_)
   | (with_reducible refine LeO.bind ?_ (fun _ => ?_))
   | exact ih0 _ _ _ _
   | exact ih1 _ _ _ _ _ _ _ _
   | exact LeO.none _
   | refine LeO.ite ?_ ?_
   | refine LeO.bind ?_ (fun _ => ?_)
theorem span_Union.mono : ∀ a0 k, LeO (span_Union.f k a0) (span_Union.f (k + 1) a0) := by
 intro a0 k
 obtain ⟨ih0, ih1⟩ := span_Union.mono_l k
 unfold span_Union.f
 repeat' first
   | (with_reducible exact ih0 _ _ _ _)
   | (with_reducible exact ih1 _ _ _ _ _ _ _ _)
   | (with_reducible exact LeO.refl _)
   | (with_reducible exact LeO.none _)
   | (with_reducible refine LeO.ite ?_ ?_)
   | (with_reducible refine LeO.bind ?_ (fun _ => ?_))
   | exact ih0 _ _ _ _
   | exact ih1 _ _ _ _ _ _ _ _
   | exact LeO.none _
   | refine LeO.ite ?_ ?_
   | refine LeO.bind ?_ (fun _ => ?_)
def span_Union.T5 : Bool × List (List Nat × List Nat) := (true, [([], []), ([0], [0]), ([], []), ([2], [2]), ([1, 3], [1, 3]), ([4], [4]), ([0, 1, 2, 3, 4, 5], []), ([6, 5, 1, 0, 1, 2, 3, 4, 5], [5, 6])])
def span_Union.B5 : List Nat := [0, 1, 0, 4, 15, 31, 63, 127]
theorem span_Union.tab5 : rtab .any (opsOf Try.f19 5) = span_Union.T5 := by kernel_rfl
theorem span_Union.bits5 : waitsOk span_Union.T5.2 span_Union.B5 = true := by kernel_rfl
def span_Union.T7 : Bool × List (List Nat × List Nat) := (true, [([], []), ([0], [0]), ([1], [1]), ([2], [2]), ([3, 2], [2, 3]), ([4, 2], [2, 4]), ([5, 2, 2], [2, 5]), ([6], [6]), ([6], [6]), ([7, 8, 6], [6, 7, 8]), ([9, 6], [6, 9]), ([10, 6, 6], [6, 10]), ([6], [6]), ([12, 6], [6, 12]), ([13, 6], [6, 13]), ([11, 14, 6], [6, 11, 14]), ([6, 15, 2], [2, 6, 15]), ([2, 16], [2, 16])])
def span_Union.B7 : List Nat := [0, 1, 3, 7, 15, 31, 63, 127, 127, 511, 1023, 2047, 127, 4223, 12415, 32767, 65535, 131071]
theorem span_Union.tab7 : rtab .any (opsOf Try.f19 7) = span_Union.T7 := by kernel_rfl
theorem span_Union.bits7 : waitsOk span_Union.T7.2 span_Union.B7 = true := by kernel_rfl
def span_Union.T9 : Bool × List (List Nat × List Nat) := (true, [([], []), ([], []), ([], []), ([], []), ([2, 3], [2, 3]), ([4], [4]), ([5], [5]), ([], []), ([7, 6], [7]), ([6, 8], [6, 8]), ([], []), ([], []), ([10, 11], [10, 11]), ([12], [12]), ([13], [13]), ([9, 14], [9, 14]), ([15], [15]), ([0, 1, 0, 1, 2, 3, 4, 5, 6, 7, 8, 9, 10, 11, 12, 13, 14, 15, 16], [0, 1]), ([17, 0, 1, 2, 3, 4, 5, 6, 7, 8, 9, 10, 11, 12, 13, 14, 15, 16], [17]), ([18, 16, 8, 0, 1, 2, 3, 4, 5, 6, 7, 8, 9, 10, 11, 12, 13, 14, 15, 16], [16, 18])])
def span_Union.B9 : List Nat := [0, 0, 0, 0, 12, 28, 60, 0, 252, 508, 0, 0, 3072, 7168, 15360, 32764, 65532, 131071, 262143, 524287]
theorem span_Union.tab9 : rtab .any (opsOf Try.f19 9) = span_Union.T9 := by kernel_rfl
theorem span_Union.bits9 : waitsOk span_Union.T9.2 span_Union.B9 = true := by kernel_rfl
set_option maxHeartbeats 8000000 in
set_option maxRecDepth 100000 in
theorem span_Union.calls (k : Nat) (A0 : Option Addr) (c0 : Nat) (l0 : List (S29)) (r : List (S29)) (w : World) (hr0 : Kd.C k29 w A0 l0.length l0) (hc0 : l0.length ≤ c0) (h : span_Union.f k l0 = some r) :
  Calls Try.prog 19 #[.slice A0 l0.length c0] w fun e w' => ∃ v0_ : Value, e = .returned (v0_) ∧ Kd.R k29 29 w' w.heap.size (fun _ => True) v0_ r ∧ Below w.heap.size w w' := by
 have hu29 := Try.underlying29
 have HR0 := aS hr0
 have HC0 := aS hc0
 clear hr0 hc0
 have HB := aS (Below.refl w.heap.size w)
 have H : ((span_sorted.f l0).bind fun t146 => (span_Union.l0 k ([] : List (S29)) t146 (t146.length : Int) 0)) = some r := h
 clear h
 replace H := Option.bind_eq_some_iff.mp H
 obtain ⟨t146, A20, H⟩ := H
 replace H : (span_Union.l0 k ([] : List (S29)) t146 (t146.length : Int) 0) = some r := H
 have A2 := aS A20
 clear A20
 have H' := aS H
 clear H
 go_enter Try.func19, Try.ntmps19
 go_wp2_with (first | ((with_reducible refine gate_callee (f := 21) rfl ?_); refine goesL_ (some 8) rfl rfl Try.func21 (by kernel_rfl) rfl #[.slice A0 l0.length c0] rfl (by (try simp only [List.map_toArray, List.map_cons, List.map_nil]); first | done | rfl | (simp only [List.length_drop, List.length_take]; rfl)) ?_; (with_reducible refine (span_sorted.calls _ _ l0 t146 _ ?side1 ?side2 A2.out).mono ?_); (case side1 => repeat (first | exact HR0.out | (with_reducible refine Kd.C_alloc ?_ _) | (with_reducible refine Kd.C_drewN ?_ _) | (with_reducible refine Kd.C_drew ?_))); (case side2 => exact HC0.out); rintro e w3 ⟨v147, rfl, ho0, hb⟩; refine ⟨_, rfl, ?_⟩; have n0_ := aS (Kd.R_lower ho0 (below_size (by repeat (first | (with_reducible first | exact HB.out | apply below_alloc | apply pw_below_drewN | apply below_drew1) | exact HB.out)))); have n1_ := aS (below_step (by repeat (first | (with_reducible first | exact HB.out | apply below_alloc | apply pw_below_drewN | apply below_drew1) | exact HB.out)) hb); clear HB; have HO148 := n0_; have HB := n1_; clear n0_ n1_; (try clear hb); (try clear hb2); (try clear hk); (try clear hi); (try clear ho0); obtain ⟨Ao4, co4, eo4⟩ := Kd.R_slice HO148.out; subst eo4))
 go_loopg [3, 10] k (fun kq v3 v10 w' => ∃ (x3_1 : List (S29)) (x8_1 : List (S29)) (x10_1 : Int), v10 = .int .i64 x10_1 ∧ Aside0 (span_Union.l0 kq x3_1 x8_1 (t146.length : Int) x10_1 = some r) ∧ Aside0 (kq ≤ k) ∧ Aside0 (Kd.R k29 29 w' w.heap.size (fun k_ => some k_ ≠ ((.slice Ao4 t146.length co4) : Value).ownBlock) v3 x3_1) ∧ Aside0 (Kd.R k29 29 w' w.heap.size (fun k_ => some k_ ≠ (v3 : Value).ownBlock) (.slice Ao4 t146.length co4) x8_1) ∧ Aside0 (Below w.heap.size w w'))
 case atStart => exact ⟨(([] : List (S29))), (t146), (0), (by first | rfl | (simp; done) | (simp [*]; done)), H', ⟨Nat.le_refl _⟩, ⟨by first | exact Kd.R_nil _ _ _ _ _ | exact Kd.N_nil _ _ _ _ _ | exact Kd.V_nil _ _ _ _ _ | exact Kd.Q_nil _ _ _ _ _ | exact Kd.S_nil _ _ _ _ _⟩, ⟨by (with_reducible repeat (first | apply Kd.R_alloc | apply Kd.R_drewN | apply Kd.R_drew)); exact Kd.R_mono HO148.out (fun _ hk => (by simp [Value.ownBlock]))⟩, ⟨by repeat (first | (with_reducible first | exact HB.out | apply below_alloc | apply pw_below_drewN | apply below_drew1) | exact HB.out)⟩⟩
 case round =>
  clear H'
  try clear c1
  try clear c2
  try clear p2
  obtain ⟨x3_1, x8_1, x10_1, rfl, HA, HK1, HO_3, HO_8, HB⟩ := hrel
  have hl8_1 := (Kd.R_reads' HO_8.out).1
  rw [hl8_1] at HO_8
  (try simp only [hl8_1])
  (try simp only [hl8_1] at HO_3)
  cases gk with
  | zero => exact absurd HA.out (by simp [span_Union.l0])
  | succ k1 =>
   have H := HA.out
   clear HA
   simp only [span_Union.l0] at H
   by_cases c5 : x10_1 < (t146.length : Int)
   ·
    rw [if_pos c5] at H
    have c5b0 : decide (x10_1 < (t146.length : Int)) = true := decide_eq_true c5
    (try simp only [hl8_1] at c5b0)
    clear c5
    by_cases c6 : 0 ≤ x10_1
    ·
     rw [if_pos c6] at H
     have c6b0 : decide (0 ≤ x10_1) = true := decide_eq_true c6
     clear c6
     by_cases c7 : x10_1 < (x8_1.length : Int)
     ·
      rw [if_pos c7] at H
      have c7b0 : decide (x10_1 < (x8_1.length : Int)) = true := decide_eq_true c7
      (try simp only [hl8_1] at c7b0)
      clear c7
      replace H := Option.bind_eq_some_iff.mp H
      obtain ⟨t151, A80, H⟩ := H
      replace H : (if (wrap64 ((x3_1.length : Int) - 1)) < 0 then (span_Union.j1 k1 x3_1 (wrap64 ((x3_1.length : Int) - 1)) x8_1 (t146.length : Int) x10_1 true ((rd_T29 x8_1 x10_1).f0) (IntKind.u64.wrap ((IntKind.u64.wrap (t151 - ((rd_T29 x8_1 x10_1).f0))) + 1))) else (if ((rd_T29 x8_1 x10_1).f0) > 0 then (if 0 ≤ (wrap64 ((x3_1.length : Int) - 1)) then (if (wrap64 ((x3_1.length : Int) - 1)) < (x3_1.length : Int) then ((span_Span_last.f ((rd_T29 x3_1 (wrap64 ((x3_1.length : Int) - 1))).f0) ((rd_T29 x3_1 (wrap64 ((x3_1.length : Int) - 1))).f1)).bind fun t153 => (span_Union.j1 k1 x3_1 (wrap64 ((x3_1.length : Int) - 1)) x8_1 (t146.length : Int) x10_1 (decide (t153 < (IntKind.u64.wrap (((rd_T29 x8_1 x10_1).f0) - 1)))) ((rd_T29 x8_1 x10_1).f0) (IntKind.u64.wrap ((IntKind.u64.wrap (t151 - ((rd_T29 x8_1 x10_1).f0))) + 1)))) else (none)) else (none)) else (span_Union.j1 k1 x3_1 (wrap64 ((x3_1.length : Int) - 1)) x8_1 (t146.length : Int) x10_1 false ((rd_T29 x8_1 x10_1).f0) (IntKind.u64.wrap ((IntKind.u64.wrap (t151 - ((rd_T29 x8_1 x10_1).f0))) + 1))))) = some r := H
      have A8 := aS A80
      clear A80
      have HC9 := aS H
      clear H
      have p149 : 0 ≤ (x10_1 : Int) := of_decide_eq_true (by first | (with_reducible assumption) | assumption)
      have q149 : x10_1 < (x8_1.length : Int) := of_decide_eq_true (by first | (with_reducible assumption) | assumption)
      obtain ⟨ad149, e149, hx149_0, hx149_1⟩ := at_T29 (Kd.R_reads' HO_8.out).2.2 x10_1 p149 q149
      cases e149
      replace p149 := eq_true p149
      replace q149 := eq_true q149
      try go_wp2_with (first | ((with_reducible refine gate_dst (N := 5) rfl ?_); refine box_event ?hg (N := 5) ?hd (cs := #[.int .u64 0, .int .u64 0]) (t := 29) ?hr ?_; (case hd => rfl); (case hg => rfl); (case hr => (go_simp; try rfl)); intro gb150 hg w10 hbox hb; have n0_ := aS (Kd.R_below (Kd.R_elderB (by (with_reducible repeat (first | apply Kd.R_alloc | apply Kd.R_drewN | apply Kd.R_drew)); exact HO_3.out) gb150 (Nat.le_of_eq hg.symm)) hb); have n1_ := aS (Kd.R_below (Kd.R_elderB (by (with_reducible repeat (first | apply Kd.R_alloc | apply Kd.R_drewN | apply Kd.R_drew)); exact HO_8.out) gb150 (Nat.le_of_eq hg.symm)) hb); have n2_ := aS (below_step (by repeat (first | (with_reducible first | exact HB.out | apply below_alloc | apply pw_below_drewN | apply below_drew1) | exact HB.out)) hb); have n3_ := aS (hbox); have n4_ := aS ((by rw [hg]; exact (below_size (by repeat (first | (with_reducible first | exact HB.out | apply below_alloc | apply pw_below_drewN | apply below_drew1) | exact HB.out))) : w.heap.size ≤ gb150)); have n5_ := aS ((by rw [hg]; exact (below_size (by repeat (first | (with_reducible first | exact HB.out | apply below_alloc | apply pw_below_drewN | apply below_drew1) | exact HB.out))) : w.heap.size ≤ gb150)); clear HO_3; clear HO_8; clear HB; have HO_3 := n0_; have HO_8 := n1_; have HB := n2_; have BK150 := n3_; have GW150 := n4_; have GE150 := n5_; clear n0_ n1_ n2_ n3_ n4_ n5_; clear hb hbox hg; have hcz11_0 : w10.cell? ⟨gb150, 0, none⟩ = some (.int .u64 0) := (blk_cell BK150.out 0).trans rfl; have hcz11_1 : w10.cell? ⟨gb150, 1, none⟩ = some (.int .u64 0) := (blk_cell BK150.out 1).trans rfl; have hfz11_0 := blk_frozen BK150.out 0; have hfz11_1 := blk_frozen BK150.out 1))
      have n0_ : Aside0 (Kd.R k29 29 ((w10.setCell ⟨gb150, 0, none⟩ (.int .u64 ((rd_T29 x8_1 x10_1).f0))).setCell ⟨gb150, 1, none⟩ (.int .u64 ((rd_T29 x8_1 x10_1).f1))) w.heap.size (fun k_ => some k_ ≠ (.slice (some ad149) x8_1.length co4 : Value).ownBlock ∧ k_ ≠ gb150) u3 x3_1) := ⟨by (with_reducible repeat (first | apply Kd.R_alloc | apply Kd.R_drewN | apply Kd.R_drew)); exact Kd.R_mono (Kd.R_far (p := ⟨gb150, 1, none⟩) (Kd.R_far (p := ⟨gb150, 0, none⟩) (Kd.R_mono HO_3.out (fun k_ hk => (⟨hk, hk.2⟩ : _ ∧ k_ ≠ gb150))) (fun _ hk => hk.2) (.int .u64 ((rd_T29 x8_1 x10_1).f0))) (fun _ hk => hk.2) (.int .u64 ((rd_T29 x8_1 x10_1).f1))) (fun _ hk => ⟨hk.1.1, hk.1.2⟩)⟩
      have n1_ : Aside0 (Kd.R k29 29 ((w10.setCell ⟨gb150, 0, none⟩ (.int .u64 ((rd_T29 x8_1 x10_1).f0))).setCell ⟨gb150, 1, none⟩ (.int .u64 ((rd_T29 x8_1 x10_1).f1))) w.heap.size (fun k_ => some k_ ≠ (u3 : Value).ownBlock ∧ k_ ≠ gb150) (.slice (some ad149) x8_1.length co4) x8_1) := ⟨by (with_reducible repeat (first | apply Kd.R_alloc | apply Kd.R_drewN | apply Kd.R_drew)); exact Kd.R_mono (Kd.R_far (p := ⟨gb150, 1, none⟩) (Kd.R_far (p := ⟨gb150, 0, none⟩) (Kd.R_mono HO_8.out (fun k_ hk => (⟨hk, hk.2⟩ : _ ∧ k_ ≠ gb150))) (fun _ hk => hk.2) (.int .u64 ((rd_T29 x8_1 x10_1).f0))) (fun _ hk => hk.2) (.int .u64 ((rd_T29 x8_1 x10_1).f1))) (fun _ hk => ⟨hk.1.1, hk.1.2⟩)⟩
      have n2_ : Aside0 (((w10.setCell ⟨gb150, 0, none⟩ (.int .u64 ((rd_T29 x8_1 x10_1).f0))).setCell ⟨gb150, 1, none⟩ (.int .u64 ((rd_T29 x8_1 x10_1).f1))).heap[gb150]? = some (.cells #[.int .u64 ((rd_T29 x8_1 x10_1).f0), .int .u64 ((rd_T29 x8_1 x10_1).f1)] 29 (0, 0))) := ⟨by (with_reducible repeat (first | apply bN | apply bD | apply bA)); refine blk_put (cs := #[.int .u64 ((rd_T29 x8_1 x10_1).f0), .int .u64 0]) ?_ 1 _ rfl; (with_reducible repeat (first | apply bN | apply bD | apply bA)); refine blk_put (cs := #[.int .u64 0, .int .u64 0]) ?_ 0 _ rfl; (with_reducible repeat (first | apply bN | apply bD | apply bA)); exact BK150.out⟩
      have n3_ : Aside0 (Below w.heap.size w ((w10.setCell ⟨gb150, 0, none⟩ (.int .u64 ((rd_T29 x8_1 x10_1).f0))).setCell ⟨gb150, 1, none⟩ (.int .u64 ((rd_T29 x8_1 x10_1).f1)))) := ⟨by repeat (first | (with_reducible first | exact HB.out | apply eA | apply eN | apply eD | refine below_set ?_ GE150.out) | exact HB.out)⟩
      (try clear HO_3)
      (try clear HO_8)
      (try clear BK150)
      (try clear HB)
      generalize ((w10.setCell ⟨gb150, 0, none⟩ (.int .u64 ((rd_T29 x8_1 x10_1).f0))).setCell ⟨gb150, 1, none⟩ (.int .u64 ((rd_T29 x8_1 x10_1).f1))) = w12 at n0_ n1_ n2_ n3_ ⊢
      have HO_3 := n0_
      have HO_8 := n1_
      have BK150 := n2_
      have HB := n3_
      clear n0_ n1_ n2_ n3_
      have n0_ := aS (Kd.R_drew HO_3.out)
      have n1_ := aS (Kd.R_drew HO_8.out)
      have n2_ := aS (blk_drew BK150.out)
      have n3_ := aS (below_drew1 HB.out)
      clear HO_3
      clear HO_8
      clear BK150
      clear HB
      have HO_3 := n0_
      have HO_8 := n1_
      have BK150 := n2_
      have HB := n3_
      clear n0_ n1_ n2_ n3_
      refine start_ (n := 8) (S := fun w' => w'.cell? ⟨gb150, 0, none⟩ = some (.int .u64 ((rd_T29 x8_1 x10_1).f0)) ∧ w'.cell? ⟨gb150, 1, none⟩ = some (.int .u64 ((rd_T29 x8_1 x10_1).f1))) (ds := [7]) #[false, false, false, false, false, false, false, false] (by kernel_rfl) rfl rfl ⟨(blk_cell BK150.out 0).trans rfl, (blk_cell BK150.out 1).trans rfl⟩ (fun hHeld => ?_); refine with_tabW span_Union.tab5 span_Union.bits5 (fun HT_ HW_ => ?_)
      generalize w12.drew = w13 at HO_3 HO_8 BK150 HB hHeld ⊢
      refine pure_ (i := 2) (N := some 16) (v := ?_) (a' := ?_) #[false, false, true, false, false, false, false, false] rfl rfl (any_of HT_.out (by kernel_rfl)) (fun _ _ _ h => h) (Or.inl ⟨by rfl, ?_⟩) ?_ ?_
      rotate_left
      ·
       intro w'
       go_simp
       with_reducible rfl
      rotate_left
      ·
       simp only [Act.put, aput]
       rfl
      refine take_ (i := 0) (N := some 14) (v := ?_) (a' := ?_) #[true, false, true, false, false, false, false, false] rfl rfl (take_ofW HT_.out HW_.out (by kernel_rfl)) (fun _ _ _ h => h) (Or.inl ⟨by rfl, ?_⟩) hHeld ?_ ?_
      rotate_left
      ·
       intro w' s0
       go_simp
       with_reducible rfl
      rotate_left
      ·
       simp only [Act.put, aput]
       rfl
      refine take_ (i := 3) (N := some 17) (v := ?_) (a' := ?_) #[true, false, true, true, false, false, false, false] rfl rfl (take_ofW HT_.out HW_.out (by kernel_rfl)) (fun _ _ _ h => h) (Or.inl ⟨by rfl, ?_⟩) hHeld ?_ ?_
      rotate_left
      ·
       intro w' s0
       go_simp
       with_reducible rfl
      rotate_left
      ·
       simp only [Act.put, aput]
       rfl
      refine one_ (i := 1) (N := some 15) #[true, true, true, true, false, false, false, false] rfl rfl (one_of HT_.out (by kernel_rfl)) (by decide) (fun K hK => ?_)
      refine goes_ Try.func22 (by kernel_rfl) rfl #[.agg #[.int .u64 ((rd_T29 x8_1 x10_1).f0), .int .u64 ((rd_T29 x8_1 x10_1).f1)]] (by rfl) rfl rfl (by (try simp only [List.map_toArray, List.map_cons, List.map_nil]); first | done | rfl | (simp only [List.length_drop, List.length_take]; rfl)) ?_
      with_reducible refine (span_Span_last.calls ((rd_T29 x8_1 x10_1).f0) ((rd_T29 x8_1 x10_1).f1) t151 _ A8.out).mono ?_
      rintro e w14 ⟨rfl, hb⟩
      refine ⟨_, rfl, ?_⟩
      have n0_ := aS (Kd.R_below (by (with_reducible repeat (first | apply Kd.R_alloc | apply Kd.R_drewN | apply Kd.R_drew)); exact HO_3.out) hb)
      have n1_ := aS (Kd.R_below (by (with_reducible repeat (first | apply Kd.R_alloc | apply Kd.R_drewN | apply Kd.R_drew)); exact HO_8.out) hb)
      have n2_ := aS (blk_below (g := gb150) (o := .cells #[.int .u64 ((rd_T29 x8_1 x10_1).f0), .int .u64 ((rd_T29 x8_1 x10_1).f1)] 29 (0, 0)) (by (with_reducible repeat (first | apply bN | apply bD | apply bA)); exact BK150.out) hb)
      have n3_ := aS (below_step (by repeat (first | (with_reducible first | exact HB.out | apply eA | apply eN | apply eD | refine below_set ?_ GE150.out) | exact HB.out)) hb)
      clear HO_3
      clear HO_8
      clear BK150
      clear HB
      have HO_3 := n0_
      have HO_8 := n1_
      have BK150 := n2_
      have HB := n3_
      clear n0_ n1_ n2_ n3_
      (try clear hb)
      (try clear hb2)
      (try clear hk)
      (try clear hi)
      refine hK.out _ _ ⟨(blk_cell BK150.out 0).trans rfl, (blk_cell BK150.out 1).trans rfl⟩ (fun hHeld => ?_)
      clear hK K
      refine norm_ (a' := ?_) ?_ ?_
      rotate_left
      ·
       show Act.put _ (some 15) _ = _
       simp only [Act.put, aput]
       rfl
      refine pure_ (i := 4) (N := some 18) (v := ?_) (a' := ?_) #[true, true, true, true, true, false, false, false] rfl rfl (any_of HT_.out (by kernel_rfl)) (fun _ _ _ h => h) (Or.inl ⟨by rfl, ?_⟩) ?_ ?_
      rotate_left
      ·
       intro w'
       go_simp
       with_reducible rfl
      rotate_left
      ·
       simp only [Act.put, aput]
       rfl
      refine pure_ (i := 5) (N := some 19) (v := ?_) (a' := ?_) #[true, true, true, true, true, true, false, false] rfl rfl (any_of HT_.out (by kernel_rfl)) (fun _ _ _ h => h) (Or.inl ⟨by rfl, ?_⟩) ?_ ?_
      rotate_left
      ·
       intro w'
       go_simp
       with_reducible rfl
      rotate_left
      ·
       simp only [Act.put, aput]
       rfl
      refine pure_ (i := 6) (N := some 20) (v := ?_) (a' := ?_) #[true, true, true, true, true, true, true, false] rfl rfl (any_of HT_.out (by kernel_rfl)) (fun _ _ _ h => h) (Or.inl ⟨by rfl, ?_⟩) ?_ ?_
      rotate_left
      ·
       intro w'
       go_simp
       with_reducible rfl
      rotate_left
      ·
       simp only [Act.put, aput]
       rfl
      refine last_ (i := 7) (N := none) #[true, true, true, true, true, true, true, true] rfl rfl (one_of HT_.out (by kernel_rfl)) (by decide) (fun K hK => ?_)
      have hs15 : w14.cell? ⟨gb150, 1, none⟩ = some (.int .u64 ((rd_T29 x8_1 x10_1).f1)) := (blk_cell BK150.out 1).trans rfl
      have hfs15 := blk_frozen BK150.out 1
      refine skip_ (w1 := ?_) (by rfl) rfl ?_ ?_
      rotate_left
      ·
       go_simp
       rfl
      refine hK.out _ _ ?_
      clear hK K
      refine done_ (done_of HT_.out (by kernel_rfl)) ?_
      obtain ⟨Ao16, co16, eo16⟩ := Kd.R_slice HO_3.out
      subst eo16
      go_upto_region 7 with (fail)
      go_cut [41] (fun v41 wc => ∃ (kq : Nat) (x41_8 : Bool), v41 = .bool x41_8 ∧ Aside0 (span_Union.j1 kq x3_1 (wrap64 ((x3_1.length : Int) - 1)) x8_1 (t146.length : Int) x10_1 x41_8 ((rd_T29 x8_1 x10_1).f0) (IntKind.u64.wrap ((IntKind.u64.wrap (t151 - ((rd_T29 x8_1 x10_1).f0))) + 1)) = some r) ∧ Aside0 (kq ≤ k1) ∧ Aside0 (Kd.R k29 29 wc w.heap.size (fun k_ => some k_ ≠ ((.slice (some ad149) x8_1.length co4) : Value).ownBlock ∧ k_ ≠ gb150) (.slice Ao16 x3_1.length co16) x3_1) ∧ Aside0 (Kd.R k29 29 wc w.heap.size (fun k_ => some k_ ≠ ((.slice Ao16 x3_1.length co16) : Value).ownBlock ∧ k_ ≠ gb150) (.slice (some ad149) x8_1.length co4) x8_1) ∧ Aside0 (wc.heap[gb150]? = some (.cells #[.int .u64 ((rd_T29 x8_1 x10_1).f0), .int .u64 (IntKind.u64.wrap ((IntKind.u64.wrap (t151 - ((rd_T29 x8_1 x10_1).f0))) + 1))] 29 (0, 0))) ∧ Aside0 (Below w.heap.size w wc))
      case first =>
       have H := HC9.out
       clear HC9
       by_cases c17 : (wrap64 ((x3_1.length : Int) - 1)) < 0
       ·
        rw [if_pos c17] at H
        have c17b0 : decide ((wrap64 ((x3_1.length : Int) - 1)) < 0) = true := decide_eq_true c17
        (try simp only [hl8_1] at c17b0)
        clear c17
        (first | rw [c17b0] | (simp only [i64_w, i32_w]; rw [c17b0]) | skip)
        have H' := aS H
        clear H
        try go_wp2
        have n0_ : Aside0 (Kd.R k29 29 (w14.setCell ⟨gb150, 1, none⟩ (.int .u64 (IntKind.u64.wrap ((IntKind.u64.wrap (t151 - ((rd_T29 x8_1 x10_1).f0))) + 1)))) w.heap.size (fun k_ => some k_ ≠ (.slice (some ad149) x8_1.length co4 : Value).ownBlock ∧ k_ ≠ gb150) (.slice Ao16 x3_1.length co16) x3_1) := ⟨by (with_reducible repeat (first | apply Kd.R_alloc | apply Kd.R_drewN | apply Kd.R_drew)); exact Kd.R_mono (Kd.R_far (p := ⟨gb150, 1, none⟩) (Kd.R_mono HO_3.out (fun k_ hk => (⟨hk, hk.2⟩ : _ ∧ k_ ≠ gb150))) (fun _ hk => hk.2) (.int .u64 (IntKind.u64.wrap ((IntKind.u64.wrap (t151 - ((rd_T29 x8_1 x10_1).f0))) + 1)))) (fun _ hk => ⟨hk.1.1, hk.1.2⟩)⟩
        have n1_ : Aside0 (Kd.R k29 29 (w14.setCell ⟨gb150, 1, none⟩ (.int .u64 (IntKind.u64.wrap ((IntKind.u64.wrap (t151 - ((rd_T29 x8_1 x10_1).f0))) + 1)))) w.heap.size (fun k_ => some k_ ≠ (.slice Ao16 x3_1.length co16 : Value).ownBlock ∧ k_ ≠ gb150) (.slice (some ad149) x8_1.length co4) x8_1) := ⟨by (with_reducible repeat (first | apply Kd.R_alloc | apply Kd.R_drewN | apply Kd.R_drew)); exact Kd.R_mono (Kd.R_far (p := ⟨gb150, 1, none⟩) (Kd.R_mono HO_8.out (fun k_ hk => (⟨hk, hk.2⟩ : _ ∧ k_ ≠ gb150))) (fun _ hk => hk.2) (.int .u64 (IntKind.u64.wrap ((IntKind.u64.wrap (t151 - ((rd_T29 x8_1 x10_1).f0))) + 1)))) (fun _ hk => ⟨hk.1.1, hk.1.2⟩)⟩
        have n2_ : Aside0 ((w14.setCell ⟨gb150, 1, none⟩ (.int .u64 (IntKind.u64.wrap ((IntKind.u64.wrap (t151 - ((rd_T29 x8_1 x10_1).f0))) + 1)))).heap[gb150]? = some (.cells #[.int .u64 ((rd_T29 x8_1 x10_1).f0), .int .u64 (IntKind.u64.wrap ((IntKind.u64.wrap (t151 - ((rd_T29 x8_1 x10_1).f0))) + 1))] 29 (0, 0))) := ⟨by (with_reducible repeat (first | apply bN | apply bD | apply bA)); refine blk_put (cs := #[.int .u64 ((rd_T29 x8_1 x10_1).f0), .int .u64 ((rd_T29 x8_1 x10_1).f1)]) ?_ 1 _ rfl; (with_reducible repeat (first | apply bN | apply bD | apply bA)); exact BK150.out⟩
        have n3_ : Aside0 (Below w.heap.size w (w14.setCell ⟨gb150, 1, none⟩ (.int .u64 (IntKind.u64.wrap ((IntKind.u64.wrap (t151 - ((rd_T29 x8_1 x10_1).f0))) + 1))))) := ⟨by repeat (first | (with_reducible first | exact HB.out | apply eA | apply eN | apply eD | refine below_set ?_ GE150.out) | exact HB.out)⟩
        (try clear HO_3)
        (try clear HO_8)
        (try clear BK150)
        (try clear HB)
        generalize (w14.setCell ⟨gb150, 1, none⟩ (.int .u64 (IntKind.u64.wrap ((IntKind.u64.wrap (t151 - ((rd_T29 x8_1 x10_1).f0))) + 1)))) = w18 at n0_ n1_ n2_ n3_ ⊢
        have HO_3 := n0_
        have HO_8 := n1_
        have BK150 := n2_
        have HB := n3_
        clear n0_ n1_ n2_ n3_
        have n0_ := aS (Kd.R_drew HO_3.out)
        have n1_ := aS (Kd.R_drew HO_8.out)
        have n2_ := aS (blk_drew BK150.out)
        have n3_ := aS (below_drew1 HB.out)
        clear HO_3
        clear HO_8
        clear BK150
        clear HB
        have HO_3 := n0_
        have HO_8 := n1_
        have BK150 := n2_
        have HB := n3_
        clear n0_ n1_ n2_ n3_
        refine start_ (n := 18) (S := fun w' => True) (ds := []) #[false, false, false, false, false, false, false, false, false, false, false, false, false, false, false, false, false, false] (by kernel_rfl) rfl rfl trivial (fun hHeld => ?_); refine with_tabW span_Union.tab7 span_Union.bits7 (fun HT_ HW_ => ?_)
        generalize w18.drew = w19 at HO_3 HO_8 BK150 HB hHeld ⊢
        refine pure_ (i := 0) (N := some 24) (v := ?_) (a' := ?_) (bm 18 1) rfl rfl (any_of HT_.out (by kernel_rfl)) (fun _ _ _ h => h) (Or.inl ⟨by rfl, ?_⟩) ?_ ?_
        rotate_left
        ·
         intro w'
         go_simp
         with_reducible rfl
        rotate_left
        ·
         simp only [Act.put, aput]
         rfl
        refine pure_ (i := 1) (N := some 25) (v := ?_) (a' := ?_) (bm 18 3) rfl rfl (any_of HT_.out (by kernel_rfl)) (fun _ _ _ h => h) (Or.inl ⟨by rfl, ?_⟩) ?_ ?_
        rotate_left
        ·
         intro w'
         go_simp
         with_reducible rfl
        rotate_left
        ·
         simp only [Act.put, aput]
         rfl
        refine pure_ (i := 2) (N := some 26) (v := ?_) (a' := ?_) (bm 18 7) rfl rfl (any_of HT_.out (by kernel_rfl)) (fun _ _ _ h => h) (Or.inl ⟨by rfl, ?_⟩) ?_ ?_
        rotate_left
        ·
         intro w'
         go_simp
         with_reducible rfl
        rotate_left
        ·
         simp only [Act.put, aput]
         rfl
        refine pure_ (i := 3) (N := some 27) (v := undef) (a' := ?_) (bm 18 15) rfl rfl (any_of HT_.out (by kernel_rfl)) (fun _ _ _ h => h) (Or.inr ⟨by rfl, rfl⟩) ?_ ?_
        rotate_left
        ·
         simp only [Act.put, aput]
         rfl
        refine pure_ (i := 4) (N := some 28) (v := undef) (a' := ?_) (bm 18 31) rfl rfl (any_of HT_.out (by kernel_rfl)) (fun _ _ _ h => h) (Or.inr ⟨by rfl, rfl⟩) ?_ ?_
        rotate_left
        ·
         simp only [Act.put, aput]
         rfl
        refine pure_ (i := 5) (N := some 29) (v := undef) (a' := ?_) (bm 18 63) rfl rfl (any_of HT_.out (by kernel_rfl)) (fun _ _ _ h => h) (Or.inr ⟨by rfl, rfl⟩) ?_ ?_
        rotate_left
        ·
         simp only [Act.put, aput]
         rfl
        refine pure_ (i := 6) (N := some 30) (v := undef) (a' := ?_) (bm 18 127) rfl rfl (any_of HT_.out (by kernel_rfl)) (fun _ _ _ h => h) (Or.inr ⟨by rfl, rfl⟩) ?_ ?_
        rotate_left
        ·
         simp only [Act.put, aput]
         rfl
        refine pure_ (i := 7) (N := some 31) (v := undef) (a' := ?_) (bm 18 255) rfl rfl (any_of HT_.out (by kernel_rfl)) (fun _ _ _ h => h) (Or.inr ⟨by rfl, rfl⟩) ?_ ?_
        rotate_left
        ·
         simp only [Act.put, aput]
         rfl
        refine pure_ (i := 8) (N := some 32) (v := undef) (a' := ?_) (bm 18 511) rfl rfl (any_of HT_.out (by kernel_rfl)) (fun _ _ _ h => h) (Or.inr ⟨by rfl, rfl⟩) ?_ ?_
        rotate_left
        ·
         simp only [Act.put, aput]
         rfl
        refine pure_ (i := 9) (N := some 33) (v := undef) (a' := ?_) (bm 18 1023) rfl rfl (any_of HT_.out (by kernel_rfl)) (fun _ _ _ h => h) (Or.inr ⟨by rfl, rfl⟩) ?_ ?_
        rotate_left
        ·
         simp only [Act.put, aput]
         rfl
        refine pure_ (i := 10) (N := some 34) (v := undef) (a' := ?_) (bm 18 2047) rfl rfl (any_of HT_.out (by kernel_rfl)) (fun _ _ _ h => h) (Or.inr ⟨by rfl, rfl⟩) ?_ ?_
        rotate_left
        ·
         simp only [Act.put, aput]
         rfl
        refine pure_ (i := 11) (N := some 35) (v := undef) (a' := ?_) (bm 18 4095) rfl rfl (any_of HT_.out (by kernel_rfl)) (fun _ _ _ h => h) (Or.inr ⟨by rfl, rfl⟩) ?_ ?_
        rotate_left
        ·
         simp only [Act.put, aput]
         rfl
        refine pure_ (i := 12) (N := some 36) (v := undef) (a' := ?_) (bm 18 8191) rfl rfl (any_of HT_.out (by kernel_rfl)) (fun _ _ _ h => h) (Or.inr ⟨by rfl, rfl⟩) ?_ ?_
        rotate_left
        ·
         simp only [Act.put, aput]
         rfl
        refine pure_ (i := 13) (N := some 37) (v := undef) (a' := ?_) (bm 18 16383) rfl rfl (any_of HT_.out (by kernel_rfl)) (fun _ _ _ h => h) (Or.inr ⟨by rfl, rfl⟩) ?_ ?_
        rotate_left
        ·
         simp only [Act.put, aput]
         rfl
        refine pure_ (i := 14) (N := some 38) (v := undef) (a' := ?_) (bm 18 32767) rfl rfl (any_of HT_.out (by kernel_rfl)) (fun _ _ _ h => h) (Or.inr ⟨by rfl, rfl⟩) ?_ ?_
        rotate_left
        ·
         simp only [Act.put, aput]
         rfl
        refine pure_ (i := 15) (N := some 39) (v := undef) (a' := ?_) (bm 18 65535) rfl rfl (any_of HT_.out (by kernel_rfl)) (fun _ _ _ h => h) (Or.inr ⟨by rfl, rfl⟩) ?_ ?_
        rotate_left
        ·
         simp only [Act.put, aput]
         rfl
        refine pure_ (i := 16) (N := some 40) (v := undef) (a' := ?_) (bm 18 131071) rfl rfl (any_of HT_.out (by kernel_rfl)) (fun _ _ _ h => h) (Or.inr ⟨by rfl, rfl⟩) ?_ ?_
        rotate_left
        ·
         simp only [Act.put, aput]
         rfl
        refine pure_ (i := 17) (N := some 41) (v := ?_) (a' := ?_) (bm 18 262143) rfl rfl (any_of HT_.out (by kernel_rfl)) (fun _ _ _ h => h) (Or.inl ⟨by rfl, ?_⟩) ?_ ?_
        rotate_left
        ·
         intro w'
         go_simp
         with_reducible rfl
        rotate_left
        ·
         simp only [Act.put, aput]
         rfl
        refine done_ (done_of HT_.out (by kernel_rfl)) ?_
        try go_wp2
        go_meet
        case rel => exact ⟨_, (true), (by first | rfl | (simp; done) | (simp [*]; done)), H', ⟨by have := HK1.out; first | omega | exact Nat.le_refl _⟩, ⟨by (try simp only [hl8_1]); (with_reducible repeat (first | apply Kd.R_alloc | apply Kd.R_drewN | apply Kd.R_drew)); exact HO_3.out⟩, ⟨by (try simp only [hl8_1]); (with_reducible repeat (first | apply Kd.R_alloc | apply Kd.R_drewN | apply Kd.R_drew)); exact HO_8.out⟩, ⟨by (try simp only [hl8_1]); (with_reducible repeat (first | apply bN | apply bD | apply bA)); exact BK150.out⟩, ⟨by repeat (first | (with_reducible first | exact HB.out | apply eA | apply eN | apply eD | refine below_set ?_ GE150.out) | exact HB.out)⟩⟩
       ·
        rw [if_neg c17] at H
        have c17b0 : decide ((wrap64 ((x3_1.length : Int) - 1)) < 0) = false := decide_eq_false c17
        (try simp only [hl8_1] at c17b0)
        clear c17
        (first | rw [c17b0] | (simp only [i64_w, i32_w]; rw [c17b0]) | skip)
        by_cases c20 : ((rd_T29 x8_1 x10_1).f0) > 0
        ·
         rw [if_pos c20] at H
         have c20b0 : decide (0 < ((rd_T29 x8_1 x10_1).f0)) = true := decide_eq_true c20
         clear c20
         obtain ⟨ji21, hji21⟩ : ∃ j_ : Int, (wrap64 ((x3_1.length : Int) - 1)) = j_ := ⟨_, rfl⟩
         replace H : (if 0 ≤ (ji21) then (if (ji21) < (x3_1.length : Int) then ((span_Span_last.f ((rd_T29 x3_1 (ji21)).f0) ((rd_T29 x3_1 (ji21)).f1)).bind fun t153 => (span_Union.j1 k1 x3_1 ji21 x8_1 (t146.length : Int) x10_1 (decide (t153 < (IntKind.u64.wrap (((rd_T29 x8_1 x10_1).f0) - 1)))) ((rd_T29 x8_1 x10_1).f0) (IntKind.u64.wrap ((IntKind.u64.wrap (t151 - ((rd_T29 x8_1 x10_1).f0))) + 1)))) else (none)) else (none)) = some r := by first | (rw [hji21] at H; exact H) | (simp only [hji21] at H ⊢; exact H)
         (try rw [hji21] at c17b0)
         have hji21w : (IntKind.i64.wrap ((x3_1.length : Int) - 1)) = ji21 := (i64_w _).trans hji21
         by_cases c22 : 0 ≤ (ji21)
         ·
          rw [if_pos c22] at H
          have c22b0 : decide (0 ≤ (ji21)) = true := decide_eq_true c22
          clear c22
          by_cases c23 : (ji21) < (x3_1.length : Int)
          ·
           rw [if_pos c23] at H
           have c23b0 : decide ((ji21) < (x3_1.length : Int)) = true := decide_eq_true c23
           (try simp only [hl8_1] at c23b0)
           clear c23
           replace H := Option.bind_eq_some_iff.mp H
           obtain ⟨t153, A240, H⟩ := H
           replace H : (span_Union.j1 k1 x3_1 ji21 x8_1 (t146.length : Int) x10_1 (decide (t153 < (IntKind.u64.wrap (((rd_T29 x8_1 x10_1).f0) - 1)))) ((rd_T29 x8_1 x10_1).f0) (IntKind.u64.wrap ((IntKind.u64.wrap (t151 - ((rd_T29 x8_1 x10_1).f0))) + 1))) = some r := H
           have A24 := aS A240
           clear A240
           have H' := aS H
           clear H
           try go_wp2
           have n0_ : Aside0 (Kd.R k29 29 (w14.setCell ⟨gb150, 1, none⟩ (.int .u64 (IntKind.u64.wrap ((IntKind.u64.wrap (t151 - ((rd_T29 x8_1 x10_1).f0))) + 1)))) w.heap.size (fun k_ => some k_ ≠ (.slice (some ad149) x8_1.length co4 : Value).ownBlock ∧ k_ ≠ gb150) (.slice Ao16 x3_1.length co16) x3_1) := ⟨by (with_reducible repeat (first | apply Kd.R_alloc | apply Kd.R_drewN | apply Kd.R_drew)); exact Kd.R_mono (Kd.R_far (p := ⟨gb150, 1, none⟩) (Kd.R_mono HO_3.out (fun k_ hk => (⟨hk, hk.2⟩ : _ ∧ k_ ≠ gb150))) (fun _ hk => hk.2) (.int .u64 (IntKind.u64.wrap ((IntKind.u64.wrap (t151 - ((rd_T29 x8_1 x10_1).f0))) + 1)))) (fun _ hk => ⟨hk.1.1, hk.1.2⟩)⟩
           have n1_ : Aside0 (Kd.R k29 29 (w14.setCell ⟨gb150, 1, none⟩ (.int .u64 (IntKind.u64.wrap ((IntKind.u64.wrap (t151 - ((rd_T29 x8_1 x10_1).f0))) + 1)))) w.heap.size (fun k_ => some k_ ≠ (.slice Ao16 x3_1.length co16 : Value).ownBlock ∧ k_ ≠ gb150) (.slice (some ad149) x8_1.length co4) x8_1) := ⟨by (with_reducible repeat (first | apply Kd.R_alloc | apply Kd.R_drewN | apply Kd.R_drew)); exact Kd.R_mono (Kd.R_far (p := ⟨gb150, 1, none⟩) (Kd.R_mono HO_8.out (fun k_ hk => (⟨hk, hk.2⟩ : _ ∧ k_ ≠ gb150))) (fun _ hk => hk.2) (.int .u64 (IntKind.u64.wrap ((IntKind.u64.wrap (t151 - ((rd_T29 x8_1 x10_1).f0))) + 1)))) (fun _ hk => ⟨hk.1.1, hk.1.2⟩)⟩
           have n2_ : Aside0 ((w14.setCell ⟨gb150, 1, none⟩ (.int .u64 (IntKind.u64.wrap ((IntKind.u64.wrap (t151 - ((rd_T29 x8_1 x10_1).f0))) + 1)))).heap[gb150]? = some (.cells #[.int .u64 ((rd_T29 x8_1 x10_1).f0), .int .u64 (IntKind.u64.wrap ((IntKind.u64.wrap (t151 - ((rd_T29 x8_1 x10_1).f0))) + 1))] 29 (0, 0))) := ⟨by (with_reducible repeat (first | apply bN | apply bD | apply bA)); refine blk_put (cs := #[.int .u64 ((rd_T29 x8_1 x10_1).f0), .int .u64 ((rd_T29 x8_1 x10_1).f1)]) ?_ 1 _ rfl; (with_reducible repeat (first | apply bN | apply bD | apply bA)); exact BK150.out⟩
           have n3_ : Aside0 (Below w.heap.size w (w14.setCell ⟨gb150, 1, none⟩ (.int .u64 (IntKind.u64.wrap ((IntKind.u64.wrap (t151 - ((rd_T29 x8_1 x10_1).f0))) + 1))))) := ⟨by repeat (first | (with_reducible first | exact HB.out | apply eA | apply eN | apply eD | refine below_set ?_ GE150.out) | exact HB.out)⟩
           (try clear HO_3)
           (try clear HO_8)
           (try clear BK150)
           (try clear HB)
           generalize (w14.setCell ⟨gb150, 1, none⟩ (.int .u64 (IntKind.u64.wrap ((IntKind.u64.wrap (t151 - ((rd_T29 x8_1 x10_1).f0))) + 1)))) = w25 at n0_ n1_ n2_ n3_ ⊢
           have HO_3 := n0_
           have HO_8 := n1_
           have BK150 := n2_
           have HB := n3_
           clear n0_ n1_ n2_ n3_
           have n0_ := aS (Kd.R_drew HO_3.out)
           have n1_ := aS (Kd.R_drew HO_8.out)
           have n2_ := aS (blk_drew BK150.out)
           have n3_ := aS (below_drew1 HB.out)
           clear HO_3
           clear HO_8
           clear BK150
           clear HB
           have HO_3 := n0_
           have HO_8 := n1_
           have BK150 := n2_
           have HB := n3_
           clear n0_ n1_ n2_ n3_
           have p152 : 0 ≤ ((ji21) : Int) := of_decide_eq_true (by first | (with_reducible assumption) | assumption)
           have q152 : (ji21) < (x3_1.length : Int) := of_decide_eq_true (by first | (with_reducible assumption) | assumption)
           obtain ⟨ad152, e152, hx152_0, hx152_1⟩ := at_T29 (Kd.R_reads' HO_3.out).2.2 (ji21) p152 q152
           cases e152
           replace p152 := eq_true p152
           replace q152 := eq_true q152
           refine start_ (n := 18) (S := fun w' => w'.cell? ⟨gb150, 0, none⟩ = some (.int .u64 ((rd_T29 x8_1 x10_1).f0)) ∧ w'.cell? ⟨gb150, 1, none⟩ = some (.int .u64 (IntKind.u64.wrap ((IntKind.u64.wrap (t151 - ((rd_T29 x8_1 x10_1).f0))) + 1))) ∧ w'.cell? (ad152.add (((ji21)).toNat * 2)) = some (.int .u64 ((rd_T29 x3_1 (ji21)).f0)) ∧ w'.cell? ⟨(ad152.add (((ji21)).toNat * 2)).block, (ad152.add (((ji21)).toNat * 2)).off + 1, none⟩ = some (.int .u64 ((rd_T29 x3_1 (ji21)).f1))) (ds := []) #[false, false, false, false, false, false, false, false, false, false, false, false, false, false, false, false, false, false] (by kernel_rfl) rfl rfl ⟨(blk_cell BK150.out 0).trans rfl, (blk_cell BK150.out 1).trans rfl, hx152_0, hx152_1⟩ (fun hHeld => ?_); refine with_tabW span_Union.tab7 span_Union.bits7 (fun HT_ HW_ => ?_)
           generalize w25.drew = w26 at HO_3 HO_8 BK150 HB hx152_0 hx152_1 hHeld ⊢
           refine pure_ (i := 0) (N := some 24) (v := ?_) (a' := ?_) (bm 18 1) rfl rfl (any_of HT_.out (by kernel_rfl)) (fun _ _ _ h => h) (Or.inl ⟨by rfl, ?_⟩) ?_ ?_
           rotate_left
           ·
            intro w'
            go_simp
            with_reducible rfl
           rotate_left
           ·
            simp only [Act.put, aput]
            rfl
           refine pure_ (i := 1) (N := some 25) (v := ?_) (a' := ?_) (bm 18 3) rfl rfl (any_of HT_.out (by kernel_rfl)) (fun _ _ _ h => h) (Or.inl ⟨by rfl, ?_⟩) ?_ ?_
           rotate_left
           ·
            intro w'
            go_simp
            with_reducible rfl
           rotate_left
           ·
            simp only [Act.put, aput]
            rfl
           refine pure_ (i := 2) (N := some 26) (v := ?_) (a' := ?_) (bm 18 7) rfl rfl (any_of HT_.out (by kernel_rfl)) (fun _ _ _ h => h) (Or.inl ⟨by rfl, ?_⟩) ?_ ?_
           rotate_left
           ·
            intro w'
            go_simp
            with_reducible rfl
           rotate_left
           ·
            simp only [Act.put, aput]
            rfl
           refine pure_ (i := 3) (N := some 27) (v := ?_) (a' := ?_) (bm 18 15) rfl rfl (any_of HT_.out (by kernel_rfl)) (fun _ _ _ h => h) (Or.inl ⟨by rfl, ?_⟩) ?_ ?_
           rotate_left
           ·
            intro w'
            go_simp
            with_reducible rfl
           rotate_left
           ·
            simp only [Act.put, aput]
            rfl
           refine take_ (i := 4) (N := some 28) (v := ?_) (a' := ?_) (bm 18 31) rfl rfl (take_ofW HT_.out HW_.out (by kernel_rfl)) (fun _ _ _ h => h) (Or.inl ⟨by rfl, ?_⟩) hHeld ?_ ?_
           rotate_left
           ·
            intro w' s0
            go_simp
            with_reducible rfl
           rotate_left
           ·
            simp only [Act.put, aput]
            rfl
           refine pure_ (i := 5) (N := some 29) (v := ?_) (a' := ?_) (bm 18 63) rfl rfl (any_of HT_.out (by kernel_rfl)) (fun _ _ _ h => h) (Or.inl ⟨by rfl, ?_⟩) ?_ ?_
           rotate_left
           ·
            intro w'
            go_simp
            with_reducible rfl
           rotate_left
           ·
            simp only [Act.put, aput]
            rfl
           refine pure_ (i := 6) (N := some 30) (v := ?_) (a' := ?_) (bm 18 127) rfl rfl (any_of HT_.out (by kernel_rfl)) (fun _ _ _ h => h) (Or.inl ⟨by rfl, ?_⟩) ?_ ?_
           rotate_left
           ·
            intro w'
            go_simp
            with_reducible rfl
           rotate_left
           ·
            simp only [Act.put, aput]
            rfl
           refine pure_ (i := 7) (N := some 31) (v := ?_) (a' := ?_) (bm 18 255) rfl rfl (any_of HT_.out (by kernel_rfl)) (fun _ _ _ h => h) (Or.inl ⟨by rfl, ?_⟩) ?_ ?_
           rotate_left
           ·
            intro w'
            go_simp
            with_reducible rfl
           rotate_left
           ·
            simp only [Act.put, aput]
            rfl
           refine pure_ (i := 8) (N := some 32) (v := ?_) (a' := ?_) (bm 18 511) rfl rfl (any_of HT_.out (by kernel_rfl)) (fun _ _ _ h => h) (Or.inl ⟨by rfl, ?_⟩) ?_ ?_
           rotate_left
           ·
            intro w'
            go_simp
            with_reducible rfl
           rotate_left
           ·
            simp only [Act.put, aput]
            rfl
           refine pure_ (i := 9) (N := some 33) (v := ?_) (a' := ?_) (bm 18 1023) rfl rfl (any_of HT_.out (by kernel_rfl)) (fun _ _ _ h => h) (Or.inl ⟨by rfl, ?_⟩) ?_ ?_
           rotate_left
           ·
            intro w'
            go_simp
            with_reducible rfl
           rotate_left
           ·
            simp only [Act.put, aput]
            rfl
           refine pure_ (i := 12) (N := some 36) (v := ?_) (a' := ?_) (bm 18 5119) rfl rfl (any_of HT_.out (by kernel_rfl)) (fun _ _ _ h => h) (Or.inl ⟨by rfl, ?_⟩) ?_ ?_
           rotate_left
           ·
            intro w'
            go_simp
            with_reducible rfl
           rotate_left
           ·
            simp only [Act.put, aput]
            rfl
           refine take_ (i := 10) (N := some 34) (v := ?_) (a' := ?_) (bm 18 6143) rfl rfl (take_ofW HT_.out HW_.out (by kernel_rfl)) (fun _ _ _ h => h) (Or.inl ⟨by rfl, ?_⟩) hHeld ?_ ?_
           rotate_left
           ·
            intro w' s0
            go_simp
            with_reducible rfl
           rotate_left
           ·
            simp only [Act.put, aput]
            rfl
           refine take_ (i := 13) (N := some 37) (v := ?_) (a' := ?_) (bm 18 14335) rfl rfl (take_ofW HT_.out HW_.out (by kernel_rfl)) (fun _ _ _ h => h) (Or.inl ⟨by rfl, ?_⟩) hHeld ?_ ?_
           rotate_left
           ·
            intro w' s0
            go_simp
            with_reducible rfl
           rotate_left
           ·
            simp only [Act.put, aput]
            rfl
           refine pure_ (i := 14) (N := some 38) (v := ?_) (a' := ?_) (bm 18 30719) rfl rfl (any_of HT_.out (by kernel_rfl)) (fun _ _ _ h => h) (Or.inl ⟨by rfl, ?_⟩) ?_ ?_
           rotate_left
           ·
            intro w'
            go_simp
            with_reducible rfl
           rotate_left
           ·
            simp only [Act.put, aput]
            rfl
           refine one_ (i := 11) (N := some 35) (bm 18 32767) rfl rfl (one_of HT_.out (by kernel_rfl)) (by decide) (fun K hK => ?_)
           refine goes_ Try.func22 (by kernel_rfl) rfl #[.agg #[.int .u64 ((rd_T29 x3_1 (ji21)).f0), .int .u64 ((rd_T29 x3_1 (ji21)).f1)]] (by rfl) rfl rfl (by (try simp only [List.map_toArray, List.map_cons, List.map_nil]); first | done | (simp only [hji21]; rfl) | rfl | (simp only [List.length_drop, List.length_take]; rfl)) ?_
           with_reducible refine (span_Span_last.calls ((rd_T29 x3_1 (ji21)).f0) ((rd_T29 x3_1 (ji21)).f1) t153 _ A24.out).mono ?_
           rintro e w27 ⟨rfl, hb⟩
           have HS2_ := (hb.cell (World.block_lt_of_cell? _ _ (hHeld.2.2.1))).trans (hHeld.2.2.1)
           have HS3_ := (hb.cell (World.block_lt_of_cell? _ _ (hHeld.2.2.2))).trans (hHeld.2.2.2)
           refine ⟨_, rfl, ?_⟩
           have n0_ := aS (Kd.R_below (by (with_reducible repeat (first | apply Kd.R_alloc | apply Kd.R_drewN | apply Kd.R_drew)); exact HO_3.out) hb)
           have n1_ := aS (Kd.R_below (by (with_reducible repeat (first | apply Kd.R_alloc | apply Kd.R_drewN | apply Kd.R_drew)); exact HO_8.out) hb)
           have n2_ := aS (blk_below (g := gb150) (o := .cells #[.int .u64 ((rd_T29 x8_1 x10_1).f0), .int .u64 (IntKind.u64.wrap ((IntKind.u64.wrap (t151 - ((rd_T29 x8_1 x10_1).f0))) + 1))] 29 (0, 0)) (by (with_reducible repeat (first | apply bN | apply bD | apply bA)); exact BK150.out) hb)
           have n3_ := aS (below_step (by repeat (first | (with_reducible first | exact HB.out | apply eA | apply eN | apply eD | refine below_set ?_ GE150.out) | exact HB.out)) hb)
           clear HO_3
           clear HO_8
           clear BK150
           clear HB
           have HO_3 := n0_
           have HO_8 := n1_
           have BK150 := n2_
           have HB := n3_
           clear n0_ n1_ n2_ n3_
           (try clear hb)
           (try clear hb2)
           (try clear hk)
           (try clear hi)
           refine hK.out _ _ ⟨(blk_cell BK150.out 0).trans rfl, (blk_cell BK150.out 1).trans rfl, HS2_, HS3_⟩ (fun hHeld => ?_)
           clear hK K
           refine norm_ (a' := ?_) ?_ ?_
           rotate_left
           ·
            show Act.put _ (some 35) _ = _
            simp only [Act.put, aput]
            rfl
           refine pure_ (i := 15) (N := some 39) (v := ?_) (a' := ?_) (bm 18 65535) rfl rfl (any_of HT_.out (by kernel_rfl)) (fun _ _ _ h => h) (Or.inl ⟨by rfl, ?_⟩) ?_ ?_
           rotate_left
           ·
            intro w'
            go_simp
            with_reducible rfl
           rotate_left
           ·
            simp only [Act.put, aput]
            rfl
           refine pure_ (i := 16) (N := some 40) (v := ?_) (a' := ?_) (bm 18 131071) rfl rfl (any_of HT_.out (by kernel_rfl)) (fun _ _ _ h => h) (Or.inl ⟨by rfl, ?_⟩) ?_ ?_
           rotate_left
           ·
            intro w'
            go_simp
            with_reducible rfl
           rotate_left
           ·
            simp only [Act.put, aput]
            rfl
           refine pure_ (i := 17) (N := some 41) (v := ?_) (a' := ?_) (bm 18 262143) rfl rfl (any_of HT_.out (by kernel_rfl)) (fun _ _ _ h => h) (Or.inl ⟨by rfl, ?_⟩) ?_ ?_
           rotate_left
           ·
            intro w'
            go_simp
            with_reducible rfl
           rotate_left
           ·
            simp only [Act.put, aput]
            rfl
           refine done_ (done_of HT_.out (by kernel_rfl)) ?_
           try go_wp2
           go_meet
           case rel => exact ⟨_, (decide (t153 < (IntKind.u64.wrap (((rd_T29 x8_1 x10_1).f0) - 1)))), (by first | rfl | (simp; done) | (simp [*]; done)), (by first | exact H' | (have hq_ := H'; rw [← hji21] at hq_; exact hq_)), ⟨by have := HK1.out; first | omega | exact Nat.le_refl _⟩, ⟨by (try simp only [hl8_1]); (with_reducible repeat (first | apply Kd.R_alloc | apply Kd.R_drewN | apply Kd.R_drew)); exact HO_3.out⟩, ⟨by (try simp only [hl8_1]); (with_reducible repeat (first | apply Kd.R_alloc | apply Kd.R_drewN | apply Kd.R_drew)); exact HO_8.out⟩, ⟨by (try simp only [hl8_1]); (with_reducible repeat (first | apply bN | apply bD | apply bA)); exact BK150.out⟩, ⟨by repeat (first | (with_reducible first | exact HB.out | apply eA | apply eN | apply eD | refine below_set ?_ GE150.out) | exact HB.out)⟩⟩
          ·
           rw [if_neg c23] at H
           exact absurd H (by simp)
         ·
          rw [if_neg c22] at H
          exact absurd H (by simp)
        ·
         rw [if_neg c20] at H
         have c20b0 : decide (0 < ((rd_T29 x8_1 x10_1).f0)) = false := decide_eq_false c20
         clear c20
         have H' := aS H
         clear H
         try go_wp2
         have n0_ : Aside0 (Kd.R k29 29 (w14.setCell ⟨gb150, 1, none⟩ (.int .u64 (IntKind.u64.wrap ((IntKind.u64.wrap (t151 - ((rd_T29 x8_1 x10_1).f0))) + 1)))) w.heap.size (fun k_ => some k_ ≠ (.slice (some ad149) x8_1.length co4 : Value).ownBlock ∧ k_ ≠ gb150) (.slice Ao16 x3_1.length co16) x3_1) := ⟨by (with_reducible repeat (first | apply Kd.R_alloc | apply Kd.R_drewN | apply Kd.R_drew)); exact Kd.R_mono (Kd.R_far (p := ⟨gb150, 1, none⟩) (Kd.R_mono HO_3.out (fun k_ hk => (⟨hk, hk.2⟩ : _ ∧ k_ ≠ gb150))) (fun _ hk => hk.2) (.int .u64 (IntKind.u64.wrap ((IntKind.u64.wrap (t151 - ((rd_T29 x8_1 x10_1).f0))) + 1)))) (fun _ hk => ⟨hk.1.1, hk.1.2⟩)⟩
         have n1_ : Aside0 (Kd.R k29 29 (w14.setCell ⟨gb150, 1, none⟩ (.int .u64 (IntKind.u64.wrap ((IntKind.u64.wrap (t151 - ((rd_T29 x8_1 x10_1).f0))) + 1)))) w.heap.size (fun k_ => some k_ ≠ (.slice Ao16 x3_1.length co16 : Value).ownBlock ∧ k_ ≠ gb150) (.slice (some ad149) x8_1.length co4) x8_1) := ⟨by (with_reducible repeat (first | apply Kd.R_alloc | apply Kd.R_drewN | apply Kd.R_drew)); exact Kd.R_mono (Kd.R_far (p := ⟨gb150, 1, none⟩) (Kd.R_mono HO_8.out (fun k_ hk => (⟨hk, hk.2⟩ : _ ∧ k_ ≠ gb150))) (fun _ hk => hk.2) (.int .u64 (IntKind.u64.wrap ((IntKind.u64.wrap (t151 - ((rd_T29 x8_1 x10_1).f0))) + 1)))) (fun _ hk => ⟨hk.1.1, hk.1.2⟩)⟩
         have n2_ : Aside0 ((w14.setCell ⟨gb150, 1, none⟩ (.int .u64 (IntKind.u64.wrap ((IntKind.u64.wrap (t151 - ((rd_T29 x8_1 x10_1).f0))) + 1)))).heap[gb150]? = some (.cells #[.int .u64 ((rd_T29 x8_1 x10_1).f0), .int .u64 (IntKind.u64.wrap ((IntKind.u64.wrap (t151 - ((rd_T29 x8_1 x10_1).f0))) + 1))] 29 (0, 0))) := ⟨by (with_reducible repeat (first | apply bN | apply bD | apply bA)); refine blk_put (cs := #[.int .u64 ((rd_T29 x8_1 x10_1).f0), .int .u64 ((rd_T29 x8_1 x10_1).f1)]) ?_ 1 _ rfl; (with_reducible repeat (first | apply bN | apply bD | apply bA)); exact BK150.out⟩
         have n3_ : Aside0 (Below w.heap.size w (w14.setCell ⟨gb150, 1, none⟩ (.int .u64 (IntKind.u64.wrap ((IntKind.u64.wrap (t151 - ((rd_T29 x8_1 x10_1).f0))) + 1))))) := ⟨by repeat (first | (with_reducible first | exact HB.out | apply eA | apply eN | apply eD | refine below_set ?_ GE150.out) | exact HB.out)⟩
         (try clear HO_3)
         (try clear HO_8)
         (try clear BK150)
         (try clear HB)
         generalize (w14.setCell ⟨gb150, 1, none⟩ (.int .u64 (IntKind.u64.wrap ((IntKind.u64.wrap (t151 - ((rd_T29 x8_1 x10_1).f0))) + 1)))) = w28 at n0_ n1_ n2_ n3_ ⊢
         have HO_3 := n0_
         have HO_8 := n1_
         have BK150 := n2_
         have HB := n3_
         clear n0_ n1_ n2_ n3_
         have n0_ := aS (Kd.R_drew HO_3.out)
         have n1_ := aS (Kd.R_drew HO_8.out)
         have n2_ := aS (blk_drew BK150.out)
         have n3_ := aS (below_drew1 HB.out)
         clear HO_3
         clear HO_8
         clear BK150
         clear HB
         have HO_3 := n0_
         have HO_8 := n1_
         have BK150 := n2_
         have HB := n3_
         clear n0_ n1_ n2_ n3_
         refine start_ (n := 18) (S := fun w' => w'.cell? ⟨gb150, 0, none⟩ = some (.int .u64 ((rd_T29 x8_1 x10_1).f0)) ∧ w'.cell? ⟨gb150, 1, none⟩ = some (.int .u64 (IntKind.u64.wrap ((IntKind.u64.wrap (t151 - ((rd_T29 x8_1 x10_1).f0))) + 1)))) (ds := []) #[false, false, false, false, false, false, false, false, false, false, false, false, false, false, false, false, false, false] (by kernel_rfl) rfl rfl ⟨(blk_cell BK150.out 0).trans rfl, (blk_cell BK150.out 1).trans rfl⟩ (fun hHeld => ?_); refine with_tabW span_Union.tab7 span_Union.bits7 (fun HT_ HW_ => ?_)
         generalize w28.drew = w29 at HO_3 HO_8 BK150 HB hHeld ⊢
         refine pure_ (i := 0) (N := some 24) (v := ?_) (a' := ?_) (bm 18 1) rfl rfl (any_of HT_.out (by kernel_rfl)) (fun _ _ _ h => h) (Or.inl ⟨by rfl, ?_⟩) ?_ ?_
         rotate_left
         ·
          intro w'
          go_simp
          with_reducible rfl
         rotate_left
         ·
          simp only [Act.put, aput]
          rfl
         refine pure_ (i := 1) (N := some 25) (v := ?_) (a' := ?_) (bm 18 3) rfl rfl (any_of HT_.out (by kernel_rfl)) (fun _ _ _ h => h) (Or.inl ⟨by rfl, ?_⟩) ?_ ?_
         rotate_left
         ·
          intro w'
          go_simp
          with_reducible rfl
         rotate_left
         ·
          simp only [Act.put, aput]
          rfl
         refine pure_ (i := 2) (N := some 26) (v := ?_) (a' := ?_) (bm 18 7) rfl rfl (any_of HT_.out (by kernel_rfl)) (fun _ _ _ h => h) (Or.inl ⟨by rfl, ?_⟩) ?_ ?_
         rotate_left
         ·
          intro w'
          go_simp
          with_reducible rfl
         rotate_left
         ·
          simp only [Act.put, aput]
          rfl
         refine pure_ (i := 3) (N := some 27) (v := ?_) (a' := ?_) (bm 18 15) rfl rfl (any_of HT_.out (by kernel_rfl)) (fun _ _ _ h => h) (Or.inl ⟨by rfl, ?_⟩) ?_ ?_
         rotate_left
         ·
          intro w'
          go_simp
          with_reducible rfl
         rotate_left
         ·
          simp only [Act.put, aput]
          rfl
         refine take_ (i := 4) (N := some 28) (v := ?_) (a' := ?_) (bm 18 31) rfl rfl (take_ofW HT_.out HW_.out (by kernel_rfl)) (fun _ _ _ h => h) (Or.inl ⟨by rfl, ?_⟩) hHeld ?_ ?_
         rotate_left
         ·
          intro w' s0
          go_simp
          with_reducible rfl
         rotate_left
         ·
          simp only [Act.put, aput]
          rfl
         refine pure_ (i := 5) (N := some 29) (v := ?_) (a' := ?_) (bm 18 63) rfl rfl (any_of HT_.out (by kernel_rfl)) (fun _ _ _ h => h) (Or.inl ⟨by rfl, ?_⟩) ?_ ?_
         rotate_left
         ·
          intro w'
          go_simp
          with_reducible rfl
         rotate_left
         ·
          simp only [Act.put, aput]
          rfl
         refine pure_ (i := 6) (N := some 30) (v := ?_) (a' := ?_) (bm 18 127) rfl rfl (any_of HT_.out (by kernel_rfl)) (fun _ _ _ h => h) (Or.inl ⟨by rfl, ?_⟩) ?_ ?_
         rotate_left
         ·
          intro w'
          go_simp
          with_reducible rfl
         rotate_left
         ·
          simp only [Act.put, aput]
          rfl
         refine pure_ (i := 7) (N := some 31) (v := undef) (a' := ?_) (bm 18 255) rfl rfl (any_of HT_.out (by kernel_rfl)) (fun _ _ _ h => h) (Or.inr ⟨by rfl, rfl⟩) ?_ ?_
         rotate_left
         ·
          simp only [Act.put, aput]
          rfl
         refine pure_ (i := 8) (N := some 32) (v := undef) (a' := ?_) (bm 18 511) rfl rfl (any_of HT_.out (by kernel_rfl)) (fun _ _ _ h => h) (Or.inr ⟨by rfl, rfl⟩) ?_ ?_
         rotate_left
         ·
          simp only [Act.put, aput]
          rfl
         refine pure_ (i := 9) (N := some 33) (v := undef) (a' := ?_) (bm 18 1023) rfl rfl (any_of HT_.out (by kernel_rfl)) (fun _ _ _ h => h) (Or.inr ⟨by rfl, rfl⟩) ?_ ?_
         rotate_left
         ·
          simp only [Act.put, aput]
          rfl
         refine pure_ (i := 10) (N := some 34) (v := undef) (a' := ?_) (bm 18 2047) rfl rfl (any_of HT_.out (by kernel_rfl)) (fun _ _ _ h => h) (Or.inr ⟨by rfl, rfl⟩) ?_ ?_
         rotate_left
         ·
          simp only [Act.put, aput]
          rfl
         refine pure_ (i := 11) (N := some 35) (v := undef) (a' := ?_) (bm 18 4095) rfl rfl (any_of HT_.out (by kernel_rfl)) (fun _ _ _ h => h) (Or.inr ⟨by rfl, rfl⟩) ?_ ?_
         rotate_left
         ·
          simp only [Act.put, aput]
          rfl
         refine pure_ (i := 12) (N := some 36) (v := undef) (a' := ?_) (bm 18 8191) rfl rfl (any_of HT_.out (by kernel_rfl)) (fun _ _ _ h => h) (Or.inr ⟨by rfl, rfl⟩) ?_ ?_
         rotate_left
         ·
          simp only [Act.put, aput]
          rfl
         refine pure_ (i := 13) (N := some 37) (v := undef) (a' := ?_) (bm 18 16383) rfl rfl (any_of HT_.out (by kernel_rfl)) (fun _ _ _ h => h) (Or.inr ⟨by rfl, rfl⟩) ?_ ?_
         rotate_left
         ·
          simp only [Act.put, aput]
          rfl
         refine pure_ (i := 14) (N := some 38) (v := undef) (a' := ?_) (bm 18 32767) rfl rfl (any_of HT_.out (by kernel_rfl)) (fun _ _ _ h => h) (Or.inr ⟨by rfl, rfl⟩) ?_ ?_
         rotate_left
         ·
          simp only [Act.put, aput]
          rfl
         refine pure_ (i := 15) (N := some 39) (v := undef) (a' := ?_) (bm 18 65535) rfl rfl (any_of HT_.out (by kernel_rfl)) (fun _ _ _ h => h) (Or.inr ⟨by rfl, rfl⟩) ?_ ?_
         rotate_left
         ·
          simp only [Act.put, aput]
          rfl
         refine pure_ (i := 16) (N := some 40) (v := ?_) (a' := ?_) (bm 18 131071) rfl rfl (any_of HT_.out (by kernel_rfl)) (fun _ _ _ h => h) (Or.inl ⟨by rfl, ?_⟩) ?_ ?_
         rotate_left
         ·
          intro w'
          go_simp
          with_reducible rfl
         rotate_left
         ·
          simp only [Act.put, aput]
          rfl
         refine pure_ (i := 17) (N := some 41) (v := ?_) (a' := ?_) (bm 18 262143) rfl rfl (any_of HT_.out (by kernel_rfl)) (fun _ _ _ h => h) (Or.inl ⟨by rfl, ?_⟩) ?_ ?_
         rotate_left
         ·
          intro w'
          go_simp
          with_reducible rfl
         rotate_left
         ·
          simp only [Act.put, aput]
          rfl
         refine done_ (done_of HT_.out (by kernel_rfl)) ?_
         try go_wp2
         go_meet
         case rel => exact ⟨_, (false), (by first | rfl | (simp; done) | (simp [*]; done)), H', ⟨by have := HK1.out; first | omega | exact Nat.le_refl _⟩, ⟨by (try simp only [hl8_1]); (with_reducible repeat (first | apply Kd.R_alloc | apply Kd.R_drewN | apply Kd.R_drew)); exact HO_3.out⟩, ⟨by (try simp only [hl8_1]); (with_reducible repeat (first | apply Kd.R_alloc | apply Kd.R_drewN | apply Kd.R_drew)); exact HO_8.out⟩, ⟨by (try simp only [hl8_1]); (with_reducible repeat (first | apply bN | apply bD | apply bA)); exact BK150.out⟩, ⟨by repeat (first | (with_reducible first | exact HB.out | apply eA | apply eN | apply eD | refine below_set ?_ GE150.out) | exact HB.out)⟩⟩
      case rest =>
       clear HC9
       try clear c1
       try clear p1
       try clear q1
       try clear hx1
       try clear c2
       try clear p2
       try clear p6
       try clear p15
       try clear q15
       try clear hx15
       try clear c17
       try clear c17b0
       try clear c20
       try clear c20b0
       try clear c22
       try clear c22b0
       try clear c23
       try clear c23b0
       try clear hx152_0
       try clear hx152_1
       try clear p152
       try clear q152
       obtain ⟨kq, x41_8, rfl, HA, HJ8, HO_3, HO_8, BK150, HB⟩ := hcut
       cases kq with
       | zero => exact absurd HA.out (by simp [span_Union.j1])
       | succ kj8 =>
        have H := HA.out
        clear HA
        simp only [span_Union.j1] at H
        by_cases c30 : x41_8 = true
        ·
         subst c30
         have H1 : (if x3_1.length < 8796093022208 then (span_Union.l0 kj8 (x3_1 ++ [(⟨((rd_T29 x8_1 x10_1).f0), (IntKind.u64.wrap ((IntKind.u64.wrap (t151 - ((rd_T29 x8_1 x10_1).f0))) + 1))⟩ : S29)]) x8_1 (t146.length : Int) (wrap64 (x10_1 + 1))) else (none)) = some r := by rw [if_pos rfl] at H; exact H
         clear H
         have H := H1
         clear H1
         by_cases c31 : x3_1.length < 8796093022208
         ·
          rw [if_pos c31] at H
          have LMc31 := aS c31
          clear c31
          obtain ⟨y154, hy154⟩ : ∃ y_ : List (S29), y_ = (x3_1 ++ [(⟨((rd_T29 x8_1 x10_1).f0), (IntKind.u64.wrap ((IntKind.u64.wrap (t151 - ((rd_T29 x8_1 x10_1).f0))) + 1))⟩ : S29)]) := ⟨_, rfl⟩
          replace H : (span_Union.l0 kj8 y154 x8_1 (t146.length : Int) (wrap64 (x10_1 + 1))) = some r := by first | (rw [hy154]; with_reducible exact H) | (have H2_ := (Option.bind_some _ _).symm.trans H; rw [hy154]; with_reducible exact H2_) | (have H2_ := (Option.bind_some _ _).symm.trans H; with_reducible exact H2_) | with_reducible exact H | (rw [hy154]; exact H) | exact H
          have Ny154 := aS hy154
          clear hy154
          have H' := aS H
          clear H
          have hcz32_0 : wc.cell? ⟨gb150, 0, none⟩ = some (.int .u64 ((rd_T29 x8_1 x10_1).f0)) := (blk_cell BK150.out 0).trans rfl
          have hcz32_1 : wc.cell? ⟨gb150, 1, none⟩ = some (.int .u64 (IntKind.u64.wrap ((IntKind.u64.wrap (t151 - ((rd_T29 x8_1 x10_1).f0))) + 1))) := (blk_cell BK150.out 1).trans rfl
          have hfz32_0 := blk_frozen BK150.out 0
          have hfz32_1 := blk_frozen BK150.out 1
          go_wp2_with (first | ((with_reducible refine gate_builtin (b := .append) (xs := #[.tmp 42, .tmp 44]) rfl ?_); at_builtin; refine Kd.R_append k29 (w0 := w) w.heap.size rfl (.tmp 42) (.tmp 44) 24 29 (.agg #[(.int .u64 0), (.int .u64 0)]) 16 rfl Try.underlying24 info29 rfl (by decide) (by omega) (.slice Ao16 x3_1.length co16) x3_1 (⟨((rd_T29 x8_1 x10_1).f0), (IntKind.u64.wrap ((IntKind.u64.wrap (t151 - ((rd_T29 x8_1 x10_1).f0))) + 1))⟩ : S29) [.int .u64 ((rd_T29 x8_1 x10_1).f0), .int .u64 (IntKind.u64.wrap ((IntKind.u64.wrap (t151 - ((rd_T29 x8_1 x10_1).f0))) + 1))] (fun k_ => some k_ ≠ (.slice (some ad149) x8_1.length co4 : Value).ownBlock ∧ k_ ≠ gb150) (fun _ => False) rfl rfl ?aP (fun _ hk => hk.elim) ?aF ?aO ?aB ?aS ?aL ?_; (case aP => exact k29_mkM _ _ _ (⟨((rd_T29 x8_1 x10_1).f0), (IntKind.u64.wrap ((IntKind.u64.wrap (t151 - ((rd_T29 x8_1 x10_1).f0))) + 1))⟩ : S29)); (case aB => exact (by repeat (first | (with_reducible first | exact HB.out | apply eA | apply eN | apply eD | refine below_set ?_ GE150.out) | exact HB.out))); (case aF => exact (fun k_ hk => ⟨Kd.fresh' (Kd.R_lt (by (with_reducible repeat (first | apply Kd.R_alloc | apply Kd.R_drewN | apply Kd.R_drew)); exact HO_8.out)) k_ hk, Kd.freshB (g := gb150) (o := .cells #[.int .u64 ((rd_T29 x8_1 x10_1).f0), .int .u64 (IntKind.u64.wrap ((IntKind.u64.wrap (t151 - ((rd_T29 x8_1 x10_1).f0))) + 1))] 29 (0, 0)) (by (with_reducible repeat (first | apply bN | apply bD | apply bA)); exact BK150.out) k_ hk⟩)); (case aO => exact (by (with_reducible repeat (first | apply Kd.R_alloc | apply Kd.R_drewN | apply Kd.R_drew)); exact HO_3.out)); (case aS => exact (below_size (by repeat (first | (with_reducible first | exact HB.out | apply eA | apply eN | apply eD | refine below_set ?_ GE150.out) | exact HB.out)))); (case aL => have := LMc31.out; omega); intro v155 w33 ho hb hg hat; rw [← Ny154.out] at ho; have n0_ := aS (Kd.R_after (ok := (fun k_ => k_ ≠ gb150)) (by (with_reducible repeat (first | apply Kd.R_alloc | apply Kd.R_drewN | apply Kd.R_drew)); exact Kd.R_mono HO_8.out (fun _ hk => ⟨hk.2, hk.1⟩)) hg hat); have n1_ := aS (blk_grown (g := gb150) (o := .cells #[.int .u64 ((rd_T29 x8_1 x10_1).f0), .int .u64 (IntKind.u64.wrap ((IntKind.u64.wrap (t151 - ((rd_T29 x8_1 x10_1).f0))) + 1))] 29 (0, 0)) (by (with_reducible repeat (first | apply bN | apply bD | apply bA)); exact BK150.out) hg (Kd.R_away HO_3.out (fun _ hk => hk.2))); have n2_ := aS (hb); have n3_ := aS (ho); clear HO_8; clear BK150; clear HB; clear HO_3; have HO_8 := n0_; have BK150 := n1_; have HB := n2_; have HO156 := n3_; clear n0_ n1_ n2_ n3_; clear ho hb hg hat))
          (try simp only [← hl8_1])
          go_roundg kj8
          case measure => have := HK1.out; have := HJ8.out; omega
          case rel => exact ⟨(y154), (x8_1), (wrap64 (x10_1 + 1)), (by first | rfl | (simp; done) | (simp [*]; done)), H', ⟨by have := HK1.out; have := HJ8.out; omega⟩, ⟨by (try simp only [hl8_1]); (with_reducible repeat (first | apply Kd.R_alloc | apply Kd.R_drewN | apply Kd.R_drew)); exact Kd.R_mono HO156.out (fun _ hk => hk.1)⟩, ⟨by (try simp only [hl8_1]); (with_reducible repeat (first | apply Kd.R_alloc | apply Kd.R_drewN | apply Kd.R_drew)); exact Kd.R_mono HO_8.out (fun _ hk => hk.2)⟩, ⟨by repeat (first | (with_reducible first | exact HB.out | apply eA | apply eN | apply eD | refine below_set ?_ GE150.out) | exact HB.out)⟩⟩
         ·
          rw [if_neg c31] at H
          exact absurd H (by simp)
        ·
         replace c30 := Bool.eq_false_iff.mpr c30
         subst c30
         have H1 : (if 0 ≤ (wrap64 ((x3_1.length : Int) - 1)) then (if (wrap64 ((x3_1.length : Int) - 1)) < (x3_1.length : Int) then ((span_Span_last.f ((rd_T29 x3_1 (wrap64 ((x3_1.length : Int) - 1))).f0) ((rd_T29 x3_1 (wrap64 ((x3_1.length : Int) - 1))).f1)).bind fun t158 => ((span_Span_last.f ((rd_T29 x8_1 x10_1).f0) (IntKind.u64.wrap ((IntKind.u64.wrap (t151 - ((rd_T29 x8_1 x10_1).f0))) + 1))).bind fun t159 => (span_Union.l0 kj8 (x3_1.set ((wrap64 ((x3_1.length : Int) - 1)) : Int).toNat (⟨(rd_T29 x3_1 (wrap64 ((x3_1.length : Int) - 1))).f0, IntKind.u64.wrap ((IntKind.u64.wrap ((mx t158 t159) - ((rd_T29 x3_1 (wrap64 ((x3_1.length : Int) - 1))).f0))) + 1)⟩ : S29)) x8_1 (t146.length : Int) (wrap64 (x10_1 + 1))))) else (none)) else (none)) = some r := by rw [if_neg (show ¬ (false = true) by decide)] at H; exact H
         clear H
         have H := H1
         clear H1
         obtain ⟨ji34, hji34⟩ : ∃ j_ : Int, (wrap64 ((x3_1.length : Int) - 1)) = j_ := ⟨_, rfl⟩
         replace H : (if 0 ≤ (ji34) then (if (ji34) < (x3_1.length : Int) then ((span_Span_last.f ((rd_T29 x3_1 (ji34)).f0) ((rd_T29 x3_1 (ji34)).f1)).bind fun t158 => ((span_Span_last.f ((rd_T29 x8_1 x10_1).f0) (IntKind.u64.wrap ((IntKind.u64.wrap (t151 - ((rd_T29 x8_1 x10_1).f0))) + 1))).bind fun t159 => (span_Union.l0 kj8 (x3_1.set ((ji34) : Int).toNat (⟨(rd_T29 x3_1 (ji34)).f0, IntKind.u64.wrap ((IntKind.u64.wrap ((mx t158 t159) - ((rd_T29 x3_1 (ji34)).f0))) + 1)⟩ : S29)) x8_1 (t146.length : Int) (wrap64 (x10_1 + 1))))) else (none)) else (none)) = some r := by first | (rw [hji34] at H; exact H) | (simp only [hji34] at H ⊢; exact H)
         have hji34w : (IntKind.i64.wrap ((x3_1.length : Int) - 1)) = ji34 := (i64_w _).trans hji34
         by_cases c35 : 0 ≤ (ji34)
         ·
          rw [if_pos c35] at H
          have c35b0 : decide (0 ≤ (ji34)) = true := decide_eq_true c35
          clear c35
          by_cases c36 : (ji34) < (x3_1.length : Int)
          ·
           rw [if_pos c36] at H
           have c36b0 : decide ((ji34) < (x3_1.length : Int)) = true := decide_eq_true c36
           (try simp only [hl8_1] at c36b0)
           clear c36
           replace H := Option.bind_eq_some_iff.mp H
           obtain ⟨t158, A370, H⟩ := H
           replace H : ((span_Span_last.f ((rd_T29 x8_1 x10_1).f0) (IntKind.u64.wrap ((IntKind.u64.wrap (t151 - ((rd_T29 x8_1 x10_1).f0))) + 1))).bind fun t159 => (span_Union.l0 kj8 (x3_1.set ((ji34) : Int).toNat (⟨(rd_T29 x3_1 (ji34)).f0, IntKind.u64.wrap ((IntKind.u64.wrap ((mx t158 t159) - ((rd_T29 x3_1 (ji34)).f0))) + 1)⟩ : S29)) x8_1 (t146.length : Int) (wrap64 (x10_1 + 1)))) = some r := H
           have A37 := aS A370
           clear A370
           replace H := Option.bind_eq_some_iff.mp H
           obtain ⟨t159, A380, H⟩ := H
           replace H : (span_Union.l0 kj8 (x3_1.set ((ji34) : Int).toNat (⟨(rd_T29 x3_1 (ji34)).f0, IntKind.u64.wrap ((IntKind.u64.wrap ((mx t158 t159) - ((rd_T29 x3_1 (ji34)).f0))) + 1)⟩ : S29)) x8_1 (t146.length : Int) (wrap64 (x10_1 + 1))) = some r := H
           have A38 := aS A380
           clear A380
           obtain ⟨ji39, hji39⟩ : ∃ j_ : Int, (mx t158 t159) = j_ := ⟨_, rfl⟩
           replace H : (span_Union.l0 kj8 (x3_1.set ((ji34) : Int).toNat (⟨(rd_T29 x3_1 (ji34)).f0, IntKind.u64.wrap ((IntKind.u64.wrap ((ji39) - ((rd_T29 x3_1 (ji34)).f0))) + 1)⟩ : S29)) x8_1 (t146.length : Int) (wrap64 (x10_1 + 1))) = some r := by first | (rw [hji39] at H; exact H) | (simp only [hji39] at H ⊢; exact H)
           (try rw [hji39] at A37)
           (try rw [hji39] at A38)
           have hji39_ : (if t158 < t159 then t159 else t158) = ji39 := hji39
           obtain ⟨y161, hy161⟩ : ∃ y_ : List (S29), y_ = (x3_1.set ((ji34) : Int).toNat (⟨(rd_T29 x3_1 (ji34)).f0, IntKind.u64.wrap ((IntKind.u64.wrap ((ji39) - ((rd_T29 x3_1 (ji34)).f0))) + 1)⟩ : S29)) := ⟨_, rfl⟩
           replace H : (span_Union.l0 kj8 y161 x8_1 (t146.length : Int) (wrap64 (x10_1 + 1))) = some r := by first | (rw [hy161]; with_reducible exact H) | (have H2_ := (Option.bind_some _ _).symm.trans H; rw [hy161]; with_reducible exact H2_) | (have H2_ := (Option.bind_some _ _).symm.trans H; with_reducible exact H2_) | with_reducible exact H | (rw [hy161]; exact H) | exact H
           have Ny161 := aS hy161
           clear hy161
           have H' := aS H
           clear H
           try go_wp2
           have n0_ := aS (Kd.R_drew HO_3.out)
           have n1_ := aS (Kd.R_drew HO_8.out)
           have n2_ := aS (blk_drew BK150.out)
           have n3_ := aS (below_drew1 HB.out)
           clear HO_3
           clear HO_8
           clear BK150
           clear HB
           have HO_3 := n0_
           have HO_8 := n1_
           have BK150 := n2_
           have HB := n3_
           clear n0_ n1_ n2_ n3_
           have p157 : 0 ≤ ((ji34) : Int) := of_decide_eq_true (by first | (with_reducible assumption) | assumption)
           have q157 : (ji34) < (x3_1.length : Int) := of_decide_eq_true (by first | (with_reducible assumption) | assumption)
           obtain ⟨ad157, e157, hx157_0, hx157_1⟩ := at_T29 (Kd.R_reads' HO_3.out).2.2 (ji34) p157 q157
           cases e157
           replace p157 := eq_true p157
           replace q157 := eq_true q157
           have p160 : 0 ≤ ((ji34) : Int) := of_decide_eq_true (by first | (with_reducible assumption) | assumption)
           have q160 : (ji34) < (x3_1.length : Int) := of_decide_eq_true (by first | (with_reducible assumption) | assumption)
           obtain ⟨ad160, e160, hx160_0, hx160_1⟩ := at_T29 (Kd.R_reads' HO_3.out).2.2 (ji34) p160 q160
           obtain rfl : ad157 = ad160 := (by injection e160)
           replace p160 := eq_true p160
           replace q160 := eq_true q160
           refine start_ (n := 20) (S := fun w' => w'.cell? ⟨gb150, 0, none⟩ = some (.int .u64 ((rd_T29 x8_1 x10_1).f0)) ∧ w'.cell? ⟨gb150, 1, none⟩ = some (.int .u64 (IntKind.u64.wrap ((IntKind.u64.wrap (t151 - ((rd_T29 x8_1 x10_1).f0))) + 1))) ∧ w'.cell? (ad157.add (((ji34)).toNat * 2)) = some (.int .u64 ((rd_T29 x3_1 (ji34)).f0)) ∧ w'.cell? ⟨(ad157.add (((ji34)).toNat * 2)).block, (ad157.add (((ji34)).toNat * 2)).off + 1, none⟩ = some (.int .u64 ((rd_T29 x3_1 (ji34)).f1)) ∧ w'.cell? (ad157.add (((ji34)).toNat * 2)) = some (.int .u64 ((rd_T29 x3_1 (ji34)).f0)) ∧ w'.cell? ⟨(ad157.add (((ji34)).toNat * 2)).block, (ad157.add (((ji34)).toNat * 2)).off + 1, none⟩ = some (.int .u64 ((rd_T29 x3_1 (ji34)).f1))) (ds := [19]) #[false, false, false, false, false, false, false, false, false, false, false, false, false, false, false, false, false, false, false, false] (by kernel_rfl) rfl rfl ⟨(blk_cell BK150.out 0).trans rfl, (blk_cell BK150.out 1).trans rfl, hx157_0, hx157_1, hx160_0, hx160_1⟩ (fun hHeld => ?_); refine with_tabW span_Union.tab9 span_Union.bits9 (fun HT_ HW_ => ?_)
           generalize wc.drew = w41 at HO_3 HO_8 BK150 HB hx157_0 hx157_1 hx160_0 hx160_1 hHeld ⊢
           refine pure_ (i := 0) (N := some 46) (v := ?_) (a' := ?_) (bm 20 1) rfl rfl (any_of HT_.out (by kernel_rfl)) (fun _ _ _ h => h) (Or.inl ⟨by rfl, ?_⟩) ?_ ?_
           rotate_left
           ·
            intro w'
            go_simp
            with_reducible rfl
           rotate_left
           ·
            simp only [Act.put, aput]
            rfl
           refine pure_ (i := 1) (N := some 47) (v := ?_) (a' := ?_) (bm 20 3) rfl rfl (any_of HT_.out (by kernel_rfl)) (fun _ _ _ h => h) (Or.inl ⟨by rfl, ?_⟩) ?_ ?_
           rotate_left
           ·
            intro w'
            go_simp
            with_reducible rfl
           rotate_left
           ·
            simp only [Act.put, aput]
            rfl
           refine pure_ (i := 2) (N := some 48) (v := ?_) (a' := ?_) (bm 20 7) rfl rfl (any_of HT_.out (by kernel_rfl)) (fun _ _ _ h => h) (Or.inl ⟨by rfl, ?_⟩) ?_ ?_
           rotate_left
           ·
            intro w'
            go_simp
            with_reducible rfl
           rotate_left
           ·
            simp only [Act.put, aput]
            rfl
           refine pure_ (i := 3) (N := some 49) (v := ?_) (a' := ?_) (bm 20 15) rfl rfl (any_of HT_.out (by kernel_rfl)) (fun _ _ _ h => h) (Or.inl ⟨by rfl, ?_⟩) ?_ ?_
           rotate_left
           ·
            intro w'
            go_simp
            with_reducible rfl
           rotate_left
           ·
            simp only [Act.put, aput]
            rfl
           refine pure_ (i := 4) (N := some 50) (v := ?_) (a' := ?_) (bm 20 31) rfl rfl (any_of HT_.out (by kernel_rfl)) (fun _ _ _ h => h) (Or.inl ⟨by rfl, ?_⟩) ?_ ?_
           rotate_left
           ·
            intro w'
            go_simp
            with_reducible rfl
           rotate_left
           ·
            simp only [Act.put, aput]
            rfl
           refine pure_ (i := 10) (N := some 56) (v := ?_) (a' := ?_) (bm 20 1055) rfl rfl (any_of HT_.out (by kernel_rfl)) (fun _ _ _ h => h) (Or.inl ⟨by rfl, ?_⟩) ?_ ?_
           rotate_left
           ·
            intro w'
            go_simp
            with_reducible rfl
           rotate_left
           ·
            simp only [Act.put, aput]
            rfl
           refine pure_ (i := 11) (N := some 57) (v := ?_) (a' := ?_) (bm 20 3103) rfl rfl (any_of HT_.out (by kernel_rfl)) (fun _ _ _ h => h) (Or.inl ⟨by rfl, ?_⟩) ?_ ?_
           rotate_left
           ·
            intro w'
            go_simp
            with_reducible rfl
           rotate_left
           ·
            simp only [Act.put, aput]
            rfl
           refine pure_ (i := 12) (N := some 58) (v := ?_) (a' := ?_) (bm 20 7199) rfl rfl (any_of HT_.out (by kernel_rfl)) (fun _ _ _ h => h) (Or.inl ⟨by rfl, ?_⟩) ?_ ?_
           rotate_left
           ·
            intro w'
            go_simp
            with_reducible rfl
           rotate_left
           ·
            simp only [Act.put, aput]
            rfl
           refine pure_ (i := 13) (N := some 59) (v := ?_) (a' := ?_) (bm 20 15391) rfl rfl (any_of HT_.out (by kernel_rfl)) (fun _ _ _ h => h) (Or.inl ⟨by rfl, ?_⟩) ?_ ?_
           rotate_left
           ·
            intro w'
            go_simp
            with_reducible rfl
           rotate_left
           ·
            simp only [Act.put, aput]
            rfl
           refine take_ (i := 5) (N := some 51) (v := ?_) (a' := ?_) (bm 20 15423) rfl rfl (take_ofW HT_.out HW_.out (by kernel_rfl)) (fun _ _ _ h => h) (Or.inl ⟨by rfl, ?_⟩) hHeld ?_ ?_
           rotate_left
           ·
            intro w' s0
            go_simp
            with_reducible rfl
           rotate_left
           ·
            simp only [Act.put, aput]
            rfl
           refine take_ (i := 7) (N := some 53) (v := ?_) (a' := ?_) (bm 20 15551) rfl rfl (take_ofW HT_.out HW_.out (by kernel_rfl)) (fun _ _ _ h => h) (Or.inl ⟨by rfl, ?_⟩) hHeld ?_ ?_
           rotate_left
           ·
            intro w' s0
            go_simp
            with_reducible rfl
           rotate_left
           ·
            simp only [Act.put, aput]
            rfl
           refine take_ (i := 14) (N := some 60) (v := ?_) (a' := ?_) (bm 20 31935) rfl rfl (take_ofW HT_.out HW_.out (by kernel_rfl)) (fun _ _ _ h => h) (Or.inl ⟨by rfl, ?_⟩) hHeld ?_ ?_
           rotate_left
           ·
            intro w' s0
            go_simp
            with_reducible rfl
           rotate_left
           ·
            simp only [Act.put, aput]
            rfl
           refine one_ (i := 6) (N := some 52) (bm 20 31999) rfl rfl (one_of HT_.out (by kernel_rfl)) (by decide) (fun K hK => ?_)
           refine goes_ Try.func22 (by kernel_rfl) rfl #[.agg #[.int .u64 ((rd_T29 x3_1 (ji34)).f0), .int .u64 ((rd_T29 x3_1 (ji34)).f1)]] (by rfl) rfl rfl (by (try simp only [List.map_toArray, List.map_cons, List.map_nil]); first | done | (simp only [hji34]; rfl) | rfl | (simp only [List.length_drop, List.length_take]; rfl)) ?_
           with_reducible refine (span_Span_last.calls ((rd_T29 x3_1 (ji34)).f0) ((rd_T29 x3_1 (ji34)).f1) t158 _ A37.out).mono ?_
           rintro e w42 ⟨rfl, hb⟩
           have HS2_ := (hb.cell (World.block_lt_of_cell? _ _ (hHeld.2.2.1))).trans (hHeld.2.2.1)
           have HS3_ := (hb.cell (World.block_lt_of_cell? _ _ (hHeld.2.2.2.1))).trans (hHeld.2.2.2.1)
           have HS4_ := (hb.cell (World.block_lt_of_cell? _ _ (hHeld.2.2.2.2.1))).trans (hHeld.2.2.2.2.1)
           have HS5_ := (hb.cell (World.block_lt_of_cell? _ _ (hHeld.2.2.2.2.2))).trans (hHeld.2.2.2.2.2)
           refine ⟨_, rfl, ?_⟩
           have n0_ := aS (Kd.R_below (by (with_reducible repeat (first | apply Kd.R_alloc | apply Kd.R_drewN | apply Kd.R_drew)); exact HO_3.out) hb)
           have n1_ := aS (Kd.R_below (by (with_reducible repeat (first | apply Kd.R_alloc | apply Kd.R_drewN | apply Kd.R_drew)); exact HO_8.out) hb)
           have n2_ := aS (blk_below (g := gb150) (o := .cells #[.int .u64 ((rd_T29 x8_1 x10_1).f0), .int .u64 (IntKind.u64.wrap ((IntKind.u64.wrap (t151 - ((rd_T29 x8_1 x10_1).f0))) + 1))] 29 (0, 0)) (by (with_reducible repeat (first | apply bN | apply bD | apply bA)); exact BK150.out) hb)
           have n3_ := aS (below_step (by repeat (first | (with_reducible first | exact HB.out | apply eA | apply eN | apply eD | refine below_set ?_ GE150.out) | exact HB.out)) hb)
           clear HO_3
           clear HO_8
           clear BK150
           clear HB
           have HO_3 := n0_
           have HO_8 := n1_
           have BK150 := n2_
           have HB := n3_
           clear n0_ n1_ n2_ n3_
           (try clear hb)
           (try clear hb2)
           (try clear hk)
           (try clear hi)
           refine hK.out _ _ ⟨(blk_cell BK150.out 0).trans rfl, (blk_cell BK150.out 1).trans rfl, HS2_, HS3_, HS4_, HS5_⟩ (fun hHeld => ?_)
           clear hK K
           refine norm_ (a' := ?_) ?_ ?_
           rotate_left
           ·
            show Act.put _ (some 52) _ = _
            simp only [Act.put, aput]
            rfl
           refine one_ (i := 8) (N := some 54) (bm 20 32255) rfl rfl (one_of HT_.out (by kernel_rfl)) (by decide) (fun K hK => ?_)
           refine goes_ Try.func22 (by kernel_rfl) rfl #[.agg #[.int .u64 ((rd_T29 x8_1 x10_1).f0), .int .u64 (IntKind.u64.wrap ((IntKind.u64.wrap (t151 - ((rd_T29 x8_1 x10_1).f0))) + 1))]] (by rfl) rfl rfl (by (try simp only [List.map_toArray, List.map_cons, List.map_nil]); first | done | rfl | (simp only [List.length_drop, List.length_take]; rfl)) ?_
           with_reducible refine (span_Span_last.calls ((rd_T29 x8_1 x10_1).f0) (IntKind.u64.wrap ((IntKind.u64.wrap (t151 - ((rd_T29 x8_1 x10_1).f0))) + 1)) t159 _ A38.out).mono ?_
           rintro e w43 ⟨rfl, hb⟩
           have HS2_ := (hb.cell (World.block_lt_of_cell? _ _ (hHeld.2.2.1))).trans (hHeld.2.2.1)
           have HS3_ := (hb.cell (World.block_lt_of_cell? _ _ (hHeld.2.2.2.1))).trans (hHeld.2.2.2.1)
           have HS4_ := (hb.cell (World.block_lt_of_cell? _ _ (hHeld.2.2.2.2.1))).trans (hHeld.2.2.2.2.1)
           have HS5_ := (hb.cell (World.block_lt_of_cell? _ _ (hHeld.2.2.2.2.2))).trans (hHeld.2.2.2.2.2)
           refine ⟨_, rfl, ?_⟩
           have n0_ := aS (Kd.R_below (by (with_reducible repeat (first | apply Kd.R_alloc | apply Kd.R_drewN | apply Kd.R_drew)); exact HO_3.out) hb)
           have n1_ := aS (Kd.R_below (by (with_reducible repeat (first | apply Kd.R_alloc | apply Kd.R_drewN | apply Kd.R_drew)); exact HO_8.out) hb)
           have n2_ := aS (blk_below (g := gb150) (o := .cells #[.int .u64 ((rd_T29 x8_1 x10_1).f0), .int .u64 (IntKind.u64.wrap ((IntKind.u64.wrap (t151 - ((rd_T29 x8_1 x10_1).f0))) + 1))] 29 (0, 0)) (by (with_reducible repeat (first | apply bN | apply bD | apply bA)); exact BK150.out) hb)
           have n3_ := aS (below_step (by repeat (first | (with_reducible first | exact HB.out | apply eA | apply eN | apply eD | refine below_set ?_ GE150.out) | exact HB.out)) hb)
           clear HO_3
           clear HO_8
           clear BK150
           clear HB
           have HO_3 := n0_
           have HO_8 := n1_
           have BK150 := n2_
           have HB := n3_
           clear n0_ n1_ n2_ n3_
           (try clear hb)
           (try clear hb2)
           (try clear hk)
           (try clear hi)
           have p40 : 0 ≤ ((ji34) : Int) := of_decide_eq_true (by first | (with_reducible assumption) | assumption)
           have q40 : ((ji34) : Int) < ((x3_1.length : Int) : Int) := of_decide_eq_true (by first | (with_reducible assumption) | assumption)
           obtain ⟨go40, co40, eo40, gb40, gl40, cl40, HG40⟩ := Kd.R_form HO_3.out (by omega)
           (first | cases eo40 | (injection eo40 with ea_ en_ ec_; (first | subst ea_ | (injection ea_ with ea_; subst ea_)); subst ec_; clear en_))
           have GB40 := aS gb40
           have GG40 := aS HG40
           clear gb40 gl40 HG40
           (first | simp only [add_plain] at hx157_0 | skip)
           (first | simp only [add_plain] at hx157_1 | skip)
           (first | simp only [add_plain] at hx160_0 | skip)
           (first | simp only [add_plain] at hx160_1 | skip)
           obtain ⟨ce40, hcl40, hM40, hcc40, hfr40⟩ := Kd.R_elem HO_3.out z29 ((ji34) : Int) p40 q40
           obtain rfl := k29_openM hM40
           have hx40_0 : World.cell? _ ⟨go40, ((ji34) : Int).toNat * 2, none⟩ = some (.int .u64 ((rd_T29 x3_1 (ji34)).f0)) := hcc40 0 _ rfl
           have hx40_1 : World.cell? _ ⟨go40, ((ji34) : Int).toNat * 2 + 1, none⟩ = some (.int .u64 ((rd_T29 x3_1 (ji34)).f1)) := hcc40 1 _ rfl
           have hf40_0 : World.frozen? _ ⟨go40, ((ji34) : Int).toNat * 2, none⟩ = false := hfr40 0
           have hf40_1 : World.frozen? _ ⟨go40, ((ji34) : Int).toNat * 2 + 1, none⟩ = false := hfr40 1
           clear hcl40 hcc40 hfr40 hM40
           replace p40 := eq_true p40
           replace q40 := eq_true q40
           obtain ⟨ce44, hcl44, hM44, hcc44, hfr44⟩ := Kd.R_elem HO_3.out z29 ((ji34) : Int) (of_decide_eq_true (by first | (with_reducible assumption) | assumption)) (by have h_ : ((ji34) : Int) < ((x3_1.length : Int) : Int) := of_decide_eq_true (by first | (with_reducible assumption) | assumption); first | exact h_ | (have e_ := (Kd.R_reads' HO_3.out).1; omega) | simpa using h_)
           obtain rfl := k29_openM hM44
           have HP44 := (Kd.R_seg HO_3.out ((ji34) : Int) (of_decide_eq_true (by first | (with_reducible assumption) | assumption)) (by have h_ : ((ji34) : Int) < ((x3_1.length : Int) : Int) := of_decide_eq_true (by first | (with_reducible assumption) | assumption); first | exact h_ | (have e_ := (Kd.R_reads' HO_3.out).1; omega) | simpa using h_) (seg := [.int .u64 (IntKind.u64.wrap ((IntKind.u64.wrap ((ji39) - ((rd_T29 x3_1 (ji34)).f0))) + 1))]) (j := 1) hcl44 hcc44 (show 2 ≤ 2 from by decide) (x' := (⟨(rd_T29 x3_1 (ji34)).f0, IntKind.u64.wrap ((IntKind.u64.wrap ((ji39) - ((rd_T29 x3_1 (ji34)).f0))) + 1)⟩ : S29)) (k29_mkM _ _ _ (⟨(rd_T29 x3_1 (ji34)).f0, IntKind.u64.wrap ((IntKind.u64.wrap ((ji39) - ((rd_T29 x3_1 (ji34)).f0))) + 1)⟩ : S29) ) (fun _ hk => hk)).1
           rw [← Ny161.out] at HP44
           have HQ44 := aS HP44
           clear hcl44 hcc44 hfr44 hM44 HP44
           refine hK.out _ _ ⟨(blk_cell BK150.out 0).trans rfl, (blk_cell BK150.out 1).trans rfl, HS2_, HS3_, HS4_, HS5_⟩ (fun hHeld => ?_)
           clear hK K
           refine norm_ (a' := ?_) ?_ ?_
           rotate_left
           ·
            show Act.put _ (some 54) _ = _
            simp only [Act.put, aput]
            rfl
           refine pure_ (i := 9) (N := some 55) (v := ?_) (a' := ?_) (bm 20 32767) rfl rfl (any_of HT_.out (by kernel_rfl)) (fun _ _ _ h => h) (Or.inl ⟨by rfl, ?_⟩) ?_ ?_
           rotate_left
           ·
            intro w'
            go_simp
            with_reducible rfl
           rotate_left
           ·
            simp only [Act.put, aput]
            rfl
           refine pure_ (i := 15) (N := some 61) (v := ?_) (a' := ?_) (bm 20 65535) rfl rfl (any_of HT_.out (by kernel_rfl)) (fun _ _ _ h => h) (Or.inl ⟨by rfl, ?_⟩) ?_ ?_
           rotate_left
           ·
            intro w'
            go_simp
            with_reducible rfl
           rotate_left
           ·
            simp only [Act.put, aput]
            rfl
           refine pure_ (i := 16) (N := some 62) (v := ?_) (a' := ?_) (bm 20 131071) rfl rfl (any_of HT_.out (by kernel_rfl)) (fun _ _ _ h => h) (Or.inl ⟨by rfl, ?_⟩) ?_ ?_
           rotate_left
           ·
            intro w'
            go_simp
            with_reducible rfl
           rotate_left
           ·
            simp only [Act.put, aput]
            rfl
           refine pure_ (i := 17) (N := some 63) (v := ?_) (a' := ?_) (bm 20 262143) rfl rfl (any_of HT_.out (by kernel_rfl)) (fun _ _ _ h => h) (Or.inl ⟨by rfl, ?_⟩) ?_ ?_
           rotate_left
           ·
            intro w'
            go_simp
            with_reducible rfl
           rotate_left
           ·
            simp only [Act.put, aput]
            rfl
           refine pure_ (i := 18) (N := some 64) (v := ?_) (a' := ?_) (bm 20 524287) rfl rfl (any_of HT_.out (by kernel_rfl)) (fun _ _ _ h => h) (Or.inl ⟨by rfl, ?_⟩) ?_ ?_
           rotate_left
           ·
            intro w'
            go_simp
            with_reducible rfl
           rotate_left
           ·
            simp only [Act.put, aput]
            rfl
           refine last_ (i := 19) (N := none) (bm 20 1048575) rfl rfl (one_of HT_.out (by kernel_rfl)) (by decide) (fun K hK => ?_)
           refine skip_ (w1 := ?_) (by rfl) rfl ?_ ?_
           rotate_left
           ·
            go_simp
            rfl
           refine hK.out _ _ ?_
           clear hK K
           refine done_ (done_of HT_.out (by kernel_rfl)) ?_
           try go_wp2
           (try simp only [← hl8_1])
           go_roundg kj8
           case measure => have := HK1.out; have := HJ8.out; omega
           case rel => exact ⟨(y161), (x8_1), (wrap64 (x10_1 + 1)), (by first | rfl | (simp; done) | (simp [*]; done)), H', ⟨by have := HK1.out; have := HJ8.out; omega⟩, ⟨by (try simp only [hl8_1]); (with_reducible repeat (first | apply Kd.R_alloc | apply Kd.R_drewN | apply Kd.R_drew)); exact Kd.R_mono HQ44.out (fun _ hk => hk.1)⟩, ⟨by (try simp only [hl8_1]); (with_reducible repeat (first | apply Kd.R_alloc | apply Kd.R_drewN | apply Kd.R_drew)); exact Kd.R_mono (Kd.R_far (p := ⟨go40, ((ji34) : Int).toNat * 2 + 1, none⟩) (Kd.R_mono HO_8.out (fun k_ hk => (⟨hk, fun e_ => hk.1 (by rw [e_]; rfl)⟩ : _ ∧ k_ ≠ go40))) (fun _ hk => hk.2) (.int .u64 (IntKind.u64.wrap ((IntKind.u64.wrap ((ji39) - ((rd_T29 x3_1 (ji34)).f0))) + 1)))) (fun _ hk => hk.1.1)⟩, ⟨by repeat (first | (with_reducible first | exact HB.out | apply eA | apply eN | apply eD | refine below_set ?_ GB40.out | refine below_set ?_ GE150.out) | exact HB.out)⟩⟩
          ·
           rw [if_neg c36] at H
           exact absurd H (by simp)
         ·
          rw [if_neg c35] at H
          exact absurd H (by simp)
     ·
      rw [if_neg c7] at H
      exact absurd H (by simp)
    ·
     rw [if_neg c6] at H
     exact absurd H (by simp)
   ·
    rw [if_neg c5] at H
    have c5b0 : decide (x10_1 < (t146.length : Int)) = false := decide_eq_false c5
    (try simp only [hl8_1] at c5b0)
    clear c5
    obtain rfl := Option.some.inj H
    go_wp2
    go_ret
    exact ⟨_, by first | rfl | (simp [errW_none, errW_some] <;> rfl) | (simp [*, errW_none, errW_some] <;> rfl), by (with_reducible repeat (first | apply Kd.R_alloc | apply Kd.R_drewN | apply Kd.R_drew)); exact Kd.R_mono HO_3.out (fun _ hk => trivial), by repeat (first | (with_reducible first | exact HB.out | apply below_alloc | apply pw_below_drewN | apply below_drew1) | exact HB.out)⟩

end Go.Proofs.Yteoeohkjomehoaa.Q
