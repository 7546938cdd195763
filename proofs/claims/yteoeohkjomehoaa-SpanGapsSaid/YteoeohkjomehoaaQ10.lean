/- What Go functions of the program compute, each as a Lean function with the proof that the call returns just that. No condition but those in the statements. -/
import Derived.Test.YteoeohkjomehoaaQ0
import Derived.Test.YteoeohkjomehoaaQ2
import Derived.Test.YteoeohkjomehoaaQ4
import Derived.Test.YteoeohkjomehoaaQ9
namespace Go.Proofs.Yteoeohkjomehoaa.Q
open Go.RowKit Go.Proofs.YteoeohkjomehoaaW.PrintWords Go.Proofs.YteoeohkjomehoaaW.PrintLast Go.Proofs.YteoeohkjomehoaaW.PrintMore
attribute [local go_sem] max2_int min2_int max_two min_two max_three min_three max_four min_four   -- for this text's walks alone
set_option linter.unusedVariables false
set_option linter.unusedSimpArgs false

/-! ### graverlaw02_SpanGaps: function 3 -/
mutual
def graverlaw02_SpanGaps.j1 : Nat → Int → List (S29) → List (S30) → Option (Bool)
 | 0, _, _, _ => none
 | k + 1, x0, x5, x6 => (span_Gaps.f k (IntKind.u64.wrap (x0)) x5).bind fun t215 => ((graverref02_Gaps.f k (IntKind.u64.wrap (x0)) x6).bind fun t218 => (if (t215.length : Int) = (t218.length : Int) then (graverlaw02_SpanGaps.l1 k x5 x6 t215 t218 0) else (some false)))
def graverlaw02_SpanGaps.l1 : Nat → List (S29) → List (S30) → List (S29) → List (S30) → Int → Option (Bool)
 | 0, _, _, _, _, _ => none
 | k + 1, x5, x6, x8, x9, x10 => if x10 < (x8.length : Int) then (if 0 ≤ x10 then (if x10 < (x9.length : Int) then (if ((rd_T29 x8 x10).f0) = ((rd_T30 x9 x10).f0) then (if ((rd_T29 x8 x10).f1) = ((rd_T30 x9 x10).f1) then (graverlaw02_SpanGaps.l1 k x5 x6 x8 x9 (wrap64 (x10 + 1))) else (some false)) else (some false)) else (none)) else (none)) else (graverlaw02_SpanGaps.l2 k x5 x6 false 0)
def graverlaw02_SpanGaps.l2 : Nat → List (S29) → List (S30) → Bool → Int → Option (Bool)
 | 0, _, _, _, _ => none
 | k + 1, x5, x6, x11, x12 => if x12 < (x6.length : Int) then (graverlaw02_SpanGaps.l3 k x5 x6 x11 x12 0) else ((span_Clash.f k x5).bind fun t225 => (if x11 = true then (some t225) else (some (!t225))))
def graverlaw02_SpanGaps.l3 : Nat → List (S29) → List (S30) → Bool → Int → Int → Option (Bool)
 | 0, _, _, _, _, _ => none
 | k + 1, x5, x6, x11, x12, x13 => if x13 < x12 then (if 0 ≤ x12 then (if x12 < (x6.length : Int) then (if ((rd_T30 x6 x12).f1) > 0 then (if 0 ≤ x13 then (if x13 < (x6.length : Int) then (if ((rd_T30 x6 x13).f1) > 0 then ((graverref02_Has.f ((rd_T30 x6 x12).f0) ((rd_T30 x6 x12).f1) ((rd_T30 x6 x13).f0)).bind fun t230 => (if t230 = true then (graverlaw02_SpanGaps.l3 k x5 x6 true x12 (wrap64 (x13 + 1))) else ((graverref02_Has.f ((rd_T30 x6 x13).f0) ((rd_T30 x6 x13).f1) ((rd_T30 x6 x12).f0)).bind fun t233 => (if t233 = true then (graverlaw02_SpanGaps.l3 k x5 x6 true x12 (wrap64 (x13 + 1))) else (graverlaw02_SpanGaps.l3 k x5 x6 x11 x12 (wrap64 (x13 + 1))))))) else (graverlaw02_SpanGaps.l3 k x5 x6 x11 x12 (wrap64 (x13 + 1)))) else (none)) else (none)) else (graverlaw02_SpanGaps.l3 k x5 x6 x11 x12 (wrap64 (x13 + 1)))) else (none)) else (none)) else (graverlaw02_SpanGaps.l2 k x5 x6 x11 (wrap64 (x12 + 1)))
def graverlaw02_SpanGaps.l0 : Nat → Int → List (S27) → List (S29) → List (S30) → Int → Option (Bool)
 | 0, _, _, _, _, _ => none
 | k + 1, x0, x1, x5, x6, x7 => if x7 < (x1.length : Int) then (if x7 < 12 then (if 0 ≤ x7 then ((some (([(⟨(rd_T27 x1 x7).f0, (rd_T27 x1 x7).f1⟩ : S29)] : List (S29)) : List (S29))).bind fun y201 => (if x5.length + y201.length < 8796093022208 then ((some (([(⟨(rd_T27 x1 x7).f0, (rd_T27 x1 x7).f1⟩ : S30)] : List (S30)) : List (S30))).bind fun y209 => (if x6.length + y209.length < 8796093022208 then (graverlaw02_SpanGaps.l0 k x0 x1 (x5 ++ y201) (x6 ++ y209) (wrap64 (x7 + 1))) else (none))) else (none))) else (none)) else (graverlaw02_SpanGaps.j1 k x0 x5 x6)) else (graverlaw02_SpanGaps.j1 k x0 x5 x6)
end
def graverlaw02_SpanGaps.f (k : Nat) (a0 : Int) (l1 : List (S27)) : Option (Bool) := (graverlaw02_speaks.f k).bind fun t198 => (if t198 = true then (graverlaw02_SpanGaps.l0 k (Go.bits .and .i64 a0 127) l1 ([] : List (S29)) ([] : List (S30)) 0) else (some false))
theorem graverlaw02_SpanGaps.mono_l : ∀ k, (∀ y0 y1 y2, LeO (graverlaw02_SpanGaps.j1 k y0 y1 y2) (graverlaw02_SpanGaps.j1 (k + 1) y0 y1 y2)) ∧ (∀ y0 y1 y2 y3 y4, LeO (graverlaw02_SpanGaps.l1 k y0 y1 y2 y3 y4) (graverlaw02_SpanGaps.l1 (k + 1) y0 y1 y2 y3 y4)) ∧ (∀ y0 y1 y2 y3, LeO (graverlaw02_SpanGaps.l2 k y0 y1 y2 y3) (graverlaw02_SpanGaps.l2 (k + 1) y0 y1 y2 y3)) ∧ (∀ y0 y1 y2 y3 y4, LeO (graverlaw02_SpanGaps.l3 k y0 y1 y2 y3 y4) (graverlaw02_SpanGaps.l3 (k + 1) y0 y1 y2 y3 y4)) ∧ (∀ y0 y1 y2 y3 y4, LeO (graverlaw02_SpanGaps.l0 k y0 y1 y2 y3 y4) (graverlaw02_SpanGaps.l0 (k + 1) y0 y1 y2 y3 y4))
 | 0 => ⟨fun _ _ _ r h => by simp [graverlaw02_SpanGaps.j1] at h, fun _ _ _ _ _ r h => by simp [graverlaw02_SpanGaps.l1] at h, fun _ _ _ _ r h => by simp [graverlaw02_SpanGaps.l2] at h, fun _ _ _ _ _ r h => by simp [graverlaw02_SpanGaps.l3] at h, fun _ _ _ _ _ r h => by simp [graverlaw02_SpanGaps.l0] at h⟩
 | k + 1 => by
  obtain ⟨ih0, ih1, ih2, ih3, ih4⟩ := graverlaw02_SpanGaps.mono_l k
  refine ⟨?_, ?_, ?_, ?_, ?_⟩
  ·
   intro y0 y1 y2
   unfold graverlaw02_SpanGaps.j1
   repeat' first
   | (with_reducible exact ih0 _ _ _)
   | (with_reducible exact ih1 _ _ _ _ _)
   | (with_reducible exact ih2 _ _ _ _)
   | (with_reducible exact ih3 _ _ _ _ _)
   | (with_reducible exact ih4 _ _ _ _ _)
   | (with_reducible exact graverlaw02_speaks.mono _)
   | (with_reducible exact graverref02_Gaps.mono _ _ _)
   | (with_reducible exact span_Clash.mono _ _)
   | (with_reducible exact span_Gaps.mono _ _ _)
   | (with_reducible exact LeO.refl _)
   | (with_reducible exact LeO.none _)
   | (with_reducible refine LeO.ite ?_ ?_)
   | (with_reducible refine LeO.bind ?_ (fun _ => ?_))
   | exact ih0 _ _ _
   | exact ih1 _ _ _ _ _
   | exact ih2 _ _ _ _
   | exact ih3 _ _ _ _ _
   | exact ih4 _ _ _ _ _
   | exact graverlaw02_speaks.mono _
   | exact graverref02_Gaps.mono _ _ _
   | exact span_Clash.mono _ _
   | exact span_Gaps.mono _ _ _
   | exact LeO.none _
   | refine LeO.ite ?_ ?_
   | refine LeO.bind ?_ (fun _ => ?_)
  ·
   intro y0 y1 y2 y3 y4
   unfold graverlaw02_SpanGaps.l1
   repeat' first
   | (with_reducible exact ih0 _ _ _)
   | (with_reducible exact ih1 _ _ _ _ _)
   | (with_reducible exact ih2 _ _ _ _)
   | (with_reducible exact ih3 _ _ _ _ _)
   | (with_reducible exact ih4 _ _ _ _ _)
   | (with_reducible exact graverlaw02_speaks.mono _)
   | (with_reducible exact graverref02_Gaps.mono _ _ _)
   | (with_reducible exact span_Clash.mono _ _)
   | (with_reducible exact span_Gaps.mono _ _ _)
   | (with_reducible exact LeO.refl _)
   | (with_reducible exact LeO.none _)
   | (with_reducible refine LeO.ite ?_ ?_)
   | (with_reducible refine LeO.bind ?_ (fun _ => ?_))
   | exact ih0 _ _ _
   | exact ih1 _ _ _ _ _
   | exact ih2 _ _ _ _
   | exact ih3 _ _ _ _ _
   | exact ih4 _ _ _ _ _
   | exact graverlaw02_speaks.mono _
   | exact graverref02_Gaps.mono _ _ _
   | exact span_Clash.mono _ _
   | exact span_Gaps.mono _ _ _
   | exact LeO.none _
   | refine LeO.ite ?_ ?_
   | refine LeO.bind ?_ (fun _ => ?_)
  ·
   intro y0 y1 y2 y3
   unfold graverlaw02_SpanGaps.l2
   repeat' first
   | (with_reducible exact ih0 _ _ _)
   | (with_reducible exact ih1 _ _ _ _ _)
   | (with_reducible exact ih2 _ _ _ _)
   | (with_reducible exact ih3 _ _ _ _ _)
   | (with_reducible exact ih4 _ _ _ _ _)
   | (with_reducible exact graverlaw02_speaks.mono _)
   | (with_reducible exact graverref02_Gaps.mono _ _ _)
   | (with_reducible exact span_Clash.mono _ _)
   | (with_reducible exact span_Gaps.mono _ _ _)
   | (with_reducible exact LeO.refl _)
   | (with_reducible exact LeO.none _)
   | (with_reducible refine LeO.ite ?_ ?_)
   | (with_reducible refine LeO.bind ?_ (fun _ => ?_))
   | exact ih0 _ _ _
   | exact ih1 _ _ _ _ _
   | exact ih2 _ _ _ _
   | exact ih3 _ _ _ _ _
   | exact ih4 _ _ _ _ _
   | exact graverlaw02_speaks.mono _
   | exact graverref02_Gaps.mono _ _ _
   | exact span_Clash.mono _ _
   | exact span_Gaps.mono _ _ _
   | exact LeO.none _
   | refine LeO.ite ?_ ?_
   | refine LeO.bind ?_ (fun _ => ?_)
  ·
   intro y0 y1 y2 y3 y4
   unfold graverlaw02_SpanGaps.l3
   repeat' first
   | (with_reducible exact ih0 _ _ _)
   | (with_reducible exact ih1 _ _ _ _ _)
   | (with_reducible exact ih2 _ _ _ _)
   | (with_reducible exact ih3 _ _ _ _ _)
   | (with_reducible exact ih4 _ _ _ _ _)
   | (with_reducible exact graverlaw02_speaks.mono _)
   | (with_reducible exact graverref02_Gaps.mono _ _ _)
   | (with_reducible exact span_Clash.mono _ _)
   | (with_reducible exact span_Gaps.mono _ _ _)
   | (with_reducible exact LeO.refl _)
   | (with_reducible exact LeO.none _)
   | (with_reducible refine LeO.ite ?_ ?_)
   | (with_reducible refine LeO.bind ?_ (fun _ => ?_))
   | exact ih0 _ _ _
   | exact ih1 _ _ _ _ _
   | exact ih2 _ _ _ _
   | exact ih3 _ _ _ _ _
   | exact ih4 _ _ _ _ _
   | exact graverlaw02_speaks.mono _
   | exact graverref02_Gaps.mono _ _ _
   | exact span_Clash.mono _ _
   | exact span_Gaps.mono _ _ _
   | exact LeO.none _
   | refine LeO.ite ?_ ?_
   | refine LeO.bind ?_ (fun _ => ?_)
  ·
   intro y0 y1 y2 y3 y4
   unfold graverlaw02_SpanGaps.l0
   repeat' first
   | (with_reducible exact ih0 _ _ _)
   | (with_reducible exact ih1 _ _ _ _ _)
   | (with_reducible exact ih2 _ _ _ _)
   | (with_reducible exact ih3 _ _ _ _ _)
   | (with_reducible exact ih4 _ _ _ _ _)
   | (with_reducible exact graverlaw02_speaks.mono _)
   | (with_reducible exact graverref02_Gaps.mono _ _ _)
   | (with_reducible exact span_Clash.mono _ _)
   | (with_reducible exact span_Gaps.mono _ _ _)
   | (with_reducible exact LeO.refl _)
   | (with_reducible exact LeO.none _)
   | (with_reducible refine LeO.ite ?_ ?_)
   | (with_reducible refine LeO.bind ?_ (fun _ => ?_))
   | exact ih0 _ _ _
   | exact ih1 _ _ _ _ _
   | exact ih2 _ _ _ _
   | exact ih3 _ _ _ _ _
   | exact ih4 _ _ _ _ _
   | exact graverlaw02_speaks.mono _
   | exact graverref02_Gaps.mono _ _ _
   | exact span_Clash.mono _ _
   | exact span_Gaps.mono _ _ _
   | exact LeO.none _
   | refine LeO.ite ?_ ?_
   | refine LeO.bind ?_ (fun _ => ?_)
theorem graverlaw02_SpanGaps.mono : ∀ a0 a1 k, LeO (graverlaw02_SpanGaps.f k a0 a1) (graverlaw02_SpanGaps.f (k + 1) a0 a1) := by
 intro a0 a1 k
 obtain ⟨ih0, ih1, ih2, ih3, ih4⟩ := graverlaw02_SpanGaps.mono_l k
 unfold graverlaw02_SpanGaps.f
 repeat' first
   | (with_reducible exact ih0 _ _ _)
   | (with_reducible exact ih1 _ _ _ _ _)
   | (with_reducible exact ih2 _ _ _ _)
   | (with_reducible exact ih3 _ _ _ _ _)
   | (with_reducible exact ih4 _ _ _ _ _)
   | (with_reducible exact graverlaw02_speaks.mono _)
   | (with_reducible exact graverref02_Gaps.mono _ _ _)
   | (with_reducible exact span_Clash.mono _ _)
   | (with_reducible exact span_Gaps.mono _ _ _)
   | (with_reducible exact LeO.refl _)
   | (with_reducible exact LeO.none _)
   | (with_reducible refine LeO.ite ?_ ?_)
   | (with_reducible refine LeO.bind ?_ (fun _ => ?_))
   | exact ih0 _ _ _
   | exact ih1 _ _ _ _ _
   | exact ih2 _ _ _ _
   | exact ih3 _ _ _ _ _
   | exact ih4 _ _ _ _ _
   | exact graverlaw02_speaks.mono _
   | exact graverref02_Gaps.mono _ _ _
   | exact span_Clash.mono _ _
   | exact span_Gaps.mono _ _ _
   | exact LeO.none _
   | refine LeO.ite ?_ ?_
   | refine LeO.bind ?_ (fun _ => ?_)
def graverlaw02_SpanGaps.T9 : Bool × List (List Nat × List Nat) := (true, [([], []), ([], []), ([], []), ([1, 2], [1, 2]), ([3], [3]), ([4], [4]), ([], []), ([], []), ([6, 7], [6, 7]), ([8], [8]), ([9], [9]), ([5, 10], [5, 10]), ([11], [11]), ([0, 12], [0, 12]), ([], []), ([], []), ([], []), ([15, 16], [15, 16]), ([17], [17]), ([18], [18]), ([], []), ([], []), ([20, 21], [20, 21]), ([22], [22]), ([23], [23]), ([19, 24], [19, 24]), ([25], [25]), ([14, 26, 13], [14, 26]), ([13, 27, 0, 1, 2, 3, 4, 5, 6, 7, 8, 9, 10, 11, 12, 13], [0, 13]), ([27, 28, 0, 1, 2, 3, 4, 5, 6, 7, 8, 9, 10, 11, 12, 13, 14, 15, 16, 17, 18, 19, 20, 21, 22, 23, 24, 25, 26, 27, 28], [14, 27])])
def graverlaw02_SpanGaps.B9 : List Nat := [0, 0, 0, 6, 14, 30, 0, 0, 192, 448, 960, 2046, 4094, 8191, 0, 0, 0, 98304, 229376, 491520, 0, 0, 3145728, 7340032, 15728640, 33521664, 67076096, 134217727, 268435455, 536870911]
theorem graverlaw02_SpanGaps.tab9 : rtab .any (opsOf Try.f3 9) = graverlaw02_SpanGaps.T9 := by kernel_rfl
theorem graverlaw02_SpanGaps.bits9 : waitsOk graverlaw02_SpanGaps.T9.2 graverlaw02_SpanGaps.B9 = true := by kernel_rfl
def graverlaw02_SpanGaps.T16 : Bool × List (List Nat × List Nat) := (true, [([], []), ([], []), ([0, 1], [0, 1]), ([2], [2]), ([3], [3]), ([], []), ([], []), ([5, 6], [5, 6]), ([7], [7]), ([8], [8]), ([4, 9], [4, 9]), ([10], [10]), ([11], [11]), ([11], [11]), ([12, 13, 11], [11, 12, 13]), ([14, 11], [11, 14]), ([15, 11], [11, 15]), ([11], [11]), ([11], [11]), ([17, 18, 11], [11, 17, 18]), ([19, 11], [11, 19]), ([20, 11], [11, 20]), ([16, 21, 11], [11, 16, 21]), ([11, 22], [11, 22])])
def graverlaw02_SpanGaps.B16 : List Nat := [0, 0, 3, 7, 15, 0, 0, 96, 224, 480, 1023, 2047, 4095, 4095, 16383, 32767, 65535, 4095, 4095, 397311, 921599, 1970175, 4194303, 8388607]
theorem graverlaw02_SpanGaps.tab16 : rtab .any (opsOf Try.f3 16) = graverlaw02_SpanGaps.T16 := by kernel_rfl
theorem graverlaw02_SpanGaps.bits16 : waitsOk graverlaw02_SpanGaps.T16.2 graverlaw02_SpanGaps.B16 = true := by kernel_rfl
def graverlaw02_SpanGaps.T25 : Bool × List (List Nat × List Nat) := (true, [([], []), ([], []), ([0, 1], [0, 1]), ([2], [2]), ([3], [3]), ([4], [4]), ([5], [5]), ([6], [6]), ([6], [6]), ([7, 8, 6], [6, 7, 8]), ([9, 6], [6, 9]), ([10, 6], [6, 10]), ([11, 6], [6, 11]), ([6, 12], [6, 12]), ([13, 6], [13]), ([14], [14]), ([14], [14]), ([15, 16, 14], [14, 15, 16]), ([17, 14], [14, 17]), ([14], [14]), ([14], [14]), ([19, 20, 14], [14, 19, 20]), ([21, 14], [14, 21]), ([22, 14], [14, 22]), ([18, 23, 14, 14], [14, 18, 23]), ([24, 24, 14], [14, 24]), ([25], [25]), ([25], [25]), ([26, 27, 25], [25, 26, 27]), ([28, 25], [25, 28]), ([25], [25]), ([25], [25]), ([30, 31, 25], [25, 30, 31]), ([32, 25], [25, 32]), ([33, 25], [25, 33]), ([29, 34, 25, 25], [25, 29, 34]), ([25, 35, 14], [14, 25, 35]), ([14, 36], [14, 36])])
def graverlaw02_SpanGaps.B25 : List Nat := [0, 0, 3, 7, 15, 31, 63, 127, 127, 511, 1023, 2047, 4095, 8191, 16383, 32767, 32767, 131071, 262143, 32767, 32767, 1605631, 3702783, 7897087, 16777215, 33554431, 67108863, 67108863, 268435455, 536870911, 67108863, 67108863, 3288334335, 7583301631, 16173236223, 34359738367, 68719476735, 137438953471]
theorem graverlaw02_SpanGaps.tab25 : rtab .any (opsOf Try.f3 25) = graverlaw02_SpanGaps.T25 := by kernel_rfl
theorem graverlaw02_SpanGaps.bits25 : waitsOk graverlaw02_SpanGaps.T25.2 graverlaw02_SpanGaps.B25 = true := by kernel_rfl
set_option maxHeartbeats 8000000 in
set_option maxRecDepth 100000 in
theorem graverlaw02_SpanGaps.calls (k : Nat) (a0 : Int) (A1 : Option Addr) (c1 : Nat) (l1 : List (S27)) (r : Bool) (w : World) (hrt : r = true) (hr1 : Kd.C k27 w A1 l1.length l1) (hc1 : l1.length ≤ c1) (h : graverlaw02_SpanGaps.f k a0 l1 = some r) :
  Calls Try.prog 3 #[.int .i64 a0, .slice A1 l1.length c1] w fun e w' => e = .returned (.bool r) ∧ Below w.heap.size w w' := by
 have hu29 := Try.underlying29
 have hu30 := Try.underlying30
 have HR1 := aS hr1
 have HC1 := aS hc1
 clear hr1 hc1
 have HB := aS (Below.refl w.heap.size w)
 have HRT := aS hrt
 clear hrt
 have H : ((graverlaw02_speaks.f k).bind fun t198 => (if t198 = true then (graverlaw02_SpanGaps.l0 k (Go.bits .and .i64 a0 127) l1 ([] : List (S29)) ([] : List (S30)) 0) else (some false))) = some r := h
 clear h
 replace H := Option.bind_eq_some_iff.mp H
 obtain ⟨t198, A30, H⟩ := H
 replace H : (if t198 = true then (graverlaw02_SpanGaps.l0 k (Go.bits .and .i64 a0 127) l1 ([] : List (S29)) ([] : List (S30)) 0) else (some false)) = some r := H
 have A3 := aS A30
 clear A30
 by_cases c4 : t198 = true
 ·
  subst c4
  have H1 : (graverlaw02_SpanGaps.l0 k (Go.bits .and .i64 a0 127) l1 ([] : List (S29)) ([] : List (S30)) 0) = some r := by rw [if_pos rfl] at H; exact H
  clear H
  have H := H1
  clear H1
  have HC5 := aS H
  clear H
  go_enter Try.func3, Try.ntmps3
  go_upto_block 0 with (first | ((with_reducible refine gate_callee (f := 7) rfl ?_); refine goesL_ (some 14) rfl rfl Try.func7 (by kernel_rfl) rfl #[] rfl (by (try simp only [List.map_toArray, List.map_cons, List.map_nil]); first | done | rfl | (simp only [List.length_drop, List.length_take]; rfl)) ?_; (with_reducible refine (graverlaw02_speaks.calls k  true _ A3.out).mono ?_); rintro e w6 ⟨rfl, hb⟩; refine ⟨_, rfl, ?_⟩; have n0_ := aS (below_step (by repeat (first | (with_reducible first | exact HB.out | apply below_alloc | apply pw_below_drewN | apply below_drew1) | exact HB.out)) hb); clear HB; have HB := n0_; clear n0_; (try clear hb); (try clear hb2); (try clear hk); (try clear hi)))
  (try simp only [Act.put, List.setIfInBounds_toArray, List.set_cons_zero, List.set_cons_succ])
  go_cut [5, 6] (fun v5 v6 wc => ∃ (kq : Nat) (x5_4 : List (S29)) (x6_4 : List (S30)), Aside0 (graverlaw02_SpanGaps.j1 kq (Go.bits .and .i64 a0 127) x5_4 x6_4 = some r) ∧ Aside0 (kq ≤ k) ∧ Aside0 (Kd.R k29 29 wc w.heap.size (fun _ => True) v5 x5_4) ∧ Aside0 (Kd.R k30 30 wc w.heap.size (fun _ => True) v6 x6_4) ∧ Aside0 (Below w.heap.size w wc))
  case first =>
   have H := HC5.out
   clear HC5
   have H' := aS H
   clear H
   go_wp2
   go_loopg [5, 6, 7] k (fun kq v5 v6 v7 w' => ∃ (x5_1 : List (S29)) (x6_1 : List (S30)) (x7_1 : Int), v7 = .int .i64 x7_1 ∧ Aside0 (graverlaw02_SpanGaps.l0 kq (Go.bits .and .i64 a0 127) l1 x5_1 x6_1 x7_1 = some r) ∧ Aside0 (kq ≤ k) ∧ Aside0 (Kd.R k29 29 w' w.heap.size (fun _ => True) v5 x5_1) ∧ Aside0 (Kd.R k30 30 w' w.heap.size (fun _ => True) v6 x6_1) ∧ Aside0 (Below w.heap.size w w'))
   case atStart => exact ⟨(([] : List (S29))), (([] : List (S30))), (0), (by first | rfl | (simp; done) | (simp [*]; done)), H', ⟨Nat.le_refl _⟩, ⟨by first | exact Kd.R_nil _ _ _ _ _ | exact Kd.N_nil _ _ _ _ _ | exact Kd.V_nil _ _ _ _ _ | exact Kd.Q_nil _ _ _ _ _ | exact Kd.S_nil _ _ _ _ _⟩, ⟨by first | exact Kd.R_nil _ _ _ _ _ | exact Kd.N_nil _ _ _ _ _ | exact Kd.V_nil _ _ _ _ _ | exact Kd.Q_nil _ _ _ _ _ | exact Kd.S_nil _ _ _ _ _⟩, ⟨by repeat (first | (with_reducible first | exact HB.out | apply below_alloc | apply pw_below_drewN | apply below_drew1) | exact HB.out)⟩⟩
   case round =>
    clear H'
    try clear c1
    try clear p2
    try clear c3
    try clear c4
    obtain ⟨x5_1, x6_1, x7_1, rfl, HA, HK1, HO_5, HO_6, HB⟩ := hrel
    cases gk with
    | zero => exact absurd HA.out (by simp [graverlaw02_SpanGaps.l0])
    | succ k1 =>
     have H := HA.out
     clear HA
     simp only [graverlaw02_SpanGaps.l0] at H
     by_cases c7 : x7_1 < (l1.length : Int)
     ·
      rw [if_pos c7] at H
      have c7b0 : decide (x7_1 < (l1.length : Int)) = true := decide_eq_true c7
      clear c7
      (first | rw [c7b0] | (simp only [i64_w, i32_w]; rw [c7b0]) | skip)
      by_cases c8 : x7_1 < 12
      ·
       rw [if_pos c8] at H
       have c8b0 : decide (x7_1 < 12) = true := decide_eq_true c8
       clear c8
       by_cases c9 : 0 ≤ x7_1
       ·
        rw [if_pos c9] at H
        have c9b0 : decide (0 ≤ x7_1) = true := decide_eq_true c9
        clear c9
        obtain ⟨y201, hy201⟩ : ∃ y_ : List (S29), y_ = (([(⟨(rd_T27 l1 x7_1).f0, (rd_T27 l1 x7_1).f1⟩ : S29)] : List (S29))) := ⟨_, rfl⟩
        replace H : (if x5_1.length + y201.length < 8796093022208 then ((some (([(⟨(rd_T27 l1 x7_1).f0, (rd_T27 l1 x7_1).f1⟩ : S30)] : List (S30)) : List (S30))).bind fun y209 => (if x6_1.length + y209.length < 8796093022208 then (graverlaw02_SpanGaps.l0 k1 (Go.bits .and .i64 a0 127) l1 (x5_1 ++ y201) (x6_1 ++ y209) (wrap64 (x7_1 + 1))) else (none))) else (none)) = some r := by first | (rw [hy201]; with_reducible exact H) | (have H2_ := (Option.bind_some _ _).symm.trans H; rw [hy201]; with_reducible exact H2_) | (have H2_ := (Option.bind_some _ _).symm.trans H; with_reducible exact H2_) | with_reducible exact H | (rw [hy201]; exact H) | exact H
        have Ny201 := aS hy201
        clear hy201
        by_cases c10 : x5_1.length + y201.length < 8796093022208
        ·
         rw [if_pos c10] at H
         have LMc10 := aS c10
         clear c10
         obtain ⟨y204, hy204⟩ : ∃ y_ : List (S29), y_ = (x5_1 ++ y201) := ⟨_, rfl⟩
         replace H : ((some (([(⟨(rd_T27 l1 x7_1).f0, (rd_T27 l1 x7_1).f1⟩ : S30)] : List (S30)) : List (S30))).bind fun y209 => (if x6_1.length + y209.length < 8796093022208 then (graverlaw02_SpanGaps.l0 k1 (Go.bits .and .i64 a0 127) l1 y204 (x6_1 ++ y209) (wrap64 (x7_1 + 1))) else (none))) = some r := by first | (rw [hy204]; with_reducible exact H) | (have H2_ := (Option.bind_some _ _).symm.trans H; rw [hy204]; with_reducible exact H2_) | (have H2_ := (Option.bind_some _ _).symm.trans H; with_reducible exact H2_) | with_reducible exact H | (rw [hy204]; exact H) | exact H
         have Ny204 := aS hy204
         clear hy204
         obtain ⟨y209, hy209⟩ : ∃ y_ : List (S30), y_ = (([(⟨(rd_T27 l1 x7_1).f0, (rd_T27 l1 x7_1).f1⟩ : S30)] : List (S30))) := ⟨_, rfl⟩
         replace H : (if x6_1.length + y209.length < 8796093022208 then (graverlaw02_SpanGaps.l0 k1 (Go.bits .and .i64 a0 127) l1 y204 (x6_1 ++ y209) (wrap64 (x7_1 + 1))) else (none)) = some r := by first | (rw [hy209]; with_reducible exact H) | (have H2_ := (Option.bind_some _ _).symm.trans H; rw [hy209]; with_reducible exact H2_) | (have H2_ := (Option.bind_some _ _).symm.trans H; with_reducible exact H2_) | with_reducible exact H | (rw [hy209]; exact H) | exact H
         have Ny209 := aS hy209
         clear hy209
         by_cases c11 : x6_1.length + y209.length < 8796093022208
         ·
          rw [if_pos c11] at H
          have LMc11 := aS c11
          clear c11
          obtain ⟨y212, hy212⟩ : ∃ y_ : List (S30), y_ = (x6_1 ++ y209) := ⟨_, rfl⟩
          replace H : (graverlaw02_SpanGaps.l0 k1 (Go.bits .and .i64 a0 127) l1 y204 y212 (wrap64 (x7_1 + 1))) = some r := by first | (rw [hy212]; with_reducible exact H) | (have H2_ := (Option.bind_some _ _).symm.trans H; rw [hy212]; with_reducible exact H2_) | (have H2_ := (Option.bind_some _ _).symm.trans H; with_reducible exact H2_) | with_reducible exact H | (rw [hy212]; exact H) | exact H
          have Ny212 := aS hy212
          clear hy212
          have H' := aS H
          clear H
          obtain ⟨Ao12, co12, eo12⟩ := Kd.R_slice HO_5.out
          subst eo12
          obtain ⟨Ao13, co13, eo13⟩ := Kd.R_slice HO_6.out
          subst eo13
          try go_wp2
          have n0_ := aS (Kd.R_drew HO_5.out)
          have n1_ := aS (Kd.R_drew HO_6.out)
          have n2_ := aS (below_drew1 HB.out)
          clear HO_5
          clear HO_6
          clear HB
          have HO_5 := n0_
          have HO_6 := n1_
          have HB := n2_
          clear n0_ n1_ n2_
          have p199 : 0 ≤ (x7_1 : Int) := of_decide_eq_true (by first | (with_reducible assumption) | assumption)
          have q199 : x7_1 < (l1.length : Int) := of_decide_eq_true (by first | (with_reducible assumption) | assumption)
          obtain ⟨ad199, e199, hx199_0, hx199_1⟩ := at_T27 HR1.out x7_1 p199 q199
          have hw199_1 := hx199_1
          have hw199_0 := hx199_0
          cases e199
          replace hx199_0 := (HB.out.cell (World.block_lt_of_cell? w _ hx199_0)).trans hx199_0
          replace hx199_1 := (HB.out.cell (World.block_lt_of_cell? w _ hx199_1)).trans hx199_1
          replace p199 := eq_true p199
          replace q199 := eq_true q199
          have p200 : 0 ≤ (x7_1 : Int) := of_decide_eq_true (by first | (with_reducible assumption) | assumption)
          have q200 : x7_1 < (l1.length : Int) := of_decide_eq_true (by first | (with_reducible assumption) | assumption)
          obtain ⟨ad200, e200, hx200_0, hx200_1⟩ := at_T27 HR1.out x7_1 p200 q200
          have hw200_1 := hx200_1
          have hw200_0 := hx200_0
          obtain rfl : ad199 = ad200 := (by injection e200)
          replace hx200_0 := (HB.out.cell (World.block_lt_of_cell? w _ hx200_0)).trans hx200_0
          replace hx200_1 := (HB.out.cell (World.block_lt_of_cell? w _ hx200_1)).trans hx200_1
          replace p200 := eq_true p200
          replace q200 := eq_true q200
          have p207 : 0 ≤ (x7_1 : Int) := of_decide_eq_true (by first | (with_reducible assumption) | assumption)
          have q207 : x7_1 < (l1.length : Int) := of_decide_eq_true (by first | (with_reducible assumption) | assumption)
          obtain ⟨ad207, e207, hx207_0, hx207_1⟩ := at_T27 HR1.out x7_1 p207 q207
          have hw207_1 := hx207_1
          have hw207_0 := hx207_0
          obtain rfl : ad199 = ad207 := (by injection e207)
          replace hx207_0 := (HB.out.cell (World.block_lt_of_cell? w _ hx207_0)).trans hx207_0
          replace hx207_1 := (HB.out.cell (World.block_lt_of_cell? w _ hx207_1)).trans hx207_1
          replace p207 := eq_true p207
          replace q207 := eq_true q207
          have p208 : 0 ≤ (x7_1 : Int) := of_decide_eq_true (by first | (with_reducible assumption) | assumption)
          have q208 : x7_1 < (l1.length : Int) := of_decide_eq_true (by first | (with_reducible assumption) | assumption)
          obtain ⟨ad208, e208, hx208_0, hx208_1⟩ := at_T27 HR1.out x7_1 p208 q208
          have hw208_1 := hx208_1
          have hw208_0 := hx208_0
          obtain rfl : ad199 = ad208 := (by injection e208)
          replace hx208_0 := (HB.out.cell (World.block_lt_of_cell? w _ hx208_0)).trans hx208_0
          replace hx208_1 := (HB.out.cell (World.block_lt_of_cell? w _ hx208_1)).trans hx208_1
          replace p208 := eq_true p208
          replace q208 := eq_true q208
          refine start_ (n := 30) (S := fun w' => w'.cell? (ad199.add ((x7_1).toNat * 2)) = some (.int .u64 ((rd_T27 l1 x7_1).f0)) ∧ w'.cell? ⟨(ad199.add ((x7_1).toNat * 2)).block, (ad199.add ((x7_1).toNat * 2)).off + 1, none⟩ = some (.int .u64 ((rd_T27 l1 x7_1).f1)) ∧ w'.cell? (ad199.add ((x7_1).toNat * 2)) = some (.int .u64 ((rd_T27 l1 x7_1).f0)) ∧ w'.cell? ⟨(ad199.add ((x7_1).toNat * 2)).block, (ad199.add ((x7_1).toNat * 2)).off + 1, none⟩ = some (.int .u64 ((rd_T27 l1 x7_1).f1)) ∧ w'.cell? (ad199.add ((x7_1).toNat * 2)) = some (.int .u64 ((rd_T27 l1 x7_1).f0)) ∧ w'.cell? ⟨(ad199.add ((x7_1).toNat * 2)).block, (ad199.add ((x7_1).toNat * 2)).off + 1, none⟩ = some (.int .u64 ((rd_T27 l1 x7_1).f1)) ∧ w'.cell? (ad199.add ((x7_1).toNat * 2)) = some (.int .u64 ((rd_T27 l1 x7_1).f0)) ∧ w'.cell? ⟨(ad199.add ((x7_1).toNat * 2)).block, (ad199.add ((x7_1).toNat * 2)).off + 1, none⟩ = some (.int .u64 ((rd_T27 l1 x7_1).f1))) (ds := []) #[false, false, false, false, false, false, false, false, false, false, false, false, false, false, false, false, false, false, false, false, false, false, false, false, false, false, false, false, false, false] (by kernel_rfl) rfl rfl ⟨((HB.out.cell (World.block_lt_of_cell? w _ hw199_0)).trans hw199_0), ((HB.out.cell (World.block_lt_of_cell? w _ hw199_1)).trans hw199_1), ((HB.out.cell (World.block_lt_of_cell? w _ hw200_0)).trans hw200_0), ((HB.out.cell (World.block_lt_of_cell? w _ hw200_1)).trans hw200_1), ((HB.out.cell (World.block_lt_of_cell? w _ hw207_0)).trans hw207_0), ((HB.out.cell (World.block_lt_of_cell? w _ hw207_1)).trans hw207_1), ((HB.out.cell (World.block_lt_of_cell? w _ hw208_0)).trans hw208_0), ((HB.out.cell (World.block_lt_of_cell? w _ hw208_1)).trans hw208_1)⟩ (fun hHeld => ?_); refine with_tabW graverlaw02_SpanGaps.tab9 graverlaw02_SpanGaps.bits9 (fun HT_ HW_ => ?_)
          generalize wr.drew = w14 at HO_5 HO_6 HB hx199_0 hx199_1 hx200_0 hx200_1 hx207_0 hx207_1 hx208_0 hx208_1 hHeld ⊢
          refine pure_ (i := 0) (N := some 28) (v := ?_) (a' := ?_) (bm 30 1) rfl rfl (any_of HT_.out (by kernel_rfl)) (fun _ _ _ h => h) (Or.inl ⟨by rfl, ?_⟩) ?_ ?_
          rotate_left
          ·
           intro w'
           go_simp
           with_reducible rfl
          rotate_left
          ·
           simp only [Act.put, aput]
           rfl
          refine pure_ (i := 1) (N := some 29) (v := ?_) (a' := ?_) (bm 30 3) rfl rfl (any_of HT_.out (by kernel_rfl)) (fun _ _ _ h => h) (Or.inl ⟨by rfl, ?_⟩) ?_ ?_
          rotate_left
          ·
           intro w'
           go_simp
           with_reducible rfl
          rotate_left
          ·
           simp only [Act.put, aput]
           rfl
          refine pure_ (i := 2) (N := some 30) (v := ?_) (a' := ?_) (bm 30 7) rfl rfl (any_of HT_.out (by kernel_rfl)) (fun _ _ _ h => h) (Or.inl ⟨by rfl, ?_⟩) ?_ ?_
          rotate_left
          ·
           intro w'
           go_simp
           with_reducible rfl
          rotate_left
          ·
           simp only [Act.put, aput]
           rfl
          refine pure_ (i := 3) (N := some 31) (v := ?_) (a' := ?_) (bm 30 15) rfl rfl (any_of HT_.out (by kernel_rfl)) (fun _ _ _ h => h) (Or.inl ⟨by rfl, ?_⟩) ?_ ?_
          rotate_left
          ·
           intro w'
           go_simp
           with_reducible rfl
          rotate_left
          ·
           simp only [Act.put, aput]
           rfl
          refine pure_ (i := 4) (N := some 32) (v := ?_) (a' := ?_) (bm 30 31) rfl rfl (any_of HT_.out (by kernel_rfl)) (fun _ _ _ h => h) (Or.inl ⟨by rfl, ?_⟩) ?_ ?_
          rotate_left
          ·
           intro w'
           go_simp
           with_reducible rfl
          rotate_left
          ·
           simp only [Act.put, aput]
           rfl
          refine pure_ (i := 6) (N := some 34) (v := ?_) (a' := ?_) (bm 30 95) rfl rfl (any_of HT_.out (by kernel_rfl)) (fun _ _ _ h => h) (Or.inl ⟨by rfl, ?_⟩) ?_ ?_
          rotate_left
          ·
           intro w'
           go_simp
           with_reducible rfl
          rotate_left
          ·
           simp only [Act.put, aput]
           rfl
          refine pure_ (i := 7) (N := some 35) (v := ?_) (a' := ?_) (bm 30 223) rfl rfl (any_of HT_.out (by kernel_rfl)) (fun _ _ _ h => h) (Or.inl ⟨by rfl, ?_⟩) ?_ ?_
          rotate_left
          ·
           intro w'
           go_simp
           with_reducible rfl
          rotate_left
          ·
           simp only [Act.put, aput]
           rfl
          refine pure_ (i := 8) (N := some 36) (v := ?_) (a' := ?_) (bm 30 479) rfl rfl (any_of HT_.out (by kernel_rfl)) (fun _ _ _ h => h) (Or.inl ⟨by rfl, ?_⟩) ?_ ?_
          rotate_left
          ·
           intro w'
           go_simp
           with_reducible rfl
          rotate_left
          ·
           simp only [Act.put, aput]
           rfl
          refine pure_ (i := 9) (N := some 37) (v := ?_) (a' := ?_) (bm 30 991) rfl rfl (any_of HT_.out (by kernel_rfl)) (fun _ _ _ h => h) (Or.inl ⟨by rfl, ?_⟩) ?_ ?_
          rotate_left
          ·
           intro w'
           go_simp
           with_reducible rfl
          rotate_left
          ·
           simp only [Act.put, aput]
           rfl
          refine pure_ (i := 14) (N := some 42) (v := ?_) (a' := ?_) (bm 30 17375) rfl rfl (any_of HT_.out (by kernel_rfl)) (fun _ _ _ h => h) (Or.inl ⟨by rfl, ?_⟩) ?_ ?_
          rotate_left
          ·
           intro w'
           go_simp
           with_reducible rfl
          rotate_left
          ·
           simp only [Act.put, aput]
           rfl
          refine pure_ (i := 15) (N := some 43) (v := ?_) (a' := ?_) (bm 30 50143) rfl rfl (any_of HT_.out (by kernel_rfl)) (fun _ _ _ h => h) (Or.inl ⟨by rfl, ?_⟩) ?_ ?_
          rotate_left
          ·
           intro w'
           go_simp
           with_reducible rfl
          rotate_left
          ·
           simp only [Act.put, aput]
           rfl
          refine pure_ (i := 16) (N := some 44) (v := ?_) (a' := ?_) (bm 30 115679) rfl rfl (any_of HT_.out (by kernel_rfl)) (fun _ _ _ h => h) (Or.inl ⟨by rfl, ?_⟩) ?_ ?_
          rotate_left
          ·
           intro w'
           go_simp
           with_reducible rfl
          rotate_left
          ·
           simp only [Act.put, aput]
           rfl
          refine pure_ (i := 17) (N := some 45) (v := ?_) (a' := ?_) (bm 30 246751) rfl rfl (any_of HT_.out (by kernel_rfl)) (fun _ _ _ h => h) (Or.inl ⟨by rfl, ?_⟩) ?_ ?_
          rotate_left
          ·
           intro w'
           go_simp
           with_reducible rfl
          rotate_left
          ·
           simp only [Act.put, aput]
           rfl
          refine pure_ (i := 18) (N := some 46) (v := ?_) (a' := ?_) (bm 30 508895) rfl rfl (any_of HT_.out (by kernel_rfl)) (fun _ _ _ h => h) (Or.inl ⟨by rfl, ?_⟩) ?_ ?_
          rotate_left
          ·
           intro w'
           go_simp
           with_reducible rfl
          rotate_left
          ·
           simp only [Act.put, aput]
           rfl
          refine pure_ (i := 20) (N := some 48) (v := ?_) (a' := ?_) (bm 30 1557471) rfl rfl (any_of HT_.out (by kernel_rfl)) (fun _ _ _ h => h) (Or.inl ⟨by rfl, ?_⟩) ?_ ?_
          rotate_left
          ·
           intro w'
           go_simp
           with_reducible rfl
          rotate_left
          ·
           simp only [Act.put, aput]
           rfl
          refine pure_ (i := 21) (N := some 49) (v := ?_) (a' := ?_) (bm 30 3654623) rfl rfl (any_of HT_.out (by kernel_rfl)) (fun _ _ _ h => h) (Or.inl ⟨by rfl, ?_⟩) ?_ ?_
          rotate_left
          ·
           intro w'
           go_simp
           with_reducible rfl
          rotate_left
          ·
           simp only [Act.put, aput]
           rfl
          refine pure_ (i := 22) (N := some 50) (v := ?_) (a' := ?_) (bm 30 7848927) rfl rfl (any_of HT_.out (by kernel_rfl)) (fun _ _ _ h => h) (Or.inl ⟨by rfl, ?_⟩) ?_ ?_
          rotate_left
          ·
           intro w'
           go_simp
           with_reducible rfl
          rotate_left
          ·
           simp only [Act.put, aput]
           rfl
          refine pure_ (i := 23) (N := some 51) (v := ?_) (a' := ?_) (bm 30 16237535) rfl rfl (any_of HT_.out (by kernel_rfl)) (fun _ _ _ h => h) (Or.inl ⟨by rfl, ?_⟩) ?_ ?_
          rotate_left
          ·
           intro w'
           go_simp
           with_reducible rfl
          rotate_left
          ·
           simp only [Act.put, aput]
           rfl
          refine take_ (i := 5) (N := some 33) (v := ?_) (a' := ?_) (bm 30 16237567) rfl rfl (take_ofW HT_.out HW_.out (by kernel_rfl)) (fun _ _ _ h => h) (Or.inl ⟨by rfl, ?_⟩) hHeld ?_ ?_
          rotate_left
          ·
           intro w' s0
           go_simp
           with_reducible rfl
          rotate_left
          ·
           simp only [Act.put, aput]
           rfl
          refine take_ (i := 10) (N := some 38) (v := ?_) (a' := ?_) (bm 30 16238591) rfl rfl (take_ofW HT_.out HW_.out (by kernel_rfl)) (fun _ _ _ h => h) (Or.inl ⟨by rfl, ?_⟩) hHeld ?_ ?_
          rotate_left
          ·
           intro w' s0
           go_simp
           with_reducible rfl
          rotate_left
          ·
           simp only [Act.put, aput]
           rfl
          refine pure_ (i := 11) (N := some 39) (v := ?_) (a' := ?_) (bm 30 16240639) rfl rfl (any_of HT_.out (by kernel_rfl)) (fun _ _ _ h => h) (Or.inl ⟨by rfl, ?_⟩) ?_ ?_
          rotate_left
          ·
           intro w'
           go_simp
           with_reducible rfl
          rotate_left
          ·
           simp only [Act.put, aput]
           rfl
          refine take_ (i := 19) (N := some 47) (v := ?_) (a' := ?_) (bm 30 16764927) rfl rfl (take_ofW HT_.out HW_.out (by kernel_rfl)) (fun _ _ _ h => h) (Or.inl ⟨by rfl, ?_⟩) hHeld ?_ ?_
          rotate_left
          ·
           intro w' s0
           go_simp
           with_reducible rfl
          rotate_left
          ·
           simp only [Act.put, aput]
           rfl
          refine take_ (i := 24) (N := some 52) (v := ?_) (a' := ?_) (bm 30 33542143) rfl rfl (take_ofW HT_.out HW_.out (by kernel_rfl)) (fun _ _ _ h => h) (Or.inl ⟨by rfl, ?_⟩) hHeld ?_ ?_
          rotate_left
          ·
           intro w' s0
           go_simp
           with_reducible rfl
          rotate_left
          ·
           simp only [Act.put, aput]
           rfl
          refine pure_ (i := 25) (N := some 53) (v := ?_) (a' := ?_) (bm 30 67096575) rfl rfl (any_of HT_.out (by kernel_rfl)) (fun _ _ _ h => h) (Or.inl ⟨by rfl, ?_⟩) ?_ ?_
          rotate_left
          ·
           intro w'
           go_simp
           with_reducible rfl
          rotate_left
          ·
           simp only [Act.put, aput]
           rfl
          refine join_ (σ := Value × Value × Value) 3 (bm 30 134217727) (fun s_ => [(40, s_.1), (41, s_.2.1), (54, s_.2.2)]) (fun s_ w' => (w'.cell? (ad199.add ((x7_1).toNat * 2)) = some (.int .u64 ((rd_T27 l1 x7_1).f0)) ∧ w'.cell? ⟨(ad199.add ((x7_1).toNat * 2)).block, (ad199.add ((x7_1).toNat * 2)).off + 1, none⟩ = some (.int .u64 ((rd_T27 l1 x7_1).f1)) ∧ w'.cell? (ad199.add ((x7_1).toNat * 2)) = some (.int .u64 ((rd_T27 l1 x7_1).f0)) ∧ w'.cell? ⟨(ad199.add ((x7_1).toNat * 2)).block, (ad199.add ((x7_1).toNat * 2)).off + 1, none⟩ = some (.int .u64 ((rd_T27 l1 x7_1).f1)) ∧ w'.cell? (ad199.add ((x7_1).toNat * 2)) = some (.int .u64 ((rd_T27 l1 x7_1).f0)) ∧ w'.cell? ⟨(ad199.add ((x7_1).toNat * 2)).block, (ad199.add ((x7_1).toNat * 2)).off + 1, none⟩ = some (.int .u64 ((rd_T27 l1 x7_1).f1)) ∧ w'.cell? (ad199.add ((x7_1).toNat * 2)) = some (.int .u64 ((rd_T27 l1 x7_1).f0)) ∧ w'.cell? ⟨(ad199.add ((x7_1).toNat * 2)).block, (ad199.add ((x7_1).toNat * 2)).off + 1, none⟩ = some (.int .u64 ((rd_T27 l1 x7_1).f1))) ∧ (Kd.R k29 29 w' w.heap.size (fun k_ => some k_ ≠ (s_.2.1 : Value).ownBlock) s_.1 y201) ∧ (Kd.R k29 29 w' w.heap.size (fun k_ => some k_ ≠ (s_.1 : Value).ownBlock) s_.2.1 y204) ∧ (Kd.R k30 30 w' w.heap.size (fun k_ => some k_ ≠ (.slice Ao13 x6_1.length co13 : Value).ownBlock) s_.2.2 y209) ∧ (Kd.R k30 30 w' w.heap.size (fun k_ => some k_ ≠ (s_.2.2 : Value).ownBlock) (.slice Ao13 x6_1.length co13) x6_1) ∧ (Below w.heap.size w w')) ?_ ?_
          rotate_left
          ·
           intro hCont
           refine two_ (i := 12) (j := 26) (Ni := some 40) (Nj := some 54) (bm 30 67100671) (bm 30 134205439) rfl rfl rfl rfl (two_of HT_.out (by kernel_rfl)) (by decide) (by decide) (fun K hK => ?_) (fun K hK => ?_)
           ·
            skip
            refine Kd.R_lit_step k29 _ 29 ?hg (N := 40) ?hd (xs := ([(⟨(rd_T27 l1 x7_1).f0, (rd_T27 l1 x7_1).f1⟩ : S29)] : List (S29))) (inner := [.int .u64 ((rd_T27 l1 x7_1).f0), .int .u64 ((rd_T27 l1 x7_1).f1)]) (ok := fun _ => True) (okp := fun _ => True) ?hr ?hp (fun _ hk => hk) trivial (Below.refl _ _) (Nat.le_refl _) (by simp) ?_; (case hd => rfl); (case hg => rfl); (case hr => (go_simp; try rfl)); (case hp => exact (Reps.c2 (show Kd.M k29 _ _ _ (⟨(rd_T27 l1 x7_1).f0, (rd_T27 l1 x7_1).f1⟩ : S29) [.int .u64 ((rd_T27 l1 x7_1).f0), .int .u64 ((rd_T27 l1 x7_1).f1)] from (k29_mkM _ _ _ (⟨(rd_T27 l1 x7_1).f0, (rd_T27 l1 x7_1).f1⟩ : S29) )) (Reps.none _ _)))
            intro v202 w15 ho16 hb hg_ hnew_
            clear hg_ hnew_
            (first | rw [← Ny201.out] at ho16 | (simp only [Int.reduceToNat] at ho16; rw [← Ny201.out] at ho16))
            have n0_ := aS (Kd.R_elder' (by (with_reducible repeat (first | apply Kd.R_alloc | apply Kd.R_drewN | apply Kd.R_drew)); exact HO_5.out) (Kd.R_base ho16) hb)
            have n1_ := aS (Kd.R_below (by (with_reducible repeat (first | apply Kd.R_alloc | apply Kd.R_drewN | apply Kd.R_drew)); exact HO_6.out) hb)
            have n2_ := aS (Kd.R_lower (Kd.R_new' ho16 (Kd.R_lt (by (with_reducible repeat (first | apply Kd.R_alloc | apply Kd.R_drewN | apply Kd.R_drew)); exact HO_5.out))) (below_size (by repeat (first | (with_reducible first | exact HB.out | apply below_alloc | apply pw_below_drewN | apply below_drew1) | exact HB.out))))
            have n3_ := aS (below_step (by repeat (first | (with_reducible first | exact HB.out | apply below_alloc | apply pw_below_drewN | apply below_drew1) | exact HB.out)) hb)
            clear HO_5
            clear HO_6
            clear HB
            have HO_5 := n0_
            have HO_6 := n1_
            have HO203 := n2_
            have HB := n3_
            clear n0_ n1_ n2_ n3_
            clear hb ho16
            obtain ⟨Ao18, co18, eo18⟩ := Kd.R_slice HO203.out
            (first | subst eo18 | (injection eo18 with f1_ f2_ f3_; have f4_ := f1_.symm; have f5_ := f3_.symm; clear f1_ f2_ f3_; subst f4_; subst f5_))
            refine hK.out _ _ ⟨((HB.out.cell (World.block_lt_of_cell? w _ hw199_0)).trans hw199_0), ((HB.out.cell (World.block_lt_of_cell? w _ hw199_1)).trans hw199_1), ((HB.out.cell (World.block_lt_of_cell? w _ hw200_0)).trans hw200_0), ((HB.out.cell (World.block_lt_of_cell? w _ hw200_1)).trans hw200_1), ((HB.out.cell (World.block_lt_of_cell? w _ hw207_0)).trans hw207_0), ((HB.out.cell (World.block_lt_of_cell? w _ hw207_1)).trans hw207_1), ((HB.out.cell (World.block_lt_of_cell? w _ hw208_0)).trans hw208_0), ((HB.out.cell (World.block_lt_of_cell? w _ hw208_1)).trans hw208_1)⟩ (fun hHeld => ?_)
            clear hK K
            refine norm_ (a' := ?_) ?_ ?_
            rotate_left
            ·
             show Act.put _ (some 40) _ = _
             simp only [Act.put, aput]
             rfl
            refine two_ (i := 13) (j := 26) (Ni := some 41) (Nj := some 54) (bm 30 67108863) (bm 30 134209535) rfl rfl rfl rfl (two_of HT_.out (by kernel_rfl)) (by decide) (by decide) (fun K hK => ?_) (fun K hK => ?_)
            ·
             skip
             refine Kd.R_append_rows_step k29 (w0 := w) w.heap.size (by rfl) (.tmp 28) (.tmp 40) 24 29 (.agg #[(.int .u64 0), (.int .u64 0)]) 16 rfl Try.underlying24 info29 rfl (by decide) (by omega) (.slice Ao12 x5_1.length co12) x5_1 y201 _ _ _ (fun k_ => some k_ ≠ (.slice Ao18 y201.length co18 : Value).ownBlock) (fun _ => False) rfl rfl ?aO ?aR (fun _ _ h => h) (fun _ h => h.elim) ?aF ?aB ?aS ?aL ?_
             (case aR => repeat (first | exact (Kd.R_reads' HO203.out).2.2 | (with_reducible refine Kd.C_alloc ?_ _) | (with_reducible refine Kd.C_drewN ?_ _) | (with_reducible refine Kd.C_drew ?_)))
             (case aB => exact (by repeat (first | (with_reducible first | exact HB.out | apply below_alloc | apply pw_below_drewN | apply below_drew1) | exact HB.out)))
             (case aF => exact (fun k_ hk => Kd.fresh' (Kd.R_lt (by (with_reducible repeat (first | apply Kd.R_alloc | apply Kd.R_drewN | apply Kd.R_drew)); exact HO203.out)) k_ hk))
             (case aO => exact (by (with_reducible repeat (first | apply Kd.R_alloc | apply Kd.R_drewN | apply Kd.R_drew)); exact Kd.R_mono HO_5.out (fun _ hk => hk.2)))
             (case aS => exact (below_size (by repeat (first | (with_reducible first | exact HB.out | apply below_alloc | apply pw_below_drewN | apply below_drew1) | exact HB.out))))
             (case aL => have := LMc10.out; omega)
             intro v205 w17 ho hb hg hat
             rw [← Ny204.out] at ho
             have n0_ := aS (Kd.R_over' (by (with_reducible repeat (first | apply Kd.R_alloc | apply Kd.R_drewN | apply Kd.R_drew)); exact HO_6.out) (Kd.R_typed (by (with_reducible repeat (first | apply Kd.R_alloc | apply Kd.R_drewN | apply Kd.R_drew)); exact HO_5.out)) (by decide) hg)
             have n1_ := aS (Kd.R_after (ok := (fun _ => True)) (by (with_reducible repeat (first | apply Kd.R_alloc | apply Kd.R_drewN | apply Kd.R_drew)); exact HO203.out) hg hat)
             have n2_ := aS (hb)
             have n3_ := aS (ho)
             clear HO_6
             clear HO203
             clear HB
             clear HO_5
             have HO_6 := n0_
             have HO203 := n1_
             have HB := n2_
             have HO206 := n3_
             clear n0_ n1_ n2_ n3_
             clear ho hb hg hat
             refine hK.out _ _ ⟨((HB.out.cell (World.block_lt_of_cell? w _ hw199_0)).trans hw199_0), ((HB.out.cell (World.block_lt_of_cell? w _ hw199_1)).trans hw199_1), ((HB.out.cell (World.block_lt_of_cell? w _ hw200_0)).trans hw200_0), ((HB.out.cell (World.block_lt_of_cell? w _ hw200_1)).trans hw200_1), ((HB.out.cell (World.block_lt_of_cell? w _ hw207_0)).trans hw207_0), ((HB.out.cell (World.block_lt_of_cell? w _ hw207_1)).trans hw207_1), ((HB.out.cell (World.block_lt_of_cell? w _ hw208_0)).trans hw208_0), ((HB.out.cell (World.block_lt_of_cell? w _ hw208_1)).trans hw208_1)⟩ (fun hHeld => ?_)
             clear hK K
             refine norm_ (a' := ?_) ?_ ?_
             rotate_left
             ·
              show Act.put _ (some 41) _ = _
              simp only [Act.put, aput]
              rfl
             refine one_ (i := 26) (N := some 54) (bm 30 134217727) rfl rfl (one_of HT_.out (by kernel_rfl)) (by decide) (fun K hK => ?_)
             refine Kd.R_lit_step k30 _ 30 ?hg (N := 54) ?hd (xs := ([(⟨(rd_T27 l1 x7_1).f0, (rd_T27 l1 x7_1).f1⟩ : S30)] : List (S30))) (inner := [.int .u64 ((rd_T27 l1 x7_1).f0), .int .u64 ((rd_T27 l1 x7_1).f1)]) (ok := fun _ => True) (okp := fun _ => True) ?hr ?hp (fun _ hk => hk) trivial (Below.refl _ _) (Nat.le_refl _) (by simp) ?_; (case hd => rfl); (case hg => rfl); (case hr => (go_simp; try rfl)); (case hp => exact (Reps.c2 (show Kd.M k30 _ _ _ (⟨(rd_T27 l1 x7_1).f0, (rd_T27 l1 x7_1).f1⟩ : S30) [.int .u64 ((rd_T27 l1 x7_1).f0), .int .u64 ((rd_T27 l1 x7_1).f1)] from (k30_mkM _ _ _ (⟨(rd_T27 l1 x7_1).f0, (rd_T27 l1 x7_1).f1⟩ : S30) )) (Reps.none _ _)))
             intro v210 w19 ho20 hb hg_ hnew_
             clear hg_ hnew_
             (first | rw [← Ny209.out] at ho20 | (simp only [Int.reduceToNat] at ho20; rw [← Ny209.out] at ho20))
             have n0_ := aS (Kd.R_elder' (by (with_reducible repeat (first | apply Kd.R_alloc | apply Kd.R_drewN | apply Kd.R_drew)); exact HO_6.out) (Kd.R_base ho20) hb)
             have n1_ := aS (Kd.R_below (by (with_reducible repeat (first | apply Kd.R_alloc | apply Kd.R_drewN | apply Kd.R_drew)); exact HO203.out) hb)
             have n2_ := aS (Kd.R_below (by (with_reducible repeat (first | apply Kd.R_alloc | apply Kd.R_drewN | apply Kd.R_drew)); exact HO206.out) hb)
             have n3_ := aS (Kd.R_lower (Kd.R_new' ho20 (Kd.R_lt (by (with_reducible repeat (first | apply Kd.R_alloc | apply Kd.R_drewN | apply Kd.R_drew)); exact HO_6.out))) (below_size (by repeat (first | (with_reducible first | exact HB.out | apply below_alloc | apply pw_below_drewN | apply below_drew1) | exact HB.out))))
             have n4_ := aS (below_step (by repeat (first | (with_reducible first | exact HB.out | apply below_alloc | apply pw_below_drewN | apply below_drew1) | exact HB.out)) hb)
             clear HO_6
             clear HO203
             clear HO206
             clear HB
             have HO_6 := n0_
             have HO203 := n1_
             have HO206 := n2_
             have HO211 := n3_
             have HB := n4_
             clear n0_ n1_ n2_ n3_ n4_
             clear hb ho20
             refine hK.out _ _ ⟨((HB.out.cell (World.block_lt_of_cell? w _ hw199_0)).trans hw199_0), ((HB.out.cell (World.block_lt_of_cell? w _ hw199_1)).trans hw199_1), ((HB.out.cell (World.block_lt_of_cell? w _ hw200_0)).trans hw200_0), ((HB.out.cell (World.block_lt_of_cell? w _ hw200_1)).trans hw200_1), ((HB.out.cell (World.block_lt_of_cell? w _ hw207_0)).trans hw207_0), ((HB.out.cell (World.block_lt_of_cell? w _ hw207_1)).trans hw207_1), ((HB.out.cell (World.block_lt_of_cell? w _ hw208_0)).trans hw208_0), ((HB.out.cell (World.block_lt_of_cell? w _ hw208_1)).trans hw208_1)⟩ (fun hHeld => ?_)
             clear hK K
             refine norm_ (a' := ?_) ?_ ?_
             rotate_left
             ·
              show Act.put _ (some 54) _ = _
              simp only [Act.put, aput]
              rfl
             exact norm_ (by simp only [putAll, Act.put, List.setIfInBounds_toArray, List.set_cons_zero, List.set_cons_succ]) (hCont (.slice Ao18 y201.length co18, v205, v210) _ ⟨hHeld, (by (with_reducible repeat (first | apply Kd.R_alloc | apply Kd.R_drewN | apply Kd.R_drew)); exact Kd.R_mono HO203.out (fun _ hk => hk.2)), (by (with_reducible repeat (first | apply Kd.R_alloc | apply Kd.R_drewN | apply Kd.R_drew)); exact HO206.out), (by (with_reducible repeat (first | apply Kd.R_alloc | apply Kd.R_drewN | apply Kd.R_drew)); exact Kd.R_mono HO211.out (fun _ hk => hk.2)), (by (with_reducible repeat (first | apply Kd.R_alloc | apply Kd.R_drewN | apply Kd.R_drew)); exact Kd.R_mono HO_6.out (fun _ hk => hk.2)), (by repeat (first | (with_reducible first | exact HB.out | apply below_alloc | apply pw_below_drewN | apply below_drew1) | exact HB.out))⟩)
            ·
             skip
             refine Kd.R_lit_step k30 _ 30 ?hg (N := 54) ?hd (xs := ([(⟨(rd_T27 l1 x7_1).f0, (rd_T27 l1 x7_1).f1⟩ : S30)] : List (S30))) (inner := [.int .u64 ((rd_T27 l1 x7_1).f0), .int .u64 ((rd_T27 l1 x7_1).f1)]) (ok := fun _ => True) (okp := fun _ => True) ?hr ?hp (fun _ hk => hk) trivial (Below.refl _ _) (Nat.le_refl _) (by simp) ?_; (case hd => rfl); (case hg => rfl); (case hr => (go_simp; try rfl)); (case hp => exact (Reps.c2 (show Kd.M k30 _ _ _ (⟨(rd_T27 l1 x7_1).f0, (rd_T27 l1 x7_1).f1⟩ : S30) [.int .u64 ((rd_T27 l1 x7_1).f0), .int .u64 ((rd_T27 l1 x7_1).f1)] from (k30_mkM _ _ _ (⟨(rd_T27 l1 x7_1).f0, (rd_T27 l1 x7_1).f1⟩ : S30) )) (Reps.none _ _)))
             intro v210 w17 ho18 hb hg_ hnew_
             clear hg_ hnew_
             (first | rw [← Ny209.out] at ho18 | (simp only [Int.reduceToNat] at ho18; rw [← Ny209.out] at ho18))
             have n0_ := aS (Kd.R_below (by (with_reducible repeat (first | apply Kd.R_alloc | apply Kd.R_drewN | apply Kd.R_drew)); exact HO_5.out) hb)
             have n1_ := aS (Kd.R_elder' (by (with_reducible repeat (first | apply Kd.R_alloc | apply Kd.R_drewN | apply Kd.R_drew)); exact HO_6.out) (Kd.R_base ho18) hb)
             have n2_ := aS (Kd.R_below (by (with_reducible repeat (first | apply Kd.R_alloc | apply Kd.R_drewN | apply Kd.R_drew)); exact HO203.out) hb)
             have n3_ := aS (Kd.R_lower (Kd.R_new' ho18 (Kd.R_lt (by (with_reducible repeat (first | apply Kd.R_alloc | apply Kd.R_drewN | apply Kd.R_drew)); exact HO_6.out))) (below_size (by repeat (first | (with_reducible first | exact HB.out | apply below_alloc | apply pw_below_drewN | apply below_drew1) | exact HB.out))))
             have n4_ := aS (below_step (by repeat (first | (with_reducible first | exact HB.out | apply below_alloc | apply pw_below_drewN | apply below_drew1) | exact HB.out)) hb)
             clear HO_5
             clear HO_6
             clear HO203
             clear HB
             have HO_5 := n0_
             have HO_6 := n1_
             have HO203 := n2_
             have HO211 := n3_
             have HB := n4_
             clear n0_ n1_ n2_ n3_ n4_
             clear hb ho18
             obtain ⟨Ao20, co20, eo20⟩ := Kd.R_slice HO203.out
             (first | subst eo20 | (injection eo20 with f1_ f2_ f3_; have f4_ := f1_.symm; have f5_ := f3_.symm; clear f1_ f2_ f3_; subst f4_; subst f5_))
             refine hK.out _ _ ⟨((HB.out.cell (World.block_lt_of_cell? w _ hw199_0)).trans hw199_0), ((HB.out.cell (World.block_lt_of_cell? w _ hw199_1)).trans hw199_1), ((HB.out.cell (World.block_lt_of_cell? w _ hw200_0)).trans hw200_0), ((HB.out.cell (World.block_lt_of_cell? w _ hw200_1)).trans hw200_1), ((HB.out.cell (World.block_lt_of_cell? w _ hw207_0)).trans hw207_0), ((HB.out.cell (World.block_lt_of_cell? w _ hw207_1)).trans hw207_1), ((HB.out.cell (World.block_lt_of_cell? w _ hw208_0)).trans hw208_0), ((HB.out.cell (World.block_lt_of_cell? w _ hw208_1)).trans hw208_1)⟩ (fun hHeld => ?_)
             clear hK K
             refine norm_ (a' := ?_) ?_ ?_
             rotate_left
             ·
              show Act.put _ (some 54) _ = _
              simp only [Act.put, aput]
              rfl
             refine one_ (i := 13) (N := some 41) (bm 30 134217727) rfl rfl (one_of HT_.out (by kernel_rfl)) (by decide) (fun K hK => ?_)
             refine Kd.R_append_rows_step k29 (w0 := w) w.heap.size (by rfl) (.tmp 28) (.tmp 40) 24 29 (.agg #[(.int .u64 0), (.int .u64 0)]) 16 rfl Try.underlying24 info29 rfl (by decide) (by omega) (.slice Ao12 x5_1.length co12) x5_1 y201 _ _ _ (fun k_ => some k_ ≠ (.slice Ao20 y201.length co20 : Value).ownBlock) (fun _ => False) rfl rfl ?aO ?aR (fun _ _ h => h) (fun _ h => h.elim) ?aF ?aB ?aS ?aL ?_
             (case aR => repeat (first | exact (Kd.R_reads' HO203.out).2.2 | (with_reducible refine Kd.C_alloc ?_ _) | (with_reducible refine Kd.C_drewN ?_ _) | (with_reducible refine Kd.C_drew ?_)))
             (case aB => exact (by repeat (first | (with_reducible first | exact HB.out | apply below_alloc | apply pw_below_drewN | apply below_drew1) | exact HB.out)))
             (case aF => exact (fun k_ hk => Kd.fresh' (Kd.R_lt (by (with_reducible repeat (first | apply Kd.R_alloc | apply Kd.R_drewN | apply Kd.R_drew)); exact HO203.out)) k_ hk))
             (case aO => exact (by (with_reducible repeat (first | apply Kd.R_alloc | apply Kd.R_drewN | apply Kd.R_drew)); exact Kd.R_mono HO_5.out (fun _ hk => hk.2)))
             (case aS => exact (below_size (by repeat (first | (with_reducible first | exact HB.out | apply below_alloc | apply pw_below_drewN | apply below_drew1) | exact HB.out))))
             (case aL => have := LMc10.out; omega)
             intro v205 w19 ho hb hg hat
             rw [← Ny204.out] at ho
             have n0_ := aS (Kd.R_over' (by (with_reducible repeat (first | apply Kd.R_alloc | apply Kd.R_drewN | apply Kd.R_drew)); exact HO_6.out) (Kd.R_typed (by (with_reducible repeat (first | apply Kd.R_alloc | apply Kd.R_drewN | apply Kd.R_drew)); exact HO_5.out)) (by decide) hg)
             have n1_ := aS (Kd.R_after (ok := (fun _ => True)) (by (with_reducible repeat (first | apply Kd.R_alloc | apply Kd.R_drewN | apply Kd.R_drew)); exact HO203.out) hg hat)
             have n2_ := aS (Kd.R_over' (by (with_reducible repeat (first | apply Kd.R_alloc | apply Kd.R_drewN | apply Kd.R_drew)); exact HO211.out) (Kd.R_typed (by (with_reducible repeat (first | apply Kd.R_alloc | apply Kd.R_drewN | apply Kd.R_drew)); exact HO_5.out)) (by decide) hg)
             have n3_ := aS (hb)
             have n4_ := aS (ho)
             clear HO_6
             clear HO203
             clear HO211
             clear HB
             clear HO_5
             have HO_6 := n0_
             have HO203 := n1_
             have HO211 := n2_
             have HB := n3_
             have HO206 := n4_
             clear n0_ n1_ n2_ n3_ n4_
             clear ho hb hg hat
             refine hK.out _ _ ⟨((HB.out.cell (World.block_lt_of_cell? w _ hw199_0)).trans hw199_0), ((HB.out.cell (World.block_lt_of_cell? w _ hw199_1)).trans hw199_1), ((HB.out.cell (World.block_lt_of_cell? w _ hw200_0)).trans hw200_0), ((HB.out.cell (World.block_lt_of_cell? w _ hw200_1)).trans hw200_1), ((HB.out.cell (World.block_lt_of_cell? w _ hw207_0)).trans hw207_0), ((HB.out.cell (World.block_lt_of_cell? w _ hw207_1)).trans hw207_1), ((HB.out.cell (World.block_lt_of_cell? w _ hw208_0)).trans hw208_0), ((HB.out.cell (World.block_lt_of_cell? w _ hw208_1)).trans hw208_1)⟩ (fun hHeld => ?_)
             clear hK K
             refine norm_ (a' := ?_) ?_ ?_
             rotate_left
             ·
              show Act.put _ (some 41) _ = _
              simp only [Act.put, aput]
              rfl
             exact norm_ (by simp only [putAll, Act.put, List.setIfInBounds_toArray, List.set_cons_zero, List.set_cons_succ]) (hCont (.slice Ao20 y201.length co20, v205, v210) _ ⟨hHeld, (by (with_reducible repeat (first | apply Kd.R_alloc | apply Kd.R_drewN | apply Kd.R_drew)); exact Kd.R_mono HO203.out (fun _ hk => hk.2)), (by (with_reducible repeat (first | apply Kd.R_alloc | apply Kd.R_drewN | apply Kd.R_drew)); exact HO206.out), (by (with_reducible repeat (first | apply Kd.R_alloc | apply Kd.R_drewN | apply Kd.R_drew)); exact Kd.R_mono HO211.out (fun _ hk => hk.2)), (by (with_reducible repeat (first | apply Kd.R_alloc | apply Kd.R_drewN | apply Kd.R_drew)); exact Kd.R_mono HO_6.out (fun _ hk => hk.2)), (by repeat (first | (with_reducible first | exact HB.out | apply below_alloc | apply pw_below_drewN | apply below_drew1) | exact HB.out))⟩)
           ·
            skip
            refine Kd.R_lit_step k30 _ 30 ?hg (N := 54) ?hd (xs := ([(⟨(rd_T27 l1 x7_1).f0, (rd_T27 l1 x7_1).f1⟩ : S30)] : List (S30))) (inner := [.int .u64 ((rd_T27 l1 x7_1).f0), .int .u64 ((rd_T27 l1 x7_1).f1)]) (ok := fun _ => True) (okp := fun _ => True) ?hr ?hp (fun _ hk => hk) trivial (Below.refl _ _) (Nat.le_refl _) (by simp) ?_; (case hd => rfl); (case hg => rfl); (case hr => (go_simp; try rfl)); (case hp => exact (Reps.c2 (show Kd.M k30 _ _ _ (⟨(rd_T27 l1 x7_1).f0, (rd_T27 l1 x7_1).f1⟩ : S30) [.int .u64 ((rd_T27 l1 x7_1).f0), .int .u64 ((rd_T27 l1 x7_1).f1)] from (k30_mkM _ _ _ (⟨(rd_T27 l1 x7_1).f0, (rd_T27 l1 x7_1).f1⟩ : S30) )) (Reps.none _ _)))
            intro v210 w15 ho16 hb hg_ hnew_
            clear hg_ hnew_
            (first | rw [← Ny209.out] at ho16 | (simp only [Int.reduceToNat] at ho16; rw [← Ny209.out] at ho16))
            have n0_ := aS (Kd.R_below (by (with_reducible repeat (first | apply Kd.R_alloc | apply Kd.R_drewN | apply Kd.R_drew)); exact HO_5.out) hb)
            have n1_ := aS (Kd.R_elder' (by (with_reducible repeat (first | apply Kd.R_alloc | apply Kd.R_drewN | apply Kd.R_drew)); exact HO_6.out) (Kd.R_base ho16) hb)
            have n2_ := aS (Kd.R_lower (Kd.R_new' ho16 (Kd.R_lt (by (with_reducible repeat (first | apply Kd.R_alloc | apply Kd.R_drewN | apply Kd.R_drew)); exact HO_6.out))) (below_size (by repeat (first | (with_reducible first | exact HB.out | apply below_alloc | apply pw_below_drewN | apply below_drew1) | exact HB.out))))
            have n3_ := aS (below_step (by repeat (first | (with_reducible first | exact HB.out | apply below_alloc | apply pw_below_drewN | apply below_drew1) | exact HB.out)) hb)
            clear HO_5
            clear HO_6
            clear HB
            have HO_5 := n0_
            have HO_6 := n1_
            have HO211 := n2_
            have HB := n3_
            clear n0_ n1_ n2_ n3_
            clear hb ho16
            refine hK.out _ _ ⟨((HB.out.cell (World.block_lt_of_cell? w _ hw199_0)).trans hw199_0), ((HB.out.cell (World.block_lt_of_cell? w _ hw199_1)).trans hw199_1), ((HB.out.cell (World.block_lt_of_cell? w _ hw200_0)).trans hw200_0), ((HB.out.cell (World.block_lt_of_cell? w _ hw200_1)).trans hw200_1), ((HB.out.cell (World.block_lt_of_cell? w _ hw207_0)).trans hw207_0), ((HB.out.cell (World.block_lt_of_cell? w _ hw207_1)).trans hw207_1), ((HB.out.cell (World.block_lt_of_cell? w _ hw208_0)).trans hw208_0), ((HB.out.cell (World.block_lt_of_cell? w _ hw208_1)).trans hw208_1)⟩ (fun hHeld => ?_)
            clear hK K
            refine norm_ (a' := ?_) ?_ ?_
            rotate_left
            ·
             show Act.put _ (some 54) _ = _
             simp only [Act.put, aput]
             rfl
            refine one_ (i := 12) (N := some 40) (bm 30 134209535) rfl rfl (one_of HT_.out (by kernel_rfl)) (by decide) (fun K hK => ?_)
            refine Kd.R_lit_step k29 _ 29 ?hg (N := 40) ?hd (xs := ([(⟨(rd_T27 l1 x7_1).f0, (rd_T27 l1 x7_1).f1⟩ : S29)] : List (S29))) (inner := [.int .u64 ((rd_T27 l1 x7_1).f0), .int .u64 ((rd_T27 l1 x7_1).f1)]) (ok := fun _ => True) (okp := fun _ => True) ?hr ?hp (fun _ hk => hk) trivial (Below.refl _ _) (Nat.le_refl _) (by simp) ?_; (case hd => rfl); (case hg => rfl); (case hr => (go_simp; try rfl)); (case hp => exact (Reps.c2 (show Kd.M k29 _ _ _ (⟨(rd_T27 l1 x7_1).f0, (rd_T27 l1 x7_1).f1⟩ : S29) [.int .u64 ((rd_T27 l1 x7_1).f0), .int .u64 ((rd_T27 l1 x7_1).f1)] from (k29_mkM _ _ _ (⟨(rd_T27 l1 x7_1).f0, (rd_T27 l1 x7_1).f1⟩ : S29) )) (Reps.none _ _)))
            intro v202 w17 ho18 hb hg_ hnew_
            clear hg_ hnew_
            (first | rw [← Ny201.out] at ho18 | (simp only [Int.reduceToNat] at ho18; rw [← Ny201.out] at ho18))
            have n0_ := aS (Kd.R_elder' (by (with_reducible repeat (first | apply Kd.R_alloc | apply Kd.R_drewN | apply Kd.R_drew)); exact HO_5.out) (Kd.R_base ho18) hb)
            have n1_ := aS (Kd.R_below (by (with_reducible repeat (first | apply Kd.R_alloc | apply Kd.R_drewN | apply Kd.R_drew)); exact HO_6.out) hb)
            have n2_ := aS (Kd.R_below (by (with_reducible repeat (first | apply Kd.R_alloc | apply Kd.R_drewN | apply Kd.R_drew)); exact HO211.out) hb)
            have n3_ := aS (Kd.R_lower (Kd.R_new' ho18 (Kd.R_lt (by (with_reducible repeat (first | apply Kd.R_alloc | apply Kd.R_drewN | apply Kd.R_drew)); exact HO_5.out))) (below_size (by repeat (first | (with_reducible first | exact HB.out | apply below_alloc | apply pw_below_drewN | apply below_drew1) | exact HB.out))))
            have n4_ := aS (below_step (by repeat (first | (with_reducible first | exact HB.out | apply below_alloc | apply pw_below_drewN | apply below_drew1) | exact HB.out)) hb)
            clear HO_5
            clear HO_6
            clear HO211
            clear HB
            have HO_5 := n0_
            have HO_6 := n1_
            have HO211 := n2_
            have HO203 := n3_
            have HB := n4_
            clear n0_ n1_ n2_ n3_ n4_
            clear hb ho18
            obtain ⟨Ao20, co20, eo20⟩ := Kd.R_slice HO203.out
            (first | subst eo20 | (injection eo20 with f1_ f2_ f3_; have f4_ := f1_.symm; have f5_ := f3_.symm; clear f1_ f2_ f3_; subst f4_; subst f5_))
            refine hK.out _ _ ⟨((HB.out.cell (World.block_lt_of_cell? w _ hw199_0)).trans hw199_0), ((HB.out.cell (World.block_lt_of_cell? w _ hw199_1)).trans hw199_1), ((HB.out.cell (World.block_lt_of_cell? w _ hw200_0)).trans hw200_0), ((HB.out.cell (World.block_lt_of_cell? w _ hw200_1)).trans hw200_1), ((HB.out.cell (World.block_lt_of_cell? w _ hw207_0)).trans hw207_0), ((HB.out.cell (World.block_lt_of_cell? w _ hw207_1)).trans hw207_1), ((HB.out.cell (World.block_lt_of_cell? w _ hw208_0)).trans hw208_0), ((HB.out.cell (World.block_lt_of_cell? w _ hw208_1)).trans hw208_1)⟩ (fun hHeld => ?_)
            clear hK K
            refine norm_ (a' := ?_) ?_ ?_
            rotate_left
            ·
             show Act.put _ (some 40) _ = _
             simp only [Act.put, aput]
             rfl
            refine one_ (i := 13) (N := some 41) (bm 30 134217727) rfl rfl (one_of HT_.out (by kernel_rfl)) (by decide) (fun K hK => ?_)
            refine Kd.R_append_rows_step k29 (w0 := w) w.heap.size (by rfl) (.tmp 28) (.tmp 40) 24 29 (.agg #[(.int .u64 0), (.int .u64 0)]) 16 rfl Try.underlying24 info29 rfl (by decide) (by omega) (.slice Ao12 x5_1.length co12) x5_1 y201 _ _ _ (fun k_ => some k_ ≠ (.slice Ao20 y201.length co20 : Value).ownBlock) (fun _ => False) rfl rfl ?aO ?aR (fun _ _ h => h) (fun _ h => h.elim) ?aF ?aB ?aS ?aL ?_
            (case aR => repeat (first | exact (Kd.R_reads' HO203.out).2.2 | (with_reducible refine Kd.C_alloc ?_ _) | (with_reducible refine Kd.C_drewN ?_ _) | (with_reducible refine Kd.C_drew ?_)))
            (case aB => exact (by repeat (first | (with_reducible first | exact HB.out | apply below_alloc | apply pw_below_drewN | apply below_drew1) | exact HB.out)))
            (case aF => exact (fun k_ hk => Kd.fresh' (Kd.R_lt (by (with_reducible repeat (first | apply Kd.R_alloc | apply Kd.R_drewN | apply Kd.R_drew)); exact HO203.out)) k_ hk))
            (case aO => exact (by (with_reducible repeat (first | apply Kd.R_alloc | apply Kd.R_drewN | apply Kd.R_drew)); exact Kd.R_mono HO_5.out (fun _ hk => hk.2)))
            (case aS => exact (below_size (by repeat (first | (with_reducible first | exact HB.out | apply below_alloc | apply pw_below_drewN | apply below_drew1) | exact HB.out))))
            (case aL => have := LMc10.out; omega)
            intro v205 w19 ho hb hg hat
            rw [← Ny204.out] at ho
            have n0_ := aS (Kd.R_over' (by (with_reducible repeat (first | apply Kd.R_alloc | apply Kd.R_drewN | apply Kd.R_drew)); exact HO_6.out) (Kd.R_typed (by (with_reducible repeat (first | apply Kd.R_alloc | apply Kd.R_drewN | apply Kd.R_drew)); exact HO_5.out)) (by decide) hg)
            have n1_ := aS (Kd.R_over' (by (with_reducible repeat (first | apply Kd.R_alloc | apply Kd.R_drewN | apply Kd.R_drew)); exact HO211.out) (Kd.R_typed (by (with_reducible repeat (first | apply Kd.R_alloc | apply Kd.R_drewN | apply Kd.R_drew)); exact HO_5.out)) (by decide) hg)
            have n2_ := aS (Kd.R_after (ok := (fun _ => True)) (by (with_reducible repeat (first | apply Kd.R_alloc | apply Kd.R_drewN | apply Kd.R_drew)); exact HO203.out) hg hat)
            have n3_ := aS (hb)
            have n4_ := aS (ho)
            clear HO_6
            clear HO211
            clear HO203
            clear HB
            clear HO_5
            have HO_6 := n0_
            have HO211 := n1_
            have HO203 := n2_
            have HB := n3_
            have HO206 := n4_
            clear n0_ n1_ n2_ n3_ n4_
            clear ho hb hg hat
            refine hK.out _ _ ⟨((HB.out.cell (World.block_lt_of_cell? w _ hw199_0)).trans hw199_0), ((HB.out.cell (World.block_lt_of_cell? w _ hw199_1)).trans hw199_1), ((HB.out.cell (World.block_lt_of_cell? w _ hw200_0)).trans hw200_0), ((HB.out.cell (World.block_lt_of_cell? w _ hw200_1)).trans hw200_1), ((HB.out.cell (World.block_lt_of_cell? w _ hw207_0)).trans hw207_0), ((HB.out.cell (World.block_lt_of_cell? w _ hw207_1)).trans hw207_1), ((HB.out.cell (World.block_lt_of_cell? w _ hw208_0)).trans hw208_0), ((HB.out.cell (World.block_lt_of_cell? w _ hw208_1)).trans hw208_1)⟩ (fun hHeld => ?_)
            clear hK K
            refine norm_ (a' := ?_) ?_ ?_
            rotate_left
            ·
             show Act.put _ (some 41) _ = _
             simp only [Act.put, aput]
             rfl
            exact norm_ (by simp only [putAll, Act.put, List.setIfInBounds_toArray, List.set_cons_zero, List.set_cons_succ]) (hCont (.slice Ao20 y201.length co20, v205, v210) _ ⟨hHeld, (by (with_reducible repeat (first | apply Kd.R_alloc | apply Kd.R_drewN | apply Kd.R_drew)); exact Kd.R_mono HO203.out (fun _ hk => hk.2)), (by (with_reducible repeat (first | apply Kd.R_alloc | apply Kd.R_drewN | apply Kd.R_drew)); exact HO206.out), (by (with_reducible repeat (first | apply Kd.R_alloc | apply Kd.R_drewN | apply Kd.R_drew)); exact Kd.R_mono HO211.out (fun _ hk => hk.2)), (by (with_reducible repeat (first | apply Kd.R_alloc | apply Kd.R_drewN | apply Kd.R_drew)); exact Kd.R_mono HO_6.out (fun _ hk => hk.2)), (by repeat (first | (with_reducible first | exact HB.out | apply below_alloc | apply pw_below_drewN | apply below_drew1) | exact HB.out))⟩)
          rintro ⟨v202, v205, v210⟩ w21 ⟨hS_, h0_, h1_, h2_, h3_, h4_⟩
          have n0_ : Aside0 (Kd.R k29 29 w21 w.heap.size (fun k_ => some k_ ≠ (v205 : Value).ownBlock) v202 y201) := ⟨h0_⟩
          have n1_ : Aside0 (Kd.R k29 29 w21 w.heap.size (fun k_ => some k_ ≠ (v202 : Value).ownBlock) v205 y204) := ⟨h1_⟩
          have n2_ : Aside0 (Kd.R k30 30 w21 w.heap.size (fun k_ => some k_ ≠ (.slice Ao13 x6_1.length co13 : Value).ownBlock) v210 y209) := ⟨h2_⟩
          have n3_ : Aside0 (Kd.R k30 30 w21 w.heap.size (fun k_ => some k_ ≠ (v210 : Value).ownBlock) (.slice Ao13 x6_1.length co13) x6_1) := ⟨h3_⟩
          have n4_ : Aside0 (Below w.heap.size w w21) := ⟨h4_⟩
          clear HO_5
          clear HO_6
          clear HB
          clear h0_ h1_ h2_ h3_ h4_
          have HO203 := n0_
          have HO206 := n1_
          have HO211 := n2_
          have HO_6 := n3_
          have HB := n4_
          clear n0_ n1_ n2_ n3_ n4_
          have hHeld : w21.cell? (ad199.add ((x7_1).toNat * 2)) = some (.int .u64 ((rd_T27 l1 x7_1).f0)) ∧ w21.cell? ⟨(ad199.add ((x7_1).toNat * 2)).block, (ad199.add ((x7_1).toNat * 2)).off + 1, none⟩ = some (.int .u64 ((rd_T27 l1 x7_1).f1)) ∧ w21.cell? (ad199.add ((x7_1).toNat * 2)) = some (.int .u64 ((rd_T27 l1 x7_1).f0)) ∧ w21.cell? ⟨(ad199.add ((x7_1).toNat * 2)).block, (ad199.add ((x7_1).toNat * 2)).off + 1, none⟩ = some (.int .u64 ((rd_T27 l1 x7_1).f1)) ∧ w21.cell? (ad199.add ((x7_1).toNat * 2)) = some (.int .u64 ((rd_T27 l1 x7_1).f0)) ∧ w21.cell? ⟨(ad199.add ((x7_1).toNat * 2)).block, (ad199.add ((x7_1).toNat * 2)).off + 1, none⟩ = some (.int .u64 ((rd_T27 l1 x7_1).f1)) ∧ w21.cell? (ad199.add ((x7_1).toNat * 2)) = some (.int .u64 ((rd_T27 l1 x7_1).f0)) ∧ w21.cell? ⟨(ad199.add ((x7_1).toNat * 2)).block, (ad199.add ((x7_1).toNat * 2)).off + 1, none⟩ = some (.int .u64 ((rd_T27 l1 x7_1).f1)) := hS_
          obtain ⟨Ao23, co23, eo23⟩ := Kd.R_slice HO211.out
          (first | subst eo23 | (injection eo23 with f1_ f2_ f3_; have f4_ := f1_.symm; have f5_ := f3_.symm; clear f1_ f2_ f3_; subst f4_; subst f5_))
          refine norm_ (a' := ?_) ?_ ?_
          rotate_left
          ·
           simp only [putAll, Act.put, List.setIfInBounds_toArray, List.set_cons_zero, List.set_cons_succ]
           rfl
          refine one_ (i := 27) (N := some 55) (bm 30 268435455) rfl rfl (one_of HT_.out (by kernel_rfl)) (by decide) (fun K hK => ?_)
          refine Kd.R_append_rows_step k30 (w0 := w) w.heap.size (by rfl) (.tmp 42) (.tmp 54) 25 30 (.agg #[(.int .u64 0), (.int .u64 0)]) 16 rfl Try.underlying25 info30 rfl (by decide) (by omega) (.slice Ao13 x6_1.length co13) x6_1 y209 _ _ _ (fun k_ => some k_ ≠ (.slice Ao23 y209.length co23 : Value).ownBlock) (fun _ => False) rfl rfl ?aO ?aR (fun _ _ h => h) (fun _ h => h.elim) ?aF ?aB ?aS ?aL ?_
          (case aR => repeat (first | exact (Kd.R_reads' HO211.out).2.2 | (with_reducible refine Kd.C_alloc ?_ _) | (with_reducible refine Kd.C_drewN ?_ _) | (with_reducible refine Kd.C_drew ?_)))
          (case aB => exact (by repeat (first | (with_reducible first | exact HB.out | apply below_alloc | apply pw_below_drewN | apply below_drew1) | exact HB.out)))
          (case aF => exact (fun k_ hk => Kd.fresh' (Kd.R_lt (by (with_reducible repeat (first | apply Kd.R_alloc | apply Kd.R_drewN | apply Kd.R_drew)); exact HO211.out)) k_ hk))
          (case aO => exact (by (with_reducible repeat (first | apply Kd.R_alloc | apply Kd.R_drewN | apply Kd.R_drew)); exact HO_6.out))
          (case aS => exact (below_size (by repeat (first | (with_reducible first | exact HB.out | apply below_alloc | apply pw_below_drewN | apply below_drew1) | exact HB.out))))
          (case aL => have := LMc11.out; omega)
          intro v213 w22 ho hb hg hat
          rw [← Ny212.out] at ho
          have n0_ := aS (Kd.R_over' (by (with_reducible repeat (first | apply Kd.R_alloc | apply Kd.R_drewN | apply Kd.R_drew)); exact HO203.out) (Kd.R_typed (by (with_reducible repeat (first | apply Kd.R_alloc | apply Kd.R_drewN | apply Kd.R_drew)); exact HO_6.out)) (by decide) hg)
          have n1_ := aS (Kd.R_over' (by (with_reducible repeat (first | apply Kd.R_alloc | apply Kd.R_drewN | apply Kd.R_drew)); exact HO206.out) (Kd.R_typed (by (with_reducible repeat (first | apply Kd.R_alloc | apply Kd.R_drewN | apply Kd.R_drew)); exact HO_6.out)) (by decide) hg)
          have n2_ := aS (Kd.R_after (ok := (fun _ => True)) (by (with_reducible repeat (first | apply Kd.R_alloc | apply Kd.R_drewN | apply Kd.R_drew)); exact Kd.R_mono HO211.out (fun _ hk => ⟨trivial, hk⟩)) hg hat)
          have n3_ := aS (hb)
          have n4_ := aS (ho)
          clear HO203
          clear HO206
          clear HO211
          clear HB
          clear HO_6
          have HO203 := n0_
          have HO206 := n1_
          have HO211 := n2_
          have HB := n3_
          have HO214 := n4_
          clear n0_ n1_ n2_ n3_ n4_
          clear ho hb hg hat
          refine hK.out _ _ ⟨((HB.out.cell (World.block_lt_of_cell? w _ hw199_0)).trans hw199_0), ((HB.out.cell (World.block_lt_of_cell? w _ hw199_1)).trans hw199_1), ((HB.out.cell (World.block_lt_of_cell? w _ hw200_0)).trans hw200_0), ((HB.out.cell (World.block_lt_of_cell? w _ hw200_1)).trans hw200_1), ((HB.out.cell (World.block_lt_of_cell? w _ hw207_0)).trans hw207_0), ((HB.out.cell (World.block_lt_of_cell? w _ hw207_1)).trans hw207_1), ((HB.out.cell (World.block_lt_of_cell? w _ hw208_0)).trans hw208_0), ((HB.out.cell (World.block_lt_of_cell? w _ hw208_1)).trans hw208_1)⟩ (fun hHeld => ?_)
          clear hK K
          refine norm_ (a' := ?_) ?_ ?_
          rotate_left
          ·
           show Act.put _ (some 55) _ = _
           simp only [Act.put, aput]
           rfl
          refine pure_ (i := 28) (N := some 5) (v := ?_) (a' := ?_) (bm 30 536870911) rfl rfl (any_of HT_.out (by kernel_rfl)) (fun _ _ _ h => h) (Or.inl ⟨by rfl, ?_⟩) ?_ ?_
          rotate_left
          ·
           intro w'
           go_simp
           with_reducible rfl
          rotate_left
          ·
           simp only [Act.put, aput]
           rfl
          refine pure_ (i := 29) (N := some 6) (v := ?_) (a' := ?_) (bm 30 1073741823) rfl rfl (any_of HT_.out (by kernel_rfl)) (fun _ _ _ h => h) (Or.inl ⟨by rfl, ?_⟩) ?_ ?_
          rotate_left
          ·
           intro w'
           go_simp
           with_reducible rfl
          rotate_left
          ·
           simp only [Act.put, aput]
           rfl
          refine done_ (done_of HT_.out (by kernel_rfl)) ?_
          try go_wp2
          go_roundg k1
          case measure => have := HK1.out; omega
          case rel => exact ⟨(y204), (y212), (wrap64 (x7_1 + 1)), (by first | rfl | (simp; done) | (simp [*]; done)), H', ⟨by have := HK1.out; omega⟩, ⟨by (with_reducible repeat (first | apply Kd.R_alloc | apply Kd.R_drewN | apply Kd.R_drew)); exact Kd.R_mono HO206.out (fun _ hk => trivial)⟩, ⟨by (with_reducible repeat (first | apply Kd.R_alloc | apply Kd.R_drewN | apply Kd.R_drew)); exact Kd.R_mono HO214.out (fun _ hk => trivial)⟩, ⟨by repeat (first | (with_reducible first | exact HB.out | apply below_alloc | apply pw_below_drewN | apply below_drew1) | exact HB.out)⟩⟩
         ·
          rw [if_neg c11] at H
          exact absurd H (by simp)
        ·
         rw [if_neg c10] at H
         exact absurd H (by simp)
       ·
        rw [if_neg c9] at H
        exact absurd H (by simp)
      ·
       rw [if_neg c8] at H
       have c8b0 : decide (x7_1 < 12) = false := decide_eq_false c8
       clear c8
       have H' := aS H
       clear H
       go_wp2
       go_meet
       case rel => exact ⟨_, (x5_1), (x6_1), H', ⟨by have := HK1.out; first | omega | exact Nat.le_refl _⟩, ⟨by (with_reducible repeat (first | apply Kd.R_alloc | apply Kd.R_drewN | apply Kd.R_drew)); exact HO_5.out⟩, ⟨by (with_reducible repeat (first | apply Kd.R_alloc | apply Kd.R_drewN | apply Kd.R_drew)); exact HO_6.out⟩, ⟨by repeat (first | (with_reducible first | exact HB.out | apply below_alloc | apply pw_below_drewN | apply below_drew1) | exact HB.out)⟩⟩
     ·
      rw [if_neg c7] at H
      have c7b0 : decide (x7_1 < (l1.length : Int)) = false := decide_eq_false c7
      clear c7
      (first | rw [c7b0] | (simp only [i64_w, i32_w]; rw [c7b0]) | skip)
      have H' := aS H
      clear H
      go_wp2
      go_meet
      case rel => exact ⟨_, (x5_1), (x6_1), H', ⟨by have := HK1.out; first | omega | exact Nat.le_refl _⟩, ⟨by (with_reducible repeat (first | apply Kd.R_alloc | apply Kd.R_drewN | apply Kd.R_drew)); exact HO_5.out⟩, ⟨by (with_reducible repeat (first | apply Kd.R_alloc | apply Kd.R_drewN | apply Kd.R_drew)); exact HO_6.out⟩, ⟨by repeat (first | (with_reducible first | exact HB.out | apply below_alloc | apply pw_below_drewN | apply below_drew1) | exact HB.out)⟩⟩
  case rest =>
   clear HC5
   try clear c1
   try clear p1
   try clear q1
   try clear hx1
   try clear c2
   try clear p2
   try clear q2
   try clear hx2
   try clear p6
   try clear c7
   try clear c7b0
   try clear c8
   try clear c8b0
   try clear c9
   try clear c10
   try clear c11
   try clear p19
   try clear q19
   try clear hx19
   try clear p20
   try clear q20
   try clear hx20
   try clear hx199_0
   try clear hx199_1
   try clear hx200_0
   try clear hx200_1
   try clear hx207_0
   try clear hx207_1
   try clear hx208_0
   try clear hx208_1
   try clear p199
   try clear p200
   try clear p207
   try clear p208
   try clear q199
   try clear q200
   try clear q207
   try clear q208
   obtain ⟨kq, x5_4, x6_4, HA, HJ4, HO_5, HO_6, HB⟩ := hcut
   cases kq with
   | zero => exact absurd HA.out (by simp [graverlaw02_SpanGaps.j1])
   | succ kj4 =>
       as_aux_lemma =>
         have H := HA.out
         clear HA
         simp only [graverlaw02_SpanGaps.j1] at H
         replace H := Option.bind_eq_some_iff.mp H
         obtain ⟨t215, A240, H⟩ := H
         replace H : ((graverref02_Gaps.f kj4 (IntKind.u64.wrap ((Go.bits .and .i64 a0 127))) x6_4).bind fun t218 => (if (t215.length : Int) = (t218.length : Int) then (graverlaw02_SpanGaps.l1 kj4 x5_4 x6_4 t215 t218 0) else (some false))) = some r := H
         have A24 := aS A240
         clear A240
         replace H := Option.bind_eq_some_iff.mp H
         obtain ⟨t218, A250, H⟩ := H
         replace H : (if (t215.length : Int) = (t218.length : Int) then (graverlaw02_SpanGaps.l1 kj4 x5_4 x6_4 t215 t218 0) else (some false)) = some r := H
         have A25 := aS A250
         clear A250
         by_cases c26 : (t215.length : Int) = (t218.length : Int)
         · rw [if_pos c26] at H
           have c26b0 : ((t215.length : Int) == (t218.length : Int)) = true := beq_iff_eq.mpr c26
           have c26b1 : ((t215.length : Int) != (t218.length : Int)) = false := bne_eq_false_iff_eq.mpr c26
           have c26b2 : (t215.length == t218.length) = true := by first | simpa using c26 | (simp at c26 ⊢; omega)
           clear c26
           have H' := aS H
           clear H
           obtain ⟨Ao27, co27, eo27⟩ := Kd.R_slice HO_5.out
           subst eo27
           go_wp2_with (first | ((with_reducible refine gate_callee (f := 8) rfl ?_); refine goesL_ (some 59) rfl rfl Try.func8 (by kernel_rfl) rfl #[.int .u64 (IntKind.u64.wrap ((Go.bits .and .i64 a0 127))), .slice Ao27 x5_4.length co27] rfl (by (try simp only [List.map_toArray, List.map_cons, List.map_nil]); first | done | rfl | (simp only [List.length_drop, List.length_take]; rfl)) ?_; (with_reducible refine (span_Gaps.calls kj4 (IntKind.u64.wrap ((Go.bits .and .i64 a0 127))) _ _ x5_4 t215 _ ?side1 ?side2 A24.out).mono ?_); (case side1 => repeat (first | exact (Kd.R_reads' HO_5.out).2.2 | (with_reducible refine Kd.C_alloc ?_ _) | (with_reducible refine Kd.C_drewN ?_ _) | (with_reducible refine Kd.C_drew ?_))); (case side2 => exact (Kd.R_reads' HO_5.out).2.1); rintro e w28 ⟨v216, rfl, ho0, hb⟩; refine ⟨_, rfl, ?_⟩; have n0_ := aS (Kd.R_elder' (by (with_reducible repeat (first | apply Kd.R_alloc | apply Kd.R_drewN | apply Kd.R_drew)); exact HO_5.out) (Kd.R_base ho0) hb); have n1_ := aS (Kd.R_below (by (with_reducible repeat (first | apply Kd.R_alloc | apply Kd.R_drewN | apply Kd.R_drew)); exact HO_6.out) hb); have n2_ := aS (Kd.R_lower (Kd.R_new' ho0 (Kd.R_lt (by (with_reducible repeat (first | apply Kd.R_alloc | apply Kd.R_drewN | apply Kd.R_drew)); exact HO_5.out))) (below_size (by repeat (first | (with_reducible first | exact HB.out | apply below_alloc | apply pw_below_drewN | apply below_drew1) | exact HB.out)))); have n3_ := aS (below_step (by repeat (first | (with_reducible first | exact HB.out | apply below_alloc | apply pw_below_drewN | apply below_drew1) | exact HB.out)) hb); clear HO_5; clear HO_6; clear HB; have HO_5 := n0_; have HO_6 := n1_; have HO217 := n2_; have HB := n3_; clear n0_ n1_ n2_ n3_; (try clear hb); (try clear hb2); (try clear hk); (try clear hi); (try clear ho0); obtain ⟨Ao29, co29, eo29⟩ := Kd.R_slice HO_6.out; subst eo29) | ((with_reducible refine gate_callee (f := 9) rfl ?_); refine goesL_ (some 63) rfl rfl Try.func9 (by kernel_rfl) rfl #[.int .u64 (IntKind.u64.wrap ((Go.bits .and .i64 a0 127))), .slice Ao29 x6_4.length co29] rfl (by (try simp only [List.map_toArray, List.map_cons, List.map_nil]); first | done | rfl | (simp only [List.length_drop, List.length_take]; rfl)) ?_; (with_reducible refine (graverref02_Gaps.calls kj4 (IntKind.u64.wrap ((Go.bits .and .i64 a0 127))) _ _ x6_4 t218 _ ?side1 ?side2 A25.out).mono ?_); (case side1 => repeat (first | exact (Kd.R_reads' HO_6.out).2.2 | (with_reducible refine Kd.C_alloc ?_ _) | (with_reducible refine Kd.C_drewN ?_ _) | (with_reducible refine Kd.C_drew ?_))); (case side2 => exact (Kd.R_reads' HO_6.out).2.1); rintro e w30 ⟨v219, rfl, ho0, hb⟩; refine ⟨_, rfl, ?_⟩; have n0_ := aS (Kd.R_below (by (with_reducible repeat (first | apply Kd.R_alloc | apply Kd.R_drewN | apply Kd.R_drew)); exact HO_5.out) hb); have n1_ := aS (Kd.R_elder' (by (with_reducible repeat (first | apply Kd.R_alloc | apply Kd.R_drewN | apply Kd.R_drew)); exact HO_6.out) (Kd.R_base ho0) hb); have n2_ := aS (Kd.R_below (by (with_reducible repeat (first | apply Kd.R_alloc | apply Kd.R_drewN | apply Kd.R_drew)); exact HO217.out) hb); have n3_ := aS (Kd.R_lower (Kd.R_new' ho0 (Kd.R_lt (by (with_reducible repeat (first | apply Kd.R_alloc | apply Kd.R_drewN | apply Kd.R_drew)); exact HO_6.out))) (below_size (by repeat (first | (with_reducible first | exact HB.out | apply below_alloc | apply pw_below_drewN | apply below_drew1) | exact HB.out)))); have n4_ := aS (below_step (by repeat (first | (with_reducible first | exact HB.out | apply below_alloc | apply pw_below_drewN | apply below_drew1) | exact HB.out)) hb); clear HO_5; clear HO_6; clear HO217; clear HB; have HO_5 := n0_; have HO_6 := n1_; have HO217 := n2_; have HO220 := n3_; have HB := n4_; clear n0_ n1_ n2_ n3_ n4_; (try clear hb); (try clear hb2); (try clear hk); (try clear hi); (try clear ho0); obtain ⟨Ao31, co31, eo31⟩ := Kd.R_slice HO217.out; subst eo31; obtain ⟨Ao32, co32, eo32⟩ := Kd.R_slice HO220.out; subst eo32))
           go_loopg [10] kj4 (fun kq v10 w' => ∃ (x10_2 : Int), v10 = .int .i64 x10_2 ∧ Aside0 (graverlaw02_SpanGaps.l1 kq x5_4 x6_4 t215 t218 x10_2 = some r) ∧ Aside0 (kq ≤ kj4) ∧ Aside0 (Kd.R k29 29 w' w.heap.size (fun k_ => some k_ ≠ ((.slice Ao31 t215.length co31) : Value).ownBlock) (.slice Ao27 x5_4.length co27) x5_4) ∧ Aside0 (Kd.R k30 30 w' w.heap.size (fun k_ => some k_ ≠ ((.slice Ao32 t218.length co32) : Value).ownBlock) (.slice Ao29 x6_4.length co29) x6_4) ∧ Aside0 (Kd.R k29 29 w' w.heap.size (fun k_ => some k_ ≠ ((.slice Ao27 x5_4.length co27) : Value).ownBlock) (.slice Ao31 t215.length co31) t215) ∧ Aside0 (Kd.R k30 30 w' w.heap.size (fun k_ => some k_ ≠ ((.slice Ao29 x6_4.length co29) : Value).ownBlock) (.slice Ao32 t218.length co32) t218) ∧ Aside0 (Below w.heap.size w w'))
           case atStart => exact ⟨(0), (by first | rfl | (simp; done) | (simp [*]; done)), H', ⟨Nat.le_refl _⟩, ⟨by (with_reducible repeat (first | apply Kd.R_alloc | apply Kd.R_drewN | apply Kd.R_drew)); exact Kd.R_mono HO_5.out (fun _ hk => hk.2)⟩, ⟨by (with_reducible repeat (first | apply Kd.R_alloc | apply Kd.R_drewN | apply Kd.R_drew)); exact Kd.R_mono HO_6.out (fun _ hk => hk.2)⟩, ⟨by (with_reducible repeat (first | apply Kd.R_alloc | apply Kd.R_drewN | apply Kd.R_drew)); exact Kd.R_mono HO217.out (fun _ hk => hk.2)⟩, ⟨by (with_reducible repeat (first | apply Kd.R_alloc | apply Kd.R_drewN | apply Kd.R_drew)); exact Kd.R_mono HO220.out (fun _ hk => hk.2)⟩, ⟨by repeat (first | (with_reducible first | exact HB.out | apply below_alloc | apply pw_below_drewN | apply below_drew1) | exact HB.out)⟩⟩
           case round =>
             clear H'
             try clear c1
             try clear p1
             try clear q1
             try clear hx1
             try clear c2
             try clear p2
             try clear q2
             try clear hx2
             try clear p6
             try clear c7
             try clear c7b0
             try clear c8
             try clear c8b0
             try clear c9
             try clear c10
             try clear c11
             try clear p19
             try clear q19
             try clear hx19
             try clear p20
             try clear q20
             try clear hx20
             try clear c26
             try clear c26b0
             try clear c26b1
             try clear c26b2
             try clear hx199_0
             try clear hx199_1
             try clear hx200_0
             try clear hx200_1
             try clear hx207_0
             try clear hx207_1
             try clear hx208_0
             try clear hx208_1
             try clear p1
             try clear p19
             try clear p199
             try clear p2
             try clear p20
             try clear p200
             try clear p207
             try clear p208
             try clear p6
             try clear q1
             try clear q19
             try clear q199
             try clear q2
             try clear q20
             try clear q200
             try clear q207
             try clear q208
             obtain ⟨x10_2, rfl, HA, HK2, HO_5, HO_6, HO_8, HO_9, HB⟩ := hrel
             cases gk with
             | zero => exact absurd HA.out (by simp [graverlaw02_SpanGaps.l1])
             | succ k2 =>
               have H := HA.out
               clear HA
               simp only [graverlaw02_SpanGaps.l1] at H
               by_cases c33 : x10_2 < (t215.length : Int)
               · rw [if_pos c33] at H
                 have c33b0 : decide (x10_2 < (t215.length : Int)) = true := decide_eq_true c33
                 clear c33
                 by_cases c34 : 0 ≤ x10_2
                 · rw [if_pos c34] at H
                   have c34b0 : decide (0 ≤ x10_2) = true := decide_eq_true c34
                   clear c34
                   by_cases c35 : x10_2 < (t218.length : Int)
                   · rw [if_pos c35] at H
                     have c35b0 : decide (x10_2 < (t218.length : Int)) = true := decide_eq_true c35
                     clear c35
                     by_cases c36 : ((rd_T29 t215 x10_2).f0) = ((rd_T30 t218 x10_2).f0)
                     · rw [if_pos c36] at H
                       have c36b0 : (((rd_T29 t215 x10_2).f0) == ((rd_T30 t218 x10_2).f0)) = true := beq_iff_eq.mpr c36
                       have c36b1 : (((rd_T29 t215 x10_2).f0) != ((rd_T30 t218 x10_2).f0)) = false := bne_eq_false_iff_eq.mpr c36
                       clear c36
                       by_cases c37 : ((rd_T29 t215 x10_2).f1) = ((rd_T30 t218 x10_2).f1)
                       · rw [if_pos c37] at H
                         have c37b0 : (((rd_T29 t215 x10_2).f1) == ((rd_T30 t218 x10_2).f1)) = true := beq_iff_eq.mpr c37
                         have c37b1 : (((rd_T29 t215 x10_2).f1) != ((rd_T30 t218 x10_2).f1)) = false := bne_eq_false_iff_eq.mpr c37
                         clear c37
                         have H' := aS H
                         clear H
                         try go_wp2
                         have n0_ := aS (Kd.R_drew HO_5.out)
                         have n1_ := aS (Kd.R_drew HO_6.out)
                         have n2_ := aS (Kd.R_drew HO_8.out)
                         have n3_ := aS (Kd.R_drew HO_9.out)
                         have n4_ := aS (below_drew1 HB.out)
                         clear HO_5
                         clear HO_6
                         clear HO_8
                         clear HO_9
                         clear HB
                         have HO_5 := n0_
                         have HO_6 := n1_
                         have HO_8 := n2_
                         have HO_9 := n3_
                         have HB := n4_
                         clear n0_ n1_ n2_ n3_ n4_
                         have p221 : 0 ≤ (x10_2 : Int) := of_decide_eq_true (by first | (with_reducible assumption) | assumption)
                         have q221 : x10_2 < (t215.length : Int) := of_decide_eq_true (by first | (with_reducible assumption) | assumption)
                         obtain ⟨ad221, e221, hx221_0, hx221_1⟩ := at_T29 (Kd.R_reads' HO_8.out).2.2 x10_2 p221 q221
                         cases e221
                         replace p221 := eq_true p221
                         replace q221 := eq_true q221
                         have p222 : 0 ≤ (x10_2 : Int) := of_decide_eq_true (by first | (with_reducible assumption) | assumption)
                         have q222 : x10_2 < (t218.length : Int) := of_decide_eq_true (by first | (with_reducible assumption) | assumption)
                         obtain ⟨ad222, e222, hx222_0, hx222_1⟩ := at_T30 (Kd.R_reads' HO_9.out).2.2 x10_2 p222 q222
                         cases e222
                         replace p222 := eq_true p222
                         replace q222 := eq_true q222
                         have p223 : 0 ≤ (x10_2 : Int) := of_decide_eq_true (by first | (with_reducible assumption) | assumption)
                         have q223 : x10_2 < (t215.length : Int) := of_decide_eq_true (by first | (with_reducible assumption) | assumption)
                         obtain ⟨ad223, e223, hx223_0, hx223_1⟩ := at_T29 (Kd.R_reads' HO_8.out).2.2 x10_2 p223 q223
                         obtain rfl : ad221 = ad223 := (by injection e223)
                         replace p223 := eq_true p223
                         replace q223 := eq_true q223
                         have p224 : 0 ≤ (x10_2 : Int) := of_decide_eq_true (by first | (with_reducible assumption) | assumption)
                         have q224 : x10_2 < (t218.length : Int) := of_decide_eq_true (by first | (with_reducible assumption) | assumption)
                         obtain ⟨ad224, e224, hx224_0, hx224_1⟩ := at_T30 (Kd.R_reads' HO_9.out).2.2 x10_2 p224 q224
                         obtain rfl : ad222 = ad224 := (by injection e224)
                         replace p224 := eq_true p224
                         replace q224 := eq_true q224
                         refine start_ (n := 24) (S := fun w' => w'.cell? (ad221.add ((x10_2).toNat * 2)) = some (.int .u64 ((rd_T29 t215 x10_2).f0)) ∧ w'.cell? ⟨(ad221.add ((x10_2).toNat * 2)).block, (ad221.add ((x10_2).toNat * 2)).off + 1, none⟩ = some (.int .u64 ((rd_T29 t215 x10_2).f1)) ∧ w'.cell? (ad222.add ((x10_2).toNat * 2)) = some (.int .u64 ((rd_T30 t218 x10_2).f0)) ∧ w'.cell? ⟨(ad222.add ((x10_2).toNat * 2)).block, (ad222.add ((x10_2).toNat * 2)).off + 1, none⟩ = some (.int .u64 ((rd_T30 t218 x10_2).f1)) ∧ w'.cell? (ad221.add ((x10_2).toNat * 2)) = some (.int .u64 ((rd_T29 t215 x10_2).f0)) ∧ w'.cell? ⟨(ad221.add ((x10_2).toNat * 2)).block, (ad221.add ((x10_2).toNat * 2)).off + 1, none⟩ = some (.int .u64 ((rd_T29 t215 x10_2).f1)) ∧ w'.cell? (ad222.add ((x10_2).toNat * 2)) = some (.int .u64 ((rd_T30 t218 x10_2).f0)) ∧ w'.cell? ⟨(ad222.add ((x10_2).toNat * 2)).block, (ad222.add ((x10_2).toNat * 2)).off + 1, none⟩ = some (.int .u64 ((rd_T30 t218 x10_2).f1))) (ds := []) #[false, false, false, false, false, false, false, false, false, false, false, false, false, false, false, false, false, false, false, false, false, false, false, false] (by kernel_rfl) rfl rfl ⟨hx221_0, hx221_1, hx222_0, hx222_1, hx223_0, hx223_1, hx224_0, hx224_1⟩ (fun hHeld => ?_); refine with_tabW graverlaw02_SpanGaps.tab16 graverlaw02_SpanGaps.bits16 (fun HT_ HW_ => ?_)
                         generalize wr.drew = w38 at HO_5 HO_6 HO_8 HO_9 HB hx221_0 hx221_1 hx222_0 hx222_1 hx223_0 hx223_1 hx224_0 hx224_1 hHeld ⊢
                         refine pure_ (i := 0) (N := some 75) (v := ?_) (a' := ?_) (bm 24 1) rfl rfl (any_of HT_.out (by kernel_rfl)) (fun _ _ _ h => h) (Or.inl ⟨by rfl, ?_⟩) ?_ ?_
                         rotate_left
                         · intro w'
                           go_simp
                           with_reducible rfl
                         rotate_left
                         · simp only [Act.put, aput]
                           rfl
                         refine pure_ (i := 1) (N := some 76) (v := ?_) (a' := ?_) (bm 24 3) rfl rfl (any_of HT_.out (by kernel_rfl)) (fun _ _ _ h => h) (Or.inl ⟨by rfl, ?_⟩) ?_ ?_
                         rotate_left
                         · intro w'
                           go_simp
                           with_reducible rfl
                         rotate_left
                         · simp only [Act.put, aput]
                           rfl
                         refine pure_ (i := 2) (N := some 77) (v := ?_) (a' := ?_) (bm 24 7) rfl rfl (any_of HT_.out (by kernel_rfl)) (fun _ _ _ h => h) (Or.inl ⟨by rfl, ?_⟩) ?_ ?_
                         rotate_left
                         · intro w'
                           go_simp
                           with_reducible rfl
                         rotate_left
                         · simp only [Act.put, aput]
                           rfl
                         refine pure_ (i := 3) (N := some 78) (v := ?_) (a' := ?_) (bm 24 15) rfl rfl (any_of HT_.out (by kernel_rfl)) (fun _ _ _ h => h) (Or.inl ⟨by rfl, ?_⟩) ?_ ?_
                         rotate_left
                         · intro w'
                           go_simp
                           with_reducible rfl
                         rotate_left
                         · simp only [Act.put, aput]
                           rfl
                         refine pure_ (i := 5) (N := some 80) (v := ?_) (a' := ?_) (bm 24 47) rfl rfl (any_of HT_.out (by kernel_rfl)) (fun _ _ _ h => h) (Or.inl ⟨by rfl, ?_⟩) ?_ ?_
                         rotate_left
                         · intro w'
                           go_simp
                           with_reducible rfl
                         rotate_left
                         · simp only [Act.put, aput]
                           rfl
                         refine pure_ (i := 6) (N := some 81) (v := ?_) (a' := ?_) (bm 24 111) rfl rfl (any_of HT_.out (by kernel_rfl)) (fun _ _ _ h => h) (Or.inl ⟨by rfl, ?_⟩) ?_ ?_
                         rotate_left
                         · intro w'
                           go_simp
                           with_reducible rfl
                         rotate_left
                         · simp only [Act.put, aput]
                           rfl
                         refine pure_ (i := 7) (N := some 82) (v := ?_) (a' := ?_) (bm 24 239) rfl rfl (any_of HT_.out (by kernel_rfl)) (fun _ _ _ h => h) (Or.inl ⟨by rfl, ?_⟩) ?_ ?_
                         rotate_left
                         · intro w'
                           go_simp
                           with_reducible rfl
                         rotate_left
                         · simp only [Act.put, aput]
                           rfl
                         refine pure_ (i := 8) (N := some 83) (v := ?_) (a' := ?_) (bm 24 495) rfl rfl (any_of HT_.out (by kernel_rfl)) (fun _ _ _ h => h) (Or.inl ⟨by rfl, ?_⟩) ?_ ?_
                         rotate_left
                         · intro w'
                           go_simp
                           with_reducible rfl
                         rotate_left
                         · simp only [Act.put, aput]
                           rfl
                         refine take_ (i := 4) (N := some 79) (v := ?_) (a' := ?_) (bm 24 511) rfl rfl (take_ofW HT_.out HW_.out (by kernel_rfl)) (fun _ _ _ h => h) (Or.inl ⟨by rfl, ?_⟩) hHeld ?_ ?_
                         rotate_left
                         · intro w' s0
                           go_simp
                           with_reducible rfl
                         rotate_left
                         · simp only [Act.put, aput]
                           rfl
                         refine take_ (i := 9) (N := some 84) (v := ?_) (a' := ?_) (bm 24 1023) rfl rfl (take_ofW HT_.out HW_.out (by kernel_rfl)) (fun _ _ _ h => h) (Or.inl ⟨by rfl, ?_⟩) hHeld ?_ ?_
                         rotate_left
                         · intro w' s0
                           go_simp
                           with_reducible rfl
                         rotate_left
                         · simp only [Act.put, aput]
                           rfl
                         refine pure_ (i := 10) (N := some 85) (v := ?_) (a' := ?_) (bm 24 2047) rfl rfl (any_of HT_.out (by kernel_rfl)) (fun _ _ _ h => h) (Or.inl ⟨by rfl, ?_⟩) ?_ ?_
                         rotate_left
                         · intro w'
                           go_simp
                           with_reducible rfl
                         rotate_left
                         · simp only [Act.put, aput]
                           rfl
                         refine pure_ (i := 11) (N := some 86) (v := ?_) (a' := ?_) (bm 24 4095) rfl rfl (any_of HT_.out (by kernel_rfl)) (fun _ _ _ h => h) (Or.inl ⟨by rfl, ?_⟩) ?_ ?_
                         rotate_left
                         · intro w'
                           go_simp
                           with_reducible rfl
                         rotate_left
                         · simp only [Act.put, aput]
                           rfl
                         refine pure_ (i := 12) (N := some 87) (v := ?_) (a' := ?_) (bm 24 8191) rfl rfl (any_of HT_.out (by kernel_rfl)) (fun _ _ _ h => h) (Or.inl ⟨by rfl, ?_⟩) ?_ ?_
                         rotate_left
                         · intro w'
                           go_simp
                           with_reducible rfl
                         rotate_left
                         · simp only [Act.put, aput]
                           rfl
                         refine pure_ (i := 13) (N := some 88) (v := ?_) (a' := ?_) (bm 24 16383) rfl rfl (any_of HT_.out (by kernel_rfl)) (fun _ _ _ h => h) (Or.inl ⟨by rfl, ?_⟩) ?_ ?_
                         rotate_left
                         · intro w'
                           go_simp
                           with_reducible rfl
                         rotate_left
                         · simp only [Act.put, aput]
                           rfl
                         refine pure_ (i := 14) (N := some 89) (v := ?_) (a' := ?_) (bm 24 32767) rfl rfl (any_of HT_.out (by kernel_rfl)) (fun _ _ _ h => h) (Or.inl ⟨by rfl, ?_⟩) ?_ ?_
                         rotate_left
                         · intro w'
                           go_simp
                           with_reducible rfl
                         rotate_left
                         · simp only [Act.put, aput]
                           rfl
                         refine pure_ (i := 15) (N := some 90) (v := ?_) (a' := ?_) (bm 24 65535) rfl rfl (any_of HT_.out (by kernel_rfl)) (fun _ _ _ h => h) (Or.inl ⟨by rfl, ?_⟩) ?_ ?_
                         rotate_left
                         · intro w'
                           go_simp
                           with_reducible rfl
                         rotate_left
                         · simp only [Act.put, aput]
                           rfl
                         refine pure_ (i := 17) (N := some 92) (v := ?_) (a' := ?_) (bm 24 196607) rfl rfl (any_of HT_.out (by kernel_rfl)) (fun _ _ _ h => h) (Or.inl ⟨by rfl, ?_⟩) ?_ ?_
                         rotate_left
                         · intro w'
                           go_simp
                           with_reducible rfl
                         rotate_left
                         · simp only [Act.put, aput]
                           rfl
                         refine pure_ (i := 18) (N := some 93) (v := ?_) (a' := ?_) (bm 24 458751) rfl rfl (any_of HT_.out (by kernel_rfl)) (fun _ _ _ h => h) (Or.inl ⟨by rfl, ?_⟩) ?_ ?_
                         rotate_left
                         · intro w'
                           go_simp
                           with_reducible rfl
                         rotate_left
                         · simp only [Act.put, aput]
                           rfl
                         refine pure_ (i := 19) (N := some 94) (v := ?_) (a' := ?_) (bm 24 983039) rfl rfl (any_of HT_.out (by kernel_rfl)) (fun _ _ _ h => h) (Or.inl ⟨by rfl, ?_⟩) ?_ ?_
                         rotate_left
                         · intro w'
                           go_simp
                           with_reducible rfl
                         rotate_left
                         · simp only [Act.put, aput]
                           rfl
                         refine pure_ (i := 20) (N := some 95) (v := ?_) (a' := ?_) (bm 24 2031615) rfl rfl (any_of HT_.out (by kernel_rfl)) (fun _ _ _ h => h) (Or.inl ⟨by rfl, ?_⟩) ?_ ?_
                         rotate_left
                         · intro w'
                           go_simp
                           with_reducible rfl
                         rotate_left
                         · simp only [Act.put, aput]
                           rfl
                         refine take_ (i := 16) (N := some 91) (v := ?_) (a' := ?_) (bm 24 2097151) rfl rfl (take_ofW HT_.out HW_.out (by kernel_rfl)) (fun _ _ _ h => h) (Or.inl ⟨by rfl, ?_⟩) hHeld ?_ ?_
                         rotate_left
                         · intro w' s0
                           go_simp
                           with_reducible rfl
                         rotate_left
                         · simp only [Act.put, aput]
                           rfl
                         refine take_ (i := 21) (N := some 96) (v := ?_) (a' := ?_) (bm 24 4194303) rfl rfl (take_ofW HT_.out HW_.out (by kernel_rfl)) (fun _ _ _ h => h) (Or.inl ⟨by rfl, ?_⟩) hHeld ?_ ?_
                         rotate_left
                         · intro w' s0
                           go_simp
                           with_reducible rfl
                         rotate_left
                         · simp only [Act.put, aput]
                           rfl
                         refine pure_ (i := 22) (N := some 97) (v := ?_) (a' := ?_) (bm 24 8388607) rfl rfl (any_of HT_.out (by kernel_rfl)) (fun _ _ _ h => h) (Or.inl ⟨by rfl, ?_⟩) ?_ ?_
                         rotate_left
                         · intro w'
                           go_simp
                           with_reducible rfl
                         rotate_left
                         · simp only [Act.put, aput]
                           rfl
                         refine pure_ (i := 23) (N := some 98) (v := ?_) (a' := ?_) (bm 24 16777215) rfl rfl (any_of HT_.out (by kernel_rfl)) (fun _ _ _ h => h) (Or.inl ⟨by rfl, ?_⟩) ?_ ?_
                         rotate_left
                         · intro w'
                           go_simp
                           with_reducible rfl
                         rotate_left
                         · simp only [Act.put, aput]
                           rfl
                         refine done_ (done_of HT_.out (by kernel_rfl)) ?_
                         try go_wp2
                         go_roundg k2
                         case measure => have := HJ4.out; have := HK2.out; omega
                         case rel => exact ⟨(wrap64 (x10_2 + 1)), (by first | rfl | (simp; done) | (simp [*]; done)), H', ⟨by have := HJ4.out; have := HK2.out; omega⟩, ⟨by (with_reducible repeat (first | apply Kd.R_alloc | apply Kd.R_drewN | apply Kd.R_drew)); exact HO_5.out⟩, ⟨by (with_reducible repeat (first | apply Kd.R_alloc | apply Kd.R_drewN | apply Kd.R_drew)); exact HO_6.out⟩, ⟨by (with_reducible repeat (first | apply Kd.R_alloc | apply Kd.R_drewN | apply Kd.R_drew)); exact HO_8.out⟩, ⟨by (with_reducible repeat (first | apply Kd.R_alloc | apply Kd.R_drewN | apply Kd.R_drew)); exact HO_9.out⟩, ⟨by repeat (first | (with_reducible first | exact HB.out | apply below_alloc | apply pw_below_drewN | apply below_drew1) | exact HB.out)⟩⟩
                       · rw [if_neg c37] at H
                         have c37b0 : (((rd_T29 t215 x10_2).f1) == ((rd_T30 t218 x10_2).f1)) = false := beq_eq_false_iff_ne.mpr c37
                         have c37b1 : (((rd_T29 t215 x10_2).f1) != ((rd_T30 t218 x10_2).f1)) = true := bne_iff_ne.mpr c37
                         exact absurd ((Option.some.inj H).trans HRT.out) (by decide)
                     · rw [if_neg c36] at H
                       have c36b0 : (((rd_T29 t215 x10_2).f0) == ((rd_T30 t218 x10_2).f0)) = false := beq_eq_false_iff_ne.mpr c36
                       have c36b1 : (((rd_T29 t215 x10_2).f0) != ((rd_T30 t218 x10_2).f0)) = true := bne_iff_ne.mpr c36
                       exact absurd ((Option.some.inj H).trans HRT.out) (by decide)
                   · rw [if_neg c35] at H
                     exact absurd H (by simp)
                 · rw [if_neg c34] at H
                   exact absurd H (by simp)
               · rw [if_neg c33] at H
                 have c33b0 : decide (x10_2 < (t215.length : Int)) = false := decide_eq_false c33
                 clear c33
                 have H' := aS H
                 clear H
                 go_wp2
                 go_loopg [11, 12] k2 (fun kq v11 v12 w' => ∃ (x11_3 : Bool) (x12_3 : Int), v11 = .bool x11_3 ∧ v12 = .int .i64 x12_3 ∧ Aside0 (graverlaw02_SpanGaps.l2 kq x5_4 x6_4 x11_3 x12_3 = some r) ∧ Aside0 (kq ≤ k2) ∧ Aside0 (Kd.R k29 29 w' w.heap.size (fun _ => True) (.slice Ao27 x5_4.length co27) x5_4) ∧ Aside0 (Kd.R k30 30 w' w.heap.size (fun _ => True) (.slice Ao29 x6_4.length co29) x6_4) ∧ Aside0 (Below w.heap.size w w'))
                 case atStart => exact ⟨(false), (0), (by first | rfl | (simp; done) | (simp [*]; done)), (by first | rfl | (simp; done) | (simp [*]; done)), H', ⟨Nat.le_refl _⟩, ⟨by (with_reducible repeat (first | apply Kd.R_alloc | apply Kd.R_drewN | apply Kd.R_drew)); exact Kd.R_mono HO_5.out (fun _ hk => trivial)⟩, ⟨by (with_reducible repeat (first | apply Kd.R_alloc | apply Kd.R_drewN | apply Kd.R_drew)); exact Kd.R_mono HO_6.out (fun _ hk => trivial)⟩, ⟨by repeat (first | (with_reducible first | exact HB.out | apply below_alloc | apply pw_below_drewN | apply below_drew1) | exact HB.out)⟩⟩
                 case round =>
                   clear H'
                   try clear c1
                   try clear p1
                   try clear q1
                   try clear hx1
                   try clear c2
                   try clear p2
                   try clear q2
                   try clear hx2
                   try clear c3
                   try clear p6
                   try clear c7
                   try clear c7b0
                   try clear c8
                   try clear c8b0
                   try clear c9
                   try clear c10
                   try clear c11
                   try clear p19
                   try clear q19
                   try clear hx19
                   try clear p20
                   try clear q20
                   try clear hx20
                   try clear p22
                   try clear q22
                   try clear hx22
                   try clear c26
                   try clear c26b0
                   try clear c26b1
                   try clear c26b2
                   try clear c33
                   try clear c33b0
                   try clear c34
                   try clear c34b0
                   try clear c35
                   try clear c35b0
                   try clear c36
                   try clear c36b0
                   try clear c36b1
                   try clear c37
                   try clear c37b0
                   try clear c37b1
                   try clear hx199_0
                   try clear hx199_1
                   try clear hx200_0
                   try clear hx200_1
                   try clear hx207_0
                   try clear hx207_1
                   try clear hx208_0
                   try clear hx208_1
                   try clear hx221_0
                   try clear hx221_1
                   try clear hx222_0
                   try clear hx222_1
                   try clear hx223_0
                   try clear hx223_1
                   try clear hx224_0
                   try clear hx224_1
                   try clear p1
                   try clear p19
                   try clear p199
                   try clear p2
                   try clear p20
                   try clear p200
                   try clear p207
                   try clear p208
                   try clear p221
                   try clear p222
                   try clear p223
                   try clear p224
                   try clear p6
                   try clear q1
                   try clear q19
                   try clear q199
                   try clear q2
                   try clear q20
                   try clear q200
                   try clear q207
                   try clear q208
                   try clear q221
                   try clear q222
                   try clear q223
                   try clear q224
                   obtain ⟨x11_3, x12_3, rfl, rfl, HA, HK3, HO_5, HO_6, HB⟩ := hrel
                   cases gk with
                   | zero => exact absurd HA.out (by simp [graverlaw02_SpanGaps.l2])
                   | succ k3 =>
                     have H := HA.out
                     clear HA
                     simp only [graverlaw02_SpanGaps.l2] at H
                     by_cases c39 : x12_3 < (x6_4.length : Int)
                     · rw [if_pos c39] at H
                       have c39b0 : decide (x12_3 < (x6_4.length : Int)) = true := decide_eq_true c39
                       clear c39
                       have H' := aS H
                       clear H
                       go_wp2
                       go_loopg [11, 13] k3 (fun kq v11 v13 w' => ∃ (x11_4 : Bool) (x13_4 : Int), v11 = .bool x11_4 ∧ v13 = .int .i64 x13_4 ∧ Aside0 (graverlaw02_SpanGaps.l3 kq x5_4 x6_4 x11_4 x12_3 x13_4 = some r) ∧ Aside0 (kq ≤ k3) ∧ Aside0 (Kd.R k29 29 w' w.heap.size (fun _ => True) (.slice Ao27 x5_4.length co27) x5_4) ∧ Aside0 (Kd.R k30 30 w' w.heap.size (fun _ => True) (.slice Ao29 x6_4.length co29) x6_4) ∧ Aside0 (Below w.heap.size w w'))
                       case atStart => exact ⟨(x11_3), (0), (by first | rfl | (simp; done) | (simp [*]; done)), (by first | rfl | (simp; done) | (simp [*]; done)), H', ⟨Nat.le_refl _⟩, ⟨by (with_reducible repeat (first | apply Kd.R_alloc | apply Kd.R_drewN | apply Kd.R_drew)); exact HO_5.out⟩, ⟨by (with_reducible repeat (first | apply Kd.R_alloc | apply Kd.R_drewN | apply Kd.R_drew)); exact HO_6.out⟩, ⟨by repeat (first | (with_reducible first | exact HB.out | apply below_alloc | apply pw_below_drewN | apply below_drew1) | exact HB.out)⟩⟩
                       case round =>
                         clear H'
                         try clear c1
                         try clear p1
                         try clear q1
                         try clear hx1
                         try clear c2
                         try clear p2
                         try clear q2
                         try clear hx2
                         try clear c3
                         try clear p6
                         try clear c7
                         try clear c7b0
                         try clear c8
                         try clear c8b0
                         try clear c9
                         try clear c10
                         try clear c11
                         try clear p19
                         try clear q19
                         try clear hx19
                         try clear p20
                         try clear q20
                         try clear hx20
                         try clear p22
                         try clear q22
                         try clear hx22
                         try clear c26
                         try clear c26b0
                         try clear c26b1
                         try clear c26b2
                         try clear c33
                         try clear c33b0
                         try clear c34
                         try clear c34b0
                         try clear c35
                         try clear c35b0
                         try clear c36
                         try clear c36b0
                         try clear c36b1
                         try clear c37
                         try clear c37b0
                         try clear c37b1
                         try clear c39
                         try clear c39b0
                         try clear hx199_0
                         try clear hx199_1
                         try clear hx200_0
                         try clear hx200_1
                         try clear hx207_0
                         try clear hx207_1
                         try clear hx208_0
                         try clear hx208_1
                         try clear hx221_0
                         try clear hx221_1
                         try clear hx222_0
                         try clear hx222_1
                         try clear hx223_0
                         try clear hx223_1
                         try clear hx224_0
                         try clear hx224_1
                         try clear p1
                         try clear p19
                         try clear p199
                         try clear p2
                         try clear p20
                         try clear p200
                         try clear p207
                         try clear p208
                         try clear p22
                         try clear p221
                         try clear p222
                         try clear p223
                         try clear p224
                         try clear p6
                         try clear q1
                         try clear q19
                         try clear q199
                         try clear q2
                         try clear q20
                         try clear q200
                         try clear q207
                         try clear q208
                         try clear q22
                         try clear q221
                         try clear q222
                         try clear q223
                         try clear q224
                         obtain ⟨x11_4, x13_4, rfl, rfl, HA, HK4, HO_5, HO_6, HB⟩ := hrel
                         cases gk with
                         | zero => exact absurd HA.out (by simp [graverlaw02_SpanGaps.l3])
                         | succ k4 =>
                           have H := HA.out
                           clear HA
                           simp only [graverlaw02_SpanGaps.l3] at H
                           by_cases c40 : x13_4 < x12_3
                           · rw [if_pos c40] at H
                             have c40b0 : decide (x13_4 < x12_3) = true := decide_eq_true c40
                             clear c40
                             by_cases c41 : 0 ≤ x12_3
                             · rw [if_pos c41] at H
                               have c41b0 : decide (0 ≤ x12_3) = true := decide_eq_true c41
                               clear c41
                               by_cases c42 : x12_3 < (x6_4.length : Int)
                               · rw [if_pos c42] at H
                                 have c42b0 : decide (x12_3 < (x6_4.length : Int)) = true := decide_eq_true c42
                                 clear c42
                                 by_cases c43 : ((rd_T30 x6_4 x12_3).f1) > 0
                                 · rw [if_pos c43] at H
                                   have c43b0 : decide (0 < ((rd_T30 x6_4 x12_3).f1)) = true := decide_eq_true c43
                                   clear c43
                                   by_cases c44 : 0 ≤ x13_4
                                   · rw [if_pos c44] at H
                                     have c44b0 : decide (0 ≤ x13_4) = true := decide_eq_true c44
                                     clear c44
                                     by_cases c45 : x13_4 < (x6_4.length : Int)
                                     · rw [if_pos c45] at H
                                       have c45b0 : decide (x13_4 < (x6_4.length : Int)) = true := decide_eq_true c45
                                       clear c45
                                       by_cases c46 : ((rd_T30 x6_4 x13_4).f1) > 0
                                       · rw [if_pos c46] at H
                                         have c46b0 : decide (0 < ((rd_T30 x6_4 x13_4).f1)) = true := decide_eq_true c46
                                         clear c46
                                         replace H := Option.bind_eq_some_iff.mp H
                                         obtain ⟨t230, A470, H⟩ := H
                                         replace H : (if t230 = true then (graverlaw02_SpanGaps.l3 k4 x5_4 x6_4 true x12_3 (wrap64 (x13_4 + 1))) else ((graverref02_Has.f ((rd_T30 x6_4 x13_4).f0) ((rd_T30 x6_4 x13_4).f1) ((rd_T30 x6_4 x12_3).f0)).bind fun t233 => (if t233 = true then (graverlaw02_SpanGaps.l3 k4 x5_4 x6_4 true x12_3 (wrap64 (x13_4 + 1))) else (graverlaw02_SpanGaps.l3 k4 x5_4 x6_4 x11_4 x12_3 (wrap64 (x13_4 + 1)))))) = some r := H
                                         have A47 := aS A470
                                         clear A470
                                         by_cases c48 : t230 = true
                                         · subst c48
                                           have H1 : (graverlaw02_SpanGaps.l3 k4 x5_4 x6_4 true x12_3 (wrap64 (x13_4 + 1))) = some r := by rw [if_pos rfl] at H; exact H
                                           clear H
                                           have H := H1
                                           clear H1
                                           have H' := aS H
                                           clear H
                                           try go_wp2
                                           have n0_ := aS (Kd.R_drew HO_5.out)
                                           have n1_ := aS (Kd.R_drew HO_6.out)
                                           have n2_ := aS (below_drew1 HB.out)
                                           clear HO_5
                                           clear HO_6
                                           clear HB
                                           have HO_5 := n0_
                                           have HO_6 := n1_
                                           have HB := n2_
                                           clear n0_ n1_ n2_
                                           have p226 : 0 ≤ (x12_3 : Int) := of_decide_eq_true (by first | (with_reducible assumption) | assumption)
                                           have q226 : x12_3 < (x6_4.length : Int) := of_decide_eq_true (by first | (with_reducible assumption) | assumption)
                                           obtain ⟨ad226, e226, hx226_0, hx226_1⟩ := at_T30 (Kd.R_reads' HO_6.out).2.2 x12_3 p226 q226
                                           cases e226
                                           replace p226 := eq_true p226
                                           replace q226 := eq_true q226
                                           have p227 : 0 ≤ (x13_4 : Int) := of_decide_eq_true (by first | (with_reducible assumption) | assumption)
                                           have q227 : x13_4 < (x6_4.length : Int) := of_decide_eq_true (by first | (with_reducible assumption) | assumption)
                                           obtain ⟨ad227, e227, hx227_0, hx227_1⟩ := at_T30 (Kd.R_reads' HO_6.out).2.2 x13_4 p227 q227
                                           obtain rfl : ad226 = ad227 := (by injection e227)
                                           replace p227 := eq_true p227
                                           replace q227 := eq_true q227
                                           have p228 : 0 ≤ (x12_3 : Int) := of_decide_eq_true (by first | (with_reducible assumption) | assumption)
                                           have q228 : x12_3 < (x6_4.length : Int) := of_decide_eq_true (by first | (with_reducible assumption) | assumption)
                                           obtain ⟨ad228, e228, hx228_0, hx228_1⟩ := at_T30 (Kd.R_reads' HO_6.out).2.2 x12_3 p228 q228
                                           obtain rfl : ad226 = ad228 := (by injection e228)
                                           replace p228 := eq_true p228
                                           replace q228 := eq_true q228
                                           have p229 : 0 ≤ (x13_4 : Int) := of_decide_eq_true (by first | (with_reducible assumption) | assumption)
                                           have q229 : x13_4 < (x6_4.length : Int) := of_decide_eq_true (by first | (with_reducible assumption) | assumption)
                                           obtain ⟨ad229, e229, hx229_0, hx229_1⟩ := at_T30 (Kd.R_reads' HO_6.out).2.2 x13_4 p229 q229
                                           obtain rfl : ad226 = ad229 := (by injection e229)
                                           replace p229 := eq_true p229
                                           replace q229 := eq_true q229
                                           refine start_ (n := 38) (S := fun w' => w'.cell? (ad226.add ((x12_3).toNat * 2)) = some (.int .u64 ((rd_T30 x6_4 x12_3).f0)) ∧ w'.cell? ⟨(ad226.add ((x12_3).toNat * 2)).block, (ad226.add ((x12_3).toNat * 2)).off + 1, none⟩ = some (.int .u64 ((rd_T30 x6_4 x12_3).f1)) ∧ w'.cell? (ad226.add ((x13_4).toNat * 2)) = some (.int .u64 ((rd_T30 x6_4 x13_4).f0)) ∧ w'.cell? ⟨(ad226.add ((x13_4).toNat * 2)).block, (ad226.add ((x13_4).toNat * 2)).off + 1, none⟩ = some (.int .u64 ((rd_T30 x6_4 x13_4).f1)) ∧ w'.cell? (ad226.add ((x12_3).toNat * 2)) = some (.int .u64 ((rd_T30 x6_4 x12_3).f0)) ∧ w'.cell? ⟨(ad226.add ((x12_3).toNat * 2)).block, (ad226.add ((x12_3).toNat * 2)).off + 1, none⟩ = some (.int .u64 ((rd_T30 x6_4 x12_3).f1)) ∧ w'.cell? (ad226.add ((x13_4).toNat * 2)) = some (.int .u64 ((rd_T30 x6_4 x13_4).f0)) ∧ w'.cell? ⟨(ad226.add ((x13_4).toNat * 2)).block, (ad226.add ((x13_4).toNat * 2)).off + 1, none⟩ = some (.int .u64 ((rd_T30 x6_4 x13_4).f1))) (ds := []) #[false, false, false, false, false, false, false, false, false, false, false, false, false, false, false, false, false, false, false, false, false, false, false, false, false, false, false, false, false, false, false, false, false, false, false, false, false, false] (by kernel_rfl) rfl rfl ⟨hx226_0, hx226_1, hx227_0, hx227_1, hx228_0, hx228_1, hx229_0, hx229_1⟩ (fun hHeld => ?_); refine with_tabW graverlaw02_SpanGaps.tab25 graverlaw02_SpanGaps.bits25 (fun HT_ HW_ => ?_)
                                           generalize wr.drew = w49 at HO_5 HO_6 HB hx226_0 hx226_1 hx227_0 hx227_1 hx228_0 hx228_1 hx229_0 hx229_1 hHeld ⊢
                                           refine pure_ (i := 0) (N := some 110) (v := ?_) (a' := ?_) (bm 38 1) rfl rfl (any_of HT_.out (by kernel_rfl)) (fun _ _ _ h => h) (Or.inl ⟨by rfl, ?_⟩) ?_ ?_
                                           rotate_left
                                           · intro w'
                                             go_simp
                                             with_reducible rfl
                                           rotate_left
                                           · simp only [Act.put, aput]
                                             rfl
                                           refine pure_ (i := 1) (N := some 111) (v := ?_) (a' := ?_) (bm 38 3) rfl rfl (any_of HT_.out (by kernel_rfl)) (fun _ _ _ h => h) (Or.inl ⟨by rfl, ?_⟩) ?_ ?_
                                           rotate_left
                                           · intro w'
                                             go_simp
                                             with_reducible rfl
                                           rotate_left
                                           · simp only [Act.put, aput]
                                             rfl
                                           refine pure_ (i := 2) (N := some 112) (v := ?_) (a' := ?_) (bm 38 7) rfl rfl (any_of HT_.out (by kernel_rfl)) (fun _ _ _ h => h) (Or.inl ⟨by rfl, ?_⟩) ?_ ?_
                                           rotate_left
                                           · intro w'
                                             go_simp
                                             with_reducible rfl
                                           rotate_left
                                           · simp only [Act.put, aput]
                                             rfl
                                           refine pure_ (i := 3) (N := some 113) (v := ?_) (a' := ?_) (bm 38 15) rfl rfl (any_of HT_.out (by kernel_rfl)) (fun _ _ _ h => h) (Or.inl ⟨by rfl, ?_⟩) ?_ ?_
                                           rotate_left
                                           · intro w'
                                             go_simp
                                             with_reducible rfl
                                           rotate_left
                                           · simp only [Act.put, aput]
                                             rfl
                                           refine take_ (i := 4) (N := some 114) (v := ?_) (a' := ?_) (bm 38 31) rfl rfl (take_ofW HT_.out HW_.out (by kernel_rfl)) (fun _ _ _ h => h) (Or.inl ⟨by rfl, ?_⟩) hHeld ?_ ?_
                                           rotate_left
                                           · intro w' s0
                                             go_simp
                                             with_reducible rfl
                                           rotate_left
                                           · simp only [Act.put, aput]
                                             rfl
                                           refine pure_ (i := 5) (N := some 115) (v := ?_) (a' := ?_) (bm 38 63) rfl rfl (any_of HT_.out (by kernel_rfl)) (fun _ _ _ h => h) (Or.inl ⟨by rfl, ?_⟩) ?_ ?_
                                           rotate_left
                                           · intro w'
                                             go_simp
                                             with_reducible rfl
                                           rotate_left
                                           · simp only [Act.put, aput]
                                             rfl
                                           refine pure_ (i := 6) (N := some 116) (v := ?_) (a' := ?_) (bm 38 127) rfl rfl (any_of HT_.out (by kernel_rfl)) (fun _ _ _ h => h) (Or.inl ⟨by rfl, ?_⟩) ?_ ?_
                                           rotate_left
                                           · intro w'
                                             go_simp
                                             with_reducible rfl
                                           rotate_left
                                           · simp only [Act.put, aput]
                                             rfl
                                           refine pure_ (i := 7) (N := some 117) (v := ?_) (a' := ?_) (bm 38 255) rfl rfl (any_of HT_.out (by kernel_rfl)) (fun _ _ _ h => h) (Or.inl ⟨by rfl, ?_⟩) ?_ ?_
                                           rotate_left
                                           · intro w'
                                             go_simp
                                             with_reducible rfl
                                           rotate_left
                                           · simp only [Act.put, aput]
                                             rfl
                                           refine pure_ (i := 8) (N := some 118) (v := ?_) (a' := ?_) (bm 38 511) rfl rfl (any_of HT_.out (by kernel_rfl)) (fun _ _ _ h => h) (Or.inl ⟨by rfl, ?_⟩) ?_ ?_
                                           rotate_left
                                           · intro w'
                                             go_simp
                                             with_reducible rfl
                                           rotate_left
                                           · simp only [Act.put, aput]
                                             rfl
                                           refine pure_ (i := 9) (N := some 119) (v := ?_) (a' := ?_) (bm 38 1023) rfl rfl (any_of HT_.out (by kernel_rfl)) (fun _ _ _ h => h) (Or.inl ⟨by rfl, ?_⟩) ?_ ?_
                                           rotate_left
                                           · intro w'
                                             go_simp
                                             with_reducible rfl
                                           rotate_left
                                           · simp only [Act.put, aput]
                                             rfl
                                           refine pure_ (i := 10) (N := some 120) (v := ?_) (a' := ?_) (bm 38 2047) rfl rfl (any_of HT_.out (by kernel_rfl)) (fun _ _ _ h => h) (Or.inl ⟨by rfl, ?_⟩) ?_ ?_
                                           rotate_left
                                           · intro w'
                                             go_simp
                                             with_reducible rfl
                                           rotate_left
                                           · simp only [Act.put, aput]
                                             rfl
                                           refine take_ (i := 11) (N := some 121) (v := ?_) (a' := ?_) (bm 38 4095) rfl rfl (take_ofW HT_.out HW_.out (by kernel_rfl)) (fun _ _ _ h => h) (Or.inl ⟨by rfl, ?_⟩) hHeld ?_ ?_
                                           rotate_left
                                           · intro w' s0
                                             go_simp
                                             with_reducible rfl
                                           rotate_left
                                           · simp only [Act.put, aput]
                                             rfl
                                           refine pure_ (i := 12) (N := some 122) (v := ?_) (a' := ?_) (bm 38 8191) rfl rfl (any_of HT_.out (by kernel_rfl)) (fun _ _ _ h => h) (Or.inl ⟨by rfl, ?_⟩) ?_ ?_
                                           rotate_left
                                           · intro w'
                                             go_simp
                                             with_reducible rfl
                                           rotate_left
                                           · simp only [Act.put, aput]
                                             rfl
                                           refine pure_ (i := 13) (N := some 123) (v := ?_) (a' := ?_) (bm 38 16383) rfl rfl (any_of HT_.out (by kernel_rfl)) (fun _ _ _ h => h) (Or.inl ⟨by rfl, ?_⟩) ?_ ?_
                                           rotate_left
                                           · intro w'
                                             go_simp
                                             with_reducible rfl
                                           rotate_left
                                           · simp only [Act.put, aput]
                                             rfl
                                           refine pure_ (i := 14) (N := some 124) (v := ?_) (a' := ?_) (bm 38 32767) rfl rfl (any_of HT_.out (by kernel_rfl)) (fun _ _ _ h => h) (Or.inl ⟨by rfl, ?_⟩) ?_ ?_
                                           rotate_left
                                           · intro w'
                                             go_simp
                                             with_reducible rfl
                                           rotate_left
                                           · simp only [Act.put, aput]
                                             rfl
                                           refine pure_ (i := 15) (N := some 125) (v := ?_) (a' := ?_) (bm 38 65535) rfl rfl (any_of HT_.out (by kernel_rfl)) (fun _ _ _ h => h) (Or.inl ⟨by rfl, ?_⟩) ?_ ?_
                                           rotate_left
                                           · intro w'
                                             go_simp
                                             with_reducible rfl
                                           rotate_left
                                           · simp only [Act.put, aput]
                                             rfl
                                           refine pure_ (i := 16) (N := some 126) (v := ?_) (a' := ?_) (bm 38 131071) rfl rfl (any_of HT_.out (by kernel_rfl)) (fun _ _ _ h => h) (Or.inl ⟨by rfl, ?_⟩) ?_ ?_
                                           rotate_left
                                           · intro w'
                                             go_simp
                                             with_reducible rfl
                                           rotate_left
                                           · simp only [Act.put, aput]
                                             rfl
                                           refine pure_ (i := 17) (N := some 127) (v := ?_) (a' := ?_) (bm 38 262143) rfl rfl (any_of HT_.out (by kernel_rfl)) (fun _ _ _ h => h) (Or.inl ⟨by rfl, ?_⟩) ?_ ?_
                                           rotate_left
                                           · intro w'
                                             go_simp
                                             with_reducible rfl
                                           rotate_left
                                           · simp only [Act.put, aput]
                                             rfl
                                           refine pure_ (i := 19) (N := some 129) (v := ?_) (a' := ?_) (bm 38 786431) rfl rfl (any_of HT_.out (by kernel_rfl)) (fun _ _ _ h => h) (Or.inl ⟨by rfl, ?_⟩) ?_ ?_
                                           rotate_left
                                           · intro w'
                                             go_simp
                                             with_reducible rfl
                                           rotate_left
                                           · simp only [Act.put, aput]
                                             rfl
                                           refine pure_ (i := 20) (N := some 130) (v := ?_) (a' := ?_) (bm 38 1835007) rfl rfl (any_of HT_.out (by kernel_rfl)) (fun _ _ _ h => h) (Or.inl ⟨by rfl, ?_⟩) ?_ ?_
                                           rotate_left
                                           · intro w'
                                             go_simp
                                             with_reducible rfl
                                           rotate_left
                                           · simp only [Act.put, aput]
                                             rfl
                                           refine pure_ (i := 21) (N := some 131) (v := ?_) (a' := ?_) (bm 38 3932159) rfl rfl (any_of HT_.out (by kernel_rfl)) (fun _ _ _ h => h) (Or.inl ⟨by rfl, ?_⟩) ?_ ?_
                                           rotate_left
                                           · intro w'
                                             go_simp
                                             with_reducible rfl
                                           rotate_left
                                           · simp only [Act.put, aput]
                                             rfl
                                           refine pure_ (i := 22) (N := some 132) (v := ?_) (a' := ?_) (bm 38 8126463) rfl rfl (any_of HT_.out (by kernel_rfl)) (fun _ _ _ h => h) (Or.inl ⟨by rfl, ?_⟩) ?_ ?_
                                           rotate_left
                                           · intro w'
                                             go_simp
                                             with_reducible rfl
                                           rotate_left
                                           · simp only [Act.put, aput]
                                             rfl
                                           refine take_ (i := 18) (N := some 128) (v := ?_) (a' := ?_) (bm 38 8388607) rfl rfl (take_ofW HT_.out HW_.out (by kernel_rfl)) (fun _ _ _ h => h) (Or.inl ⟨by rfl, ?_⟩) hHeld ?_ ?_
                                           rotate_left
                                           · intro w' s0
                                             go_simp
                                             with_reducible rfl
                                           rotate_left
                                           · simp only [Act.put, aput]
                                             rfl
                                           refine take_ (i := 23) (N := some 133) (v := ?_) (a' := ?_) (bm 38 16777215) rfl rfl (take_ofW HT_.out HW_.out (by kernel_rfl)) (fun _ _ _ h => h) (Or.inl ⟨by rfl, ?_⟩) hHeld ?_ ?_
                                           rotate_left
                                           · intro w' s0
                                             go_simp
                                             with_reducible rfl
                                           rotate_left
                                           · simp only [Act.put, aput]
                                             rfl
                                           refine one_ (i := 24) (N := some 134) (bm 38 33554431) rfl rfl (one_of HT_.out (by kernel_rfl)) (by decide) (fun K hK => ?_)
                                           refine goes_ Try.func10 (by kernel_rfl) rfl #[.agg #[.int .u64 ((rd_T30 x6_4 x12_3).f0), .int .u64 ((rd_T30 x6_4 x12_3).f1)], .int .u64 ((rd_T30 x6_4 x13_4).f0)] (by rfl) rfl rfl (by (try simp only [List.map_toArray, List.map_cons, List.map_nil]); first | done | rfl | (simp only [List.length_drop, List.length_take]; rfl)) ?_
                                           with_reducible refine (graverref02_Has.calls ((rd_T30 x6_4 x12_3).f0) ((rd_T30 x6_4 x12_3).f1) ((rd_T30 x6_4 x13_4).f0) true _ A47.out).mono ?_
                                           rintro e w50 ⟨rfl, hb⟩
                                           have HS0_ := (hb.cell (World.block_lt_of_cell? _ _ (hHeld.1))).trans (hHeld.1)
                                           have HS1_ := (hb.cell (World.block_lt_of_cell? _ _ (hHeld.2.1))).trans (hHeld.2.1)
                                           have HS2_ := (hb.cell (World.block_lt_of_cell? _ _ (hHeld.2.2.1))).trans (hHeld.2.2.1)
                                           have HS3_ := (hb.cell (World.block_lt_of_cell? _ _ (hHeld.2.2.2.1))).trans (hHeld.2.2.2.1)
                                           have HS4_ := (hb.cell (World.block_lt_of_cell? _ _ (hHeld.2.2.2.2.1))).trans (hHeld.2.2.2.2.1)
                                           have HS5_ := (hb.cell (World.block_lt_of_cell? _ _ (hHeld.2.2.2.2.2.1))).trans (hHeld.2.2.2.2.2.1)
                                           have HS6_ := (hb.cell (World.block_lt_of_cell? _ _ (hHeld.2.2.2.2.2.2.1))).trans (hHeld.2.2.2.2.2.2.1)
                                           have HS7_ := (hb.cell (World.block_lt_of_cell? _ _ (hHeld.2.2.2.2.2.2.2))).trans (hHeld.2.2.2.2.2.2.2)
                                           refine ⟨_, rfl, ?_⟩
                                           have n0_ := aS (Kd.R_below (by (with_reducible repeat (first | apply Kd.R_alloc | apply Kd.R_drewN | apply Kd.R_drew)); exact HO_5.out) hb)
                                           have n1_ := aS (Kd.R_below (by (with_reducible repeat (first | apply Kd.R_alloc | apply Kd.R_drewN | apply Kd.R_drew)); exact HO_6.out) hb)
                                           have n2_ := aS (below_step (by repeat (first | (with_reducible first | exact HB.out | apply below_alloc | apply pw_below_drewN | apply below_drew1) | exact HB.out)) hb)
                                           clear HO_5
                                           clear HO_6
                                           clear HB
                                           have HO_5 := n0_
                                           have HO_6 := n1_
                                           have HB := n2_
                                           clear n0_ n1_ n2_
                                           (try clear hb)
                                           (try clear hb2)
                                           (try clear hk)
                                           (try clear hi)
                                           refine hK.out _ _ ⟨HS0_, HS1_, HS2_, HS3_, HS4_, HS5_, HS6_, HS7_⟩ (fun hHeld => ?_)
                                           clear hK K
                                           refine norm_ (a' := ?_) ?_ ?_
                                           rotate_left
                                           · show Act.put _ (some 134) _ = _
                                             simp only [Act.put, aput]
                                             rfl
                                           refine pure_ (i := 25) (N := some 135) (v := ?_) (a' := ?_) (bm 38 67108863) rfl rfl (any_of HT_.out (by kernel_rfl)) (fun _ _ _ h => h) (Or.inl ⟨by rfl, ?_⟩) ?_ ?_
                                           rotate_left
                                           · intro w'
                                             go_simp
                                             with_reducible rfl
                                           rotate_left
                                           · simp only [Act.put, aput]
                                             rfl
                                           refine pure_ (i := 26) (N := some 136) (v := undef) (a' := ?_) (bm 38 134217727) rfl rfl (any_of HT_.out (by kernel_rfl)) (fun _ _ _ h => h) (Or.inr ⟨by rfl, rfl⟩) ?_ ?_
                                           rotate_left
                                           · simp only [Act.put, aput]
                                             rfl
                                           refine pure_ (i := 27) (N := some 137) (v := undef) (a' := ?_) (bm 38 268435455) rfl rfl (any_of HT_.out (by kernel_rfl)) (fun _ _ _ h => h) (Or.inr ⟨by rfl, rfl⟩) ?_ ?_
                                           rotate_left
                                           · simp only [Act.put, aput]
                                             rfl
                                           refine pure_ (i := 28) (N := some 138) (v := undef) (a' := ?_) (bm 38 536870911) rfl rfl (any_of HT_.out (by kernel_rfl)) (fun _ _ _ h => h) (Or.inr ⟨by rfl, rfl⟩) ?_ ?_
                                           rotate_left
                                           · simp only [Act.put, aput]
                                             rfl
                                           refine pure_ (i := 29) (N := some 139) (v := undef) (a' := ?_) (bm 38 1073741823) rfl rfl (any_of HT_.out (by kernel_rfl)) (fun _ _ _ h => h) (Or.inr ⟨by rfl, rfl⟩) ?_ ?_
                                           rotate_left
                                           · simp only [Act.put, aput]
                                             rfl
                                           refine pure_ (i := 30) (N := some 140) (v := undef) (a' := ?_) (bm 38 2147483647) rfl rfl (any_of HT_.out (by kernel_rfl)) (fun _ _ _ h => h) (Or.inr ⟨by rfl, rfl⟩) ?_ ?_
                                           rotate_left
                                           · simp only [Act.put, aput]
                                             rfl
                                           refine pure_ (i := 31) (N := some 141) (v := undef) (a' := ?_) (bm 38 4294967295) rfl rfl (any_of HT_.out (by kernel_rfl)) (fun _ _ _ h => h) (Or.inr ⟨by rfl, rfl⟩) ?_ ?_
                                           rotate_left
                                           · simp only [Act.put, aput]
                                             rfl
                                           refine pure_ (i := 32) (N := some 142) (v := undef) (a' := ?_) (bm 38 8589934591) rfl rfl (any_of HT_.out (by kernel_rfl)) (fun _ _ _ h => h) (Or.inr ⟨by rfl, rfl⟩) ?_ ?_
                                           rotate_left
                                           · simp only [Act.put, aput]
                                             rfl
                                           refine pure_ (i := 33) (N := some 143) (v := undef) (a' := ?_) (bm 38 17179869183) rfl rfl (any_of HT_.out (by kernel_rfl)) (fun _ _ _ h => h) (Or.inr ⟨by rfl, rfl⟩) ?_ ?_
                                           rotate_left
                                           · simp only [Act.put, aput]
                                             rfl
                                           refine pure_ (i := 34) (N := some 144) (v := undef) (a' := ?_) (bm 38 34359738367) rfl rfl (any_of HT_.out (by kernel_rfl)) (fun _ _ _ h => h) (Or.inr ⟨by rfl, rfl⟩) ?_ ?_
                                           rotate_left
                                           · simp only [Act.put, aput]
                                             rfl
                                           refine pure_ (i := 35) (N := some 145) (v := undef) (a' := ?_) (bm 38 68719476735) rfl rfl (any_of HT_.out (by kernel_rfl)) (fun _ _ _ h => h) (Or.inr ⟨by rfl, rfl⟩) ?_ ?_
                                           rotate_left
                                           · simp only [Act.put, aput]
                                             rfl
                                           refine pure_ (i := 36) (N := some 146) (v := ?_) (a' := ?_) (bm 38 137438953471) rfl rfl (any_of HT_.out (by kernel_rfl)) (fun _ _ _ h => h) (Or.inl ⟨by rfl, ?_⟩) ?_ ?_
                                           rotate_left
                                           · intro w'
                                             go_simp
                                             with_reducible rfl
                                           rotate_left
                                           · simp only [Act.put, aput]
                                             rfl
                                           refine pure_ (i := 37) (N := some 147) (v := ?_) (a' := ?_) (bm 38 274877906943) rfl rfl (any_of HT_.out (by kernel_rfl)) (fun _ _ _ h => h) (Or.inl ⟨by rfl, ?_⟩) ?_ ?_
                                           rotate_left
                                           · intro w'
                                             go_simp
                                             with_reducible rfl
                                           rotate_left
                                           · simp only [Act.put, aput]
                                             rfl
                                           refine done_ (done_of HT_.out (by kernel_rfl)) ?_
                                           try go_wp2
                                           go_roundg k4
                                           case measure => have := HJ4.out; have := HK2.out; have := HK3.out; have := HK4.out; omega
                                           case rel => exact ⟨(true), (wrap64 (x13_4 + 1)), (by first | rfl | (simp; done) | (simp [*]; done)), (by first | rfl | (simp; done) | (simp [*]; done)), H', ⟨by have := HJ4.out; have := HK2.out; have := HK3.out; have := HK4.out; omega⟩, ⟨by (with_reducible repeat (first | apply Kd.R_alloc | apply Kd.R_drewN | apply Kd.R_drew)); exact HO_5.out⟩, ⟨by (with_reducible repeat (first | apply Kd.R_alloc | apply Kd.R_drewN | apply Kd.R_drew)); exact HO_6.out⟩, ⟨by repeat (first | (with_reducible first | exact HB.out | apply below_alloc | apply pw_below_drewN | apply below_drew1) | exact HB.out)⟩⟩
                                         · replace c48 := Bool.eq_false_iff.mpr c48
                                           subst c48
                                           have H1 : ((graverref02_Has.f ((rd_T30 x6_4 x13_4).f0) ((rd_T30 x6_4 x13_4).f1) ((rd_T30 x6_4 x12_3).f0)).bind fun t233 => (if t233 = true then (graverlaw02_SpanGaps.l3 k4 x5_4 x6_4 true x12_3 (wrap64 (x13_4 + 1))) else (graverlaw02_SpanGaps.l3 k4 x5_4 x6_4 x11_4 x12_3 (wrap64 (x13_4 + 1))))) = some r := by rw [if_neg (show ¬ (false = true) by decide)] at H; exact H
                                           clear H
                                           have H := H1
                                           clear H1
                                           replace H := Option.bind_eq_some_iff.mp H
                                           obtain ⟨t233, A510, H⟩ := H
                                           replace H : (if t233 = true then (graverlaw02_SpanGaps.l3 k4 x5_4 x6_4 true x12_3 (wrap64 (x13_4 + 1))) else (graverlaw02_SpanGaps.l3 k4 x5_4 x6_4 x11_4 x12_3 (wrap64 (x13_4 + 1)))) = some r := H
                                           have A51 := aS A510
                                           clear A510
                                           by_cases c52 : t233 = true
                                           · subst c52
                                             have H1 : (graverlaw02_SpanGaps.l3 k4 x5_4 x6_4 true x12_3 (wrap64 (x13_4 + 1))) = some r := by rw [if_pos rfl] at H; exact H
                                             clear H
                                             have H := H1
                                             clear H1
                                             have H' := aS H
                                             clear H
                                             try go_wp2
                                             have n0_ := aS (Kd.R_drew HO_5.out)
                                             have n1_ := aS (Kd.R_drew HO_6.out)
                                             have n2_ := aS (below_drew1 HB.out)
                                             clear HO_5
                                             clear HO_6
                                             clear HB
                                             have HO_5 := n0_
                                             have HO_6 := n1_
                                             have HB := n2_
                                             clear n0_ n1_ n2_
                                             have p226 : 0 ≤ (x12_3 : Int) := of_decide_eq_true (by first | (with_reducible assumption) | assumption)
                                             have q226 : x12_3 < (x6_4.length : Int) := of_decide_eq_true (by first | (with_reducible assumption) | assumption)
                                             obtain ⟨ad226, e226, hx226_0, hx226_1⟩ := at_T30 (Kd.R_reads' HO_6.out).2.2 x12_3 p226 q226
                                             cases e226
                                             replace p226 := eq_true p226
                                             replace q226 := eq_true q226
                                             have p227 : 0 ≤ (x13_4 : Int) := of_decide_eq_true (by first | (with_reducible assumption) | assumption)
                                             have q227 : x13_4 < (x6_4.length : Int) := of_decide_eq_true (by first | (with_reducible assumption) | assumption)
                                             obtain ⟨ad227, e227, hx227_0, hx227_1⟩ := at_T30 (Kd.R_reads' HO_6.out).2.2 x13_4 p227 q227
                                             obtain rfl : ad226 = ad227 := (by injection e227)
                                             replace p227 := eq_true p227
                                             replace q227 := eq_true q227
                                             have p228 : 0 ≤ (x12_3 : Int) := of_decide_eq_true (by first | (with_reducible assumption) | assumption)
                                             have q228 : x12_3 < (x6_4.length : Int) := of_decide_eq_true (by first | (with_reducible assumption) | assumption)
                                             obtain ⟨ad228, e228, hx228_0, hx228_1⟩ := at_T30 (Kd.R_reads' HO_6.out).2.2 x12_3 p228 q228
                                             obtain rfl : ad226 = ad228 := (by injection e228)
                                             replace p228 := eq_true p228
                                             replace q228 := eq_true q228
                                             have p229 : 0 ≤ (x13_4 : Int) := of_decide_eq_true (by first | (with_reducible assumption) | assumption)
                                             have q229 : x13_4 < (x6_4.length : Int) := of_decide_eq_true (by first | (with_reducible assumption) | assumption)
                                             obtain ⟨ad229, e229, hx229_0, hx229_1⟩ := at_T30 (Kd.R_reads' HO_6.out).2.2 x13_4 p229 q229
                                             obtain rfl : ad226 = ad229 := (by injection e229)
                                             replace p229 := eq_true p229
                                             replace q229 := eq_true q229
                                             have p231 : 0 ≤ (x13_4 : Int) := of_decide_eq_true (by first | (with_reducible assumption) | assumption)
                                             have q231 : x13_4 < (x6_4.length : Int) := of_decide_eq_true (by first | (with_reducible assumption) | assumption)
                                             obtain ⟨ad231, e231, hx231_0, hx231_1⟩ := at_T30 (Kd.R_reads' HO_6.out).2.2 x13_4 p231 q231
                                             obtain rfl : ad226 = ad231 := (by injection e231)
                                             replace p231 := eq_true p231
                                             replace q231 := eq_true q231
                                             have p232 : 0 ≤ (x12_3 : Int) := of_decide_eq_true (by first | (with_reducible assumption) | assumption)
                                             have q232 : x12_3 < (x6_4.length : Int) := of_decide_eq_true (by first | (with_reducible assumption) | assumption)
                                             obtain ⟨ad232, e232, hx232_0, hx232_1⟩ := at_T30 (Kd.R_reads' HO_6.out).2.2 x12_3 p232 q232
                                             obtain rfl : ad226 = ad232 := (by injection e232)
                                             replace p232 := eq_true p232
                                             replace q232 := eq_true q232
                                             refine start_ (n := 38) (S := fun w' => w'.cell? (ad226.add ((x12_3).toNat * 2)) = some (.int .u64 ((rd_T30 x6_4 x12_3).f0)) ∧ w'.cell? ⟨(ad226.add ((x12_3).toNat * 2)).block, (ad226.add ((x12_3).toNat * 2)).off + 1, none⟩ = some (.int .u64 ((rd_T30 x6_4 x12_3).f1)) ∧ w'.cell? (ad226.add ((x13_4).toNat * 2)) = some (.int .u64 ((rd_T30 x6_4 x13_4).f0)) ∧ w'.cell? ⟨(ad226.add ((x13_4).toNat * 2)).block, (ad226.add ((x13_4).toNat * 2)).off + 1, none⟩ = some (.int .u64 ((rd_T30 x6_4 x13_4).f1)) ∧ w'.cell? (ad226.add ((x12_3).toNat * 2)) = some (.int .u64 ((rd_T30 x6_4 x12_3).f0)) ∧ w'.cell? ⟨(ad226.add ((x12_3).toNat * 2)).block, (ad226.add ((x12_3).toNat * 2)).off + 1, none⟩ = some (.int .u64 ((rd_T30 x6_4 x12_3).f1)) ∧ w'.cell? (ad226.add ((x13_4).toNat * 2)) = some (.int .u64 ((rd_T30 x6_4 x13_4).f0)) ∧ w'.cell? ⟨(ad226.add ((x13_4).toNat * 2)).block, (ad226.add ((x13_4).toNat * 2)).off + 1, none⟩ = some (.int .u64 ((rd_T30 x6_4 x13_4).f1)) ∧ w'.cell? (ad226.add ((x13_4).toNat * 2)) = some (.int .u64 ((rd_T30 x6_4 x13_4).f0)) ∧ w'.cell? ⟨(ad226.add ((x13_4).toNat * 2)).block, (ad226.add ((x13_4).toNat * 2)).off + 1, none⟩ = some (.int .u64 ((rd_T30 x6_4 x13_4).f1)) ∧ w'.cell? (ad226.add ((x12_3).toNat * 2)) = some (.int .u64 ((rd_T30 x6_4 x12_3).f0)) ∧ w'.cell? ⟨(ad226.add ((x12_3).toNat * 2)).block, (ad226.add ((x12_3).toNat * 2)).off + 1, none⟩ = some (.int .u64 ((rd_T30 x6_4 x12_3).f1))) (ds := []) #[false, false, false, false, false, false, false, false, false, false, false, false, false, false, false, false, false, false, false, false, false, false, false, false, false, false, false, false, false, false, false, false, false, false, false, false, false, false] (by kernel_rfl) rfl rfl ⟨hx226_0, hx226_1, hx227_0, hx227_1, hx228_0, hx228_1, hx229_0, hx229_1, hx231_0, hx231_1, hx232_0, hx232_1⟩ (fun hHeld => ?_); refine with_tabW graverlaw02_SpanGaps.tab25 graverlaw02_SpanGaps.bits25 (fun HT_ HW_ => ?_)
                                             generalize wr.drew = w53 at HO_5 HO_6 HB hx226_0 hx226_1 hx227_0 hx227_1 hx228_0 hx228_1 hx229_0 hx229_1 hx231_0 hx231_1 hx232_0 hx232_1 hHeld ⊢
                                             refine pure_ (i := 0) (N := some 110) (v := ?_) (a' := ?_) (bm 38 1) rfl rfl (any_of HT_.out (by kernel_rfl)) (fun _ _ _ h => h) (Or.inl ⟨by rfl, ?_⟩) ?_ ?_
                                             rotate_left
                                             · intro w'
                                               go_simp
                                               with_reducible rfl
                                             rotate_left
                                             · simp only [Act.put, aput]
                                               rfl
                                             refine pure_ (i := 1) (N := some 111) (v := ?_) (a' := ?_) (bm 38 3) rfl rfl (any_of HT_.out (by kernel_rfl)) (fun _ _ _ h => h) (Or.inl ⟨by rfl, ?_⟩) ?_ ?_
                                             rotate_left
                                             · intro w'
                                               go_simp
                                               with_reducible rfl
                                             rotate_left
                                             · simp only [Act.put, aput]
                                               rfl
                                             refine pure_ (i := 2) (N := some 112) (v := ?_) (a' := ?_) (bm 38 7) rfl rfl (any_of HT_.out (by kernel_rfl)) (fun _ _ _ h => h) (Or.inl ⟨by rfl, ?_⟩) ?_ ?_
                                             rotate_left
                                             · intro w'
                                               go_simp
                                               with_reducible rfl
                                             rotate_left
                                             · simp only [Act.put, aput]
                                               rfl
                                             refine pure_ (i := 3) (N := some 113) (v := ?_) (a' := ?_) (bm 38 15) rfl rfl (any_of HT_.out (by kernel_rfl)) (fun _ _ _ h => h) (Or.inl ⟨by rfl, ?_⟩) ?_ ?_
                                             rotate_left
                                             · intro w'
                                               go_simp
                                               with_reducible rfl
                                             rotate_left
                                             · simp only [Act.put, aput]
                                               rfl
                                             refine take_ (i := 4) (N := some 114) (v := ?_) (a' := ?_) (bm 38 31) rfl rfl (take_ofW HT_.out HW_.out (by kernel_rfl)) (fun _ _ _ h => h) (Or.inl ⟨by rfl, ?_⟩) hHeld ?_ ?_
                                             rotate_left
                                             · intro w' s0
                                               go_simp
                                               with_reducible rfl
                                             rotate_left
                                             · simp only [Act.put, aput]
                                               rfl
                                             refine pure_ (i := 5) (N := some 115) (v := ?_) (a' := ?_) (bm 38 63) rfl rfl (any_of HT_.out (by kernel_rfl)) (fun _ _ _ h => h) (Or.inl ⟨by rfl, ?_⟩) ?_ ?_
                                             rotate_left
                                             · intro w'
                                               go_simp
                                               with_reducible rfl
                                             rotate_left
                                             · simp only [Act.put, aput]
                                               rfl
                                             refine pure_ (i := 6) (N := some 116) (v := ?_) (a' := ?_) (bm 38 127) rfl rfl (any_of HT_.out (by kernel_rfl)) (fun _ _ _ h => h) (Or.inl ⟨by rfl, ?_⟩) ?_ ?_
                                             rotate_left
                                             · intro w'
                                               go_simp
                                               with_reducible rfl
                                             rotate_left
                                             · simp only [Act.put, aput]
                                               rfl
                                             refine pure_ (i := 7) (N := some 117) (v := ?_) (a' := ?_) (bm 38 255) rfl rfl (any_of HT_.out (by kernel_rfl)) (fun _ _ _ h => h) (Or.inl ⟨by rfl, ?_⟩) ?_ ?_
                                             rotate_left
                                             · intro w'
                                               go_simp
                                               with_reducible rfl
                                             rotate_left
                                             · simp only [Act.put, aput]
                                               rfl
                                             refine pure_ (i := 8) (N := some 118) (v := ?_) (a' := ?_) (bm 38 511) rfl rfl (any_of HT_.out (by kernel_rfl)) (fun _ _ _ h => h) (Or.inl ⟨by rfl, ?_⟩) ?_ ?_
                                             rotate_left
                                             · intro w'
                                               go_simp
                                               with_reducible rfl
                                             rotate_left
                                             · simp only [Act.put, aput]
                                               rfl
                                             refine pure_ (i := 9) (N := some 119) (v := ?_) (a' := ?_) (bm 38 1023) rfl rfl (any_of HT_.out (by kernel_rfl)) (fun _ _ _ h => h) (Or.inl ⟨by rfl, ?_⟩) ?_ ?_
                                             rotate_left
                                             · intro w'
                                               go_simp
                                               with_reducible rfl
                                             rotate_left
                                             · simp only [Act.put, aput]
                                               rfl
                                             refine pure_ (i := 10) (N := some 120) (v := ?_) (a' := ?_) (bm 38 2047) rfl rfl (any_of HT_.out (by kernel_rfl)) (fun _ _ _ h => h) (Or.inl ⟨by rfl, ?_⟩) ?_ ?_
                                             rotate_left
                                             · intro w'
                                               go_simp
                                               with_reducible rfl
                                             rotate_left
                                             · simp only [Act.put, aput]
                                               rfl
                                             refine take_ (i := 11) (N := some 121) (v := ?_) (a' := ?_) (bm 38 4095) rfl rfl (take_ofW HT_.out HW_.out (by kernel_rfl)) (fun _ _ _ h => h) (Or.inl ⟨by rfl, ?_⟩) hHeld ?_ ?_
                                             rotate_left
                                             · intro w' s0
                                               go_simp
                                               with_reducible rfl
                                             rotate_left
                                             · simp only [Act.put, aput]
                                               rfl
                                             refine pure_ (i := 12) (N := some 122) (v := ?_) (a' := ?_) (bm 38 8191) rfl rfl (any_of HT_.out (by kernel_rfl)) (fun _ _ _ h => h) (Or.inl ⟨by rfl, ?_⟩) ?_ ?_
                                             rotate_left
                                             · intro w'
                                               go_simp
                                               with_reducible rfl
                                             rotate_left
                                             · simp only [Act.put, aput]
                                               rfl
                                             refine pure_ (i := 13) (N := some 123) (v := ?_) (a' := ?_) (bm 38 16383) rfl rfl (any_of HT_.out (by kernel_rfl)) (fun _ _ _ h => h) (Or.inl ⟨by rfl, ?_⟩) ?_ ?_
                                             rotate_left
                                             · intro w'
                                               go_simp
                                               with_reducible rfl
                                             rotate_left
                                             · simp only [Act.put, aput]
                                               rfl
                                             refine pure_ (i := 14) (N := some 124) (v := ?_) (a' := ?_) (bm 38 32767) rfl rfl (any_of HT_.out (by kernel_rfl)) (fun _ _ _ h => h) (Or.inl ⟨by rfl, ?_⟩) ?_ ?_
                                             rotate_left
                                             · intro w'
                                               go_simp
                                               with_reducible rfl
                                             rotate_left
                                             · simp only [Act.put, aput]
                                               rfl
                                             refine pure_ (i := 15) (N := some 125) (v := ?_) (a' := ?_) (bm 38 65535) rfl rfl (any_of HT_.out (by kernel_rfl)) (fun _ _ _ h => h) (Or.inl ⟨by rfl, ?_⟩) ?_ ?_
                                             rotate_left
                                             · intro w'
                                               go_simp
                                               with_reducible rfl
                                             rotate_left
                                             · simp only [Act.put, aput]
                                               rfl
                                             refine pure_ (i := 16) (N := some 126) (v := ?_) (a' := ?_) (bm 38 131071) rfl rfl (any_of HT_.out (by kernel_rfl)) (fun _ _ _ h => h) (Or.inl ⟨by rfl, ?_⟩) ?_ ?_
                                             rotate_left
                                             · intro w'
                                               go_simp
                                               with_reducible rfl
                                             rotate_left
                                             · simp only [Act.put, aput]
                                               rfl
                                             refine pure_ (i := 17) (N := some 127) (v := ?_) (a' := ?_) (bm 38 262143) rfl rfl (any_of HT_.out (by kernel_rfl)) (fun _ _ _ h => h) (Or.inl ⟨by rfl, ?_⟩) ?_ ?_
                                             rotate_left
                                             · intro w'
                                               go_simp
                                               with_reducible rfl
                                             rotate_left
                                             · simp only [Act.put, aput]
                                               rfl
                                             refine pure_ (i := 19) (N := some 129) (v := ?_) (a' := ?_) (bm 38 786431) rfl rfl (any_of HT_.out (by kernel_rfl)) (fun _ _ _ h => h) (Or.inl ⟨by rfl, ?_⟩) ?_ ?_
                                             rotate_left
                                             · intro w'
                                               go_simp
                                               with_reducible rfl
                                             rotate_left
                                             · simp only [Act.put, aput]
                                               rfl
                                             refine pure_ (i := 20) (N := some 130) (v := ?_) (a' := ?_) (bm 38 1835007) rfl rfl (any_of HT_.out (by kernel_rfl)) (fun _ _ _ h => h) (Or.inl ⟨by rfl, ?_⟩) ?_ ?_
                                             rotate_left
                                             · intro w'
                                               go_simp
                                               with_reducible rfl
                                             rotate_left
                                             · simp only [Act.put, aput]
                                               rfl
                                             refine pure_ (i := 21) (N := some 131) (v := ?_) (a' := ?_) (bm 38 3932159) rfl rfl (any_of HT_.out (by kernel_rfl)) (fun _ _ _ h => h) (Or.inl ⟨by rfl, ?_⟩) ?_ ?_
                                             rotate_left
                                             · intro w'
                                               go_simp
                                               with_reducible rfl
                                             rotate_left
                                             · simp only [Act.put, aput]
                                               rfl
                                             refine pure_ (i := 22) (N := some 132) (v := ?_) (a' := ?_) (bm 38 8126463) rfl rfl (any_of HT_.out (by kernel_rfl)) (fun _ _ _ h => h) (Or.inl ⟨by rfl, ?_⟩) ?_ ?_
                                             rotate_left
                                             · intro w'
                                               go_simp
                                               with_reducible rfl
                                             rotate_left
                                             · simp only [Act.put, aput]
                                               rfl
                                             refine take_ (i := 18) (N := some 128) (v := ?_) (a' := ?_) (bm 38 8388607) rfl rfl (take_ofW HT_.out HW_.out (by kernel_rfl)) (fun _ _ _ h => h) (Or.inl ⟨by rfl, ?_⟩) hHeld ?_ ?_
                                             rotate_left
                                             · intro w' s0
                                               go_simp
                                               with_reducible rfl
                                             rotate_left
                                             · simp only [Act.put, aput]
                                               rfl
                                             refine take_ (i := 23) (N := some 133) (v := ?_) (a' := ?_) (bm 38 16777215) rfl rfl (take_ofW HT_.out HW_.out (by kernel_rfl)) (fun _ _ _ h => h) (Or.inl ⟨by rfl, ?_⟩) hHeld ?_ ?_
                                             rotate_left
                                             · intro w' s0
                                               go_simp
                                               with_reducible rfl
                                             rotate_left
                                             · simp only [Act.put, aput]
                                               rfl
                                             refine one_ (i := 24) (N := some 134) (bm 38 33554431) rfl rfl (one_of HT_.out (by kernel_rfl)) (by decide) (fun K hK => ?_)
                                             refine goes_ Try.func10 (by kernel_rfl) rfl #[.agg #[.int .u64 ((rd_T30 x6_4 x12_3).f0), .int .u64 ((rd_T30 x6_4 x12_3).f1)], .int .u64 ((rd_T30 x6_4 x13_4).f0)] (by rfl) rfl rfl (by (try simp only [List.map_toArray, List.map_cons, List.map_nil]); first | done | rfl | (simp only [List.length_drop, List.length_take]; rfl)) ?_
                                             with_reducible refine (graverref02_Has.calls ((rd_T30 x6_4 x12_3).f0) ((rd_T30 x6_4 x12_3).f1) ((rd_T30 x6_4 x13_4).f0) false _ A47.out).mono ?_
                                             rintro e w54 ⟨rfl, hb⟩
                                             have HS0_ := (hb.cell (World.block_lt_of_cell? _ _ (hHeld.1))).trans (hHeld.1)
                                             have HS1_ := (hb.cell (World.block_lt_of_cell? _ _ (hHeld.2.1))).trans (hHeld.2.1)
                                             have HS2_ := (hb.cell (World.block_lt_of_cell? _ _ (hHeld.2.2.1))).trans (hHeld.2.2.1)
                                             have HS3_ := (hb.cell (World.block_lt_of_cell? _ _ (hHeld.2.2.2.1))).trans (hHeld.2.2.2.1)
                                             have HS4_ := (hb.cell (World.block_lt_of_cell? _ _ (hHeld.2.2.2.2.1))).trans (hHeld.2.2.2.2.1)
                                             have HS5_ := (hb.cell (World.block_lt_of_cell? _ _ (hHeld.2.2.2.2.2.1))).trans (hHeld.2.2.2.2.2.1)
                                             have HS6_ := (hb.cell (World.block_lt_of_cell? _ _ (hHeld.2.2.2.2.2.2.1))).trans (hHeld.2.2.2.2.2.2.1)
                                             have HS7_ := (hb.cell (World.block_lt_of_cell? _ _ (hHeld.2.2.2.2.2.2.2.1))).trans (hHeld.2.2.2.2.2.2.2.1)
                                             have HS8_ := (hb.cell (World.block_lt_of_cell? _ _ (hHeld.2.2.2.2.2.2.2.2.1))).trans (hHeld.2.2.2.2.2.2.2.2.1)
                                             have HS9_ := (hb.cell (World.block_lt_of_cell? _ _ (hHeld.2.2.2.2.2.2.2.2.2.1))).trans (hHeld.2.2.2.2.2.2.2.2.2.1)
                                             have HS10_ := (hb.cell (World.block_lt_of_cell? _ _ (hHeld.2.2.2.2.2.2.2.2.2.2.1))).trans (hHeld.2.2.2.2.2.2.2.2.2.2.1)
                                             have HS11_ := (hb.cell (World.block_lt_of_cell? _ _ (hHeld.2.2.2.2.2.2.2.2.2.2.2))).trans (hHeld.2.2.2.2.2.2.2.2.2.2.2)
                                             refine ⟨_, rfl, ?_⟩
                                             have n0_ := aS (Kd.R_below (by (with_reducible repeat (first | apply Kd.R_alloc | apply Kd.R_drewN | apply Kd.R_drew)); exact HO_5.out) hb)
                                             have n1_ := aS (Kd.R_below (by (with_reducible repeat (first | apply Kd.R_alloc | apply Kd.R_drewN | apply Kd.R_drew)); exact HO_6.out) hb)
                                             have n2_ := aS (below_step (by repeat (first | (with_reducible first | exact HB.out | apply below_alloc | apply pw_below_drewN | apply below_drew1) | exact HB.out)) hb)
                                             clear HO_5
                                             clear HO_6
                                             clear HB
                                             have HO_5 := n0_
                                             have HO_6 := n1_
                                             have HB := n2_
                                             clear n0_ n1_ n2_
                                             (try clear hb)
                                             (try clear hb2)
                                             (try clear hk)
                                             (try clear hi)
                                             refine hK.out _ _ ⟨HS0_, HS1_, HS2_, HS3_, HS4_, HS5_, HS6_, HS7_, HS8_, HS9_, HS10_, HS11_⟩ (fun hHeld => ?_)
                                             clear hK K
                                             refine norm_ (a' := ?_) ?_ ?_
                                             rotate_left
                                             · show Act.put _ (some 134) _ = _
                                               simp only [Act.put, aput]
                                               rfl
                                             refine pure_ (i := 25) (N := some 135) (v := ?_) (a' := ?_) (bm 38 67108863) rfl rfl (any_of HT_.out (by kernel_rfl)) (fun _ _ _ h => h) (Or.inl ⟨by rfl, ?_⟩) ?_ ?_
                                             rotate_left
                                             · intro w'
                                               go_simp
                                               with_reducible rfl
                                             rotate_left
                                             · simp only [Act.put, aput]
                                               rfl
                                             refine pure_ (i := 26) (N := some 136) (v := ?_) (a' := ?_) (bm 38 134217727) rfl rfl (any_of HT_.out (by kernel_rfl)) (fun _ _ _ h => h) (Or.inl ⟨by rfl, ?_⟩) ?_ ?_
                                             rotate_left
                                             · intro w'
                                               go_simp
                                               with_reducible rfl
                                             rotate_left
                                             · simp only [Act.put, aput]
                                               rfl
                                             refine pure_ (i := 27) (N := some 137) (v := ?_) (a' := ?_) (bm 38 268435455) rfl rfl (any_of HT_.out (by kernel_rfl)) (fun _ _ _ h => h) (Or.inl ⟨by rfl, ?_⟩) ?_ ?_
                                             rotate_left
                                             · intro w'
                                               go_simp
                                               with_reducible rfl
                                             rotate_left
                                             · simp only [Act.put, aput]
                                               rfl
                                             refine pure_ (i := 28) (N := some 138) (v := ?_) (a' := ?_) (bm 38 536870911) rfl rfl (any_of HT_.out (by kernel_rfl)) (fun _ _ _ h => h) (Or.inl ⟨by rfl, ?_⟩) ?_ ?_
                                             rotate_left
                                             · intro w'
                                               go_simp
                                               with_reducible rfl
                                             rotate_left
                                             · simp only [Act.put, aput]
                                               rfl
                                             refine pure_ (i := 30) (N := some 140) (v := ?_) (a' := ?_) (bm 38 1610612735) rfl rfl (any_of HT_.out (by kernel_rfl)) (fun _ _ _ h => h) (Or.inl ⟨by rfl, ?_⟩) ?_ ?_
                                             rotate_left
                                             · intro w'
                                               go_simp
                                               with_reducible rfl
                                             rotate_left
                                             · simp only [Act.put, aput]
                                               rfl
                                             refine pure_ (i := 31) (N := some 141) (v := ?_) (a' := ?_) (bm 38 3758096383) rfl rfl (any_of HT_.out (by kernel_rfl)) (fun _ _ _ h => h) (Or.inl ⟨by rfl, ?_⟩) ?_ ?_
                                             rotate_left
                                             · intro w'
                                               go_simp
                                               with_reducible rfl
                                             rotate_left
                                             · simp only [Act.put, aput]
                                               rfl
                                             refine pure_ (i := 32) (N := some 142) (v := ?_) (a' := ?_) (bm 38 8053063679) rfl rfl (any_of HT_.out (by kernel_rfl)) (fun _ _ _ h => h) (Or.inl ⟨by rfl, ?_⟩) ?_ ?_
                                             rotate_left
                                             · intro w'
                                               go_simp
                                               with_reducible rfl
                                             rotate_left
                                             · simp only [Act.put, aput]
                                               rfl
                                             refine pure_ (i := 33) (N := some 143) (v := ?_) (a' := ?_) (bm 38 16642998271) rfl rfl (any_of HT_.out (by kernel_rfl)) (fun _ _ _ h => h) (Or.inl ⟨by rfl, ?_⟩) ?_ ?_
                                             rotate_left
                                             · intro w'
                                               go_simp
                                               with_reducible rfl
                                             rotate_left
                                             · simp only [Act.put, aput]
                                               rfl
                                             refine take_ (i := 29) (N := some 139) (v := ?_) (a' := ?_) (bm 38 17179869183) rfl rfl (take_ofW HT_.out HW_.out (by kernel_rfl)) (fun _ _ _ h => h) (Or.inl ⟨by rfl, ?_⟩) hHeld ?_ ?_
                                             rotate_left
                                             · intro w' s0
                                               go_simp
                                               with_reducible rfl
                                             rotate_left
                                             · simp only [Act.put, aput]
                                               rfl
                                             refine take_ (i := 34) (N := some 144) (v := ?_) (a' := ?_) (bm 38 34359738367) rfl rfl (take_ofW HT_.out HW_.out (by kernel_rfl)) (fun _ _ _ h => h) (Or.inl ⟨by rfl, ?_⟩) hHeld ?_ ?_
                                             rotate_left
                                             · intro w' s0
                                               go_simp
                                               with_reducible rfl
                                             rotate_left
                                             · simp only [Act.put, aput]
                                               rfl
                                             refine one_ (i := 35) (N := some 145) (bm 38 68719476735) rfl rfl (one_of HT_.out (by kernel_rfl)) (by decide) (fun K hK => ?_)
                                             refine goes_ Try.func10 (by kernel_rfl) rfl #[.agg #[.int .u64 ((rd_T30 x6_4 x13_4).f0), .int .u64 ((rd_T30 x6_4 x13_4).f1)], .int .u64 ((rd_T30 x6_4 x12_3).f0)] (by rfl) rfl rfl (by (try simp only [List.map_toArray, List.map_cons, List.map_nil]); first | done | rfl | (simp only [List.length_drop, List.length_take]; rfl)) ?_
                                             with_reducible refine (graverref02_Has.calls ((rd_T30 x6_4 x13_4).f0) ((rd_T30 x6_4 x13_4).f1) ((rd_T30 x6_4 x12_3).f0) true _ A51.out).mono ?_
                                             rintro e w55 ⟨rfl, hb⟩
                                             have HS0_ := (hb.cell (World.block_lt_of_cell? _ _ (hHeld.1))).trans (hHeld.1)
                                             have HS1_ := (hb.cell (World.block_lt_of_cell? _ _ (hHeld.2.1))).trans (hHeld.2.1)
                                             have HS2_ := (hb.cell (World.block_lt_of_cell? _ _ (hHeld.2.2.1))).trans (hHeld.2.2.1)
                                             have HS3_ := (hb.cell (World.block_lt_of_cell? _ _ (hHeld.2.2.2.1))).trans (hHeld.2.2.2.1)
                                             have HS4_ := (hb.cell (World.block_lt_of_cell? _ _ (hHeld.2.2.2.2.1))).trans (hHeld.2.2.2.2.1)
                                             have HS5_ := (hb.cell (World.block_lt_of_cell? _ _ (hHeld.2.2.2.2.2.1))).trans (hHeld.2.2.2.2.2.1)
                                             have HS6_ := (hb.cell (World.block_lt_of_cell? _ _ (hHeld.2.2.2.2.2.2.1))).trans (hHeld.2.2.2.2.2.2.1)
                                             have HS7_ := (hb.cell (World.block_lt_of_cell? _ _ (hHeld.2.2.2.2.2.2.2.1))).trans (hHeld.2.2.2.2.2.2.2.1)
                                             have HS8_ := (hb.cell (World.block_lt_of_cell? _ _ (hHeld.2.2.2.2.2.2.2.2.1))).trans (hHeld.2.2.2.2.2.2.2.2.1)
                                             have HS9_ := (hb.cell (World.block_lt_of_cell? _ _ (hHeld.2.2.2.2.2.2.2.2.2.1))).trans (hHeld.2.2.2.2.2.2.2.2.2.1)
                                             have HS10_ := (hb.cell (World.block_lt_of_cell? _ _ (hHeld.2.2.2.2.2.2.2.2.2.2.1))).trans (hHeld.2.2.2.2.2.2.2.2.2.2.1)
                                             have HS11_ := (hb.cell (World.block_lt_of_cell? _ _ (hHeld.2.2.2.2.2.2.2.2.2.2.2))).trans (hHeld.2.2.2.2.2.2.2.2.2.2.2)
                                             refine ⟨_, rfl, ?_⟩
                                             have n0_ := aS (Kd.R_below (by (with_reducible repeat (first | apply Kd.R_alloc | apply Kd.R_drewN | apply Kd.R_drew)); exact HO_5.out) hb)
                                             have n1_ := aS (Kd.R_below (by (with_reducible repeat (first | apply Kd.R_alloc | apply Kd.R_drewN | apply Kd.R_drew)); exact HO_6.out) hb)
                                             have n2_ := aS (below_step (by repeat (first | (with_reducible first | exact HB.out | apply below_alloc | apply pw_below_drewN | apply below_drew1) | exact HB.out)) hb)
                                             clear HO_5
                                             clear HO_6
                                             clear HB
                                             have HO_5 := n0_
                                             have HO_6 := n1_
                                             have HB := n2_
                                             clear n0_ n1_ n2_
                                             (try clear hb)
                                             (try clear hb2)
                                             (try clear hk)
                                             (try clear hi)
                                             refine hK.out _ _ ⟨HS0_, HS1_, HS2_, HS3_, HS4_, HS5_, HS6_, HS7_, HS8_, HS9_, HS10_, HS11_⟩ (fun hHeld => ?_)
                                             clear hK K
                                             refine norm_ (a' := ?_) ?_ ?_
                                             rotate_left
                                             · show Act.put _ (some 145) _ = _
                                               simp only [Act.put, aput]
                                               rfl
                                             refine pure_ (i := 36) (N := some 146) (v := ?_) (a' := ?_) (bm 38 137438953471) rfl rfl (any_of HT_.out (by kernel_rfl)) (fun _ _ _ h => h) (Or.inl ⟨by rfl, ?_⟩) ?_ ?_
                                             rotate_left
                                             · intro w'
                                               go_simp
                                               with_reducible rfl
                                             rotate_left
                                             · simp only [Act.put, aput]
                                               rfl
                                             refine pure_ (i := 37) (N := some 147) (v := ?_) (a' := ?_) (bm 38 274877906943) rfl rfl (any_of HT_.out (by kernel_rfl)) (fun _ _ _ h => h) (Or.inl ⟨by rfl, ?_⟩) ?_ ?_
                                             rotate_left
                                             · intro w'
                                               go_simp
                                               with_reducible rfl
                                             rotate_left
                                             · simp only [Act.put, aput]
                                               rfl
                                             refine done_ (done_of HT_.out (by kernel_rfl)) ?_
                                             try go_wp2
                                             go_roundg k4
                                             case measure => have := HJ4.out; have := HK2.out; have := HK3.out; have := HK4.out; omega
                                             case rel => exact ⟨(true), (wrap64 (x13_4 + 1)), (by first | rfl | (simp; done) | (simp [*]; done)), (by first | rfl | (simp; done) | (simp [*]; done)), H', ⟨by have := HJ4.out; have := HK2.out; have := HK3.out; have := HK4.out; omega⟩, ⟨by (with_reducible repeat (first | apply Kd.R_alloc | apply Kd.R_drewN | apply Kd.R_drew)); exact HO_5.out⟩, ⟨by (with_reducible repeat (first | apply Kd.R_alloc | apply Kd.R_drewN | apply Kd.R_drew)); exact HO_6.out⟩, ⟨by repeat (first | (with_reducible first | exact HB.out | apply below_alloc | apply pw_below_drewN | apply below_drew1) | exact HB.out)⟩⟩
                                           · replace c52 := Bool.eq_false_iff.mpr c52
                                             subst c52
                                             have H1 : (graverlaw02_SpanGaps.l3 k4 x5_4 x6_4 x11_4 x12_3 (wrap64 (x13_4 + 1))) = some r := by rw [if_neg (show ¬ (false = true) by decide)] at H; exact H
                                             clear H
                                             have H := H1
                                             clear H1
                                             have H' := aS H
                                             clear H
                                             try go_wp2
                                             have n0_ := aS (Kd.R_drew HO_5.out)
                                             have n1_ := aS (Kd.R_drew HO_6.out)
                                             have n2_ := aS (below_drew1 HB.out)
                                             clear HO_5
                                             clear HO_6
                                             clear HB
                                             have HO_5 := n0_
                                             have HO_6 := n1_
                                             have HB := n2_
                                             clear n0_ n1_ n2_
                                             have p226 : 0 ≤ (x12_3 : Int) := of_decide_eq_true (by first | (with_reducible assumption) | assumption)
                                             have q226 : x12_3 < (x6_4.length : Int) := of_decide_eq_true (by first | (with_reducible assumption) | assumption)
                                             obtain ⟨ad226, e226, hx226_0, hx226_1⟩ := at_T30 (Kd.R_reads' HO_6.out).2.2 x12_3 p226 q226
                                             cases e226
                                             replace p226 := eq_true p226
                                             replace q226 := eq_true q226
                                             have p227 : 0 ≤ (x13_4 : Int) := of_decide_eq_true (by first | (with_reducible assumption) | assumption)
                                             have q227 : x13_4 < (x6_4.length : Int) := of_decide_eq_true (by first | (with_reducible assumption) | assumption)
                                             obtain ⟨ad227, e227, hx227_0, hx227_1⟩ := at_T30 (Kd.R_reads' HO_6.out).2.2 x13_4 p227 q227
                                             obtain rfl : ad226 = ad227 := (by injection e227)
                                             replace p227 := eq_true p227
                                             replace q227 := eq_true q227
                                             have p228 : 0 ≤ (x12_3 : Int) := of_decide_eq_true (by first | (with_reducible assumption) | assumption)
                                             have q228 : x12_3 < (x6_4.length : Int) := of_decide_eq_true (by first | (with_reducible assumption) | assumption)
                                             obtain ⟨ad228, e228, hx228_0, hx228_1⟩ := at_T30 (Kd.R_reads' HO_6.out).2.2 x12_3 p228 q228
                                             obtain rfl : ad226 = ad228 := (by injection e228)
                                             replace p228 := eq_true p228
                                             replace q228 := eq_true q228
                                             have p229 : 0 ≤ (x13_4 : Int) := of_decide_eq_true (by first | (with_reducible assumption) | assumption)
                                             have q229 : x13_4 < (x6_4.length : Int) := of_decide_eq_true (by first | (with_reducible assumption) | assumption)
                                             obtain ⟨ad229, e229, hx229_0, hx229_1⟩ := at_T30 (Kd.R_reads' HO_6.out).2.2 x13_4 p229 q229
                                             obtain rfl : ad226 = ad229 := (by injection e229)
                                             replace p229 := eq_true p229
                                             replace q229 := eq_true q229
                                             have p231 : 0 ≤ (x13_4 : Int) := of_decide_eq_true (by first | (with_reducible assumption) | assumption)
                                             have q231 : x13_4 < (x6_4.length : Int) := of_decide_eq_true (by first | (with_reducible assumption) | assumption)
                                             obtain ⟨ad231, e231, hx231_0, hx231_1⟩ := at_T30 (Kd.R_reads' HO_6.out).2.2 x13_4 p231 q231
                                             obtain rfl : ad226 = ad231 := (by injection e231)
                                             replace p231 := eq_true p231
                                             replace q231 := eq_true q231
                                             have p232 : 0 ≤ (x12_3 : Int) := of_decide_eq_true (by first | (with_reducible assumption) | assumption)
                                             have q232 : x12_3 < (x6_4.length : Int) := of_decide_eq_true (by first | (with_reducible assumption) | assumption)
                                             obtain ⟨ad232, e232, hx232_0, hx232_1⟩ := at_T30 (Kd.R_reads' HO_6.out).2.2 x12_3 p232 q232
                                             obtain rfl : ad226 = ad232 := (by injection e232)
                                             replace p232 := eq_true p232
                                             replace q232 := eq_true q232
                                             refine start_ (n := 38) (S := fun w' => w'.cell? (ad226.add ((x12_3).toNat * 2)) = some (.int .u64 ((rd_T30 x6_4 x12_3).f0)) ∧ w'.cell? ⟨(ad226.add ((x12_3).toNat * 2)).block, (ad226.add ((x12_3).toNat * 2)).off + 1, none⟩ = some (.int .u64 ((rd_T30 x6_4 x12_3).f1)) ∧ w'.cell? (ad226.add ((x13_4).toNat * 2)) = some (.int .u64 ((rd_T30 x6_4 x13_4).f0)) ∧ w'.cell? ⟨(ad226.add ((x13_4).toNat * 2)).block, (ad226.add ((x13_4).toNat * 2)).off + 1, none⟩ = some (.int .u64 ((rd_T30 x6_4 x13_4).f1)) ∧ w'.cell? (ad226.add ((x12_3).toNat * 2)) = some (.int .u64 ((rd_T30 x6_4 x12_3).f0)) ∧ w'.cell? ⟨(ad226.add ((x12_3).toNat * 2)).block, (ad226.add ((x12_3).toNat * 2)).off + 1, none⟩ = some (.int .u64 ((rd_T30 x6_4 x12_3).f1)) ∧ w'.cell? (ad226.add ((x13_4).toNat * 2)) = some (.int .u64 ((rd_T30 x6_4 x13_4).f0)) ∧ w'.cell? ⟨(ad226.add ((x13_4).toNat * 2)).block, (ad226.add ((x13_4).toNat * 2)).off + 1, none⟩ = some (.int .u64 ((rd_T30 x6_4 x13_4).f1)) ∧ w'.cell? (ad226.add ((x13_4).toNat * 2)) = some (.int .u64 ((rd_T30 x6_4 x13_4).f0)) ∧ w'.cell? ⟨(ad226.add ((x13_4).toNat * 2)).block, (ad226.add ((x13_4).toNat * 2)).off + 1, none⟩ = some (.int .u64 ((rd_T30 x6_4 x13_4).f1)) ∧ w'.cell? (ad226.add ((x12_3).toNat * 2)) = some (.int .u64 ((rd_T30 x6_4 x12_3).f0)) ∧ w'.cell? ⟨(ad226.add ((x12_3).toNat * 2)).block, (ad226.add ((x12_3).toNat * 2)).off + 1, none⟩ = some (.int .u64 ((rd_T30 x6_4 x12_3).f1))) (ds := []) #[false, false, false, false, false, false, false, false, false, false, false, false, false, false, false, false, false, false, false, false, false, false, false, false, false, false, false, false, false, false, false, false, false, false, false, false, false, false] (by kernel_rfl) rfl rfl ⟨hx226_0, hx226_1, hx227_0, hx227_1, hx228_0, hx228_1, hx229_0, hx229_1, hx231_0, hx231_1, hx232_0, hx232_1⟩ (fun hHeld => ?_); refine with_tabW graverlaw02_SpanGaps.tab25 graverlaw02_SpanGaps.bits25 (fun HT_ HW_ => ?_)
                                             generalize wr.drew = w56 at HO_5 HO_6 HB hx226_0 hx226_1 hx227_0 hx227_1 hx228_0 hx228_1 hx229_0 hx229_1 hx231_0 hx231_1 hx232_0 hx232_1 hHeld ⊢
                                             refine pure_ (i := 0) (N := some 110) (v := ?_) (a' := ?_) (bm 38 1) rfl rfl (any_of HT_.out (by kernel_rfl)) (fun _ _ _ h => h) (Or.inl ⟨by rfl, ?_⟩) ?_ ?_
                                             rotate_left
                                             · intro w'
                                               go_simp
                                               with_reducible rfl
                                             rotate_left
                                             · simp only [Act.put, aput]
                                               rfl
                                             refine pure_ (i := 1) (N := some 111) (v := ?_) (a' := ?_) (bm 38 3) rfl rfl (any_of HT_.out (by kernel_rfl)) (fun _ _ _ h => h) (Or.inl ⟨by rfl, ?_⟩) ?_ ?_
                                             rotate_left
                                             · intro w'
                                               go_simp
                                               with_reducible rfl
                                             rotate_left
                                             · simp only [Act.put, aput]
                                               rfl
                                             refine pure_ (i := 2) (N := some 112) (v := ?_) (a' := ?_) (bm 38 7) rfl rfl (any_of HT_.out (by kernel_rfl)) (fun _ _ _ h => h) (Or.inl ⟨by rfl, ?_⟩) ?_ ?_
                                             rotate_left
                                             · intro w'
                                               go_simp
                                               with_reducible rfl
                                             rotate_left
                                             · simp only [Act.put, aput]
                                               rfl
                                             refine pure_ (i := 3) (N := some 113) (v := ?_) (a' := ?_) (bm 38 15) rfl rfl (any_of HT_.out (by kernel_rfl)) (fun _ _ _ h => h) (Or.inl ⟨by rfl, ?_⟩) ?_ ?_
                                             rotate_left
                                             · intro w'
                                               go_simp
                                               with_reducible rfl
                                             rotate_left
                                             · simp only [Act.put, aput]
                                               rfl
                                             refine take_ (i := 4) (N := some 114) (v := ?_) (a' := ?_) (bm 38 31) rfl rfl (take_ofW HT_.out HW_.out (by kernel_rfl)) (fun _ _ _ h => h) (Or.inl ⟨by rfl, ?_⟩) hHeld ?_ ?_
                                             rotate_left
                                             · intro w' s0
                                               go_simp
                                               with_reducible rfl
                                             rotate_left
                                             · simp only [Act.put, aput]
                                               rfl
                                             refine pure_ (i := 5) (N := some 115) (v := ?_) (a' := ?_) (bm 38 63) rfl rfl (any_of HT_.out (by kernel_rfl)) (fun _ _ _ h => h) (Or.inl ⟨by rfl, ?_⟩) ?_ ?_
                                             rotate_left
                                             · intro w'
                                               go_simp
                                               with_reducible rfl
                                             rotate_left
                                             · simp only [Act.put, aput]
                                               rfl
                                             refine pure_ (i := 6) (N := some 116) (v := ?_) (a' := ?_) (bm 38 127) rfl rfl (any_of HT_.out (by kernel_rfl)) (fun _ _ _ h => h) (Or.inl ⟨by rfl, ?_⟩) ?_ ?_
                                             rotate_left
                                             · intro w'
                                               go_simp
                                               with_reducible rfl
                                             rotate_left
                                             · simp only [Act.put, aput]
                                               rfl
                                             refine pure_ (i := 7) (N := some 117) (v := ?_) (a' := ?_) (bm 38 255) rfl rfl (any_of HT_.out (by kernel_rfl)) (fun _ _ _ h => h) (Or.inl ⟨by rfl, ?_⟩) ?_ ?_
                                             rotate_left
                                             · intro w'
                                               go_simp
                                               with_reducible rfl
                                             rotate_left
                                             · simp only [Act.put, aput]
                                               rfl
                                             refine pure_ (i := 8) (N := some 118) (v := ?_) (a' := ?_) (bm 38 511) rfl rfl (any_of HT_.out (by kernel_rfl)) (fun _ _ _ h => h) (Or.inl ⟨by rfl, ?_⟩) ?_ ?_
                                             rotate_left
                                             · intro w'
                                               go_simp
                                               with_reducible rfl
                                             rotate_left
                                             · simp only [Act.put, aput]
                                               rfl
                                             refine pure_ (i := 9) (N := some 119) (v := ?_) (a' := ?_) (bm 38 1023) rfl rfl (any_of HT_.out (by kernel_rfl)) (fun _ _ _ h => h) (Or.inl ⟨by rfl, ?_⟩) ?_ ?_
                                             rotate_left
                                             · intro w'
                                               go_simp
                                               with_reducible rfl
                                             rotate_left
                                             · simp only [Act.put, aput]
                                               rfl
                                             refine pure_ (i := 10) (N := some 120) (v := ?_) (a' := ?_) (bm 38 2047) rfl rfl (any_of HT_.out (by kernel_rfl)) (fun _ _ _ h => h) (Or.inl ⟨by rfl, ?_⟩) ?_ ?_
                                             rotate_left
                                             · intro w'
                                               go_simp
                                               with_reducible rfl
                                             rotate_left
                                             · simp only [Act.put, aput]
                                               rfl
                                             refine take_ (i := 11) (N := some 121) (v := ?_) (a' := ?_) (bm 38 4095) rfl rfl (take_ofW HT_.out HW_.out (by kernel_rfl)) (fun _ _ _ h => h) (Or.inl ⟨by rfl, ?_⟩) hHeld ?_ ?_
                                             rotate_left
                                             · intro w' s0
                                               go_simp
                                               with_reducible rfl
                                             rotate_left
                                             · simp only [Act.put, aput]
                                               rfl
                                             refine pure_ (i := 12) (N := some 122) (v := ?_) (a' := ?_) (bm 38 8191) rfl rfl (any_of HT_.out (by kernel_rfl)) (fun _ _ _ h => h) (Or.inl ⟨by rfl, ?_⟩) ?_ ?_
                                             rotate_left
                                             · intro w'
                                               go_simp
                                               with_reducible rfl
                                             rotate_left
                                             · simp only [Act.put, aput]
                                               rfl
                                             refine pure_ (i := 13) (N := some 123) (v := ?_) (a' := ?_) (bm 38 16383) rfl rfl (any_of HT_.out (by kernel_rfl)) (fun _ _ _ h => h) (Or.inl ⟨by rfl, ?_⟩) ?_ ?_
                                             rotate_left
                                             · intro w'
                                               go_simp
                                               with_reducible rfl
                                             rotate_left
                                             · simp only [Act.put, aput]
                                               rfl
                                             refine pure_ (i := 14) (N := some 124) (v := ?_) (a' := ?_) (bm 38 32767) rfl rfl (any_of HT_.out (by kernel_rfl)) (fun _ _ _ h => h) (Or.inl ⟨by rfl, ?_⟩) ?_ ?_
                                             rotate_left
                                             · intro w'
                                               go_simp
                                               with_reducible rfl
                                             rotate_left
                                             · simp only [Act.put, aput]
                                               rfl
                                             refine pure_ (i := 15) (N := some 125) (v := ?_) (a' := ?_) (bm 38 65535) rfl rfl (any_of HT_.out (by kernel_rfl)) (fun _ _ _ h => h) (Or.inl ⟨by rfl, ?_⟩) ?_ ?_
                                             rotate_left
                                             · intro w'
                                               go_simp
                                               with_reducible rfl
                                             rotate_left
                                             · simp only [Act.put, aput]
                                               rfl
                                             refine pure_ (i := 16) (N := some 126) (v := ?_) (a' := ?_) (bm 38 131071) rfl rfl (any_of HT_.out (by kernel_rfl)) (fun _ _ _ h => h) (Or.inl ⟨by rfl, ?_⟩) ?_ ?_
                                             rotate_left
                                             · intro w'
                                               go_simp
                                               with_reducible rfl
                                             rotate_left
                                             · simp only [Act.put, aput]
                                               rfl
                                             refine pure_ (i := 17) (N := some 127) (v := ?_) (a' := ?_) (bm 38 262143) rfl rfl (any_of HT_.out (by kernel_rfl)) (fun _ _ _ h => h) (Or.inl ⟨by rfl, ?_⟩) ?_ ?_
                                             rotate_left
                                             · intro w'
                                               go_simp
                                               with_reducible rfl
                                             rotate_left
                                             · simp only [Act.put, aput]
                                               rfl
                                             refine pure_ (i := 19) (N := some 129) (v := ?_) (a' := ?_) (bm 38 786431) rfl rfl (any_of HT_.out (by kernel_rfl)) (fun _ _ _ h => h) (Or.inl ⟨by rfl, ?_⟩) ?_ ?_
                                             rotate_left
                                             · intro w'
                                               go_simp
                                               with_reducible rfl
                                             rotate_left
                                             · simp only [Act.put, aput]
                                               rfl
                                             refine pure_ (i := 20) (N := some 130) (v := ?_) (a' := ?_) (bm 38 1835007) rfl rfl (any_of HT_.out (by kernel_rfl)) (fun _ _ _ h => h) (Or.inl ⟨by rfl, ?_⟩) ?_ ?_
                                             rotate_left
                                             · intro w'
                                               go_simp
                                               with_reducible rfl
                                             rotate_left
                                             · simp only [Act.put, aput]
                                               rfl
                                             refine pure_ (i := 21) (N := some 131) (v := ?_) (a' := ?_) (bm 38 3932159) rfl rfl (any_of HT_.out (by kernel_rfl)) (fun _ _ _ h => h) (Or.inl ⟨by rfl, ?_⟩) ?_ ?_
                                             rotate_left
                                             · intro w'
                                               go_simp
                                               with_reducible rfl
                                             rotate_left
                                             · simp only [Act.put, aput]
                                               rfl
                                             refine pure_ (i := 22) (N := some 132) (v := ?_) (a' := ?_) (bm 38 8126463) rfl rfl (any_of HT_.out (by kernel_rfl)) (fun _ _ _ h => h) (Or.inl ⟨by rfl, ?_⟩) ?_ ?_
                                             rotate_left
                                             · intro w'
                                               go_simp
                                               with_reducible rfl
                                             rotate_left
                                             · simp only [Act.put, aput]
                                               rfl
                                             refine take_ (i := 18) (N := some 128) (v := ?_) (a' := ?_) (bm 38 8388607) rfl rfl (take_ofW HT_.out HW_.out (by kernel_rfl)) (fun _ _ _ h => h) (Or.inl ⟨by rfl, ?_⟩) hHeld ?_ ?_
                                             rotate_left
                                             · intro w' s0
                                               go_simp
                                               with_reducible rfl
                                             rotate_left
                                             · simp only [Act.put, aput]
                                               rfl
                                             refine take_ (i := 23) (N := some 133) (v := ?_) (a' := ?_) (bm 38 16777215) rfl rfl (take_ofW HT_.out HW_.out (by kernel_rfl)) (fun _ _ _ h => h) (Or.inl ⟨by rfl, ?_⟩) hHeld ?_ ?_
                                             rotate_left
                                             · intro w' s0
                                               go_simp
                                               with_reducible rfl
                                             rotate_left
                                             · simp only [Act.put, aput]
                                               rfl
                                             refine one_ (i := 24) (N := some 134) (bm 38 33554431) rfl rfl (one_of HT_.out (by kernel_rfl)) (by decide) (fun K hK => ?_)
                                             refine goes_ Try.func10 (by kernel_rfl) rfl #[.agg #[.int .u64 ((rd_T30 x6_4 x12_3).f0), .int .u64 ((rd_T30 x6_4 x12_3).f1)], .int .u64 ((rd_T30 x6_4 x13_4).f0)] (by rfl) rfl rfl (by (try simp only [List.map_toArray, List.map_cons, List.map_nil]); first | done | rfl | (simp only [List.length_drop, List.length_take]; rfl)) ?_
                                             with_reducible refine (graverref02_Has.calls ((rd_T30 x6_4 x12_3).f0) ((rd_T30 x6_4 x12_3).f1) ((rd_T30 x6_4 x13_4).f0) false _ A47.out).mono ?_
                                             rintro e w57 ⟨rfl, hb⟩
                                             have HS0_ := (hb.cell (World.block_lt_of_cell? _ _ (hHeld.1))).trans (hHeld.1)
                                             have HS1_ := (hb.cell (World.block_lt_of_cell? _ _ (hHeld.2.1))).trans (hHeld.2.1)
                                             have HS2_ := (hb.cell (World.block_lt_of_cell? _ _ (hHeld.2.2.1))).trans (hHeld.2.2.1)
                                             have HS3_ := (hb.cell (World.block_lt_of_cell? _ _ (hHeld.2.2.2.1))).trans (hHeld.2.2.2.1)
                                             have HS4_ := (hb.cell (World.block_lt_of_cell? _ _ (hHeld.2.2.2.2.1))).trans (hHeld.2.2.2.2.1)
                                             have HS5_ := (hb.cell (World.block_lt_of_cell? _ _ (hHeld.2.2.2.2.2.1))).trans (hHeld.2.2.2.2.2.1)
                                             have HS6_ := (hb.cell (World.block_lt_of_cell? _ _ (hHeld.2.2.2.2.2.2.1))).trans (hHeld.2.2.2.2.2.2.1)
                                             have HS7_ := (hb.cell (World.block_lt_of_cell? _ _ (hHeld.2.2.2.2.2.2.2.1))).trans (hHeld.2.2.2.2.2.2.2.1)
                                             have HS8_ := (hb.cell (World.block_lt_of_cell? _ _ (hHeld.2.2.2.2.2.2.2.2.1))).trans (hHeld.2.2.2.2.2.2.2.2.1)
                                             have HS9_ := (hb.cell (World.block_lt_of_cell? _ _ (hHeld.2.2.2.2.2.2.2.2.2.1))).trans (hHeld.2.2.2.2.2.2.2.2.2.1)
                                             have HS10_ := (hb.cell (World.block_lt_of_cell? _ _ (hHeld.2.2.2.2.2.2.2.2.2.2.1))).trans (hHeld.2.2.2.2.2.2.2.2.2.2.1)
                                             have HS11_ := (hb.cell (World.block_lt_of_cell? _ _ (hHeld.2.2.2.2.2.2.2.2.2.2.2))).trans (hHeld.2.2.2.2.2.2.2.2.2.2.2)
                                             refine ⟨_, rfl, ?_⟩
                                             have n0_ := aS (Kd.R_below (by (with_reducible repeat (first | apply Kd.R_alloc | apply Kd.R_drewN | apply Kd.R_drew)); exact HO_5.out) hb)
                                             have n1_ := aS (Kd.R_below (by (with_reducible repeat (first | apply Kd.R_alloc | apply Kd.R_drewN | apply Kd.R_drew)); exact HO_6.out) hb)
                                             have n2_ := aS (below_step (by repeat (first | (with_reducible first | exact HB.out | apply below_alloc | apply pw_below_drewN | apply below_drew1) | exact HB.out)) hb)
                                             clear HO_5
                                             clear HO_6
                                             clear HB
                                             have HO_5 := n0_
                                             have HO_6 := n1_
                                             have HB := n2_
                                             clear n0_ n1_ n2_
                                             (try clear hb)
                                             (try clear hb2)
                                             (try clear hk)
                                             (try clear hi)
                                             refine hK.out _ _ ⟨HS0_, HS1_, HS2_, HS3_, HS4_, HS5_, HS6_, HS7_, HS8_, HS9_, HS10_, HS11_⟩ (fun hHeld => ?_)
                                             clear hK K
                                             refine norm_ (a' := ?_) ?_ ?_
                                             rotate_left
                                             · show Act.put _ (some 134) _ = _
                                               simp only [Act.put, aput]
                                               rfl
                                             refine pure_ (i := 25) (N := some 135) (v := ?_) (a' := ?_) (bm 38 67108863) rfl rfl (any_of HT_.out (by kernel_rfl)) (fun _ _ _ h => h) (Or.inl ⟨by rfl, ?_⟩) ?_ ?_
                                             rotate_left
                                             · intro w'
                                               go_simp
                                               with_reducible rfl
                                             rotate_left
                                             · simp only [Act.put, aput]
                                               rfl
                                             refine pure_ (i := 26) (N := some 136) (v := ?_) (a' := ?_) (bm 38 134217727) rfl rfl (any_of HT_.out (by kernel_rfl)) (fun _ _ _ h => h) (Or.inl ⟨by rfl, ?_⟩) ?_ ?_
                                             rotate_left
                                             · intro w'
                                               go_simp
                                               with_reducible rfl
                                             rotate_left
                                             · simp only [Act.put, aput]
                                               rfl
                                             refine pure_ (i := 27) (N := some 137) (v := ?_) (a' := ?_) (bm 38 268435455) rfl rfl (any_of HT_.out (by kernel_rfl)) (fun _ _ _ h => h) (Or.inl ⟨by rfl, ?_⟩) ?_ ?_
                                             rotate_left
                                             · intro w'
                                               go_simp
                                               with_reducible rfl
                                             rotate_left
                                             · simp only [Act.put, aput]
                                               rfl
                                             refine pure_ (i := 28) (N := some 138) (v := ?_) (a' := ?_) (bm 38 536870911) rfl rfl (any_of HT_.out (by kernel_rfl)) (fun _ _ _ h => h) (Or.inl ⟨by rfl, ?_⟩) ?_ ?_
                                             rotate_left
                                             · intro w'
                                               go_simp
                                               with_reducible rfl
                                             rotate_left
                                             · simp only [Act.put, aput]
                                               rfl
                                             refine pure_ (i := 30) (N := some 140) (v := ?_) (a' := ?_) (bm 38 1610612735) rfl rfl (any_of HT_.out (by kernel_rfl)) (fun _ _ _ h => h) (Or.inl ⟨by rfl, ?_⟩) ?_ ?_
                                             rotate_left
                                             · intro w'
                                               go_simp
                                               with_reducible rfl
                                             rotate_left
                                             · simp only [Act.put, aput]
                                               rfl
                                             refine pure_ (i := 31) (N := some 141) (v := ?_) (a' := ?_) (bm 38 3758096383) rfl rfl (any_of HT_.out (by kernel_rfl)) (fun _ _ _ h => h) (Or.inl ⟨by rfl, ?_⟩) ?_ ?_
                                             rotate_left
                                             · intro w'
                                               go_simp
                                               with_reducible rfl
                                             rotate_left
                                             · simp only [Act.put, aput]
                                               rfl
                                             refine pure_ (i := 32) (N := some 142) (v := ?_) (a' := ?_) (bm 38 8053063679) rfl rfl (any_of HT_.out (by kernel_rfl)) (fun _ _ _ h => h) (Or.inl ⟨by rfl, ?_⟩) ?_ ?_
                                             rotate_left
                                             · intro w'
                                               go_simp
                                               with_reducible rfl
                                             rotate_left
                                             · simp only [Act.put, aput]
                                               rfl
                                             refine pure_ (i := 33) (N := some 143) (v := ?_) (a' := ?_) (bm 38 16642998271) rfl rfl (any_of HT_.out (by kernel_rfl)) (fun _ _ _ h => h) (Or.inl ⟨by rfl, ?_⟩) ?_ ?_
                                             rotate_left
                                             · intro w'
                                               go_simp
                                               with_reducible rfl
                                             rotate_left
                                             · simp only [Act.put, aput]
                                               rfl
                                             refine take_ (i := 29) (N := some 139) (v := ?_) (a' := ?_) (bm 38 17179869183) rfl rfl (take_ofW HT_.out HW_.out (by kernel_rfl)) (fun _ _ _ h => h) (Or.inl ⟨by rfl, ?_⟩) hHeld ?_ ?_
                                             rotate_left
                                             · intro w' s0
                                               go_simp
                                               with_reducible rfl
                                             rotate_left
                                             · simp only [Act.put, aput]
                                               rfl
                                             refine take_ (i := 34) (N := some 144) (v := ?_) (a' := ?_) (bm 38 34359738367) rfl rfl (take_ofW HT_.out HW_.out (by kernel_rfl)) (fun _ _ _ h => h) (Or.inl ⟨by rfl, ?_⟩) hHeld ?_ ?_
                                             rotate_left
                                             · intro w' s0
                                               go_simp
                                               with_reducible rfl
                                             rotate_left
                                             · simp only [Act.put, aput]
                                               rfl
                                             refine one_ (i := 35) (N := some 145) (bm 38 68719476735) rfl rfl (one_of HT_.out (by kernel_rfl)) (by decide) (fun K hK => ?_)
                                             refine goes_ Try.func10 (by kernel_rfl) rfl #[.agg #[.int .u64 ((rd_T30 x6_4 x13_4).f0), .int .u64 ((rd_T30 x6_4 x13_4).f1)], .int .u64 ((rd_T30 x6_4 x12_3).f0)] (by rfl) rfl rfl (by (try simp only [List.map_toArray, List.map_cons, List.map_nil]); first | done | rfl | (simp only [List.length_drop, List.length_take]; rfl)) ?_
                                             with_reducible refine (graverref02_Has.calls ((rd_T30 x6_4 x13_4).f0) ((rd_T30 x6_4 x13_4).f1) ((rd_T30 x6_4 x12_3).f0) false _ A51.out).mono ?_
                                             rintro e w58 ⟨rfl, hb⟩
                                             have HS0_ := (hb.cell (World.block_lt_of_cell? _ _ (hHeld.1))).trans (hHeld.1)
                                             have HS1_ := (hb.cell (World.block_lt_of_cell? _ _ (hHeld.2.1))).trans (hHeld.2.1)
                                             have HS2_ := (hb.cell (World.block_lt_of_cell? _ _ (hHeld.2.2.1))).trans (hHeld.2.2.1)
                                             have HS3_ := (hb.cell (World.block_lt_of_cell? _ _ (hHeld.2.2.2.1))).trans (hHeld.2.2.2.1)
                                             have HS4_ := (hb.cell (World.block_lt_of_cell? _ _ (hHeld.2.2.2.2.1))).trans (hHeld.2.2.2.2.1)
                                             have HS5_ := (hb.cell (World.block_lt_of_cell? _ _ (hHeld.2.2.2.2.2.1))).trans (hHeld.2.2.2.2.2.1)
                                             have HS6_ := (hb.cell (World.block_lt_of_cell? _ _ (hHeld.2.2.2.2.2.2.1))).trans (hHeld.2.2.2.2.2.2.1)
                                             have HS7_ := (hb.cell (World.block_lt_of_cell? _ _ (hHeld.2.2.2.2.2.2.2.1))).trans (hHeld.2.2.2.2.2.2.2.1)
                                             have HS8_ := (hb.cell (World.block_lt_of_cell? _ _ (hHeld.2.2.2.2.2.2.2.2.1))).trans (hHeld.2.2.2.2.2.2.2.2.1)
                                             have HS9_ := (hb.cell (World.block_lt_of_cell? _ _ (hHeld.2.2.2.2.2.2.2.2.2.1))).trans (hHeld.2.2.2.2.2.2.2.2.2.1)
                                             have HS10_ := (hb.cell (World.block_lt_of_cell? _ _ (hHeld.2.2.2.2.2.2.2.2.2.2.1))).trans (hHeld.2.2.2.2.2.2.2.2.2.2.1)
                                             have HS11_ := (hb.cell (World.block_lt_of_cell? _ _ (hHeld.2.2.2.2.2.2.2.2.2.2.2))).trans (hHeld.2.2.2.2.2.2.2.2.2.2.2)
                                             refine ⟨_, rfl, ?_⟩
                                             have n0_ := aS (Kd.R_below (by (with_reducible repeat (first | apply Kd.R_alloc | apply Kd.R_drewN | apply Kd.R_drew)); exact HO_5.out) hb)
                                             have n1_ := aS (Kd.R_below (by (with_reducible repeat (first | apply Kd.R_alloc | apply Kd.R_drewN | apply Kd.R_drew)); exact HO_6.out) hb)
                                             have n2_ := aS (below_step (by repeat (first | (with_reducible first | exact HB.out | apply below_alloc | apply pw_below_drewN | apply below_drew1) | exact HB.out)) hb)
                                             clear HO_5
                                             clear HO_6
                                             clear HB
                                             have HO_5 := n0_
                                             have HO_6 := n1_
                                             have HB := n2_
                                             clear n0_ n1_ n2_
                                             (try clear hb)
                                             (try clear hb2)
                                             (try clear hk)
                                             (try clear hi)
                                             refine hK.out _ _ ⟨HS0_, HS1_, HS2_, HS3_, HS4_, HS5_, HS6_, HS7_, HS8_, HS9_, HS10_, HS11_⟩ (fun hHeld => ?_)
                                             clear hK K
                                             refine norm_ (a' := ?_) ?_ ?_
                                             rotate_left
                                             · show Act.put _ (some 145) _ = _
                                               simp only [Act.put, aput]
                                               rfl
                                             refine pure_ (i := 36) (N := some 146) (v := ?_) (a' := ?_) (bm 38 137438953471) rfl rfl (any_of HT_.out (by kernel_rfl)) (fun _ _ _ h => h) (Or.inl ⟨by rfl, ?_⟩) ?_ ?_
                                             rotate_left
                                             · intro w'
                                               go_simp
                                               with_reducible rfl
                                             rotate_left
                                             · simp only [Act.put, aput]
                                               rfl
                                             refine pure_ (i := 37) (N := some 147) (v := ?_) (a' := ?_) (bm 38 274877906943) rfl rfl (any_of HT_.out (by kernel_rfl)) (fun _ _ _ h => h) (Or.inl ⟨by rfl, ?_⟩) ?_ ?_
                                             rotate_left
                                             · intro w'
                                               go_simp
                                               with_reducible rfl
                                             rotate_left
                                             · simp only [Act.put, aput]
                                               rfl
                                             refine done_ (done_of HT_.out (by kernel_rfl)) ?_
                                             try go_wp2
                                             go_roundg k4
                                             case measure => have := HJ4.out; have := HK2.out; have := HK3.out; have := HK4.out; omega
                                             case rel => exact ⟨(x11_4), (wrap64 (x13_4 + 1)), (by first | rfl | (simp; done) | (simp [*]; done)), (by first | rfl | (simp; done) | (simp [*]; done)), H', ⟨by have := HJ4.out; have := HK2.out; have := HK3.out; have := HK4.out; omega⟩, ⟨by (with_reducible repeat (first | apply Kd.R_alloc | apply Kd.R_drewN | apply Kd.R_drew)); exact HO_5.out⟩, ⟨by (with_reducible repeat (first | apply Kd.R_alloc | apply Kd.R_drewN | apply Kd.R_drew)); exact HO_6.out⟩, ⟨by repeat (first | (with_reducible first | exact HB.out | apply below_alloc | apply pw_below_drewN | apply below_drew1) | exact HB.out)⟩⟩
                                       · rw [if_neg c46] at H
                                         have c46b0 : decide (0 < ((rd_T30 x6_4 x13_4).f1)) = false := decide_eq_false c46
                                         clear c46
                                         have H' := aS H
                                         clear H
                                         try go_wp2
                                         have n0_ := aS (Kd.R_drew HO_5.out)
                                         have n1_ := aS (Kd.R_drew HO_6.out)
                                         have n2_ := aS (below_drew1 HB.out)
                                         clear HO_5
                                         clear HO_6
                                         clear HB
                                         have HO_5 := n0_
                                         have HO_6 := n1_
                                         have HB := n2_
                                         clear n0_ n1_ n2_
                                         have p226 : 0 ≤ (x12_3 : Int) := of_decide_eq_true (by first | (with_reducible assumption) | assumption)
                                         have q226 : x12_3 < (x6_4.length : Int) := of_decide_eq_true (by first | (with_reducible assumption) | assumption)
                                         obtain ⟨ad226, e226, hx226_0, hx226_1⟩ := at_T30 (Kd.R_reads' HO_6.out).2.2 x12_3 p226 q226
                                         cases e226
                                         replace p226 := eq_true p226
                                         replace q226 := eq_true q226
                                         have p227 : 0 ≤ (x13_4 : Int) := of_decide_eq_true (by first | (with_reducible assumption) | assumption)
                                         have q227 : x13_4 < (x6_4.length : Int) := of_decide_eq_true (by first | (with_reducible assumption) | assumption)
                                         obtain ⟨ad227, e227, hx227_0, hx227_1⟩ := at_T30 (Kd.R_reads' HO_6.out).2.2 x13_4 p227 q227
                                         obtain rfl : ad226 = ad227 := (by injection e227)
                                         replace p227 := eq_true p227
                                         replace q227 := eq_true q227
                                         refine start_ (n := 38) (S := fun w' => w'.cell? (ad226.add ((x12_3).toNat * 2)) = some (.int .u64 ((rd_T30 x6_4 x12_3).f0)) ∧ w'.cell? ⟨(ad226.add ((x12_3).toNat * 2)).block, (ad226.add ((x12_3).toNat * 2)).off + 1, none⟩ = some (.int .u64 ((rd_T30 x6_4 x12_3).f1)) ∧ w'.cell? (ad226.add ((x13_4).toNat * 2)) = some (.int .u64 ((rd_T30 x6_4 x13_4).f0)) ∧ w'.cell? ⟨(ad226.add ((x13_4).toNat * 2)).block, (ad226.add ((x13_4).toNat * 2)).off + 1, none⟩ = some (.int .u64 ((rd_T30 x6_4 x13_4).f1))) (ds := []) #[false, false, false, false, false, false, false, false, false, false, false, false, false, false, false, false, false, false, false, false, false, false, false, false, false, false, false, false, false, false, false, false, false, false, false, false, false, false] (by kernel_rfl) rfl rfl ⟨hx226_0, hx226_1, hx227_0, hx227_1⟩ (fun hHeld => ?_); refine with_tabW graverlaw02_SpanGaps.tab25 graverlaw02_SpanGaps.bits25 (fun HT_ HW_ => ?_)
                                         generalize wr.drew = w59 at HO_5 HO_6 HB hx226_0 hx226_1 hx227_0 hx227_1 hHeld ⊢
                                         refine pure_ (i := 0) (N := some 110) (v := ?_) (a' := ?_) (bm 38 1) rfl rfl (any_of HT_.out (by kernel_rfl)) (fun _ _ _ h => h) (Or.inl ⟨by rfl, ?_⟩) ?_ ?_
                                         rotate_left
                                         · intro w'
                                           go_simp
                                           with_reducible rfl
                                         rotate_left
                                         · simp only [Act.put, aput]
                                           rfl
                                         refine pure_ (i := 1) (N := some 111) (v := ?_) (a' := ?_) (bm 38 3) rfl rfl (any_of HT_.out (by kernel_rfl)) (fun _ _ _ h => h) (Or.inl ⟨by rfl, ?_⟩) ?_ ?_
                                         rotate_left
                                         · intro w'
                                           go_simp
                                           with_reducible rfl
                                         rotate_left
                                         · simp only [Act.put, aput]
                                           rfl
                                         refine pure_ (i := 2) (N := some 112) (v := ?_) (a' := ?_) (bm 38 7) rfl rfl (any_of HT_.out (by kernel_rfl)) (fun _ _ _ h => h) (Or.inl ⟨by rfl, ?_⟩) ?_ ?_
                                         rotate_left
                                         · intro w'
                                           go_simp
                                           with_reducible rfl
                                         rotate_left
                                         · simp only [Act.put, aput]
                                           rfl
                                         refine pure_ (i := 3) (N := some 113) (v := ?_) (a' := ?_) (bm 38 15) rfl rfl (any_of HT_.out (by kernel_rfl)) (fun _ _ _ h => h) (Or.inl ⟨by rfl, ?_⟩) ?_ ?_
                                         rotate_left
                                         · intro w'
                                           go_simp
                                           with_reducible rfl
                                         rotate_left
                                         · simp only [Act.put, aput]
                                           rfl
                                         refine take_ (i := 4) (N := some 114) (v := ?_) (a' := ?_) (bm 38 31) rfl rfl (take_ofW HT_.out HW_.out (by kernel_rfl)) (fun _ _ _ h => h) (Or.inl ⟨by rfl, ?_⟩) hHeld ?_ ?_
                                         rotate_left
                                         · intro w' s0
                                           go_simp
                                           with_reducible rfl
                                         rotate_left
                                         · simp only [Act.put, aput]
                                           rfl
                                         refine pure_ (i := 5) (N := some 115) (v := ?_) (a' := ?_) (bm 38 63) rfl rfl (any_of HT_.out (by kernel_rfl)) (fun _ _ _ h => h) (Or.inl ⟨by rfl, ?_⟩) ?_ ?_
                                         rotate_left
                                         · intro w'
                                           go_simp
                                           with_reducible rfl
                                         rotate_left
                                         · simp only [Act.put, aput]
                                           rfl
                                         refine pure_ (i := 6) (N := some 116) (v := ?_) (a' := ?_) (bm 38 127) rfl rfl (any_of HT_.out (by kernel_rfl)) (fun _ _ _ h => h) (Or.inl ⟨by rfl, ?_⟩) ?_ ?_
                                         rotate_left
                                         · intro w'
                                           go_simp
                                           with_reducible rfl
                                         rotate_left
                                         · simp only [Act.put, aput]
                                           rfl
                                         refine pure_ (i := 7) (N := some 117) (v := ?_) (a' := ?_) (bm 38 255) rfl rfl (any_of HT_.out (by kernel_rfl)) (fun _ _ _ h => h) (Or.inl ⟨by rfl, ?_⟩) ?_ ?_
                                         rotate_left
                                         · intro w'
                                           go_simp
                                           with_reducible rfl
                                         rotate_left
                                         · simp only [Act.put, aput]
                                           rfl
                                         refine pure_ (i := 8) (N := some 118) (v := ?_) (a' := ?_) (bm 38 511) rfl rfl (any_of HT_.out (by kernel_rfl)) (fun _ _ _ h => h) (Or.inl ⟨by rfl, ?_⟩) ?_ ?_
                                         rotate_left
                                         · intro w'
                                           go_simp
                                           with_reducible rfl
                                         rotate_left
                                         · simp only [Act.put, aput]
                                           rfl
                                         refine pure_ (i := 9) (N := some 119) (v := ?_) (a' := ?_) (bm 38 1023) rfl rfl (any_of HT_.out (by kernel_rfl)) (fun _ _ _ h => h) (Or.inl ⟨by rfl, ?_⟩) ?_ ?_
                                         rotate_left
                                         · intro w'
                                           go_simp
                                           with_reducible rfl
                                         rotate_left
                                         · simp only [Act.put, aput]
                                           rfl
                                         refine pure_ (i := 10) (N := some 120) (v := ?_) (a' := ?_) (bm 38 2047) rfl rfl (any_of HT_.out (by kernel_rfl)) (fun _ _ _ h => h) (Or.inl ⟨by rfl, ?_⟩) ?_ ?_
                                         rotate_left
                                         · intro w'
                                           go_simp
                                           with_reducible rfl
                                         rotate_left
                                         · simp only [Act.put, aput]
                                           rfl
                                         refine take_ (i := 11) (N := some 121) (v := ?_) (a' := ?_) (bm 38 4095) rfl rfl (take_ofW HT_.out HW_.out (by kernel_rfl)) (fun _ _ _ h => h) (Or.inl ⟨by rfl, ?_⟩) hHeld ?_ ?_
                                         rotate_left
                                         · intro w' s0
                                           go_simp
                                           with_reducible rfl
                                         rotate_left
                                         · simp only [Act.put, aput]
                                           rfl
                                         refine pure_ (i := 12) (N := some 122) (v := ?_) (a' := ?_) (bm 38 8191) rfl rfl (any_of HT_.out (by kernel_rfl)) (fun _ _ _ h => h) (Or.inl ⟨by rfl, ?_⟩) ?_ ?_
                                         rotate_left
                                         · intro w'
                                           go_simp
                                           with_reducible rfl
                                         rotate_left
                                         · simp only [Act.put, aput]
                                           rfl
                                         refine pure_ (i := 13) (N := some 123) (v := ?_) (a' := ?_) (bm 38 16383) rfl rfl (any_of HT_.out (by kernel_rfl)) (fun _ _ _ h => h) (Or.inl ⟨by rfl, ?_⟩) ?_ ?_
                                         rotate_left
                                         · intro w'
                                           go_simp
                                           with_reducible rfl
                                         rotate_left
                                         · simp only [Act.put, aput]
                                           rfl
                                         refine pure_ (i := 14) (N := some 124) (v := ?_) (a' := ?_) (bm 38 32767) rfl rfl (any_of HT_.out (by kernel_rfl)) (fun _ _ _ h => h) (Or.inl ⟨by rfl, ?_⟩) ?_ ?_
                                         rotate_left
                                         · intro w'
                                           go_simp
                                           with_reducible rfl
                                         rotate_left
                                         · simp only [Act.put, aput]
                                           rfl
                                         refine pure_ (i := 15) (N := some 125) (v := undef) (a' := ?_) (bm 38 65535) rfl rfl (any_of HT_.out (by kernel_rfl)) (fun _ _ _ h => h) (Or.inr ⟨by rfl, rfl⟩) ?_ ?_
                                         rotate_left
                                         · simp only [Act.put, aput]
                                           rfl
                                         refine pure_ (i := 16) (N := some 126) (v := undef) (a' := ?_) (bm 38 131071) rfl rfl (any_of HT_.out (by kernel_rfl)) (fun _ _ _ h => h) (Or.inr ⟨by rfl, rfl⟩) ?_ ?_
                                         rotate_left
                                         · simp only [Act.put, aput]
                                           rfl
                                         refine pure_ (i := 17) (N := some 127) (v := undef) (a' := ?_) (bm 38 262143) rfl rfl (any_of HT_.out (by kernel_rfl)) (fun _ _ _ h => h) (Or.inr ⟨by rfl, rfl⟩) ?_ ?_
                                         rotate_left
                                         · simp only [Act.put, aput]
                                           rfl
                                         refine pure_ (i := 18) (N := some 128) (v := undef) (a' := ?_) (bm 38 524287) rfl rfl (any_of HT_.out (by kernel_rfl)) (fun _ _ _ h => h) (Or.inr ⟨by rfl, rfl⟩) ?_ ?_
                                         rotate_left
                                         · simp only [Act.put, aput]
                                           rfl
                                         refine pure_ (i := 19) (N := some 129) (v := undef) (a' := ?_) (bm 38 1048575) rfl rfl (any_of HT_.out (by kernel_rfl)) (fun _ _ _ h => h) (Or.inr ⟨by rfl, rfl⟩) ?_ ?_
                                         rotate_left
                                         · simp only [Act.put, aput]
                                           rfl
                                         refine pure_ (i := 20) (N := some 130) (v := undef) (a' := ?_) (bm 38 2097151) rfl rfl (any_of HT_.out (by kernel_rfl)) (fun _ _ _ h => h) (Or.inr ⟨by rfl, rfl⟩) ?_ ?_
                                         rotate_left
                                         · simp only [Act.put, aput]
                                           rfl
                                         refine pure_ (i := 21) (N := some 131) (v := undef) (a' := ?_) (bm 38 4194303) rfl rfl (any_of HT_.out (by kernel_rfl)) (fun _ _ _ h => h) (Or.inr ⟨by rfl, rfl⟩) ?_ ?_
                                         rotate_left
                                         · simp only [Act.put, aput]
                                           rfl
                                         refine pure_ (i := 22) (N := some 132) (v := undef) (a' := ?_) (bm 38 8388607) rfl rfl (any_of HT_.out (by kernel_rfl)) (fun _ _ _ h => h) (Or.inr ⟨by rfl, rfl⟩) ?_ ?_
                                         rotate_left
                                         · simp only [Act.put, aput]
                                           rfl
                                         refine pure_ (i := 23) (N := some 133) (v := undef) (a' := ?_) (bm 38 16777215) rfl rfl (any_of HT_.out (by kernel_rfl)) (fun _ _ _ h => h) (Or.inr ⟨by rfl, rfl⟩) ?_ ?_
                                         rotate_left
                                         · simp only [Act.put, aput]
                                           rfl
                                         refine pure_ (i := 24) (N := some 134) (v := undef) (a' := ?_) (bm 38 33554431) rfl rfl (any_of HT_.out (by kernel_rfl)) (fun _ _ _ h => h) (Or.inr ⟨by rfl, rfl⟩) ?_ ?_
                                         rotate_left
                                         · simp only [Act.put, aput]
                                           rfl
                                         refine pure_ (i := 25) (N := some 135) (v := undef) (a' := ?_) (bm 38 67108863) rfl rfl (any_of HT_.out (by kernel_rfl)) (fun _ _ _ h => h) (Or.inr ⟨by rfl, rfl⟩) ?_ ?_
                                         rotate_left
                                         · simp only [Act.put, aput]
                                           rfl
                                         refine pure_ (i := 26) (N := some 136) (v := undef) (a' := ?_) (bm 38 134217727) rfl rfl (any_of HT_.out (by kernel_rfl)) (fun _ _ _ h => h) (Or.inr ⟨by rfl, rfl⟩) ?_ ?_
                                         rotate_left
                                         · simp only [Act.put, aput]
                                           rfl
                                         refine pure_ (i := 27) (N := some 137) (v := undef) (a' := ?_) (bm 38 268435455) rfl rfl (any_of HT_.out (by kernel_rfl)) (fun _ _ _ h => h) (Or.inr ⟨by rfl, rfl⟩) ?_ ?_
                                         rotate_left
                                         · simp only [Act.put, aput]
                                           rfl
                                         refine pure_ (i := 28) (N := some 138) (v := undef) (a' := ?_) (bm 38 536870911) rfl rfl (any_of HT_.out (by kernel_rfl)) (fun _ _ _ h => h) (Or.inr ⟨by rfl, rfl⟩) ?_ ?_
                                         rotate_left
                                         · simp only [Act.put, aput]
                                           rfl
                                         refine pure_ (i := 29) (N := some 139) (v := undef) (a' := ?_) (bm 38 1073741823) rfl rfl (any_of HT_.out (by kernel_rfl)) (fun _ _ _ h => h) (Or.inr ⟨by rfl, rfl⟩) ?_ ?_
                                         rotate_left
                                         · simp only [Act.put, aput]
                                           rfl
                                         refine pure_ (i := 30) (N := some 140) (v := undef) (a' := ?_) (bm 38 2147483647) rfl rfl (any_of HT_.out (by kernel_rfl)) (fun _ _ _ h => h) (Or.inr ⟨by rfl, rfl⟩) ?_ ?_
                                         rotate_left
                                         · simp only [Act.put, aput]
                                           rfl
                                         refine pure_ (i := 31) (N := some 141) (v := undef) (a' := ?_) (bm 38 4294967295) rfl rfl (any_of HT_.out (by kernel_rfl)) (fun _ _ _ h => h) (Or.inr ⟨by rfl, rfl⟩) ?_ ?_
                                         rotate_left
                                         · simp only [Act.put, aput]
                                           rfl
                                         refine pure_ (i := 32) (N := some 142) (v := undef) (a' := ?_) (bm 38 8589934591) rfl rfl (any_of HT_.out (by kernel_rfl)) (fun _ _ _ h => h) (Or.inr ⟨by rfl, rfl⟩) ?_ ?_
                                         rotate_left
                                         · simp only [Act.put, aput]
                                           rfl
                                         refine pure_ (i := 33) (N := some 143) (v := undef) (a' := ?_) (bm 38 17179869183) rfl rfl (any_of HT_.out (by kernel_rfl)) (fun _ _ _ h => h) (Or.inr ⟨by rfl, rfl⟩) ?_ ?_
                                         rotate_left
                                         · simp only [Act.put, aput]
                                           rfl
                                         refine pure_ (i := 34) (N := some 144) (v := undef) (a' := ?_) (bm 38 34359738367) rfl rfl (any_of HT_.out (by kernel_rfl)) (fun _ _ _ h => h) (Or.inr ⟨by rfl, rfl⟩) ?_ ?_
                                         rotate_left
                                         · simp only [Act.put, aput]
                                           rfl
                                         refine pure_ (i := 35) (N := some 145) (v := undef) (a' := ?_) (bm 38 68719476735) rfl rfl (any_of HT_.out (by kernel_rfl)) (fun _ _ _ h => h) (Or.inr ⟨by rfl, rfl⟩) ?_ ?_
                                         rotate_left
                                         · simp only [Act.put, aput]
                                           rfl
                                         refine pure_ (i := 36) (N := some 146) (v := undef) (a' := ?_) (bm 38 137438953471) rfl rfl (any_of HT_.out (by kernel_rfl)) (fun _ _ _ h => h) (Or.inr ⟨by rfl, rfl⟩) ?_ ?_
                                         rotate_left
                                         · simp only [Act.put, aput]
                                           rfl
                                         refine pure_ (i := 37) (N := some 147) (v := ?_) (a' := ?_) (bm 38 274877906943) rfl rfl (any_of HT_.out (by kernel_rfl)) (fun _ _ _ h => h) (Or.inl ⟨by rfl, ?_⟩) ?_ ?_
                                         rotate_left
                                         · intro w'
                                           go_simp
                                           with_reducible rfl
                                         rotate_left
                                         · simp only [Act.put, aput]
                                           rfl
                                         refine done_ (done_of HT_.out (by kernel_rfl)) ?_
                                         try go_wp2
                                         go_roundg k4
                                         case measure => have := HJ4.out; have := HK2.out; have := HK3.out; have := HK4.out; omega
                                         case rel => exact ⟨(x11_4), (wrap64 (x13_4 + 1)), (by first | rfl | (simp; done) | (simp [*]; done)), (by first | rfl | (simp; done) | (simp [*]; done)), H', ⟨by have := HJ4.out; have := HK2.out; have := HK3.out; have := HK4.out; omega⟩, ⟨by (with_reducible repeat (first | apply Kd.R_alloc | apply Kd.R_drewN | apply Kd.R_drew)); exact HO_5.out⟩, ⟨by (with_reducible repeat (first | apply Kd.R_alloc | apply Kd.R_drewN | apply Kd.R_drew)); exact HO_6.out⟩, ⟨by repeat (first | (with_reducible first | exact HB.out | apply below_alloc | apply pw_below_drewN | apply below_drew1) | exact HB.out)⟩⟩
                                     · rw [if_neg c45] at H
                                       exact absurd H (by simp)
                                   · rw [if_neg c44] at H
                                     exact absurd H (by simp)
                                 · rw [if_neg c43] at H
                                   have c43b0 : decide (0 < ((rd_T30 x6_4 x12_3).f1)) = false := decide_eq_false c43
                                   clear c43
                                   have H' := aS H
                                   clear H
                                   try go_wp2
                                   have n0_ := aS (Kd.R_drew HO_5.out)
                                   have n1_ := aS (Kd.R_drew HO_6.out)
                                   have n2_ := aS (below_drew1 HB.out)
                                   clear HO_5
                                   clear HO_6
                                   clear HB
                                   have HO_5 := n0_
                                   have HO_6 := n1_
                                   have HB := n2_
                                   clear n0_ n1_ n2_
                                   have p226 : 0 ≤ (x12_3 : Int) := of_decide_eq_true (by first | (with_reducible assumption) | assumption)
                                   have q226 : x12_3 < (x6_4.length : Int) := of_decide_eq_true (by first | (with_reducible assumption) | assumption)
                                   obtain ⟨ad226, e226, hx226_0, hx226_1⟩ := at_T30 (Kd.R_reads' HO_6.out).2.2 x12_3 p226 q226
                                   cases e226
                                   replace p226 := eq_true p226
                                   replace q226 := eq_true q226
                                   refine start_ (n := 38) (S := fun w' => w'.cell? (ad226.add ((x12_3).toNat * 2)) = some (.int .u64 ((rd_T30 x6_4 x12_3).f0)) ∧ w'.cell? ⟨(ad226.add ((x12_3).toNat * 2)).block, (ad226.add ((x12_3).toNat * 2)).off + 1, none⟩ = some (.int .u64 ((rd_T30 x6_4 x12_3).f1))) (ds := []) #[false, false, false, false, false, false, false, false, false, false, false, false, false, false, false, false, false, false, false, false, false, false, false, false, false, false, false, false, false, false, false, false, false, false, false, false, false, false] (by kernel_rfl) rfl rfl ⟨hx226_0, hx226_1⟩ (fun hHeld => ?_); refine with_tabW graverlaw02_SpanGaps.tab25 graverlaw02_SpanGaps.bits25 (fun HT_ HW_ => ?_)
                                   generalize wr.drew = w60 at HO_5 HO_6 HB hx226_0 hx226_1 hHeld ⊢
                                   refine pure_ (i := 0) (N := some 110) (v := ?_) (a' := ?_) (bm 38 1) rfl rfl (any_of HT_.out (by kernel_rfl)) (fun _ _ _ h => h) (Or.inl ⟨by rfl, ?_⟩) ?_ ?_
                                   rotate_left
                                   · intro w'
                                     go_simp
                                     with_reducible rfl
                                   rotate_left
                                   · simp only [Act.put, aput]
                                     rfl
                                   refine pure_ (i := 1) (N := some 111) (v := ?_) (a' := ?_) (bm 38 3) rfl rfl (any_of HT_.out (by kernel_rfl)) (fun _ _ _ h => h) (Or.inl ⟨by rfl, ?_⟩) ?_ ?_
                                   rotate_left
                                   · intro w'
                                     go_simp
                                     with_reducible rfl
                                   rotate_left
                                   · simp only [Act.put, aput]
                                     rfl
                                   refine pure_ (i := 2) (N := some 112) (v := ?_) (a' := ?_) (bm 38 7) rfl rfl (any_of HT_.out (by kernel_rfl)) (fun _ _ _ h => h) (Or.inl ⟨by rfl, ?_⟩) ?_ ?_
                                   rotate_left
                                   · intro w'
                                     go_simp
                                     with_reducible rfl
                                   rotate_left
                                   · simp only [Act.put, aput]
                                     rfl
                                   refine pure_ (i := 3) (N := some 113) (v := ?_) (a' := ?_) (bm 38 15) rfl rfl (any_of HT_.out (by kernel_rfl)) (fun _ _ _ h => h) (Or.inl ⟨by rfl, ?_⟩) ?_ ?_
                                   rotate_left
                                   · intro w'
                                     go_simp
                                     with_reducible rfl
                                   rotate_left
                                   · simp only [Act.put, aput]
                                     rfl
                                   refine take_ (i := 4) (N := some 114) (v := ?_) (a' := ?_) (bm 38 31) rfl rfl (take_ofW HT_.out HW_.out (by kernel_rfl)) (fun _ _ _ h => h) (Or.inl ⟨by rfl, ?_⟩) hHeld ?_ ?_
                                   rotate_left
                                   · intro w' s0
                                     go_simp
                                     with_reducible rfl
                                   rotate_left
                                   · simp only [Act.put, aput]
                                     rfl
                                   refine pure_ (i := 5) (N := some 115) (v := ?_) (a' := ?_) (bm 38 63) rfl rfl (any_of HT_.out (by kernel_rfl)) (fun _ _ _ h => h) (Or.inl ⟨by rfl, ?_⟩) ?_ ?_
                                   rotate_left
                                   · intro w'
                                     go_simp
                                     with_reducible rfl
                                   rotate_left
                                   · simp only [Act.put, aput]
                                     rfl
                                   refine pure_ (i := 6) (N := some 116) (v := ?_) (a' := ?_) (bm 38 127) rfl rfl (any_of HT_.out (by kernel_rfl)) (fun _ _ _ h => h) (Or.inl ⟨by rfl, ?_⟩) ?_ ?_
                                   rotate_left
                                   · intro w'
                                     go_simp
                                     with_reducible rfl
                                   rotate_left
                                   · simp only [Act.put, aput]
                                     rfl
                                   refine pure_ (i := 7) (N := some 117) (v := undef) (a' := ?_) (bm 38 255) rfl rfl (any_of HT_.out (by kernel_rfl)) (fun _ _ _ h => h) (Or.inr ⟨by rfl, rfl⟩) ?_ ?_
                                   rotate_left
                                   · simp only [Act.put, aput]
                                     rfl
                                   refine pure_ (i := 8) (N := some 118) (v := undef) (a' := ?_) (bm 38 511) rfl rfl (any_of HT_.out (by kernel_rfl)) (fun _ _ _ h => h) (Or.inr ⟨by rfl, rfl⟩) ?_ ?_
                                   rotate_left
                                   · simp only [Act.put, aput]
                                     rfl
                                   refine pure_ (i := 9) (N := some 119) (v := undef) (a' := ?_) (bm 38 1023) rfl rfl (any_of HT_.out (by kernel_rfl)) (fun _ _ _ h => h) (Or.inr ⟨by rfl, rfl⟩) ?_ ?_
                                   rotate_left
                                   · simp only [Act.put, aput]
                                     rfl
                                   refine pure_ (i := 10) (N := some 120) (v := undef) (a' := ?_) (bm 38 2047) rfl rfl (any_of HT_.out (by kernel_rfl)) (fun _ _ _ h => h) (Or.inr ⟨by rfl, rfl⟩) ?_ ?_
                                   rotate_left
                                   · simp only [Act.put, aput]
                                     rfl
                                   refine pure_ (i := 11) (N := some 121) (v := undef) (a' := ?_) (bm 38 4095) rfl rfl (any_of HT_.out (by kernel_rfl)) (fun _ _ _ h => h) (Or.inr ⟨by rfl, rfl⟩) ?_ ?_
                                   rotate_left
                                   · simp only [Act.put, aput]
                                     rfl
                                   refine pure_ (i := 12) (N := some 122) (v := undef) (a' := ?_) (bm 38 8191) rfl rfl (any_of HT_.out (by kernel_rfl)) (fun _ _ _ h => h) (Or.inr ⟨by rfl, rfl⟩) ?_ ?_
                                   rotate_left
                                   · simp only [Act.put, aput]
                                     rfl
                                   refine pure_ (i := 13) (N := some 123) (v := ?_) (a' := ?_) (bm 38 16383) rfl rfl (any_of HT_.out (by kernel_rfl)) (fun _ _ _ h => h) (Or.inl ⟨by rfl, ?_⟩) ?_ ?_
                                   rotate_left
                                   · intro w'
                                     go_simp
                                     with_reducible rfl
                                   rotate_left
                                   · simp only [Act.put, aput]
                                     rfl
                                   refine pure_ (i := 14) (N := some 124) (v := ?_) (a' := ?_) (bm 38 32767) rfl rfl (any_of HT_.out (by kernel_rfl)) (fun _ _ _ h => h) (Or.inl ⟨by rfl, ?_⟩) ?_ ?_
                                   rotate_left
                                   · intro w'
                                     go_simp
                                     with_reducible rfl
                                   rotate_left
                                   · simp only [Act.put, aput]
                                     rfl
                                   refine pure_ (i := 15) (N := some 125) (v := undef) (a' := ?_) (bm 38 65535) rfl rfl (any_of HT_.out (by kernel_rfl)) (fun _ _ _ h => h) (Or.inr ⟨by rfl, rfl⟩) ?_ ?_
                                   rotate_left
                                   · simp only [Act.put, aput]
                                     rfl
                                   refine pure_ (i := 16) (N := some 126) (v := undef) (a' := ?_) (bm 38 131071) rfl rfl (any_of HT_.out (by kernel_rfl)) (fun _ _ _ h => h) (Or.inr ⟨by rfl, rfl⟩) ?_ ?_
                                   rotate_left
                                   · simp only [Act.put, aput]
                                     rfl
                                   refine pure_ (i := 17) (N := some 127) (v := undef) (a' := ?_) (bm 38 262143) rfl rfl (any_of HT_.out (by kernel_rfl)) (fun _ _ _ h => h) (Or.inr ⟨by rfl, rfl⟩) ?_ ?_
                                   rotate_left
                                   · simp only [Act.put, aput]
                                     rfl
                                   refine pure_ (i := 18) (N := some 128) (v := undef) (a' := ?_) (bm 38 524287) rfl rfl (any_of HT_.out (by kernel_rfl)) (fun _ _ _ h => h) (Or.inr ⟨by rfl, rfl⟩) ?_ ?_
                                   rotate_left
                                   · simp only [Act.put, aput]
                                     rfl
                                   refine pure_ (i := 19) (N := some 129) (v := undef) (a' := ?_) (bm 38 1048575) rfl rfl (any_of HT_.out (by kernel_rfl)) (fun _ _ _ h => h) (Or.inr ⟨by rfl, rfl⟩) ?_ ?_
                                   rotate_left
                                   · simp only [Act.put, aput]
                                     rfl
                                   refine pure_ (i := 20) (N := some 130) (v := undef) (a' := ?_) (bm 38 2097151) rfl rfl (any_of HT_.out (by kernel_rfl)) (fun _ _ _ h => h) (Or.inr ⟨by rfl, rfl⟩) ?_ ?_
                                   rotate_left
                                   · simp only [Act.put, aput]
                                     rfl
                                   refine pure_ (i := 21) (N := some 131) (v := undef) (a' := ?_) (bm 38 4194303) rfl rfl (any_of HT_.out (by kernel_rfl)) (fun _ _ _ h => h) (Or.inr ⟨by rfl, rfl⟩) ?_ ?_
                                   rotate_left
                                   · simp only [Act.put, aput]
                                     rfl
                                   refine pure_ (i := 22) (N := some 132) (v := undef) (a' := ?_) (bm 38 8388607) rfl rfl (any_of HT_.out (by kernel_rfl)) (fun _ _ _ h => h) (Or.inr ⟨by rfl, rfl⟩) ?_ ?_
                                   rotate_left
                                   · simp only [Act.put, aput]
                                     rfl
                                   refine pure_ (i := 23) (N := some 133) (v := undef) (a' := ?_) (bm 38 16777215) rfl rfl (any_of HT_.out (by kernel_rfl)) (fun _ _ _ h => h) (Or.inr ⟨by rfl, rfl⟩) ?_ ?_
                                   rotate_left
                                   · simp only [Act.put, aput]
                                     rfl
                                   refine pure_ (i := 24) (N := some 134) (v := undef) (a' := ?_) (bm 38 33554431) rfl rfl (any_of HT_.out (by kernel_rfl)) (fun _ _ _ h => h) (Or.inr ⟨by rfl, rfl⟩) ?_ ?_
                                   rotate_left
                                   · simp only [Act.put, aput]
                                     rfl
                                   refine pure_ (i := 25) (N := some 135) (v := undef) (a' := ?_) (bm 38 67108863) rfl rfl (any_of HT_.out (by kernel_rfl)) (fun _ _ _ h => h) (Or.inr ⟨by rfl, rfl⟩) ?_ ?_
                                   rotate_left
                                   · simp only [Act.put, aput]
                                     rfl
                                   refine pure_ (i := 26) (N := some 136) (v := undef) (a' := ?_) (bm 38 134217727) rfl rfl (any_of HT_.out (by kernel_rfl)) (fun _ _ _ h => h) (Or.inr ⟨by rfl, rfl⟩) ?_ ?_
                                   rotate_left
                                   · simp only [Act.put, aput]
                                     rfl
                                   refine pure_ (i := 27) (N := some 137) (v := undef) (a' := ?_) (bm 38 268435455) rfl rfl (any_of HT_.out (by kernel_rfl)) (fun _ _ _ h => h) (Or.inr ⟨by rfl, rfl⟩) ?_ ?_
                                   rotate_left
                                   · simp only [Act.put, aput]
                                     rfl
                                   refine pure_ (i := 28) (N := some 138) (v := undef) (a' := ?_) (bm 38 536870911) rfl rfl (any_of HT_.out (by kernel_rfl)) (fun _ _ _ h => h) (Or.inr ⟨by rfl, rfl⟩) ?_ ?_
                                   rotate_left
                                   · simp only [Act.put, aput]
                                     rfl
                                   refine pure_ (i := 29) (N := some 139) (v := undef) (a' := ?_) (bm 38 1073741823) rfl rfl (any_of HT_.out (by kernel_rfl)) (fun _ _ _ h => h) (Or.inr ⟨by rfl, rfl⟩) ?_ ?_
                                   rotate_left
                                   · simp only [Act.put, aput]
                                     rfl
                                   refine pure_ (i := 30) (N := some 140) (v := undef) (a' := ?_) (bm 38 2147483647) rfl rfl (any_of HT_.out (by kernel_rfl)) (fun _ _ _ h => h) (Or.inr ⟨by rfl, rfl⟩) ?_ ?_
                                   rotate_left
                                   · simp only [Act.put, aput]
                                     rfl
                                   refine pure_ (i := 31) (N := some 141) (v := undef) (a' := ?_) (bm 38 4294967295) rfl rfl (any_of HT_.out (by kernel_rfl)) (fun _ _ _ h => h) (Or.inr ⟨by rfl, rfl⟩) ?_ ?_
                                   rotate_left
                                   · simp only [Act.put, aput]
                                     rfl
                                   refine pure_ (i := 32) (N := some 142) (v := undef) (a' := ?_) (bm 38 8589934591) rfl rfl (any_of HT_.out (by kernel_rfl)) (fun _ _ _ h => h) (Or.inr ⟨by rfl, rfl⟩) ?_ ?_
                                   rotate_left
                                   · simp only [Act.put, aput]
                                     rfl
                                   refine pure_ (i := 33) (N := some 143) (v := undef) (a' := ?_) (bm 38 17179869183) rfl rfl (any_of HT_.out (by kernel_rfl)) (fun _ _ _ h => h) (Or.inr ⟨by rfl, rfl⟩) ?_ ?_
                                   rotate_left
                                   · simp only [Act.put, aput]
                                     rfl
                                   refine pure_ (i := 34) (N := some 144) (v := undef) (a' := ?_) (bm 38 34359738367) rfl rfl (any_of HT_.out (by kernel_rfl)) (fun _ _ _ h => h) (Or.inr ⟨by rfl, rfl⟩) ?_ ?_
                                   rotate_left
                                   · simp only [Act.put, aput]
                                     rfl
                                   refine pure_ (i := 35) (N := some 145) (v := undef) (a' := ?_) (bm 38 68719476735) rfl rfl (any_of HT_.out (by kernel_rfl)) (fun _ _ _ h => h) (Or.inr ⟨by rfl, rfl⟩) ?_ ?_
                                   rotate_left
                                   · simp only [Act.put, aput]
                                     rfl
                                   refine pure_ (i := 36) (N := some 146) (v := undef) (a' := ?_) (bm 38 137438953471) rfl rfl (any_of HT_.out (by kernel_rfl)) (fun _ _ _ h => h) (Or.inr ⟨by rfl, rfl⟩) ?_ ?_
                                   rotate_left
                                   · simp only [Act.put, aput]
                                     rfl
                                   refine pure_ (i := 37) (N := some 147) (v := ?_) (a' := ?_) (bm 38 274877906943) rfl rfl (any_of HT_.out (by kernel_rfl)) (fun _ _ _ h => h) (Or.inl ⟨by rfl, ?_⟩) ?_ ?_
                                   rotate_left
                                   · intro w'
                                     go_simp
                                     with_reducible rfl
                                   rotate_left
                                   · simp only [Act.put, aput]
                                     rfl
                                   refine done_ (done_of HT_.out (by kernel_rfl)) ?_
                                   try go_wp2
                                   go_roundg k4
                                   case measure => have := HJ4.out; have := HK2.out; have := HK3.out; have := HK4.out; omega
                                   case rel => exact ⟨(x11_4), (wrap64 (x13_4 + 1)), (by first | rfl | (simp; done) | (simp [*]; done)), (by first | rfl | (simp; done) | (simp [*]; done)), H', ⟨by have := HJ4.out; have := HK2.out; have := HK3.out; have := HK4.out; omega⟩, ⟨by (with_reducible repeat (first | apply Kd.R_alloc | apply Kd.R_drewN | apply Kd.R_drew)); exact HO_5.out⟩, ⟨by (with_reducible repeat (first | apply Kd.R_alloc | apply Kd.R_drewN | apply Kd.R_drew)); exact HO_6.out⟩, ⟨by repeat (first | (with_reducible first | exact HB.out | apply below_alloc | apply pw_below_drewN | apply below_drew1) | exact HB.out)⟩⟩
                               · rw [if_neg c42] at H
                                 exact absurd H (by simp)
                             · rw [if_neg c41] at H
                               exact absurd H (by simp)
                           · rw [if_neg c40] at H
                             have c40b0 : decide (x13_4 < x12_3) = false := decide_eq_false c40
                             clear c40
                             have H' := aS H
                             clear H
                             go_wp2
                             go_roundg k4
                             case measure => have := HJ4.out; have := HK2.out; have := HK3.out; have := HK4.out; omega
                             case rel => exact ⟨(x11_4), (wrap64 (x12_3 + 1)), (by first | rfl | (simp; done) | (simp [*]; done)), (by first | rfl | (simp; done) | (simp [*]; done)), H', ⟨by have := HJ4.out; have := HK2.out; have := HK3.out; have := HK4.out; omega⟩, ⟨by (with_reducible repeat (first | apply Kd.R_alloc | apply Kd.R_drewN | apply Kd.R_drew)); exact HO_5.out⟩, ⟨by (with_reducible repeat (first | apply Kd.R_alloc | apply Kd.R_drewN | apply Kd.R_drew)); exact HO_6.out⟩, ⟨by repeat (first | (with_reducible first | exact HB.out | apply below_alloc | apply pw_below_drewN | apply below_drew1) | exact HB.out)⟩⟩
                     · rw [if_neg c39] at H
                       have c39b0 : decide (x12_3 < (x6_4.length : Int)) = false := decide_eq_false c39
                       clear c39
                       replace H := Option.bind_eq_some_iff.mp H
                       obtain ⟨t225, A610, H⟩ := H
                       replace H : (if x11_3 = true then (some t225) else (some (!t225))) = some r := H
                       have A61 := aS A610
                       clear A610
                       by_cases c62 : x11_3 = true
                       · subst c62
                         have H1 : (some t225) = some r := by rw [if_pos rfl] at H; exact H
                         clear H
                         have H := H1
                         clear H1
                         obtain rfl := Option.some.inj H
                         go_wp2_with (first | ((with_reducible refine gate_callee (f := 11) rfl ?_); refine goesL_ (some 149) rfl rfl Try.func11 (by kernel_rfl) rfl #[.slice Ao27 x5_4.length co27] rfl (by (try simp only [List.map_toArray, List.map_cons, List.map_nil]); first | done | rfl | (simp only [List.length_drop, List.length_take]; rfl)) ?_; (with_reducible refine (span_Clash.calls k3 _ _ x5_4 t225 _ ?side1 ?side2 A61.out).mono ?_); (case side1 => repeat (first | exact (Kd.R_reads' HO_5.out).2.2 | (with_reducible refine Kd.C_alloc ?_ _) | (with_reducible refine Kd.C_drewN ?_ _) | (with_reducible refine Kd.C_drew ?_))); (case side2 => exact (Kd.R_reads' HO_5.out).2.1); rintro e w63 ⟨rfl, hb⟩; refine ⟨_, rfl, ?_⟩; have n0_ := aS (Kd.R_below (by (with_reducible repeat (first | apply Kd.R_alloc | apply Kd.R_drewN | apply Kd.R_drew)); exact HO_5.out) hb); have n1_ := aS (Kd.R_below (by (with_reducible repeat (first | apply Kd.R_alloc | apply Kd.R_drewN | apply Kd.R_drew)); exact HO_6.out) hb); have n2_ := aS (below_step (by repeat (first | (with_reducible first | exact HB.out | apply below_alloc | apply pw_below_drewN | apply below_drew1) | exact HB.out)) hb); clear HO_5; clear HO_6; clear HB; have HO_5 := n0_; have HO_6 := n1_; have HB := n2_; clear n0_ n1_ n2_; (try clear hb); (try clear hb2); (try clear hk); (try clear hi)))
                         go_ret
                         exact ⟨by first | rfl | (simp [errW_none, errW_some] <;> rfl) | (simp [*, errW_none, errW_some] <;> rfl), by repeat (first | (with_reducible first | exact HB.out | apply below_alloc | apply pw_below_drewN | apply below_drew1) | exact HB.out)⟩
                       · replace c62 := Bool.eq_false_iff.mpr c62
                         subst c62
                         have H1 : (some (!t225)) = some r := by rw [if_neg (show ¬ (false = true) by decide)] at H; exact H
                         clear H
                         have H := H1
                         clear H1
                         obtain rfl := Option.some.inj H
                         go_wp2_with (first | ((with_reducible refine gate_callee (f := 11) rfl ?_); refine goesL_ (some 149) rfl rfl Try.func11 (by kernel_rfl) rfl #[.slice Ao27 x5_4.length co27] rfl (by (try simp only [List.map_toArray, List.map_cons, List.map_nil]); first | done | rfl | (simp only [List.length_drop, List.length_take]; rfl)) ?_; (with_reducible refine (span_Clash.calls k3 _ _ x5_4 t225 _ ?side1 ?side2 A61.out).mono ?_); (case side1 => repeat (first | exact (Kd.R_reads' HO_5.out).2.2 | (with_reducible refine Kd.C_alloc ?_ _) | (with_reducible refine Kd.C_drewN ?_ _) | (with_reducible refine Kd.C_drew ?_))); (case side2 => exact (Kd.R_reads' HO_5.out).2.1); rintro e w64 ⟨rfl, hb⟩; refine ⟨_, rfl, ?_⟩; have n0_ := aS (Kd.R_below (by (with_reducible repeat (first | apply Kd.R_alloc | apply Kd.R_drewN | apply Kd.R_drew)); exact HO_5.out) hb); have n1_ := aS (Kd.R_below (by (with_reducible repeat (first | apply Kd.R_alloc | apply Kd.R_drewN | apply Kd.R_drew)); exact HO_6.out) hb); have n2_ := aS (below_step (by repeat (first | (with_reducible first | exact HB.out | apply below_alloc | apply pw_below_drewN | apply below_drew1) | exact HB.out)) hb); clear HO_5; clear HO_6; clear HB; have HO_5 := n0_; have HO_6 := n1_; have HB := n2_; clear n0_ n1_ n2_; (try clear hb); (try clear hb2); (try clear hk); (try clear hi)))
                         go_ret
                         exact ⟨by first | rfl | (simp [errW_none, errW_some] <;> rfl) | (simp [*, errW_none, errW_some] <;> rfl), by repeat (first | (with_reducible first | exact HB.out | apply below_alloc | apply pw_below_drewN | apply below_drew1) | exact HB.out)⟩
         · rw [if_neg c26] at H
           have c26b0 : ((t215.length : Int) == (t218.length : Int)) = false := beq_eq_false_iff_ne.mpr c26
           have c26b1 : ((t215.length : Int) != (t218.length : Int)) = true := bne_iff_ne.mpr c26
           have c26b2 : (t215.length == t218.length) = false := by first | simpa using c26 | (simp at c26 ⊢; omega)
           exact absurd ((Option.some.inj H).trans HRT.out) (by decide)
 ·
  replace c4 := Bool.eq_false_iff.mpr c4
  subst c4
  have H1 : (some false) = some r := by rw [if_neg (show ¬ (false = true) by decide)] at H; exact H
  clear H
  have H := H1
  clear H1
  exact absurd ((Option.some.inj H).trans HRT.out) (by decide)

/-- THE ONE PURE STATEMENT of graverlaw02_SpanGaps: yours. -/
def graverlaw02_SpanGaps.Pure : Prop := ∀ (a0 : Int) (l1 : List (S27)), (Lit.int .i64 a0).wf = true → l1.length * 16 ≤ 140737488351232 → (∀ x ∈ l1, (Lit.int .u64 x.f0).wf = true ∧ (Lit.int .u64 x.f1).wf = true) → ∃ k, graverlaw02_SpanGaps.f k a0 l1 = some true
theorem graverlaw02_SpanGaps.walk (P : graverlaw02_SpanGaps.Pure) (a0 : Int) (a1 : Option Addr) (cap1 : Nat) (l1 : List (S27)) (w : World) (w0 : (Lit.int .i64 a0).wf = true) (hr1 : Kd.C k27 w a1 l1.length l1) (hc1 : l1.length ≤ cap1) (hw1 : ∀ x ∈ l1, (Lit.int .u64 x.f0).wf = true ∧ (Lit.int .u64 x.f1).wf = true) (y1 : l1.length * 16 ≤ 140737488351232) :
  Calls Try.prog 3 #[.int .i64 a0, .slice a1 l1.length cap1] w fun e w' => e = .returned (.bool true) ∧ Below w.heap.size w w' := by
 obtain ⟨k, h⟩ := P a0 l1 w0 y1 hw1
 refine (graverlaw02_SpanGaps.calls k a0 _ _ l1 true w rfl hr1 hc1 h).mono ?_
 rintro e w' ⟨rfl, hd⟩
 exact ⟨rfl, hd⟩

end Go.Proofs.Yteoeohkjomehoaa.Q
