/- What Go functions of the program compute, each as a Lean function with the proof that the call returns just that. No condition but those in the statements. -/
import Derived.Test.YteoeohkjomehoaaQ0
import Derived.Test.YteoeohkjomehoaaQ3
import Derived.Test.YteoeohkjomehoaaQ4
import Derived.Test.YteoeohkjomehoaaQ5
import Derived.Test.YteoeohkjomehoaaQ7
namespace Go.Proofs.Yteoeohkjomehoaa.Q
open Go.RowKit Go.Proofs.YteoeohkjomehoaaW.PrintWords Go.Proofs.YteoeohkjomehoaaW.PrintLast Go.Proofs.YteoeohkjomehoaaW.PrintMore
attribute [local go_sem] max2_int min2_int max_two min_two max_three min_three max_four min_four   -- for this text's walks alone
set_option linter.unusedVariables false
set_option linter.unusedSimpArgs false

/-! ### graverlaw02_SpanSums: function 5 -/
mutual
def graverlaw02_SpanSums.j0 : Nat → Int → Int → Int → Bool → Int → Bool → Int → Bool → Option (Bool)
  | 0, _, _, _, _, _, _, _, _ => none
  | k + 1, x0, x1, x7, x8, x9, x10, x11, x12 => (span_Mul.f x0 x1).bind fun bt177 => (if x0 = 0 then (graverlaw02_SpanSums.j1 k x0 x1 x7 x8 x9 x10 x11 x12 bt177.1 bt177.2 true) else (graverlaw02_SpanSums.j1 k x0 x1 x7 x8 x9 x10 x11 x12 bt177.1 bt177.2 (decide (x1 ≤ (IntKind.u64.wrap ((18446744073709551615 : Int) / x0))))))
def graverlaw02_SpanSums.j1 : Nat → Int → Int → Int → Bool → Int → Bool → Int → Bool → Int → Bool → Bool → Option (Bool)
  | 0, _, _, _, _, _, _, _, _, _, _, _ => none
  | k + 1, x0, x1, x7, x8, x9, x10, x11, x12, x13, x14, x15 => if x12 = true then (if x8 = true then (if x7 = x11 then (if x15 = true then (if x14 = true then (if x13 = (IntKind.u64.wrap (x0 * x1)) then (graverlaw02_SpanSums.j2 k x0 x1 x9 x10 false) else (graverlaw02_SpanSums.j2 k x0 x1 x9 x10 true)) else (graverlaw02_SpanSums.j2 k x0 x1 x9 x10 true)) else (if x14 = true then (graverlaw02_SpanSums.j2 k x0 x1 x9 x10 true) else (graverlaw02_SpanSums.j2 k x0 x1 x9 x10 (x13 != 0)))) else (graverlaw02_SpanSums.j2 k x0 x1 x9 x10 true)) else (graverlaw02_SpanSums.j2 k x0 x1 x9 x10 true)) else (if x8 = true then (graverlaw02_SpanSums.j2 k x0 x1 x9 x10 true) else (if x7 = x11 then (if x15 = true then (if x14 = true then (if x13 = (IntKind.u64.wrap (x0 * x1)) then (graverlaw02_SpanSums.j2 k x0 x1 x9 x10 false) else (graverlaw02_SpanSums.j2 k x0 x1 x9 x10 true)) else (graverlaw02_SpanSums.j2 k x0 x1 x9 x10 true)) else (if x14 = true then (graverlaw02_SpanSums.j2 k x0 x1 x9 x10 true) else (graverlaw02_SpanSums.j2 k x0 x1 x9 x10 (x13 != 0)))) else (graverlaw02_SpanSums.j2 k x0 x1 x9 x10 true)))
def graverlaw02_SpanSums.j2 : Nat → Int → Int → Int → Bool → Bool → Option (Bool)
  | 0, _, _, _, _, _ => none
  | k + 1, x0, x1, x9, x10, x90 => if x90 = true then (some false) else ((span_Round.f k x0 x1).bind fun bt179 => (if x1 < 2 then (if bt179.2 = true then (some (bt179.1 == x0)) else (some false)) else (if x1 = 0 then (none) else (if (Int.tmod x0 x1) = 0 then (if bt179.2 = true then (some (bt179.1 == x0)) else (some false)) else ((graverref02_Add.f x0 (IntKind.u64.wrap (x1 - (Int.tmod x0 x1)))).bind fun bt181 => ((span_Span_End.f k x0 x1).bind fun bt183 => (if bt181.2 = true then (if bt179.2 = true then (if bt179.1 = bt181.1 then (if x10 = true then (if bt183.2 = true then (some (bt183.1 == x9)) else (some false)) else (if bt183.2 = true then (some false) else (some (bt183.1 == x9)))) else (some false)) else (some false)) else (if bt179.2 = true then (some false) else (if bt179.1 = bt181.1 then (if x10 = true then (if bt183.2 = true then (some (bt183.1 == x9)) else (some false)) else (if bt183.2 = true then (some false) else (some (bt183.1 == x9)))) else (some false))))))))))
end
def graverlaw02_SpanSums.f (k : Nat) (a0 : Int) (a1 : Int) (a2 : Int) : Option (Bool) := (graverlaw02_speaks.f k).bind fun t167 => (if t167 = true then ((span_Add.f k (([a0, a1, a2] : List Int))).bind fun bt171 => ((graverref02_Add.f a0 a1).bind fun bt173 => (if bt173.2 = true then ((graverref02_Add.f bt173.1 a2).bind fun bt175 => (graverlaw02_SpanSums.j0 k a0 a1 bt171.1 bt171.2 bt173.1 bt173.2 bt175.1 bt175.2)) else (graverlaw02_SpanSums.j0 k a0 a1 bt171.1 bt171.2 bt173.1 bt173.2 0 false)))) else (some false))
theorem graverlaw02_SpanSums.mono_l : ∀ k, (∀ y0 y1 y2 y3 y4 y5 y6 y7, LeO (graverlaw02_SpanSums.j0 k y0 y1 y2 y3 y4 y5 y6 y7) (graverlaw02_SpanSums.j0 (k + 1) y0 y1 y2 y3 y4 y5 y6 y7)) ∧ (∀ y0 y1 y2 y3 y4 y5 y6 y7 y8 y9 y10, LeO (graverlaw02_SpanSums.j1 k y0 y1 y2 y3 y4 y5 y6 y7 y8 y9 y10) (graverlaw02_SpanSums.j1 (k + 1) y0 y1 y2 y3 y4 y5 y6 y7 y8 y9 y10)) ∧ (∀ y0 y1 y2 y3 y4, LeO (graverlaw02_SpanSums.j2 k y0 y1 y2 y3 y4) (graverlaw02_SpanSums.j2 (k + 1) y0 y1 y2 y3 y4))
  | 0 => ⟨fun _ _ _ _ _ _ _ _ r h => by simp [graverlaw02_SpanSums.j0] at h, fun _ _ _ _ _ _ _ _ _ _ _ r h => by simp [graverlaw02_SpanSums.j1] at h, fun _ _ _ _ _ r h => by simp [graverlaw02_SpanSums.j2] at h⟩
  | k + 1 => by
    obtain ⟨ih0, ih1, ih2⟩ := graverlaw02_SpanSums.mono_l k
    refine ⟨?_, ?_, ?_⟩
    · intro y0 y1 y2 y3 y4 y5 y6 y7
      unfold graverlaw02_SpanSums.j0
      repeat' first
      | (with_reducible exact ih0 _ _ _ _ _ _ _ _)
      | (with_reducible exact ih1 _ _ _ _ _ _ _ _ _ _ _)
      | (with_reducible exact ih2 _ _ _ _ _)
      | (with_reducible exact graverlaw02_speaks.mono _)
      | (with_reducible exact span_Add.mono _ _)
      | (with_reducible exact span_Round.mono _ _ _)
      | (with_reducible exact span_Span_End.mono _ _ _)
      | (with_reducible exact LeO.refl _)
      | (with_reducible exact LeO.none _)
      | (with_reducible refine LeO.ite ?_ ?_)
      | (with_reducible refine LeO.bind ?_ (fun _ => ?_))
      | exact ih0 _ _ _ _ _ _ _ _
      | exact ih1 _ _ _ _ _ _ _ _ _ _ _
      | exact ih2 _ _ _ _ _
      | exact graverlaw02_speaks.mono _
      | exact span_Add.mono _ _
      | exact span_Round.mono _ _ _
      | exact span_Span_End.mono _ _ _
      | exact LeO.none _
      | refine LeO.ite ?_ ?_
      | refine LeO.bind ?_ (fun _ => ?_)
    · intro y0 y1 y2 y3 y4 y5 y6 y7 y8 y9 y10
      unfold graverlaw02_SpanSums.j1
      repeat' first
      | (with_reducible exact ih0 _ _ _ _ _ _ _ _)
      | (with_reducible exact ih1 _ _ _ _ _ _ _ _ _ _ _)
      | (with_reducible exact ih2 _ _ _ _ _)
      | (with_reducible exact graverlaw02_speaks.mono _)
      | (with_reducible exact span_Add.mono _ _)
      | (with_reducible exact span_Round.mono _ _ _)
      | (with_reducible exact span_Span_End.mono _ _ _)
      | (with_reducible exact LeO.refl _)
      | (with_reducible exact LeO.none _)
      | (with_reducible refine LeO.ite ?_ ?_)
      | (with_reducible refine LeO.bind ?_ (fun _ => ?_))
      | exact ih0 _ _ _ _ _ _ _ _
      | exact ih1 _ _ _ _ _ _ _ _ _ _ _
      | exact ih2 _ _ _ _ _
      | exact graverlaw02_speaks.mono _
      | exact span_Add.mono _ _
      | exact span_Round.mono _ _ _
      | exact span_Span_End.mono _ _ _
      | exact LeO.none _
      | refine LeO.ite ?_ ?_
      | refine LeO.bind ?_ (fun _ => ?_)
    · intro y0 y1 y2 y3 y4
      unfold graverlaw02_SpanSums.j2
      repeat' first
      | (with_reducible exact ih0 _ _ _ _ _ _ _ _)
      | (with_reducible exact ih1 _ _ _ _ _ _ _ _ _ _ _)
      | (with_reducible exact ih2 _ _ _ _ _)
      | (with_reducible exact graverlaw02_speaks.mono _)
      | (with_reducible exact span_Add.mono _ _)
      | (with_reducible exact span_Round.mono _ _ _)
      | (with_reducible exact span_Span_End.mono _ _ _)
      | (with_reducible exact LeO.refl _)
      | (with_reducible exact LeO.none _)
      | (with_reducible refine LeO.ite ?_ ?_)
      | (with_reducible refine LeO.bind ?_ (fun _ => ?_))
      | exact ih0 _ _ _ _ _ _ _ _
      | exact ih1 _ _ _ _ _ _ _ _ _ _ _
      | exact ih2 _ _ _ _ _
      | exact graverlaw02_speaks.mono _
      | exact span_Add.mono _ _
      | exact span_Round.mono _ _ _
      | exact span_Span_End.mono _ _ _
      | exact LeO.none _
      | refine LeO.ite ?_ ?_
      | refine LeO.bind ?_ (fun _ => ?_)
theorem graverlaw02_SpanSums.mono : ∀ a0 a1 a2 k, LeO (graverlaw02_SpanSums.f k a0 a1 a2) (graverlaw02_SpanSums.f (k + 1) a0 a1 a2) := by
  intro a0 a1 a2 k
  obtain ⟨ih0, ih1, ih2⟩ := graverlaw02_SpanSums.mono_l k
  unfold graverlaw02_SpanSums.f
  repeat' first
      | (with_reducible exact ih0 _ _ _ _ _ _ _ _)
      | (with_reducible exact ih1 _ _ _ _ _ _ _ _ _ _ _)
      | (with_reducible exact ih2 _ _ _ _ _)
      | (with_reducible exact graverlaw02_speaks.mono _)
      | (with_reducible exact span_Add.mono _ _)
      | (with_reducible exact span_Round.mono _ _ _)
      | (with_reducible exact span_Span_End.mono _ _ _)
      | (with_reducible exact LeO.refl _)
      | (with_reducible exact LeO.none _)
      | (with_reducible refine LeO.ite ?_ ?_)
      | (with_reducible refine LeO.bind ?_ (fun _ => ?_))
      | exact ih0 _ _ _ _ _ _ _ _
      | exact ih1 _ _ _ _ _ _ _ _ _ _ _
      | exact ih2 _ _ _ _ _
      | exact graverlaw02_speaks.mono _
      | exact span_Add.mono _ _
      | exact span_Round.mono _ _ _
      | exact span_Span_End.mono _ _ _
      | exact LeO.none _
      | refine LeO.ite ?_ ?_
      | refine LeO.bind ?_ (fun _ => ?_)
set_option maxHeartbeats 8000000 in
set_option maxRecDepth 100000 in
theorem graverlaw02_SpanSums.calls (k : Nat) (a0 : Int) (a1 : Int) (a2 : Int) (r : Bool) (w : World) (hrt : r = true) (h : graverlaw02_SpanSums.f k a0 a1 a2 = some r) :
    Calls Try.prog 5 #[.int .u64 a0, .int .u64 a1, .int .u64 a2] w fun e w' => e = .returned (.bool r) ∧ Below w.heap.size w w' := by
  have hu29 := Try.underlying29
  have HB := Aside0.mk (Below.refl w.heap.size w)
  have HRT := Aside0.mk hrt
  clear hrt
  have H : ((graverlaw02_speaks.f k).bind fun t167 => (if t167 = true then ((span_Add.f k (([a0, a1, a2] : List Int))).bind fun bt171 => ((graverref02_Add.f a0 a1).bind fun bt173 => (if bt173.2 = true then ((graverref02_Add.f bt173.1 a2).bind fun bt175 => (graverlaw02_SpanSums.j0 k a0 a1 bt171.1 bt171.2 bt173.1 bt173.2 bt175.1 bt175.2)) else (graverlaw02_SpanSums.j0 k a0 a1 bt171.1 bt171.2 bt173.1 bt173.2 0 false)))) else (some false))) = some r := h
  clear h
  replace H := Option.bind_eq_some_iff.mp H
  obtain ⟨t167, A40, H⟩ := H
  replace H : (if t167 = true then ((span_Add.f k (([a0, a1, a2] : List Int))).bind fun bt171 => ((graverref02_Add.f a0 a1).bind fun bt173 => (if bt173.2 = true then ((graverref02_Add.f bt173.1 a2).bind fun bt175 => (graverlaw02_SpanSums.j0 k a0 a1 bt171.1 bt171.2 bt173.1 bt173.2 bt175.1 bt175.2)) else (graverlaw02_SpanSums.j0 k a0 a1 bt171.1 bt171.2 bt173.1 bt173.2 0 false)))) else (some false)) = some r := H
  have A4 := Aside0.mk A40
  clear A40
  by_cases c5 : t167 = true
  · subst c5
    have H1 : ((span_Add.f k (([a0, a1, a2] : List Int))).bind fun bt171 => ((graverref02_Add.f a0 a1).bind fun bt173 => (if bt173.2 = true then ((graverref02_Add.f bt173.1 a2).bind fun bt175 => (graverlaw02_SpanSums.j0 k a0 a1 bt171.1 bt171.2 bt173.1 bt173.2 bt175.1 bt175.2)) else (graverlaw02_SpanSums.j0 k a0 a1 bt171.1 bt171.2 bt173.1 bt173.2 0 false)))) = some r := by rw [if_pos rfl] at H; exact H
    clear H
    have H := H1
    clear H1
    obtain ⟨y168, hy168⟩ : ∃ y_ : List Int, y_ = (([a0, a1, a2] : List Int)) := ⟨_, rfl⟩
    replace H : ((span_Add.f k y168).bind fun bt171 => ((graverref02_Add.f a0 a1).bind fun bt173 => (if bt173.2 = true then ((graverref02_Add.f bt173.1 a2).bind fun bt175 => (graverlaw02_SpanSums.j0 k a0 a1 bt171.1 bt171.2 bt173.1 bt173.2 bt175.1 bt175.2)) else (graverlaw02_SpanSums.j0 k a0 a1 bt171.1 bt171.2 bt173.1 bt173.2 0 false)))) = some r := by first | (rw [hy168]; with_reducible exact H) | (have H2_ := (Option.bind_some _ _).symm.trans H; rw [hy168]; with_reducible exact H2_) | (have H2_ := (Option.bind_some _ _).symm.trans H; with_reducible exact H2_) | with_reducible exact H | (rw [hy168]; exact H) | exact H
    have Ny168 := Aside0.mk hy168
    clear hy168
    replace H := Option.bind_eq_some_iff.mp H
    obtain ⟨⟨t171, t172⟩, A60, H⟩ := H
    replace H : ((graverref02_Add.f a0 a1).bind fun bt173 => (if bt173.2 = true then ((graverref02_Add.f bt173.1 a2).bind fun bt175 => (graverlaw02_SpanSums.j0 k a0 a1 t171 t172 bt173.1 bt173.2 bt175.1 bt175.2)) else (graverlaw02_SpanSums.j0 k a0 a1 t171 t172 bt173.1 bt173.2 0 false))) = some r := H
    have A6 := Aside0.mk A60
    clear A60
    replace H := Option.bind_eq_some_iff.mp H
    obtain ⟨⟨t173, t174⟩, A70, H⟩ := H
    replace H : (if t174 = true then ((graverref02_Add.f t173 a2).bind fun bt175 => (graverlaw02_SpanSums.j0 k a0 a1 t171 t172 t173 t174 bt175.1 bt175.2)) else (graverlaw02_SpanSums.j0 k a0 a1 t171 t172 t173 t174 0 false)) = some r := H
    have A7 := Aside0.mk A70
    clear A70
    have HC8 := Aside0.mk H
    clear H
    go_enter Try.func5, Try.ntmps5
    go_upto_if 39 with (first | ((with_reducible refine gate_callee (f := 7) rfl ?_); refine goesL_ (some 23) rfl rfl Try.func7 (by kernel_rfl) rfl #[] rfl (by (try simp only [List.map_toArray, List.map_cons, List.map_nil]); first | done | rfl | (simp only [List.length_drop, List.length_take]; rfl)) ?_; (with_reducible refine (graverlaw02_speaks.calls k  true _ A4.out).mono ?_); rintro e w9 ⟨rfl, hb⟩; refine ⟨_, rfl, ?_⟩; have n0_ := Aside0.mk (below_step (by repeat (first | (with_reducible first | exact HB.out | apply below_alloc | apply pw_below_drewN | apply below_drew1) | exact HB.out)) hb); clear HB; have HB := n0_; clear n0_; (try clear hb); (try clear hb2); (try clear hk); (try clear hi)) | ((with_reducible refine gate_dst (N := 29) rfl ?_); refine Kd.R_lit (Kd.int .u64) _ 26 ?hg (N := 29) ?hd (xs := ([a0, a1, a2] : List Int)) (inner := [.int .u64 a0, .int .u64 a1, .int .u64 a2]) (ok := fun _ => True) (okp := fun _ => True) ?hr ?hp (fun _ hk => hk) trivial (Below.refl _ _) (Nat.le_refl _) (by simp) ?_; (case hd => rfl); (case hg => rfl); (case hr => first | (go_simp; done) | (go_simp; rfl)); (case hp => exact (Reps.one (show Kd.M (Kd.int .u64) _ _ _ a0 [.int .u64 a0] from rfl) (Reps.one (show Kd.M (Kd.int .u64) _ _ _ a1 [.int .u64 a1] from rfl) (Reps.one (show Kd.M (Kd.int .u64) _ _ _ a2 [.int .u64 a2] from rfl) (Reps.none _ _))))); intro v169 w10 ho11 hb hg_ hnew_; clear hg_ hnew_; (first | rw [← Ny168.out] at ho11 | (simp only [Int.reduceToNat] at ho11; rw [← Ny168.out] at ho11)); have n0_ := Aside0.mk (Kd.R_lower ho11 (below_size (by repeat (first | (with_reducible first | exact HB.out | apply below_alloc | apply pw_below_drewN | apply below_drew1) | exact HB.out)))); have n1_ := Aside0.mk (below_step (by repeat (first | (with_reducible first | exact HB.out | apply below_alloc | apply pw_below_drewN | apply below_drew1) | exact HB.out)) hb); clear HB; have HO170 := n0_; have HB := n1_; clear n0_ n1_; clear hb ho11; obtain ⟨Ao12, co12, eo12⟩ := Kd.R_slice HO170.out; subst eo12) | ((with_reducible refine gate_callee (f := 14) rfl ?_); refine goesL_ (some 30) rfl rfl Try.func14 (by kernel_rfl) rfl #[.slice Ao12 y168.length co12] rfl (by (try simp only [List.map_toArray, List.map_cons, List.map_nil]); first | done | rfl | (simp only [List.length_drop, List.length_take]; rfl)) ?_; (with_reducible refine (span_Add.calls k _ _ y168 t171 t172 _ ?side1 ?side2 A6.out).mono ?_); (case side1 => repeat (first | exact (Kd.R_reads' HO170.out).2.2 | (with_reducible refine Kd.C_alloc ?_ _) | (with_reducible refine Kd.C_drewN ?_ _) | (with_reducible refine Kd.C_drew ?_))); (case side2 => exact (Kd.R_reads' HO170.out).2.1); rintro e w' ⟨rfl, ⟨nd, rfl⟩⟩; refine ⟨_, rfl, ?_⟩) | ((with_reducible refine gate_callee (f := 15) rfl ?_); refine goesL_ (some 36) rfl rfl Try.func15 (by kernel_rfl) rfl #[.int .u64 a0, .int .u64 a1] rfl (by (try simp only [List.map_toArray, List.map_cons, List.map_nil]); first | done | rfl | (simp only [List.length_drop, List.length_take]; rfl)) ?_; (with_reducible refine (graverref02_Add.calls a0 a1 t173 t174 _ A7.out).mono ?_); rintro e w' ⟨rfl, ⟨nd, rfl⟩⟩; refine ⟨_, rfl, ?_⟩))
    (try simp only [Act.put, List.setIfInBounds_toArray, List.set_cons_zero, List.set_cons_succ])
    go_cut [11, 12] (fun v11 v12 wc => ∃ (kq : Nat) (x11_7 : Int) (x12_7 : Bool), v11 = .int .u64 x11_7 ∧ v12 = .bool x12_7 ∧ Aside0 (graverlaw02_SpanSums.j0 kq a0 a1 t171 t172 t173 t174 x11_7 x12_7 = some r) ∧ Aside0 (kq ≤ k) ∧ Aside0 (Below w.heap.size w wc))
    case first =>
      have H := HC8.out
      clear HC8
      by_cases c13 : t174 = true
      · subst c13
        have H1 : ((graverref02_Add.f t173 a2).bind fun bt175 => (graverlaw02_SpanSums.j0 k a0 a1 t171 t172 t173 true bt175.1 bt175.2)) = some r := by rw [if_pos rfl] at H; exact H
        clear H
        have H := H1
        clear H1
        replace H := Option.bind_eq_some_iff.mp H
        obtain ⟨⟨t175, t176⟩, A140, H⟩ := H
        replace H : (graverlaw02_SpanSums.j0 k a0 a1 t171 t172 t173 true t175 t176) = some r := H
        have A14 := Aside0.mk A140
        clear A140
        have H' := Aside0.mk H
        clear H
        go_wp2_with (first | ((with_reducible refine gate_callee (f := 15) rfl ?_); refine goesL_ (some 43) rfl rfl Try.func15 (by kernel_rfl) rfl #[.int .u64 t173, .int .u64 a2] rfl (by (try simp only [List.map_toArray, List.map_cons, List.map_nil]); first | done | rfl | (simp only [List.length_drop, List.length_take]; rfl)) ?_; (with_reducible refine (graverref02_Add.calls t173 a2 t175 t176 _ A14.out).mono ?_); rintro e w' ⟨rfl, ⟨nd, rfl⟩⟩; refine ⟨_, rfl, ?_⟩))
        go_meet
        case rel => exact ⟨_, (t175), (t176), (by first | rfl | (simp; done) | (simp [*]; done)), (by first | rfl | (simp; done) | (simp [*]; done)), H', ⟨by first | omega | exact Nat.le_refl _⟩, ⟨by repeat (first | (with_reducible first | exact HB.out | apply below_alloc | apply pw_below_drewN | apply below_drew1) | exact HB.out)⟩⟩
      · replace c13 := Bool.eq_false_iff.mpr c13
        subst c13
        have H1 : (graverlaw02_SpanSums.j0 k a0 a1 t171 t172 t173 false 0 false) = some r := by rw [if_neg (show ¬ (false = true) by decide)] at H; exact H
        clear H
        have H := H1
        clear H1
        have H' := Aside0.mk H
        clear H
        go_wp2
        go_meet
        case rel => exact ⟨_, (0), (false), (by first | rfl | (simp; done) | (simp [*]; done)), (by first | rfl | (simp; done) | (simp [*]; done)), H', ⟨by first | omega | exact Nat.le_refl _⟩, ⟨by repeat (first | (with_reducible first | exact HB.out | apply below_alloc | apply pw_below_drewN | apply below_drew1) | exact HB.out)⟩⟩
    case rest =>
      clear HC8
      try clear c1
      try clear p2
      try clear c5
      try clear c7
      try clear c13
      try clear c14
      obtain ⟨kq, x11_7, x12_7, rfl, rfl, HA, HJ7, HB⟩ := hcut
      cases kq with
      | zero => exact absurd HA.out (by simp [graverlaw02_SpanSums.j0])
      | succ kj7 =>
        have H := HA.out
        clear HA
        simp only [graverlaw02_SpanSums.j0] at H
        replace H := Option.bind_eq_some_iff.mp H
        obtain ⟨⟨t177, t178⟩, A150, H⟩ := H
        replace H : (if a0 = 0 then (graverlaw02_SpanSums.j1 kj7 a0 a1 t171 t172 t173 t174 x11_7 x12_7 t177 t178 true) else (graverlaw02_SpanSums.j1 kj7 a0 a1 t171 t172 t173 t174 x11_7 x12_7 t177 t178 (decide (a1 ≤ (IntKind.u64.wrap ((18446744073709551615 : Int) / a0)))))) = some r := H
        have A15 := Aside0.mk A150
        clear A150
        have HC16 := Aside0.mk H
        clear H
        go_upto_region 9 with (first | ((with_reducible refine gate_callee (f := 16) rfl ?_); refine goesL_ (some 49) rfl rfl Try.func16 (by kernel_rfl) rfl #[.int .u64 a0, .int .u64 a1] rfl (by (try simp only [List.map_toArray, List.map_cons, List.map_nil]); first | done | rfl | (simp only [List.length_drop, List.length_take]; rfl)) ?_; (with_reducible refine (span_Mul.calls a0 a1 t177 t178 _ A15.out).mono ?_); rintro e w' ⟨rfl, ⟨nd, rfl⟩⟩; refine ⟨_, rfl, ?_⟩))
        (try simp only [Act.put, List.setIfInBounds_toArray, List.set_cons_zero, List.set_cons_succ])
        go_cut [15] (fun v15 wc => ∃ (kq : Nat) (x15_15 : Bool), v15 = .bool x15_15 ∧ Aside0 (graverlaw02_SpanSums.j1 kq a0 a1 t171 t172 t173 t174 x11_7 x12_7 t177 t178 x15_15 = some r) ∧ Aside0 (kq ≤ kj7) ∧ Aside0 (Below w.heap.size w wc))
        case first =>
          have H := HC16.out
          clear HC16
          by_cases c17 : a0 = 0
          · rw [if_pos c17] at H
            have c17b0 : (a0 == 0) = true := beq_iff_eq.mpr c17
            have c17b1 : (a0 != 0) = false := bne_eq_false_iff_eq.mpr c17
            clear c17
            (first | rw [c17b0] | (simp only [i64_w, i32_w]; rw [c17b0]) | skip)
            have H' := Aside0.mk H
            clear H
            go_wp2
            go_meet
            case rel => exact ⟨_, (true), (by first | rfl | (simp; done) | (simp [*]; done)), H', ⟨by have := HJ7.out; first | omega | exact Nat.le_refl _⟩, ⟨by repeat (first | (with_reducible first | exact HB.out | apply below_alloc | apply pw_below_drewN | apply below_drew1) | exact HB.out)⟩⟩
          · rw [if_neg c17] at H
            have c17b0 : (a0 == 0) = false := beq_eq_false_iff_ne.mpr c17
            have c17b1 : (a0 != 0) = true := bne_iff_ne.mpr c17
            (first | rw [c17b0] | (simp only [i64_w, i32_w]; rw [c17b0]) | skip)
            have H' := Aside0.mk H
            clear H
            go_wp2
            go_meet
            case rel => exact ⟨_, (decide (a1 ≤ (IntKind.u64.wrap ((18446744073709551615 : Int) / a0)))), (by first | rfl | (simp; done) | (simp [*]; done) | (simp [*, Int.tdiv_eq_ediv_of_nonneg]; done)), H', ⟨by have := HJ7.out; first | omega | exact Nat.le_refl _⟩, ⟨by repeat (first | (with_reducible first | exact HB.out | apply below_alloc | apply pw_below_drewN | apply below_drew1) | exact HB.out)⟩⟩
        case rest =>
          clear HC16
          try clear c1
          try clear p2
          try clear c5
          try clear c7
          try clear c13
          try clear c14
          try clear c15
          try clear c16
          try clear c17
          try clear c17b0
          try clear c17b1
          try clear p2
          obtain ⟨kq, x15_15, rfl, HA, HJ15, HB⟩ := hcut
          cases kq with
          | zero => exact absurd HA.out (by simp [graverlaw02_SpanSums.j1])
          | succ kj15 =>
            have H := HA.out
            clear HA
            simp only [graverlaw02_SpanSums.j1] at H
            have HC18 := Aside0.mk H
            clear H
            go_upto_region 10 with (fail)
            go_cut [90] (fun v90 wc => ∃ (kq : Nat) (x90_17 : Bool), v90 = .bool x90_17 ∧ Aside0 (graverlaw02_SpanSums.j2 kq a0 a1 t173 t174 x90_17 = some r) ∧ Aside0 (kq ≤ kj15) ∧ Aside0 (Below w.heap.size w wc))
            case first =>
              have H := HC18.out
              clear HC18
              by_cases c19 : x12_7 = true
              · subst c19
                have H1 : (if t172 = true then (if t171 = x11_7 then (if x15_15 = true then (if t178 = true then (if t177 = (IntKind.u64.wrap (a0 * a1)) then (graverlaw02_SpanSums.j2 kj15 a0 a1 t173 t174 false) else (graverlaw02_SpanSums.j2 kj15 a0 a1 t173 t174 true)) else (graverlaw02_SpanSums.j2 kj15 a0 a1 t173 t174 true)) else (if t178 = true then (graverlaw02_SpanSums.j2 kj15 a0 a1 t173 t174 true) else (graverlaw02_SpanSums.j2 kj15 a0 a1 t173 t174 (t177 != 0)))) else (graverlaw02_SpanSums.j2 kj15 a0 a1 t173 t174 true)) else (graverlaw02_SpanSums.j2 kj15 a0 a1 t173 t174 true)) = some r := by rw [if_pos rfl] at H; exact H
                clear H
                have H := H1
                clear H1
                by_cases c20 : t172 = true
                · subst c20
                  have H1 : (if t171 = x11_7 then (if x15_15 = true then (if t178 = true then (if t177 = (IntKind.u64.wrap (a0 * a1)) then (graverlaw02_SpanSums.j2 kj15 a0 a1 t173 t174 false) else (graverlaw02_SpanSums.j2 kj15 a0 a1 t173 t174 true)) else (graverlaw02_SpanSums.j2 kj15 a0 a1 t173 t174 true)) else (if t178 = true then (graverlaw02_SpanSums.j2 kj15 a0 a1 t173 t174 true) else (graverlaw02_SpanSums.j2 kj15 a0 a1 t173 t174 (t177 != 0)))) else (graverlaw02_SpanSums.j2 kj15 a0 a1 t173 t174 true)) = some r := by rw [if_pos rfl] at H; exact H
                  clear H
                  have H := H1
                  clear H1
                  by_cases c21 : t171 = x11_7
                  · rw [if_pos c21] at H
                    have c21b0 : (t171 == x11_7) = true := beq_iff_eq.mpr c21
                    have c21b1 : (t171 != x11_7) = false := bne_eq_false_iff_eq.mpr c21
                    clear c21
                    (first | rw [c21b0] | (simp only [i64_w, i32_w]; rw [c21b0]) | skip)
                    by_cases c22 : x15_15 = true
                    · subst c22
                      have H1 : (if t178 = true then (if t177 = (IntKind.u64.wrap (a0 * a1)) then (graverlaw02_SpanSums.j2 kj15 a0 a1 t173 t174 false) else (graverlaw02_SpanSums.j2 kj15 a0 a1 t173 t174 true)) else (graverlaw02_SpanSums.j2 kj15 a0 a1 t173 t174 true)) = some r := by rw [if_pos rfl] at H; exact H
                      clear H
                      have H := H1
                      clear H1
                      by_cases c23 : t178 = true
                      · subst c23
                        have H1 : (if t177 = (IntKind.u64.wrap (a0 * a1)) then (graverlaw02_SpanSums.j2 kj15 a0 a1 t173 t174 false) else (graverlaw02_SpanSums.j2 kj15 a0 a1 t173 t174 true)) = some r := by rw [if_pos rfl] at H; exact H
                        clear H
                        have H := H1
                        clear H1
                        by_cases c24 : t177 = (IntKind.u64.wrap (a0 * a1))
                        · rw [if_pos c24] at H
                          have c24b0 : (t177 == (IntKind.u64.wrap (a0 * a1))) = true := beq_iff_eq.mpr c24
                          have c24b1 : (t177 != (IntKind.u64.wrap (a0 * a1))) = false := bne_eq_false_iff_eq.mpr c24
                          clear c24
                          have H' := Aside0.mk H
                          clear H
                          go_wp2
                          go_meet
                          case rel => exact ⟨_, (false), (by first | rfl | (simp; done) | (simp [*]; done)), H', ⟨by have := HJ7.out; have := HJ15.out; first | omega | exact Nat.le_refl _⟩, ⟨by repeat (first | (with_reducible first | exact HB.out | apply below_alloc | apply pw_below_drewN | apply below_drew1) | exact HB.out)⟩⟩
                        · rw [if_neg c24] at H
                          have c24b0 : (t177 == (IntKind.u64.wrap (a0 * a1))) = false := beq_eq_false_iff_ne.mpr c24
                          have c24b1 : (t177 != (IntKind.u64.wrap (a0 * a1))) = true := bne_iff_ne.mpr c24
                          have H' := Aside0.mk H
                          clear H
                          go_wp2
                          go_meet
                          case rel => exact ⟨_, (true), (by first | rfl | (simp; done) | (simp [*]; done)), H', ⟨by have := HJ7.out; have := HJ15.out; first | omega | exact Nat.le_refl _⟩, ⟨by repeat (first | (with_reducible first | exact HB.out | apply below_alloc | apply pw_below_drewN | apply below_drew1) | exact HB.out)⟩⟩
                      · replace c23 := Bool.eq_false_iff.mpr c23
                        subst c23
                        have H1 : (graverlaw02_SpanSums.j2 kj15 a0 a1 t173 t174 true) = some r := by rw [if_neg (show ¬ (false = true) by decide)] at H; exact H
                        clear H
                        have H := H1
                        clear H1
                        have H' := Aside0.mk H
                        clear H
                        go_wp2
                        go_meet
                        case rel => exact ⟨_, (true), (by first | rfl | (simp; done) | (simp [*]; done)), H', ⟨by have := HJ7.out; have := HJ15.out; first | omega | exact Nat.le_refl _⟩, ⟨by repeat (first | (with_reducible first | exact HB.out | apply below_alloc | apply pw_below_drewN | apply below_drew1) | exact HB.out)⟩⟩
                    · replace c22 := Bool.eq_false_iff.mpr c22
                      subst c22
                      have H1 : (if t178 = true then (graverlaw02_SpanSums.j2 kj15 a0 a1 t173 t174 true) else (graverlaw02_SpanSums.j2 kj15 a0 a1 t173 t174 (t177 != 0))) = some r := by rw [if_neg (show ¬ (false = true) by decide)] at H; exact H
                      clear H
                      have H := H1
                      clear H1
                      by_cases c25 : t178 = true
                      · subst c25
                        have H1 : (graverlaw02_SpanSums.j2 kj15 a0 a1 t173 t174 true) = some r := by rw [if_pos rfl] at H; exact H
                        clear H
                        have H := H1
                        clear H1
                        have H' := Aside0.mk H
                        clear H
                        go_wp2
                        go_meet
                        case rel => exact ⟨_, (true), (by first | rfl | (simp; done) | (simp [*]; done)), H', ⟨by have := HJ7.out; have := HJ15.out; first | omega | exact Nat.le_refl _⟩, ⟨by repeat (first | (with_reducible first | exact HB.out | apply below_alloc | apply pw_below_drewN | apply below_drew1) | exact HB.out)⟩⟩
                      · replace c25 := Bool.eq_false_iff.mpr c25
                        subst c25
                        have H1 : (graverlaw02_SpanSums.j2 kj15 a0 a1 t173 t174 (t177 != 0)) = some r := by rw [if_neg (show ¬ (false = true) by decide)] at H; exact H
                        clear H
                        have H := H1
                        clear H1
                        have H' := Aside0.mk H
                        clear H
                        go_wp2
                        go_meet
                        case rel => exact ⟨_, ((t177 != 0)), (by first | rfl | (simp; done) | (simp [*]; done)), H', ⟨by have := HJ7.out; have := HJ15.out; first | omega | exact Nat.le_refl _⟩, ⟨by repeat (first | (with_reducible first | exact HB.out | apply below_alloc | apply pw_below_drewN | apply below_drew1) | exact HB.out)⟩⟩
                  · rw [if_neg c21] at H
                    have c21b0 : (t171 == x11_7) = false := beq_eq_false_iff_ne.mpr c21
                    have c21b1 : (t171 != x11_7) = true := bne_iff_ne.mpr c21
                    (first | rw [c21b0] | (simp only [i64_w, i32_w]; rw [c21b0]) | skip)
                    have H' := Aside0.mk H
                    clear H
                    go_wp2
                    go_meet
                    case rel => exact ⟨_, (true), (by first | rfl | (simp; done) | (simp [*]; done)), H', ⟨by have := HJ7.out; have := HJ15.out; first | omega | exact Nat.le_refl _⟩, ⟨by repeat (first | (with_reducible first | exact HB.out | apply below_alloc | apply pw_below_drewN | apply below_drew1) | exact HB.out)⟩⟩
                · replace c20 := Bool.eq_false_iff.mpr c20
                  subst c20
                  have H1 : (graverlaw02_SpanSums.j2 kj15 a0 a1 t173 t174 true) = some r := by rw [if_neg (show ¬ (false = true) by decide)] at H; exact H
                  clear H
                  have H := H1
                  clear H1
                  have H' := Aside0.mk H
                  clear H
                  go_wp2
                  go_meet
                  case rel => exact ⟨_, (true), (by first | rfl | (simp; done) | (simp [*]; done)), H', ⟨by have := HJ7.out; have := HJ15.out; first | omega | exact Nat.le_refl _⟩, ⟨by repeat (first | (with_reducible first | exact HB.out | apply below_alloc | apply pw_below_drewN | apply below_drew1) | exact HB.out)⟩⟩
              · replace c19 := Bool.eq_false_iff.mpr c19
                subst c19
                have H1 : (if t172 = true then (graverlaw02_SpanSums.j2 kj15 a0 a1 t173 t174 true) else (if t171 = x11_7 then (if x15_15 = true then (if t178 = true then (if t177 = (IntKind.u64.wrap (a0 * a1)) then (graverlaw02_SpanSums.j2 kj15 a0 a1 t173 t174 false) else (graverlaw02_SpanSums.j2 kj15 a0 a1 t173 t174 true)) else (graverlaw02_SpanSums.j2 kj15 a0 a1 t173 t174 true)) else (if t178 = true then (graverlaw02_SpanSums.j2 kj15 a0 a1 t173 t174 true) else (graverlaw02_SpanSums.j2 kj15 a0 a1 t173 t174 (t177 != 0)))) else (graverlaw02_SpanSums.j2 kj15 a0 a1 t173 t174 true))) = some r := by rw [if_neg (show ¬ (false = true) by decide)] at H; exact H
                clear H
                have H := H1
                clear H1
                by_cases c26 : t172 = true
                · subst c26
                  have H1 : (graverlaw02_SpanSums.j2 kj15 a0 a1 t173 t174 true) = some r := by rw [if_pos rfl] at H; exact H
                  clear H
                  have H := H1
                  clear H1
                  have H' := Aside0.mk H
                  clear H
                  go_wp2
                  go_meet
                  case rel => exact ⟨_, (true), (by first | rfl | (simp; done) | (simp [*]; done)), H', ⟨by have := HJ7.out; have := HJ15.out; first | omega | exact Nat.le_refl _⟩, ⟨by repeat (first | (with_reducible first | exact HB.out | apply below_alloc | apply pw_below_drewN | apply below_drew1) | exact HB.out)⟩⟩
                · replace c26 := Bool.eq_false_iff.mpr c26
                  subst c26
                  have H1 : (if t171 = x11_7 then (if x15_15 = true then (if t178 = true then (if t177 = (IntKind.u64.wrap (a0 * a1)) then (graverlaw02_SpanSums.j2 kj15 a0 a1 t173 t174 false) else (graverlaw02_SpanSums.j2 kj15 a0 a1 t173 t174 true)) else (graverlaw02_SpanSums.j2 kj15 a0 a1 t173 t174 true)) else (if t178 = true then (graverlaw02_SpanSums.j2 kj15 a0 a1 t173 t174 true) else (graverlaw02_SpanSums.j2 kj15 a0 a1 t173 t174 (t177 != 0)))) else (graverlaw02_SpanSums.j2 kj15 a0 a1 t173 t174 true)) = some r := by rw [if_neg (show ¬ (false = true) by decide)] at H; exact H
                  clear H
                  have H := H1
                  clear H1
                  by_cases c27 : t171 = x11_7
                  · rw [if_pos c27] at H
                    have c27b0 : (t171 == x11_7) = true := beq_iff_eq.mpr c27
                    have c27b1 : (t171 != x11_7) = false := bne_eq_false_iff_eq.mpr c27
                    clear c27
                    by_cases c28 : x15_15 = true
                    · subst c28
                      have H1 : (if t178 = true then (if t177 = (IntKind.u64.wrap (a0 * a1)) then (graverlaw02_SpanSums.j2 kj15 a0 a1 t173 t174 false) else (graverlaw02_SpanSums.j2 kj15 a0 a1 t173 t174 true)) else (graverlaw02_SpanSums.j2 kj15 a0 a1 t173 t174 true)) = some r := by rw [if_pos rfl] at H; exact H
                      clear H
                      have H := H1
                      clear H1
                      by_cases c29 : t178 = true
                      · subst c29
                        have H1 : (if t177 = (IntKind.u64.wrap (a0 * a1)) then (graverlaw02_SpanSums.j2 kj15 a0 a1 t173 t174 false) else (graverlaw02_SpanSums.j2 kj15 a0 a1 t173 t174 true)) = some r := by rw [if_pos rfl] at H; exact H
                        clear H
                        have H := H1
                        clear H1
                        by_cases c30 : t177 = (IntKind.u64.wrap (a0 * a1))
                        · rw [if_pos c30] at H
                          have c30b0 : (t177 == (IntKind.u64.wrap (a0 * a1))) = true := beq_iff_eq.mpr c30
                          have c30b1 : (t177 != (IntKind.u64.wrap (a0 * a1))) = false := bne_eq_false_iff_eq.mpr c30
                          clear c30
                          have H' := Aside0.mk H
                          clear H
                          go_wp2
                          go_meet
                          case rel => exact ⟨_, (false), (by first | rfl | (simp; done) | (simp [*]; done)), H', ⟨by have := HJ7.out; have := HJ15.out; first | omega | exact Nat.le_refl _⟩, ⟨by repeat (first | (with_reducible first | exact HB.out | apply below_alloc | apply pw_below_drewN | apply below_drew1) | exact HB.out)⟩⟩
                        · rw [if_neg c30] at H
                          have c30b0 : (t177 == (IntKind.u64.wrap (a0 * a1))) = false := beq_eq_false_iff_ne.mpr c30
                          have c30b1 : (t177 != (IntKind.u64.wrap (a0 * a1))) = true := bne_iff_ne.mpr c30
                          have H' := Aside0.mk H
                          clear H
                          go_wp2
                          go_meet
                          case rel => exact ⟨_, (true), (by first | rfl | (simp; done) | (simp [*]; done)), H', ⟨by have := HJ7.out; have := HJ15.out; first | omega | exact Nat.le_refl _⟩, ⟨by repeat (first | (with_reducible first | exact HB.out | apply below_alloc | apply pw_below_drewN | apply below_drew1) | exact HB.out)⟩⟩
                      · replace c29 := Bool.eq_false_iff.mpr c29
                        subst c29
                        have H1 : (graverlaw02_SpanSums.j2 kj15 a0 a1 t173 t174 true) = some r := by rw [if_neg (show ¬ (false = true) by decide)] at H; exact H
                        clear H
                        have H := H1
                        clear H1
                        have H' := Aside0.mk H
                        clear H
                        go_wp2
                        go_meet
                        case rel => exact ⟨_, (true), (by first | rfl | (simp; done) | (simp [*]; done)), H', ⟨by have := HJ7.out; have := HJ15.out; first | omega | exact Nat.le_refl _⟩, ⟨by repeat (first | (with_reducible first | exact HB.out | apply below_alloc | apply pw_below_drewN | apply below_drew1) | exact HB.out)⟩⟩
                    · replace c28 := Bool.eq_false_iff.mpr c28
                      subst c28
                      have H1 : (if t178 = true then (graverlaw02_SpanSums.j2 kj15 a0 a1 t173 t174 true) else (graverlaw02_SpanSums.j2 kj15 a0 a1 t173 t174 (t177 != 0))) = some r := by rw [if_neg (show ¬ (false = true) by decide)] at H; exact H
                      clear H
                      have H := H1
                      clear H1
                      by_cases c31 : t178 = true
                      · subst c31
                        have H1 : (graverlaw02_SpanSums.j2 kj15 a0 a1 t173 t174 true) = some r := by rw [if_pos rfl] at H; exact H
                        clear H
                        have H := H1
                        clear H1
                        have H' := Aside0.mk H
                        clear H
                        go_wp2
                        go_meet
                        case rel => exact ⟨_, (true), (by first | rfl | (simp; done) | (simp [*]; done)), H', ⟨by have := HJ7.out; have := HJ15.out; first | omega | exact Nat.le_refl _⟩, ⟨by repeat (first | (with_reducible first | exact HB.out | apply below_alloc | apply pw_below_drewN | apply below_drew1) | exact HB.out)⟩⟩
                      · replace c31 := Bool.eq_false_iff.mpr c31
                        subst c31
                        have H1 : (graverlaw02_SpanSums.j2 kj15 a0 a1 t173 t174 (t177 != 0)) = some r := by rw [if_neg (show ¬ (false = true) by decide)] at H; exact H
                        clear H
                        have H := H1
                        clear H1
                        have H' := Aside0.mk H
                        clear H
                        go_wp2
                        go_meet
                        case rel => exact ⟨_, ((t177 != 0)), (by first | rfl | (simp; done) | (simp [*]; done)), H', ⟨by have := HJ7.out; have := HJ15.out; first | omega | exact Nat.le_refl _⟩, ⟨by repeat (first | (with_reducible first | exact HB.out | apply below_alloc | apply pw_below_drewN | apply below_drew1) | exact HB.out)⟩⟩
                  · rw [if_neg c27] at H
                    have c27b0 : (t171 == x11_7) = false := beq_eq_false_iff_ne.mpr c27
                    have c27b1 : (t171 != x11_7) = true := bne_iff_ne.mpr c27
                    have H' := Aside0.mk H
                    clear H
                    go_wp2
                    go_meet
                    case rel => exact ⟨_, (true), (by first | rfl | (simp; done) | (simp [*]; done)), H', ⟨by have := HJ7.out; have := HJ15.out; first | omega | exact Nat.le_refl _⟩, ⟨by repeat (first | (with_reducible first | exact HB.out | apply below_alloc | apply pw_below_drewN | apply below_drew1) | exact HB.out)⟩⟩
            case rest =>
              clear HC18
              try clear c1
              try clear c2
              try clear p2
              try clear c3
              try clear c5
              try clear c7
              try clear c13
              try clear c14
              try clear c15
              try clear c16
              try clear c17
              try clear c17b0
              try clear c17b1
              try clear c19
              try clear c20
              try clear c21
              try clear c21b0
              try clear c21b1
              try clear c22
              try clear c23
              try clear c24
              try clear c24b0
              try clear c24b1
              try clear c25
              try clear c26
              try clear c27
              try clear c27b0
              try clear c27b1
              try clear c28
              try clear c29
              try clear c30
              try clear c30b0
              try clear c30b1
              try clear c31
              try clear p2
              obtain ⟨kq, x90_17, rfl, HA, HJ17, HB⟩ := hcut
              cases kq with
              | zero => exact absurd HA.out (by simp [graverlaw02_SpanSums.j2])
              | succ kj17 =>
                have H := HA.out
                clear HA
                simp only [graverlaw02_SpanSums.j2] at H
                by_cases c32 : x90_17 = true
                · subst c32
                  have H1 : (some false) = some r := by rw [if_pos rfl] at H; exact H
                  clear H
                  have H := H1
                  clear H1
                  exact absurd ((Option.some.inj H).trans HRT.out) (by decide)
                · replace c32 := Bool.eq_false_iff.mpr c32
                  subst c32
                  have H1 : ((span_Round.f kj17 a0 a1).bind fun bt179 => (if a1 < 2 then (if bt179.2 = true then (some (bt179.1 == a0)) else (some false)) else (if a1 = 0 then (none) else (if (Int.tmod a0 a1) = 0 then (if bt179.2 = true then (some (bt179.1 == a0)) else (some false)) else ((graverref02_Add.f a0 (IntKind.u64.wrap (a1 - (Int.tmod a0 a1)))).bind fun bt181 => ((span_Span_End.f kj17 a0 a1).bind fun bt183 => (if bt181.2 = true then (if bt179.2 = true then (if bt179.1 = bt181.1 then (if t174 = true then (if bt183.2 = true then (some (bt183.1 == t173)) else (some false)) else (if bt183.2 = true then (some false) else (some (bt183.1 == t173)))) else (some false)) else (some false)) else (if bt179.2 = true then (some false) else (if bt179.1 = bt181.1 then (if t174 = true then (if bt183.2 = true then (some (bt183.1 == t173)) else (some false)) else (if bt183.2 = true then (some false) else (some (bt183.1 == t173)))) else (some false)))))))))) = some r := by rw [if_neg (show ¬ (false = true) by decide)] at H; exact H
                  clear H
                  have H := H1
                  clear H1
                  replace H := Option.bind_eq_some_iff.mp H
                  obtain ⟨⟨t179, t180⟩, A330, H⟩ := H
                  replace H : (if a1 < 2 then (if t180 = true then (some (t179 == a0)) else (some false)) else (if a1 = 0 then (none) else (if (Int.tmod a0 a1) = 0 then (if t180 = true then (some (t179 == a0)) else (some false)) else ((graverref02_Add.f a0 (IntKind.u64.wrap (a1 - (Int.tmod a0 a1)))).bind fun bt181 => ((span_Span_End.f kj17 a0 a1).bind fun bt183 => (if bt181.2 = true then (if t180 = true then (if t179 = bt181.1 then (if t174 = true then (if bt183.2 = true then (some (bt183.1 == t173)) else (some false)) else (if bt183.2 = true then (some false) else (some (bt183.1 == t173)))) else (some false)) else (some false)) else (if t180 = true then (some false) else (if t179 = bt181.1 then (if t174 = true then (if bt183.2 = true then (some (bt183.1 == t173)) else (some false)) else (if bt183.2 = true then (some false) else (some (bt183.1 == t173)))) else (some false))))))))) = some r := H
                  have A33 := Aside0.mk A330
                  clear A330
                  by_cases c34 : a1 < 2
                  · rw [if_pos c34] at H
                    have c34b0 : decide (a1 < 2) = true := decide_eq_true c34
                    clear c34
                    by_cases c35 : t180 = true
                    · subst c35
                      have H1 : (some (t179 == a0)) = some r := by rw [if_pos rfl] at H; exact H
                      clear H
                      have H := H1
                      clear H1
                      obtain rfl := Option.some.inj H
                      go_wp2_with (first | ((with_reducible refine gate_callee (f := 17) rfl ?_); refine goesL_ (some 94) rfl rfl Try.func17 (by kernel_rfl) rfl #[.int .u64 a0, .int .u64 a1] rfl (by (try simp only [List.map_toArray, List.map_cons, List.map_nil]); first | done | rfl | (simp only [List.length_drop, List.length_take]; rfl)) ?_; (with_reducible refine (span_Round.calls kj17 a0 a1 t179 true _ A33.out).mono ?_); rintro e w36 ⟨rfl, hb⟩; refine ⟨_, rfl, ?_⟩; have n0_ := Aside0.mk (below_step (by repeat (first | (with_reducible first | exact HB.out | apply below_alloc | apply pw_below_drewN | apply below_drew1) | exact HB.out)) hb); clear HB; have HB := n0_; clear n0_; (try clear hb); (try clear hb2); (try clear hk); (try clear hi)))
                      go_ret
                      exact ⟨by first | rfl | (simp [errW_none, errW_some] <;> rfl) | (simp [*, errW_none, errW_some] <;> rfl), by repeat (first | (with_reducible first | exact HB.out | apply below_alloc | apply pw_below_drewN | apply below_drew1) | exact HB.out)⟩
                    · replace c35 := Bool.eq_false_iff.mpr c35
                      subst c35
                      have H1 : (some false) = some r := by rw [if_neg (show ¬ (false = true) by decide)] at H; exact H
                      clear H
                      have H := H1
                      clear H1
                      exact absurd ((Option.some.inj H).trans HRT.out) (by decide)
                  · rw [if_neg c34] at H
                    have c34b0 : decide (a1 < 2) = false := decide_eq_false c34
                    clear c34
                    by_cases c37 : a1 = 0
                    · rw [if_pos c37] at H
                      exact absurd H (by simp)
                    · rw [if_neg c37] at H
                      have c37b0 : (a1 == 0) = false := beq_eq_false_iff_ne.mpr c37
                      have c37b1 : (a1 != 0) = true := bne_iff_ne.mpr c37
                      by_cases c38 : (Int.tmod a0 a1) = 0
                      · rw [if_pos c38] at H
                        have c38b0 : ((Int.tmod a0 a1) == 0) = true := beq_iff_eq.mpr c38
                        have c38b1 : ((Int.tmod a0 a1) != 0) = false := bne_eq_false_iff_eq.mpr c38
                        clear c38
                        by_cases c39 : t180 = true
                        · subst c39
                          have H1 : (some (t179 == a0)) = some r := by rw [if_pos rfl] at H; exact H
                          clear H
                          have H := H1
                          clear H1
                          obtain rfl := Option.some.inj H
                          go_wp2_with (first | ((with_reducible refine gate_callee (f := 17) rfl ?_); refine goesL_ (some 94) rfl rfl Try.func17 (by kernel_rfl) rfl #[.int .u64 a0, .int .u64 a1] rfl (by (try simp only [List.map_toArray, List.map_cons, List.map_nil]); first | done | rfl | (simp only [List.length_drop, List.length_take]; rfl)) ?_; (with_reducible refine (span_Round.calls kj17 a0 a1 t179 true _ A33.out).mono ?_); rintro e w40 ⟨rfl, hb⟩; refine ⟨_, rfl, ?_⟩; have n0_ := Aside0.mk (below_step (by repeat (first | (with_reducible first | exact HB.out | apply below_alloc | apply pw_below_drewN | apply below_drew1) | exact HB.out)) hb); clear HB; have HB := n0_; clear n0_; (try clear hb); (try clear hb2); (try clear hk); (try clear hi)))
                          go_ret
                          exact ⟨by first | rfl | (simp [errW_none, errW_some] <;> rfl) | (simp [*, errW_none, errW_some] <;> rfl), by repeat (first | (with_reducible first | exact HB.out | apply below_alloc | apply pw_below_drewN | apply below_drew1) | exact HB.out)⟩
                        · replace c39 := Bool.eq_false_iff.mpr c39
                          subst c39
                          have H1 : (some false) = some r := by rw [if_neg (show ¬ (false = true) by decide)] at H; exact H
                          clear H
                          have H := H1
                          clear H1
                          exact absurd ((Option.some.inj H).trans HRT.out) (by decide)
                      · rw [if_neg c38] at H
                        have c38b0 : ((Int.tmod a0 a1) == 0) = false := beq_eq_false_iff_ne.mpr c38
                        have c38b1 : ((Int.tmod a0 a1) != 0) = true := bne_iff_ne.mpr c38
                        replace H := Option.bind_eq_some_iff.mp H
                        obtain ⟨⟨t181, t182⟩, A410, H⟩ := H
                        replace H : ((span_Span_End.f kj17 a0 a1).bind fun bt183 => (if t182 = true then (if t180 = true then (if t179 = t181 then (if t174 = true then (if bt183.2 = true then (some (bt183.1 == t173)) else (some false)) else (if bt183.2 = true then (some false) else (some (bt183.1 == t173)))) else (some false)) else (some false)) else (if t180 = true then (some false) else (if t179 = t181 then (if t174 = true then (if bt183.2 = true then (some (bt183.1 == t173)) else (some false)) else (if bt183.2 = true then (some false) else (some (bt183.1 == t173)))) else (some false))))) = some r := H
                        have A41 := Aside0.mk A410
                        clear A410
                        replace H := Option.bind_eq_some_iff.mp H
                        obtain ⟨⟨t183, t184⟩, A420, H⟩ := H
                        replace H : (if t182 = true then (if t180 = true then (if t179 = t181 then (if t174 = true then (if t184 = true then (some (t183 == t173)) else (some false)) else (if t184 = true then (some false) else (some (t183 == t173)))) else (some false)) else (some false)) else (if t180 = true then (some false) else (if t179 = t181 then (if t174 = true then (if t184 = true then (some (t183 == t173)) else (some false)) else (if t184 = true then (some false) else (some (t183 == t173)))) else (some false)))) = some r := H
                        have A42 := Aside0.mk A420
                        clear A420
                        by_cases c43 : t182 = true
                        · subst c43
                          have H1 : (if t180 = true then (if t179 = t181 then (if t174 = true then (if t184 = true then (some (t183 == t173)) else (some false)) else (if t184 = true then (some false) else (some (t183 == t173)))) else (some false)) else (some false)) = some r := by rw [if_pos rfl] at H; exact H
                          clear H
                          have H := H1
                          clear H1
                          by_cases c44 : t180 = true
                          · subst c44
                            have H1 : (if t179 = t181 then (if t174 = true then (if t184 = true then (some (t183 == t173)) else (some false)) else (if t184 = true then (some false) else (some (t183 == t173)))) else (some false)) = some r := by rw [if_pos rfl] at H; exact H
                            clear H
                            have H := H1
                            clear H1
                            by_cases c45 : t179 = t181
                            · rw [if_pos c45] at H
                              have c45b0 : (t179 == t181) = true := beq_iff_eq.mpr c45
                              have c45b1 : (t179 != t181) = false := bne_eq_false_iff_eq.mpr c45
                              clear c45
                              by_cases c46 : t174 = true
                              · subst c46
                                have H1 : (if t184 = true then (some (t183 == t173)) else (some false)) = some r := by rw [if_pos rfl] at H; exact H
                                clear H
                                have H := H1
                                clear H1
                                by_cases c47 : t184 = true
                                · subst c47
                                  have H1 : (some (t183 == t173)) = some r := by rw [if_pos rfl] at H; exact H
                                  clear H
                                  have H := H1
                                  clear H1
                                  obtain rfl := Option.some.inj H
                                  go_wp2_with (first | ((with_reducible refine gate_callee (f := 17) rfl ?_); refine goesL_ (some 94) rfl rfl Try.func17 (by kernel_rfl) rfl #[.int .u64 a0, .int .u64 a1] rfl (by (try simp only [List.map_toArray, List.map_cons, List.map_nil]); first | done | rfl | (simp only [List.length_drop, List.length_take]; rfl)) ?_; (with_reducible refine (span_Round.calls kj17 a0 a1 t179 true _ A33.out).mono ?_); rintro e w48 ⟨rfl, hb⟩; refine ⟨_, rfl, ?_⟩; have n0_ := Aside0.mk (below_step (by repeat (first | (with_reducible first | exact HB.out | apply below_alloc | apply pw_below_drewN | apply below_drew1) | exact HB.out)) hb); clear HB; have HB := n0_; clear n0_; (try clear hb); (try clear hb2); (try clear hk); (try clear hi)) | ((with_reducible refine gate_callee (f := 15) rfl ?_); refine goesL_ (some 121) rfl rfl Try.func15 (by kernel_rfl) rfl #[.int .u64 a0, .int .u64 (IntKind.u64.wrap (a1 - (Int.tmod a0 a1)))] rfl (by (try simp only [List.map_toArray, List.map_cons, List.map_nil]); first | done | rfl | (simp only [List.length_drop, List.length_take]; rfl)) ?_; (with_reducible refine (graverref02_Add.calls a0 (IntKind.u64.wrap (a1 - (Int.tmod a0 a1))) t181 true _ A41.out).mono ?_); rintro e w' ⟨rfl, ⟨nd, rfl⟩⟩; refine ⟨_, rfl, ?_⟩) | ((with_reducible refine gate_callee (f := 18) rfl ?_); refine goesL_ (some 128) rfl rfl Try.func18 (by kernel_rfl) rfl #[.agg #[.int .u64 a0, .int .u64 a1]] rfl (by (try simp only [List.map_toArray, List.map_cons, List.map_nil]); first | done | rfl | (simp only [List.length_drop, List.length_take]; rfl)) ?_; (with_reducible refine (span_Span_End.calls kj17 a0 a1 t183 true _ A42.out).mono ?_); rintro e w49 ⟨rfl, hb⟩; refine ⟨_, rfl, ?_⟩; have n0_ := Aside0.mk (below_step (by repeat (first | (with_reducible first | exact HB.out | apply below_alloc | apply pw_below_drewN | apply below_drew1) | exact HB.out)) hb); clear HB; have HB := n0_; clear n0_; (try clear hb); (try clear hb2); (try clear hk); (try clear hi)))
                                  go_ret
                                  exact ⟨by first | rfl | (simp [errW_none, errW_some] <;> rfl) | (simp [*, errW_none, errW_some] <;> rfl), by repeat (first | (with_reducible first | exact HB.out | apply below_alloc | apply pw_below_drewN | apply below_drew1) | exact HB.out)⟩
                                · replace c47 := Bool.eq_false_iff.mpr c47
                                  subst c47
                                  have H1 : (some false) = some r := by rw [if_neg (show ¬ (false = true) by decide)] at H; exact H
                                  clear H
                                  have H := H1
                                  clear H1
                                  exact absurd ((Option.some.inj H).trans HRT.out) (by decide)
                              · replace c46 := Bool.eq_false_iff.mpr c46
                                subst c46
                                have H1 : (if t184 = true then (some false) else (some (t183 == t173))) = some r := by rw [if_neg (show ¬ (false = true) by decide)] at H; exact H
                                clear H
                                have H := H1
                                clear H1
                                by_cases c50 : t184 = true
                                · subst c50
                                  have H1 : (some false) = some r := by rw [if_pos rfl] at H; exact H
                                  clear H
                                  have H := H1
                                  clear H1
                                  exact absurd ((Option.some.inj H).trans HRT.out) (by decide)
                                · replace c50 := Bool.eq_false_iff.mpr c50
                                  subst c50
                                  have H1 : (some (t183 == t173)) = some r := by rw [if_neg (show ¬ (false = true) by decide)] at H; exact H
                                  clear H
                                  have H := H1
                                  clear H1
                                  obtain rfl := Option.some.inj H
                                  go_wp2_with (first | ((with_reducible refine gate_callee (f := 17) rfl ?_); refine goesL_ (some 94) rfl rfl Try.func17 (by kernel_rfl) rfl #[.int .u64 a0, .int .u64 a1] rfl (by (try simp only [List.map_toArray, List.map_cons, List.map_nil]); first | done | rfl | (simp only [List.length_drop, List.length_take]; rfl)) ?_; (with_reducible refine (span_Round.calls kj17 a0 a1 t179 true _ A33.out).mono ?_); rintro e w51 ⟨rfl, hb⟩; refine ⟨_, rfl, ?_⟩; have n0_ := Aside0.mk (below_step (by repeat (first | (with_reducible first | exact HB.out | apply below_alloc | apply pw_below_drewN | apply below_drew1) | exact HB.out)) hb); clear HB; have HB := n0_; clear n0_; (try clear hb); (try clear hb2); (try clear hk); (try clear hi)) | ((with_reducible refine gate_callee (f := 15) rfl ?_); refine goesL_ (some 121) rfl rfl Try.func15 (by kernel_rfl) rfl #[.int .u64 a0, .int .u64 (IntKind.u64.wrap (a1 - (Int.tmod a0 a1)))] rfl (by (try simp only [List.map_toArray, List.map_cons, List.map_nil]); first | done | rfl | (simp only [List.length_drop, List.length_take]; rfl)) ?_; (with_reducible refine (graverref02_Add.calls a0 (IntKind.u64.wrap (a1 - (Int.tmod a0 a1))) t181 true _ A41.out).mono ?_); rintro e w' ⟨rfl, ⟨nd, rfl⟩⟩; refine ⟨_, rfl, ?_⟩) | ((with_reducible refine gate_callee (f := 18) rfl ?_); refine goesL_ (some 128) rfl rfl Try.func18 (by kernel_rfl) rfl #[.agg #[.int .u64 a0, .int .u64 a1]] rfl (by (try simp only [List.map_toArray, List.map_cons, List.map_nil]); first | done | rfl | (simp only [List.length_drop, List.length_take]; rfl)) ?_; (with_reducible refine (span_Span_End.calls kj17 a0 a1 t183 false _ A42.out).mono ?_); rintro e w52 ⟨rfl, hb⟩; refine ⟨_, rfl, ?_⟩; have n0_ := Aside0.mk (below_step (by repeat (first | (with_reducible first | exact HB.out | apply below_alloc | apply pw_below_drewN | apply below_drew1) | exact HB.out)) hb); clear HB; have HB := n0_; clear n0_; (try clear hb); (try clear hb2); (try clear hk); (try clear hi)))
                                  go_ret
                                  exact ⟨by first | rfl | (simp [errW_none, errW_some] <;> rfl) | (simp [*, errW_none, errW_some] <;> rfl), by repeat (first | (with_reducible first | exact HB.out | apply below_alloc | apply pw_below_drewN | apply below_drew1) | exact HB.out)⟩
                            · rw [if_neg c45] at H
                              have c45b0 : (t179 == t181) = false := beq_eq_false_iff_ne.mpr c45
                              have c45b1 : (t179 != t181) = true := bne_iff_ne.mpr c45
                              exact absurd ((Option.some.inj H).trans HRT.out) (by decide)
                          · replace c44 := Bool.eq_false_iff.mpr c44
                            subst c44
                            have H1 : (some false) = some r := by rw [if_neg (show ¬ (false = true) by decide)] at H; exact H
                            clear H
                            have H := H1
                            clear H1
                            exact absurd ((Option.some.inj H).trans HRT.out) (by decide)
                        · replace c43 := Bool.eq_false_iff.mpr c43
                          subst c43
                          have H1 : (if t180 = true then (some false) else (if t179 = t181 then (if t174 = true then (if t184 = true then (some (t183 == t173)) else (some false)) else (if t184 = true then (some false) else (some (t183 == t173)))) else (some false))) = some r := by rw [if_neg (show ¬ (false = true) by decide)] at H; exact H
                          clear H
                          have H := H1
                          clear H1
                          by_cases c53 : t180 = true
                          · subst c53
                            have H1 : (some false) = some r := by rw [if_pos rfl] at H; exact H
                            clear H
                            have H := H1
                            clear H1
                            exact absurd ((Option.some.inj H).trans HRT.out) (by decide)
                          · replace c53 := Bool.eq_false_iff.mpr c53
                            subst c53
                            have H1 : (if t179 = t181 then (if t174 = true then (if t184 = true then (some (t183 == t173)) else (some false)) else (if t184 = true then (some false) else (some (t183 == t173)))) else (some false)) = some r := by rw [if_neg (show ¬ (false = true) by decide)] at H; exact H
                            clear H
                            have H := H1
                            clear H1
                            by_cases c54 : t179 = t181
                            · rw [if_pos c54] at H
                              have c54b0 : (t179 == t181) = true := beq_iff_eq.mpr c54
                              have c54b1 : (t179 != t181) = false := bne_eq_false_iff_eq.mpr c54
                              clear c54
                              by_cases c55 : t174 = true
                              · subst c55
                                have H1 : (if t184 = true then (some (t183 == t173)) else (some false)) = some r := by rw [if_pos rfl] at H; exact H
                                clear H
                                have H := H1
                                clear H1
                                by_cases c56 : t184 = true
                                · subst c56
                                  have H1 : (some (t183 == t173)) = some r := by rw [if_pos rfl] at H; exact H
                                  clear H
                                  have H := H1
                                  clear H1
                                  obtain rfl := Option.some.inj H
                                  go_wp2_with (first | ((with_reducible refine gate_callee (f := 17) rfl ?_); refine goesL_ (some 94) rfl rfl Try.func17 (by kernel_rfl) rfl #[.int .u64 a0, .int .u64 a1] rfl (by (try simp only [List.map_toArray, List.map_cons, List.map_nil]); first | done | rfl | (simp only [List.length_drop, List.length_take]; rfl)) ?_; (with_reducible refine (span_Round.calls kj17 a0 a1 t179 false _ A33.out).mono ?_); rintro e w57 ⟨rfl, hb⟩; refine ⟨_, rfl, ?_⟩; have n0_ := Aside0.mk (below_step (by repeat (first | (with_reducible first | exact HB.out | apply below_alloc | apply pw_below_drewN | apply below_drew1) | exact HB.out)) hb); clear HB; have HB := n0_; clear n0_; (try clear hb); (try clear hb2); (try clear hk); (try clear hi)) | ((with_reducible refine gate_callee (f := 15) rfl ?_); refine goesL_ (some 121) rfl rfl Try.func15 (by kernel_rfl) rfl #[.int .u64 a0, .int .u64 (IntKind.u64.wrap (a1 - (Int.tmod a0 a1)))] rfl (by (try simp only [List.map_toArray, List.map_cons, List.map_nil]); first | done | rfl | (simp only [List.length_drop, List.length_take]; rfl)) ?_; (with_reducible refine (graverref02_Add.calls a0 (IntKind.u64.wrap (a1 - (Int.tmod a0 a1))) t181 false _ A41.out).mono ?_); rintro e w' ⟨rfl, ⟨nd, rfl⟩⟩; refine ⟨_, rfl, ?_⟩) | ((with_reducible refine gate_callee (f := 18) rfl ?_); refine goesL_ (some 128) rfl rfl Try.func18 (by kernel_rfl) rfl #[.agg #[.int .u64 a0, .int .u64 a1]] rfl (by (try simp only [List.map_toArray, List.map_cons, List.map_nil]); first | done | rfl | (simp only [List.length_drop, List.length_take]; rfl)) ?_; (with_reducible refine (span_Span_End.calls kj17 a0 a1 t183 true _ A42.out).mono ?_); rintro e w58 ⟨rfl, hb⟩; refine ⟨_, rfl, ?_⟩; have n0_ := Aside0.mk (below_step (by repeat (first | (with_reducible first | exact HB.out | apply below_alloc | apply pw_below_drewN | apply below_drew1) | exact HB.out)) hb); clear HB; have HB := n0_; clear n0_; (try clear hb); (try clear hb2); (try clear hk); (try clear hi)))
                                  go_ret
                                  exact ⟨by first | rfl | (simp [errW_none, errW_some] <;> rfl) | (simp [*, errW_none, errW_some] <;> rfl), by repeat (first | (with_reducible first | exact HB.out | apply below_alloc | apply pw_below_drewN | apply below_drew1) | exact HB.out)⟩
                                · replace c56 := Bool.eq_false_iff.mpr c56
                                  subst c56
                                  have H1 : (some false) = some r := by rw [if_neg (show ¬ (false = true) by decide)] at H; exact H
                                  clear H
                                  have H := H1
                                  clear H1
                                  exact absurd ((Option.some.inj H).trans HRT.out) (by decide)
                              · replace c55 := Bool.eq_false_iff.mpr c55
                                subst c55
                                have H1 : (if t184 = true then (some false) else (some (t183 == t173))) = some r := by rw [if_neg (show ¬ (false = true) by decide)] at H; exact H
                                clear H
                                have H := H1
                                clear H1
                                by_cases c59 : t184 = true
                                · subst c59
                                  have H1 : (some false) = some r := by rw [if_pos rfl] at H; exact H
                                  clear H
                                  have H := H1
                                  clear H1
                                  exact absurd ((Option.some.inj H).trans HRT.out) (by decide)
                                · replace c59 := Bool.eq_false_iff.mpr c59
                                  subst c59
                                  have H1 : (some (t183 == t173)) = some r := by rw [if_neg (show ¬ (false = true) by decide)] at H; exact H
                                  clear H
                                  have H := H1
                                  clear H1
                                  obtain rfl := Option.some.inj H
                                  go_wp2_with (first | ((with_reducible refine gate_callee (f := 17) rfl ?_); refine goesL_ (some 94) rfl rfl Try.func17 (by kernel_rfl) rfl #[.int .u64 a0, .int .u64 a1] rfl (by (try simp only [List.map_toArray, List.map_cons, List.map_nil]); first | done | rfl | (simp only [List.length_drop, List.length_take]; rfl)) ?_; (with_reducible refine (span_Round.calls kj17 a0 a1 t179 false _ A33.out).mono ?_); rintro e w60 ⟨rfl, hb⟩; refine ⟨_, rfl, ?_⟩; have n0_ := Aside0.mk (below_step (by repeat (first | (with_reducible first | exact HB.out | apply below_alloc | apply pw_below_drewN | apply below_drew1) | exact HB.out)) hb); clear HB; have HB := n0_; clear n0_; (try clear hb); (try clear hb2); (try clear hk); (try clear hi)) | ((with_reducible refine gate_callee (f := 15) rfl ?_); refine goesL_ (some 121) rfl rfl Try.func15 (by kernel_rfl) rfl #[.int .u64 a0, .int .u64 (IntKind.u64.wrap (a1 - (Int.tmod a0 a1)))] rfl (by (try simp only [List.map_toArray, List.map_cons, List.map_nil]); first | done | rfl | (simp only [List.length_drop, List.length_take]; rfl)) ?_; (with_reducible refine (graverref02_Add.calls a0 (IntKind.u64.wrap (a1 - (Int.tmod a0 a1))) t181 false _ A41.out).mono ?_); rintro e w' ⟨rfl, ⟨nd, rfl⟩⟩; refine ⟨_, rfl, ?_⟩) | ((with_reducible refine gate_callee (f := 18) rfl ?_); refine goesL_ (some 128) rfl rfl Try.func18 (by kernel_rfl) rfl #[.agg #[.int .u64 a0, .int .u64 a1]] rfl (by (try simp only [List.map_toArray, List.map_cons, List.map_nil]); first | done | rfl | (simp only [List.length_drop, List.length_take]; rfl)) ?_; (with_reducible refine (span_Span_End.calls kj17 a0 a1 t183 false _ A42.out).mono ?_); rintro e w61 ⟨rfl, hb⟩; refine ⟨_, rfl, ?_⟩; have n0_ := Aside0.mk (below_step (by repeat (first | (with_reducible first | exact HB.out | apply below_alloc | apply pw_below_drewN | apply below_drew1) | exact HB.out)) hb); clear HB; have HB := n0_; clear n0_; (try clear hb); (try clear hb2); (try clear hk); (try clear hi)))
                                  go_ret
                                  exact ⟨by first | rfl | (simp [errW_none, errW_some] <;> rfl) | (simp [*, errW_none, errW_some] <;> rfl), by repeat (first | (with_reducible first | exact HB.out | apply below_alloc | apply pw_below_drewN | apply below_drew1) | exact HB.out)⟩
                            · rw [if_neg c54] at H
                              have c54b0 : (t179 == t181) = false := beq_eq_false_iff_ne.mpr c54
                              have c54b1 : (t179 != t181) = true := bne_iff_ne.mpr c54
                              exact absurd ((Option.some.inj H).trans HRT.out) (by decide)
  · replace c5 := Bool.eq_false_iff.mpr c5
    subst c5
    have H1 : (some false) = some r := by rw [if_neg (show ¬ (false = true) by decide)] at H; exact H
    clear H
    have H := H1
    clear H1
    exact absurd ((Option.some.inj H).trans HRT.out) (by decide)

/-- THE ONE PURE STATEMENT of graverlaw02_SpanSums: yours. -/
def graverlaw02_SpanSums.Pure : Prop := ∀ (a0 : Int) (a1 : Int) (a2 : Int), (Lit.int .u64 a0).wf = true → (Lit.int .u64 a1).wf = true → (Lit.int .u64 a2).wf = true → ∃ k, graverlaw02_SpanSums.f k a0 a1 a2 = some true
theorem graverlaw02_SpanSums.walk (P : graverlaw02_SpanSums.Pure) (a0 : Int) (a1 : Int) (a2 : Int) (w : World) (w0 : (Lit.int .u64 a0).wf = true) (w1 : (Lit.int .u64 a1).wf = true) (w2 : (Lit.int .u64 a2).wf = true) :
    Calls Try.prog 5 #[.int .u64 a0, .int .u64 a1, .int .u64 a2] w fun e w' => e = .returned (.bool true) ∧ Below w.heap.size w w' := by
  obtain ⟨k, h⟩ := P a0 a1 a2 w0 w1 w2
  refine (graverlaw02_SpanSums.calls k a0 a1 a2 true w rfl h).mono ?_
  rintro e w' ⟨rfl, hd⟩
  exact ⟨rfl, hd⟩

end Go.Proofs.Yteoeohkjomehoaa.Q
