/- What Go functions of the program compute, each as a Lean function with the proof that the call returns just that. No condition but those in the statements. -/
import Derived.Test.YteoeohkjomehoaaQ0
import Derived.Test.YteoeohkjomehoaaQ4
import Derived.Test.YteoeohkjomehoaaQ5
namespace Go.Proofs.Yteoeohkjomehoaa.Q
open Go.RowKit Go.Proofs.YteoeohkjomehoaaW.PrintWords Go.Proofs.YteoeohkjomehoaaW.PrintLast Go.Proofs.YteoeohkjomehoaaW.PrintMore
attribute [local go_sem] max2_int min2_int max_two min_two max_three min_three max_four min_four   -- for this text's walks alone
set_option linter.unusedVariables false
set_option linter.unusedSimpArgs false

/-! ### graverlaw02_SpanParts: function 4 -/
def graverlaw02_SpanParts.f (k : Nat) (a0 : Int) (a1 : Int) (a2 : ByteArray) : Option (Bool) := (graverlaw02_speaks.f k).bind fun t157 => (if t157 = true then (if a0 ≤ (IntKind.u64.wrap ((a2.size : Int))) then ((span_Span_Part.f k a0 a1 a2).bind fun bt159 => ((span_Span_In.f k a0 a1 (IntKind.u64.wrap ((a2.size : Int)))).bind fun t161 => (if a1 ≤ (IntKind.u64.wrap ((IntKind.u64.wrap ((a2.size : Int))) - a0)) then (if t161 = true then (if bt159.2 = true then (if 0 ≤ a0 then (if a0 ≤ (IntKind.u64.wrap (a0 + a1)) then (if (IntKind.u64.wrap (a0 + a1)) ≤ (a2.size : Int) then (if bt159.1.toList = (a2.extract (a0 : Int).toNat ((IntKind.u64.wrap (a0 + a1)) : Int).toNat).toList then (some true) else (some false)) else (none)) else (none)) else (none)) else (some false)) else (some false)) else (if t161 = true then (some false) else (if bt159.2 = true then (some false) else (some (bt159.1.toList == ([] : List UInt8)))))))) else ((span_Span_Part.f k a0 a1 a2).bind fun bt162 => ((span_Span_In.f k a0 a1 (IntKind.u64.wrap ((a2.size : Int)))).bind fun t164 => (if t164 = true then (some false) else (if bt162.2 = true then (some false) else (some (bt162.1.toList == ([] : List UInt8)))))))) else (some false))
theorem graverlaw02_SpanParts.mono : ∀ a0 a1 a2 k, LeO (graverlaw02_SpanParts.f k a0 a1 a2) (graverlaw02_SpanParts.f (k + 1) a0 a1 a2) := by
  intro a0 a1 a2 k
  unfold graverlaw02_SpanParts.f
  repeat' first
      | (with_reducible exact graverlaw02_speaks.mono _)
      | (with_reducible exact span_Span_In.mono _ _ _ _)
      | (with_reducible exact span_Span_Part.mono _ _ _ _)
      | (with_reducible exact LeO.refl _)
      | (with_reducible exact LeO.none _)
      | (with_reducible refine LeO.ite ?_ ?_)
      | (with_reducible refine LeO.bind ?_ (fun _ => ?_))
      | exact graverlaw02_speaks.mono _
      | exact span_Span_In.mono _ _ _ _
      | exact span_Span_Part.mono _ _ _ _
      | exact LeO.none _
      | refine LeO.ite ?_ ?_
      | refine LeO.bind ?_ (fun _ => ?_)
set_option maxHeartbeats 8000000 in
set_option maxRecDepth 100000 in
theorem graverlaw02_SpanParts.calls (k : Nat) (a0 : Int) (a1 : Int) (a2 : ByteArray) (r : Bool) (w : World) (hrt : r = true) (h : graverlaw02_SpanParts.f k a0 a1 a2 = some r) :
    Calls Try.prog 4 #[.int .u64 a0, .int .u64 a1, .string a2] w fun e w' => e = .returned (.bool r) ∧ Below w.heap.size w w' := by
  have hu29 := Try.underlying29
  have HB := Aside0.mk (Below.refl w.heap.size w)
  have HRT := Aside0.mk hrt
  clear hrt
  have H : ((graverlaw02_speaks.f k).bind fun t157 => (if t157 = true then (if a0 ≤ (IntKind.u64.wrap ((a2.size : Int))) then ((span_Span_Part.f k a0 a1 a2).bind fun bt159 => ((span_Span_In.f k a0 a1 (IntKind.u64.wrap ((a2.size : Int)))).bind fun t161 => (if a1 ≤ (IntKind.u64.wrap ((IntKind.u64.wrap ((a2.size : Int))) - a0)) then (if t161 = true then (if bt159.2 = true then (if 0 ≤ a0 then (if a0 ≤ (IntKind.u64.wrap (a0 + a1)) then (if (IntKind.u64.wrap (a0 + a1)) ≤ (a2.size : Int) then (if bt159.1.toList = (a2.extract (a0 : Int).toNat ((IntKind.u64.wrap (a0 + a1)) : Int).toNat).toList then (some true) else (some false)) else (none)) else (none)) else (none)) else (some false)) else (some false)) else (if t161 = true then (some false) else (if bt159.2 = true then (some false) else (some (bt159.1.toList == ([] : List UInt8)))))))) else ((span_Span_Part.f k a0 a1 a2).bind fun bt162 => ((span_Span_In.f k a0 a1 (IntKind.u64.wrap ((a2.size : Int)))).bind fun t164 => (if t164 = true then (some false) else (if bt162.2 = true then (some false) else (some (bt162.1.toList == ([] : List UInt8)))))))) else (some false))) = some r := h
  clear h
  replace H := Option.bind_eq_some_iff.mp H
  obtain ⟨t157, A40, H⟩ := H
  replace H : (if t157 = true then (if a0 ≤ (IntKind.u64.wrap ((a2.size : Int))) then ((span_Span_Part.f k a0 a1 a2).bind fun bt159 => ((span_Span_In.f k a0 a1 (IntKind.u64.wrap ((a2.size : Int)))).bind fun t161 => (if a1 ≤ (IntKind.u64.wrap ((IntKind.u64.wrap ((a2.size : Int))) - a0)) then (if t161 = true then (if bt159.2 = true then (if 0 ≤ a0 then (if a0 ≤ (IntKind.u64.wrap (a0 + a1)) then (if (IntKind.u64.wrap (a0 + a1)) ≤ (a2.size : Int) then (if bt159.1.toList = (a2.extract (a0 : Int).toNat ((IntKind.u64.wrap (a0 + a1)) : Int).toNat).toList then (some true) else (some false)) else (none)) else (none)) else (none)) else (some false)) else (some false)) else (if t161 = true then (some false) else (if bt159.2 = true then (some false) else (some (bt159.1.toList == ([] : List UInt8)))))))) else ((span_Span_Part.f k a0 a1 a2).bind fun bt162 => ((span_Span_In.f k a0 a1 (IntKind.u64.wrap ((a2.size : Int)))).bind fun t164 => (if t164 = true then (some false) else (if bt162.2 = true then (some false) else (some (bt162.1.toList == ([] : List UInt8)))))))) else (some false)) = some r := H
  have A4 := Aside0.mk A40
  clear A40
  by_cases c5 : t157 = true
  · subst c5
    have H1 : (if a0 ≤ (IntKind.u64.wrap ((a2.size : Int))) then ((span_Span_Part.f k a0 a1 a2).bind fun bt159 => ((span_Span_In.f k a0 a1 (IntKind.u64.wrap ((a2.size : Int)))).bind fun t161 => (if a1 ≤ (IntKind.u64.wrap ((IntKind.u64.wrap ((a2.size : Int))) - a0)) then (if t161 = true then (if bt159.2 = true then (if 0 ≤ a0 then (if a0 ≤ (IntKind.u64.wrap (a0 + a1)) then (if (IntKind.u64.wrap (a0 + a1)) ≤ (a2.size : Int) then (if bt159.1.toList = (a2.extract (a0 : Int).toNat ((IntKind.u64.wrap (a0 + a1)) : Int).toNat).toList then (some true) else (some false)) else (none)) else (none)) else (none)) else (some false)) else (some false)) else (if t161 = true then (some false) else (if bt159.2 = true then (some false) else (some (bt159.1.toList == ([] : List UInt8)))))))) else ((span_Span_Part.f k a0 a1 a2).bind fun bt162 => ((span_Span_In.f k a0 a1 (IntKind.u64.wrap ((a2.size : Int)))).bind fun t164 => (if t164 = true then (some false) else (if bt162.2 = true then (some false) else (some (bt162.1.toList == ([] : List UInt8)))))))) = some r := by rw [if_pos rfl] at H; exact H
    clear H
    have H := H1
    clear H1
    by_cases c6 : a0 ≤ (IntKind.u64.wrap ((a2.size : Int)))
    · rw [if_pos c6] at H
      have c6b0 : decide (a0 ≤ (IntKind.u64.wrap ((a2.size : Int)))) = true := decide_eq_true c6
      clear c6
      replace H := Option.bind_eq_some_iff.mp H
      obtain ⟨⟨t159, t160⟩, A70, H⟩ := H
      replace H : ((span_Span_In.f k a0 a1 (IntKind.u64.wrap ((a2.size : Int)))).bind fun t161 => (if a1 ≤ (IntKind.u64.wrap ((IntKind.u64.wrap ((a2.size : Int))) - a0)) then (if t161 = true then (if t160 = true then (if 0 ≤ a0 then (if a0 ≤ (IntKind.u64.wrap (a0 + a1)) then (if (IntKind.u64.wrap (a0 + a1)) ≤ (a2.size : Int) then (if t159.toList = (a2.extract (a0 : Int).toNat ((IntKind.u64.wrap (a0 + a1)) : Int).toNat).toList then (some true) else (some false)) else (none)) else (none)) else (none)) else (some false)) else (some false)) else (if t161 = true then (some false) else (if t160 = true then (some false) else (some (t159.toList == ([] : List UInt8))))))) = some r := H
      have A7 := Aside0.mk A70
      clear A70
      replace H := Option.bind_eq_some_iff.mp H
      obtain ⟨t161, A80, H⟩ := H
      replace H : (if a1 ≤ (IntKind.u64.wrap ((IntKind.u64.wrap ((a2.size : Int))) - a0)) then (if t161 = true then (if t160 = true then (if 0 ≤ a0 then (if a0 ≤ (IntKind.u64.wrap (a0 + a1)) then (if (IntKind.u64.wrap (a0 + a1)) ≤ (a2.size : Int) then (if t159.toList = (a2.extract (a0 : Int).toNat ((IntKind.u64.wrap (a0 + a1)) : Int).toNat).toList then (some true) else (some false)) else (none)) else (none)) else (none)) else (some false)) else (some false)) else (if t161 = true then (some false) else (if t160 = true then (some false) else (some (t159.toList == ([] : List UInt8)))))) = some r := H
      have A8 := Aside0.mk A80
      clear A80
      by_cases c9 : a1 ≤ (IntKind.u64.wrap ((IntKind.u64.wrap ((a2.size : Int))) - a0))
      · rw [if_pos c9] at H
        have c9b0 : decide (a1 ≤ (IntKind.u64.wrap ((IntKind.u64.wrap ((a2.size : Int))) - a0))) = true := decide_eq_true c9
        clear c9
        by_cases c10 : t161 = true
        · subst c10
          have H1 : (if t160 = true then (if 0 ≤ a0 then (if a0 ≤ (IntKind.u64.wrap (a0 + a1)) then (if (IntKind.u64.wrap (a0 + a1)) ≤ (a2.size : Int) then (if t159.toList = (a2.extract (a0 : Int).toNat ((IntKind.u64.wrap (a0 + a1)) : Int).toNat).toList then (some true) else (some false)) else (none)) else (none)) else (none)) else (some false)) = some r := by rw [if_pos rfl] at H; exact H
          clear H
          have H := H1
          clear H1
          by_cases c11 : t160 = true
          · subst c11
            have H1 : (if 0 ≤ a0 then (if a0 ≤ (IntKind.u64.wrap (a0 + a1)) then (if (IntKind.u64.wrap (a0 + a1)) ≤ (a2.size : Int) then (if t159.toList = (a2.extract (a0 : Int).toNat ((IntKind.u64.wrap (a0 + a1)) : Int).toNat).toList then (some true) else (some false)) else (none)) else (none)) else (none)) = some r := by rw [if_pos rfl] at H; exact H
            clear H
            have H := H1
            clear H1
            by_cases c12 : 0 ≤ a0
            · rw [if_pos c12] at H
              have c12b0 := eq_true c12
              have c12b1 : decide (0 ≤ a0) = true := decide_eq_true c12
              clear c12
              by_cases c13 : a0 ≤ (IntKind.u64.wrap (a0 + a1))
              · rw [if_pos c13] at H
                have c13b0 := eq_true c13
                have c13b1 : decide (a0 ≤ (IntKind.u64.wrap (a0 + a1))) = true := decide_eq_true c13
                by_cases c14 : (IntKind.u64.wrap (a0 + a1)) ≤ (a2.size : Int)
                · rw [if_pos c14] at H
                  have c14b0 := eq_true c14
                  have c14b1 : decide ((IntKind.u64.wrap (a0 + a1)) ≤ (a2.size : Int)) = true := decide_eq_true c14
                  obtain ⟨sc15, hsc15⟩ : ∃ s_ : ByteArray, (a2.extract (a0 : Int).toNat ((IntKind.u64.wrap (a0 + a1)) : Int).toNat) = s_ := ⟨_, rfl⟩
                  replace H : (if t159.toList = sc15.toList then (some true) else (some false)) = some r := by first | (rw [hsc15] at H; exact H) | (simp only [hsc15] at H ⊢; exact H) | exact H
                  (try (have hsc15n := hsc15; simp only [Int.toNat_natCast] at hsc15n))
                  by_cases c16 : t159.toList = sc15.toList
                  · rw [if_pos c16] at H
                    have c16b0 : (t159.toList == sc15.toList) = true := beq_iff_eq.mpr c16
                    have c16b1 : (t159.toList != sc15.toList) = false := bne_eq_false_iff_eq.mpr c16
                    clear c16
                    obtain rfl := Option.some.inj H
                    go_enter Try.func4, Try.ntmps4
                    go_wp2_with (first | ((with_reducible refine gate_callee (f := 7) rfl ?_); refine goesL_ (some 12) rfl rfl Try.func7 (by kernel_rfl) rfl #[] rfl (by (try simp only [List.map_toArray, List.map_cons, List.map_nil]); first | done | rfl | (simp only [List.length_drop, List.length_take]; rfl)) ?_; (with_reducible refine (graverlaw02_speaks.calls k  true _ A4.out).mono ?_); rintro e w17 ⟨rfl, hb⟩; refine ⟨_, rfl, ?_⟩; have n0_ := Aside0.mk (below_step (by repeat (first | (with_reducible first | exact HB.out | apply below_alloc | apply pw_below_drewN | apply below_drew1) | exact HB.out)) hb); clear HB; have HB := n0_; clear n0_; (try clear hb); (try clear hb2); (try clear hk); (try clear hi)) | ((with_reducible refine gate_dst (N := 7) rfl ?_); refine box_event ?hg (N := 7) ?hd (cs := #[.int .u64 0, .int .u64 0]) (t := 29) ?hr ?_; (case hd => rfl); (case hg => rfl); (case hr => first | (go_simp; done) | (go_simp; rfl)); intro gb158 hg w18 hbox hb; have n0_ := Aside0.mk (below_step (by repeat (first | (with_reducible first | exact HB.out | apply below_alloc | apply pw_below_drewN | apply below_drew1) | exact HB.out)) hb); have n1_ := Aside0.mk (hbox); have n2_ := Aside0.mk ((by rw [hg]; exact (below_size (by repeat (first | (with_reducible first | exact HB.out | apply below_alloc | apply pw_below_drewN | apply below_drew1) | exact HB.out))) : w.heap.size ≤ gb158)); have n3_ := Aside0.mk ((by rw [hg]; exact (below_size (by repeat (first | (with_reducible first | exact HB.out | apply below_alloc | apply pw_below_drewN | apply below_drew1) | exact HB.out))) : w.heap.size ≤ gb158)); clear HB; have HB := n0_; have BK158 := n1_; have GW158 := n2_; have GE158 := n3_; clear n0_ n1_ n2_ n3_; clear hb hbox hg; have hcz19_0 : w18.cell? ⟨gb158, 0, none⟩ = some (.int .u64 0) := (blk_cell BK158.out 0).trans rfl; have hcz19_1 : w18.cell? ⟨gb158, 1, none⟩ = some (.int .u64 0) := (blk_cell BK158.out 1).trans rfl; have hfz19_0 := blk_frozen BK158.out 0; have hfz19_1 := blk_frozen BK158.out 1) | ((with_reducible refine gate_callee (f := 12) rfl ?_); refine goesL_ (some 33) rfl rfl Try.func12 (by kernel_rfl) rfl #[.agg #[.int .u64 a0, .int .u64 a1], .string a2] rfl (by (try simp only [List.map_toArray, List.map_cons, List.map_nil]); first | done | rfl | (simp only [List.length_drop, List.length_take]; rfl)) ?_; (with_reducible refine (span_Span_Part.calls k a0 a1 a2 t159 true _ A7.out).mono ?_); rintro e w20 ⟨rfl, hb⟩; refine ⟨_, rfl, ?_⟩; have n0_ := Aside0.mk (blk_below (g := gb158) (o := .cells #[.int .u64 a0, .int .u64 a1] 29 (0, 0)) (by (with_reducible repeat (first | refine blk_drewN ?_ _ | refine blk_drew ?_ | refine blk_alloc ?_ _)); refine blk_put (cs := #[.int .u64 a0, .int .u64 0]) ?_ 1 _ rfl; (with_reducible repeat (first | refine blk_drewN ?_ _ | refine blk_drew ?_ | refine blk_alloc ?_ _)); refine blk_put (cs := #[.int .u64 0, .int .u64 0]) ?_ 0 _ rfl; (with_reducible repeat (first | refine blk_drewN ?_ _ | refine blk_drew ?_ | refine blk_alloc ?_ _)); exact BK158.out) hb); have n1_ := Aside0.mk (below_step (by repeat (first | (with_reducible first | exact HB.out | apply below_alloc | apply pw_below_drewN | apply below_drew1 | refine below_set ?_ GE158.out) | exact HB.out)) hb); clear BK158; clear HB; have BK158 := n0_; have HB := n1_; clear n0_ n1_; (try clear hb); (try clear hb2); (try clear hk); (try clear hi); have hcz21_0 : w20.cell? ⟨gb158, 0, none⟩ = some (.int .u64 a0) := (blk_cell BK158.out 0).trans rfl; have hcz21_1 : w20.cell? ⟨gb158, 1, none⟩ = some (.int .u64 a1) := (blk_cell BK158.out 1).trans rfl; have hfz21_0 := blk_frozen BK158.out 0; have hfz21_1 := blk_frozen BK158.out 1) | ((with_reducible refine gate_callee (f := 13) rfl ?_); refine goesL_ (some 38) rfl rfl Try.func13 (by kernel_rfl) rfl #[.agg #[.int .u64 a0, .int .u64 a1], .int .u64 (IntKind.u64.wrap ((a2.size : Int)))] rfl (by (try simp only [List.map_toArray, List.map_cons, List.map_nil]); first | done | rfl | (simp only [List.length_drop, List.length_take]; rfl)) ?_; (with_reducible refine (span_Span_In.calls k a0 a1 (IntKind.u64.wrap ((a2.size : Int))) true _ A8.out).mono ?_); rintro e w22 ⟨rfl, hb⟩; refine ⟨_, rfl, ?_⟩; have n0_ := Aside0.mk (blk_below (g := gb158) (o := .cells #[.int .u64 a0, .int .u64 a1] 29 (0, 0)) (by (with_reducible repeat (first | refine blk_drewN ?_ _ | refine blk_drew ?_ | refine blk_alloc ?_ _)); exact BK158.out) hb); have n1_ := Aside0.mk (below_step (by repeat (first | (with_reducible first | exact HB.out | apply below_alloc | apply pw_below_drewN | apply below_drew1 | refine below_set ?_ GE158.out) | exact HB.out)) hb); clear BK158; clear HB; have BK158 := n0_; have HB := n1_; clear n0_ n1_; (try clear hb); (try clear hb2); (try clear hk); (try clear hi)))
                    go_ret
                    exact ⟨by first | rfl | (simp [errW_none, errW_some] <;> rfl) | (simp [*, errW_none, errW_some] <;> rfl), by repeat (first | (with_reducible first | exact HB.out | apply below_alloc | apply pw_below_drewN | apply below_drew1 | refine below_set ?_ GE158.out) | exact HB.out)⟩
                  · rw [if_neg c16] at H
                    have c16b0 : (t159.toList == sc15.toList) = false := beq_eq_false_iff_ne.mpr c16
                    have c16b1 : (t159.toList != sc15.toList) = true := bne_iff_ne.mpr c16
                    exact absurd ((Option.some.inj H).trans HRT.out) (by decide)
                · rw [if_neg c14] at H
                  exact absurd H (by simp)
              · rw [if_neg c13] at H
                exact absurd H (by simp)
            · rw [if_neg c12] at H
              exact absurd H (by simp)
          · replace c11 := Bool.eq_false_iff.mpr c11
            subst c11
            have H1 : (some false) = some r := by rw [if_neg (show ¬ (false = true) by decide)] at H; exact H
            clear H
            have H := H1
            clear H1
            exact absurd ((Option.some.inj H).trans HRT.out) (by decide)
        · replace c10 := Bool.eq_false_iff.mpr c10
          subst c10
          have H1 : (some false) = some r := by rw [if_neg (show ¬ (false = true) by decide)] at H; exact H
          clear H
          have H := H1
          clear H1
          exact absurd ((Option.some.inj H).trans HRT.out) (by decide)
      · rw [if_neg c9] at H
        have c9b0 : decide (a1 ≤ (IntKind.u64.wrap ((IntKind.u64.wrap ((a2.size : Int))) - a0))) = false := decide_eq_false c9
        clear c9
        by_cases c23 : t161 = true
        · subst c23
          have H1 : (some false) = some r := by rw [if_pos rfl] at H; exact H
          clear H
          have H := H1
          clear H1
          exact absurd ((Option.some.inj H).trans HRT.out) (by decide)
        · replace c23 := Bool.eq_false_iff.mpr c23
          subst c23
          have H1 : (if t160 = true then (some false) else (some (t159.toList == ([] : List UInt8)))) = some r := by rw [if_neg (show ¬ (false = true) by decide)] at H; exact H
          clear H
          have H := H1
          clear H1
          by_cases c24 : t160 = true
          · subst c24
            have H1 : (some false) = some r := by rw [if_pos rfl] at H; exact H
            clear H
            have H := H1
            clear H1
            exact absurd ((Option.some.inj H).trans HRT.out) (by decide)
          · replace c24 := Bool.eq_false_iff.mpr c24
            subst c24
            have H1 : (some (t159.toList == ([] : List UInt8))) = some r := by rw [if_neg (show ¬ (false = true) by decide)] at H; exact H
            clear H
            have H := H1
            clear H1
            obtain rfl := Option.some.inj H
            go_enter Try.func4, Try.ntmps4
            go_wp2_with (first | ((with_reducible refine gate_callee (f := 7) rfl ?_); refine goesL_ (some 12) rfl rfl Try.func7 (by kernel_rfl) rfl #[] rfl (by (try simp only [List.map_toArray, List.map_cons, List.map_nil]); first | done | rfl | (simp only [List.length_drop, List.length_take]; rfl)) ?_; (with_reducible refine (graverlaw02_speaks.calls k  true _ A4.out).mono ?_); rintro e w25 ⟨rfl, hb⟩; refine ⟨_, rfl, ?_⟩; have n0_ := Aside0.mk (below_step (by repeat (first | (with_reducible first | exact HB.out | apply below_alloc | apply pw_below_drewN | apply below_drew1) | exact HB.out)) hb); clear HB; have HB := n0_; clear n0_; (try clear hb); (try clear hb2); (try clear hk); (try clear hi)) | ((with_reducible refine gate_dst (N := 7) rfl ?_); refine box_event ?hg (N := 7) ?hd (cs := #[.int .u64 0, .int .u64 0]) (t := 29) ?hr ?_; (case hd => rfl); (case hg => rfl); (case hr => first | (go_simp; done) | (go_simp; rfl)); intro gb158 hg w26 hbox hb; have n0_ := Aside0.mk (below_step (by repeat (first | (with_reducible first | exact HB.out | apply below_alloc | apply pw_below_drewN | apply below_drew1) | exact HB.out)) hb); have n1_ := Aside0.mk (hbox); have n2_ := Aside0.mk ((by rw [hg]; exact (below_size (by repeat (first | (with_reducible first | exact HB.out | apply below_alloc | apply pw_below_drewN | apply below_drew1) | exact HB.out))) : w.heap.size ≤ gb158)); have n3_ := Aside0.mk ((by rw [hg]; exact (below_size (by repeat (first | (with_reducible first | exact HB.out | apply below_alloc | apply pw_below_drewN | apply below_drew1) | exact HB.out))) : w.heap.size ≤ gb158)); clear HB; have HB := n0_; have BK158 := n1_; have GW158 := n2_; have GE158 := n3_; clear n0_ n1_ n2_ n3_; clear hb hbox hg; have hcz27_0 : w26.cell? ⟨gb158, 0, none⟩ = some (.int .u64 0) := (blk_cell BK158.out 0).trans rfl; have hcz27_1 : w26.cell? ⟨gb158, 1, none⟩ = some (.int .u64 0) := (blk_cell BK158.out 1).trans rfl; have hfz27_0 := blk_frozen BK158.out 0; have hfz27_1 := blk_frozen BK158.out 1) | ((with_reducible refine gate_callee (f := 12) rfl ?_); refine goesL_ (some 33) rfl rfl Try.func12 (by kernel_rfl) rfl #[.agg #[.int .u64 a0, .int .u64 a1], .string a2] rfl (by (try simp only [List.map_toArray, List.map_cons, List.map_nil]); first | done | rfl | (simp only [List.length_drop, List.length_take]; rfl)) ?_; (with_reducible refine (span_Span_Part.calls k a0 a1 a2 t159 false _ A7.out).mono ?_); rintro e w28 ⟨rfl, hb⟩; refine ⟨_, rfl, ?_⟩; have n0_ := Aside0.mk (blk_below (g := gb158) (o := .cells #[.int .u64 a0, .int .u64 a1] 29 (0, 0)) (by (with_reducible repeat (first | refine blk_drewN ?_ _ | refine blk_drew ?_ | refine blk_alloc ?_ _)); refine blk_put (cs := #[.int .u64 a0, .int .u64 0]) ?_ 1 _ rfl; (with_reducible repeat (first | refine blk_drewN ?_ _ | refine blk_drew ?_ | refine blk_alloc ?_ _)); refine blk_put (cs := #[.int .u64 0, .int .u64 0]) ?_ 0 _ rfl; (with_reducible repeat (first | refine blk_drewN ?_ _ | refine blk_drew ?_ | refine blk_alloc ?_ _)); exact BK158.out) hb); have n1_ := Aside0.mk (below_step (by repeat (first | (with_reducible first | exact HB.out | apply below_alloc | apply pw_below_drewN | apply below_drew1 | refine below_set ?_ GE158.out) | exact HB.out)) hb); clear BK158; clear HB; have BK158 := n0_; have HB := n1_; clear n0_ n1_; (try clear hb); (try clear hb2); (try clear hk); (try clear hi); have hcz29_0 : w28.cell? ⟨gb158, 0, none⟩ = some (.int .u64 a0) := (blk_cell BK158.out 0).trans rfl; have hcz29_1 : w28.cell? ⟨gb158, 1, none⟩ = some (.int .u64 a1) := (blk_cell BK158.out 1).trans rfl; have hfz29_0 := blk_frozen BK158.out 0; have hfz29_1 := blk_frozen BK158.out 1) | ((with_reducible refine gate_callee (f := 13) rfl ?_); refine goesL_ (some 38) rfl rfl Try.func13 (by kernel_rfl) rfl #[.agg #[.int .u64 a0, .int .u64 a1], .int .u64 (IntKind.u64.wrap ((a2.size : Int)))] rfl (by (try simp only [List.map_toArray, List.map_cons, List.map_nil]); first | done | rfl | (simp only [List.length_drop, List.length_take]; rfl)) ?_; (with_reducible refine (span_Span_In.calls k a0 a1 (IntKind.u64.wrap ((a2.size : Int))) false _ A8.out).mono ?_); rintro e w30 ⟨rfl, hb⟩; refine ⟨_, rfl, ?_⟩; have n0_ := Aside0.mk (blk_below (g := gb158) (o := .cells #[.int .u64 a0, .int .u64 a1] 29 (0, 0)) (by (with_reducible repeat (first | refine blk_drewN ?_ _ | refine blk_drew ?_ | refine blk_alloc ?_ _)); exact BK158.out) hb); have n1_ := Aside0.mk (below_step (by repeat (first | (with_reducible first | exact HB.out | apply below_alloc | apply pw_below_drewN | apply below_drew1 | refine below_set ?_ GE158.out) | exact HB.out)) hb); clear BK158; clear HB; have BK158 := n0_; have HB := n1_; clear n0_ n1_; (try clear hb); (try clear hb2); (try clear hk); (try clear hi)))
            go_ret
            exact ⟨by first | rfl | (simp [errW_none, errW_some] <;> rfl) | (simp [*, errW_none, errW_some] <;> rfl), by repeat (first | (with_reducible first | exact HB.out | apply below_alloc | apply pw_below_drewN | apply below_drew1 | refine below_set ?_ GE158.out) | exact HB.out)⟩
    · rw [if_neg c6] at H
      have c6b0 : decide (a0 ≤ (IntKind.u64.wrap ((a2.size : Int)))) = false := decide_eq_false c6
      clear c6
      replace H := Option.bind_eq_some_iff.mp H
      obtain ⟨⟨t162, t163⟩, A310, H⟩ := H
      replace H : ((span_Span_In.f k a0 a1 (IntKind.u64.wrap ((a2.size : Int)))).bind fun t164 => (if t164 = true then (some false) else (if t163 = true then (some false) else (some (t162.toList == ([] : List UInt8)))))) = some r := H
      have A31 := Aside0.mk A310
      clear A310
      replace H := Option.bind_eq_some_iff.mp H
      obtain ⟨t164, A320, H⟩ := H
      replace H : (if t164 = true then (some false) else (if t163 = true then (some false) else (some (t162.toList == ([] : List UInt8))))) = some r := H
      have A32 := Aside0.mk A320
      clear A320
      by_cases c33 : t164 = true
      · subst c33
        have H1 : (some false) = some r := by rw [if_pos rfl] at H; exact H
        clear H
        have H := H1
        clear H1
        exact absurd ((Option.some.inj H).trans HRT.out) (by decide)
      · replace c33 := Bool.eq_false_iff.mpr c33
        subst c33
        have H1 : (if t163 = true then (some false) else (some (t162.toList == ([] : List UInt8)))) = some r := by rw [if_neg (show ¬ (false = true) by decide)] at H; exact H
        clear H
        have H := H1
        clear H1
        by_cases c34 : t163 = true
        · subst c34
          have H1 : (some false) = some r := by rw [if_pos rfl] at H; exact H
          clear H
          have H := H1
          clear H1
          exact absurd ((Option.some.inj H).trans HRT.out) (by decide)
        · replace c34 := Bool.eq_false_iff.mpr c34
          subst c34
          have H1 : (some (t162.toList == ([] : List UInt8))) = some r := by rw [if_neg (show ¬ (false = true) by decide)] at H; exact H
          clear H
          have H := H1
          clear H1
          obtain rfl := Option.some.inj H
          go_enter Try.func4, Try.ntmps4
          go_wp2_with (first | ((with_reducible refine gate_callee (f := 7) rfl ?_); refine goesL_ (some 12) rfl rfl Try.func7 (by kernel_rfl) rfl #[] rfl (by (try simp only [List.map_toArray, List.map_cons, List.map_nil]); first | done | rfl | (simp only [List.length_drop, List.length_take]; rfl)) ?_; (with_reducible refine (graverlaw02_speaks.calls k  true _ A4.out).mono ?_); rintro e w35 ⟨rfl, hb⟩; refine ⟨_, rfl, ?_⟩; have n0_ := Aside0.mk (below_step (by repeat (first | (with_reducible first | exact HB.out | apply below_alloc | apply pw_below_drewN | apply below_drew1) | exact HB.out)) hb); clear HB; have HB := n0_; clear n0_; (try clear hb); (try clear hb2); (try clear hk); (try clear hi)) | ((with_reducible refine gate_dst (N := 7) rfl ?_); refine box_event ?hg (N := 7) ?hd (cs := #[.int .u64 0, .int .u64 0]) (t := 29) ?hr ?_; (case hd => rfl); (case hg => rfl); (case hr => first | (go_simp; done) | (go_simp; rfl)); intro gb158 hg w36 hbox hb; have n0_ := Aside0.mk (below_step (by repeat (first | (with_reducible first | exact HB.out | apply below_alloc | apply pw_below_drewN | apply below_drew1) | exact HB.out)) hb); have n1_ := Aside0.mk (hbox); have n2_ := Aside0.mk ((by rw [hg]; exact (below_size (by repeat (first | (with_reducible first | exact HB.out | apply below_alloc | apply pw_below_drewN | apply below_drew1) | exact HB.out))) : w.heap.size ≤ gb158)); have n3_ := Aside0.mk ((by rw [hg]; exact (below_size (by repeat (first | (with_reducible first | exact HB.out | apply below_alloc | apply pw_below_drewN | apply below_drew1) | exact HB.out))) : w.heap.size ≤ gb158)); clear HB; have HB := n0_; have BK158 := n1_; have GW158 := n2_; have GE158 := n3_; clear n0_ n1_ n2_ n3_; clear hb hbox hg; have hcz37_0 : w36.cell? ⟨gb158, 0, none⟩ = some (.int .u64 0) := (blk_cell BK158.out 0).trans rfl; have hcz37_1 : w36.cell? ⟨gb158, 1, none⟩ = some (.int .u64 0) := (blk_cell BK158.out 1).trans rfl; have hfz37_0 := blk_frozen BK158.out 0; have hfz37_1 := blk_frozen BK158.out 1) | ((with_reducible refine gate_callee (f := 12) rfl ?_); refine goesL_ (some 33) rfl rfl Try.func12 (by kernel_rfl) rfl #[.agg #[.int .u64 a0, .int .u64 a1], .string a2] rfl (by (try simp only [List.map_toArray, List.map_cons, List.map_nil]); first | done | rfl | (simp only [List.length_drop, List.length_take]; rfl)) ?_; (with_reducible refine (span_Span_Part.calls k a0 a1 a2 t162 false _ A31.out).mono ?_); rintro e w38 ⟨rfl, hb⟩; refine ⟨_, rfl, ?_⟩; have n0_ := Aside0.mk (blk_below (g := gb158) (o := .cells #[.int .u64 a0, .int .u64 a1] 29 (0, 0)) (by (with_reducible repeat (first | refine blk_drewN ?_ _ | refine blk_drew ?_ | refine blk_alloc ?_ _)); refine blk_put (cs := #[.int .u64 a0, .int .u64 0]) ?_ 1 _ rfl; (with_reducible repeat (first | refine blk_drewN ?_ _ | refine blk_drew ?_ | refine blk_alloc ?_ _)); refine blk_put (cs := #[.int .u64 0, .int .u64 0]) ?_ 0 _ rfl; (with_reducible repeat (first | refine blk_drewN ?_ _ | refine blk_drew ?_ | refine blk_alloc ?_ _)); exact BK158.out) hb); have n1_ := Aside0.mk (below_step (by repeat (first | (with_reducible first | exact HB.out | apply below_alloc | apply pw_below_drewN | apply below_drew1 | refine below_set ?_ GE158.out) | exact HB.out)) hb); clear BK158; clear HB; have BK158 := n0_; have HB := n1_; clear n0_ n1_; (try clear hb); (try clear hb2); (try clear hk); (try clear hi); have hcz39_0 : w38.cell? ⟨gb158, 0, none⟩ = some (.int .u64 a0) := (blk_cell BK158.out 0).trans rfl; have hcz39_1 : w38.cell? ⟨gb158, 1, none⟩ = some (.int .u64 a1) := (blk_cell BK158.out 1).trans rfl; have hfz39_0 := blk_frozen BK158.out 0; have hfz39_1 := blk_frozen BK158.out 1) | ((with_reducible refine gate_callee (f := 13) rfl ?_); refine goesL_ (some 38) rfl rfl Try.func13 (by kernel_rfl) rfl #[.agg #[.int .u64 a0, .int .u64 a1], .int .u64 (IntKind.u64.wrap ((a2.size : Int)))] rfl (by (try simp only [List.map_toArray, List.map_cons, List.map_nil]); first | done | rfl | (simp only [List.length_drop, List.length_take]; rfl)) ?_; (with_reducible refine (span_Span_In.calls k a0 a1 (IntKind.u64.wrap ((a2.size : Int))) false _ A32.out).mono ?_); rintro e w40 ⟨rfl, hb⟩; refine ⟨_, rfl, ?_⟩; have n0_ := Aside0.mk (blk_below (g := gb158) (o := .cells #[.int .u64 a0, .int .u64 a1] 29 (0, 0)) (by (with_reducible repeat (first | refine blk_drewN ?_ _ | refine blk_drew ?_ | refine blk_alloc ?_ _)); exact BK158.out) hb); have n1_ := Aside0.mk (below_step (by repeat (first | (with_reducible first | exact HB.out | apply below_alloc | apply pw_below_drewN | apply below_drew1 | refine below_set ?_ GE158.out) | exact HB.out)) hb); clear BK158; clear HB; have BK158 := n0_; have HB := n1_; clear n0_ n1_; (try clear hb); (try clear hb2); (try clear hk); (try clear hi)))
          go_ret
          exact ⟨by first | rfl | (simp [errW_none, errW_some] <;> rfl) | (simp [*, errW_none, errW_some] <;> rfl), by repeat (first | (with_reducible first | exact HB.out | apply below_alloc | apply pw_below_drewN | apply below_drew1 | refine below_set ?_ GE158.out) | exact HB.out)⟩
  · replace c5 := Bool.eq_false_iff.mpr c5
    subst c5
    have H1 : (some false) = some r := by rw [if_neg (show ¬ (false = true) by decide)] at H; exact H
    clear H
    have H := H1
    clear H1
    exact absurd ((Option.some.inj H).trans HRT.out) (by decide)

/-- THE ONE PURE STATEMENT of graverlaw02_SpanParts: yours. -/
def graverlaw02_SpanParts.Pure : Prop := ∀ (a0 : Int) (a1 : Int) (a2 : ByteArray), (Lit.int .u64 a0).wf = true → (Lit.int .u64 a1).wf = true → a2.size ≤ 140737488351232 → ∃ k, graverlaw02_SpanParts.f k a0 a1 a2 = some true
theorem graverlaw02_SpanParts.walk (P : graverlaw02_SpanParts.Pure) (a0 : Int) (a1 : Int) (a2 : ByteArray) (w : World) (w0 : (Lit.int .u64 a0).wf = true) (w1 : (Lit.int .u64 a1).wf = true) (w2 : a2.size ≤ 140737488351232) :
    Calls Try.prog 4 #[.int .u64 a0, .int .u64 a1, .string a2] w fun e w' => e = .returned (.bool true) ∧ Below w.heap.size w w' := by
  obtain ⟨k, h⟩ := P a0 a1 a2 w0 w1 w2
  refine (graverlaw02_SpanParts.calls k a0 a1 a2 true w rfl h).mono ?_
  rintro e w' ⟨rfl, hd⟩
  exact ⟨rfl, hd⟩

end Go.Proofs.Yteoeohkjomehoaa.Q
