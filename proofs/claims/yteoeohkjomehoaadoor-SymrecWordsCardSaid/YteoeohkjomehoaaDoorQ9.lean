/- What Go functions of the program compute, each as a Lean function with the proof that the call returns just that. No condition but those in the statements. -/
import Derived.Test.YteoeohkjomehoaaDoorQ0
import Derived.Test.YteoeohkjomehoaaDoorQ8
import Derived.Test.YteoeohkjomehoaaDoorPts
import Derived.Test.YteoeohkjomehoaaDoorPts
namespace Go.Proofs.YteoeohkjomehoaaDoor.Q
open Go.RowKit Go.Proofs.YteoeohkjomehoaaDoorW.PrintWords Go.Proofs.YteoeohkjomehoaaDoorW.PrintLast Go.Proofs.YteoeohkjomehoaaDoorW.PrintMore
attribute [local go_sem] max2_int min2_int max_two min_two max_three min_three max_four min_four   -- for this text's walks alone
set_option linter.unusedVariables false
set_option linter.unusedSimpArgs false

/-! ### symrec_named: function 70 -/
def symrec_named.f (a0 : Int) (l1 : List ByteArray) : Option (ByteArray) := if a0 < (IntKind.u64.wrap ((l1.length : Int))) then (if 0 ≤ a0 then (if a0 < (l1.length : Int) then (some (rdOf ByteArray.empty l1 a0)) else (none)) else (none)) else ((strconv_FormatUint.f a0 10).bind fun t153 => (some t153))
set_option maxHeartbeats 8000000 in
set_option maxRecDepth 100000 in
theorem symrec_named.calls (a0 : Int) (A1 : Option Addr) (c1 : Nat) (l1 : List ByteArray) (r : ByteArray) (w : World) (hlaid_strconv : Laid_strconv w) (hr1 : Kd.C Kd.string w A1 l1.length l1) (hc1 : l1.length ≤ c1) (h : symrec_named.f a0 l1 = some r) :
    Calls Tryd.prog 70 #[.int .u64 a0, .slice A1 l1.length c1] w fun e w' => e = .returned (.string r) ∧ Below w.heap.size w w' := by
  have HR1 := Aside0.mk hr1
  have HC1 := Aside0.mk hc1
  clear hr1 hc1
  have HB := Aside0.mk (Below.refl w.heap.size w)
  have HLD_strconv := Aside0.mk hlaid_strconv
  clear hlaid_strconv
  have H : (if a0 < (IntKind.u64.wrap ((l1.length : Int))) then (if 0 ≤ a0 then (if a0 < (l1.length : Int) then (some (rdOf ByteArray.empty l1 a0)) else (none)) else (none)) else ((strconv_FormatUint.f a0 10).bind fun t153 => (some t153))) = some r := h
  clear h
  by_cases c3 : a0 < (IntKind.u64.wrap ((l1.length : Int)))
  · rw [if_pos c3] at H
    have c3b0 : decide (a0 < (IntKind.u64.wrap ((l1.length : Int)))) = true := decide_eq_true c3
    clear c3
    by_cases c4 : 0 ≤ a0
    · rw [if_pos c4] at H
      have c4b0 : decide (0 ≤ a0) = true := decide_eq_true c4
      clear c4
      by_cases c5 : a0 < (l1.length : Int)
      · rw [if_pos c5] at H
        have c5b0 : decide (a0 < (l1.length : Int)) = true := decide_eq_true c5
        clear c5
        obtain rfl := Option.some.inj H
        have p152 : 0 ≤ (a0 : Int) := of_decide_eq_true (by first | (with_reducible assumption) | assumption)
        have q152 : a0 < (l1.length : Int) := of_decide_eq_true (by first | (with_reducible assumption) | assumption)
        obtain ⟨ad152, e152, hx152_0⟩ := Kd.at_string HR1.out a0 p152 q152
        cases e152
        replace p152 := eq_true p152
        replace q152 := eq_true q152
        go_enter Tryd.func70, Tryd.ntmps70
        go_wp2
        go_ret
        exact ⟨by first | rfl | (simp [errW_none, errW_some] <;> rfl) | (simp [*, errW_none, errW_some] <;> rfl), by repeat (first | (with_reducible first | exact HB.out | apply below_alloc | apply pw_below_drewN | apply below_drew1) | exact HB.out)⟩
      · rw [if_neg c5] at H
        exact absurd H (by simp)
    · rw [if_neg c4] at H
      exact absurd H (by simp)
  · rw [if_neg c3] at H
    have c3b0 : decide (a0 < (IntKind.u64.wrap ((l1.length : Int)))) = false := decide_eq_false c3
    clear c3
    replace H := Option.bind_eq_some_iff.mp H
    obtain ⟨t153, A60, H⟩ := H
    replace H : (some t153) = some r := H
    have A6 := Aside0.mk A60
    clear A60
    obtain rfl := Option.some.inj H
    go_enter Tryd.func70, Tryd.ntmps70
    go_wp2_with (first | ((with_reducible refine gate_callee (f := 71) rfl ?_); refine goesL_ (some 15) rfl rfl Tryd.func71 (by kernel_rfl) rfl #[.int .u64 a0, .int .i64 10] rfl (by (try simp only [List.map_toArray, List.map_cons, List.map_nil]); first | done | rfl | (simp only [List.length_drop, List.length_take]; rfl)) ?_; (with_reducible refine (strconv_FormatUint.calls a0 10 t153 _ ?side1 A6.out).mono ?_); (case side1 => exact Laid_strconv.below HLD_strconv.out (by repeat (first | (with_reducible first | exact HB.out | apply below_alloc | apply pw_below_drewN | apply below_drew1) | exact HB.out))); rintro e w7 ⟨rfl, hb⟩; refine ⟨_, rfl, ?_⟩; have n0_ := Aside0.mk (below_step (by repeat (first | (with_reducible first | exact HB.out | apply below_alloc | apply pw_below_drewN | apply below_drew1) | exact HB.out)) hb); clear HB; have HB := n0_; clear n0_; (try clear hb); (try clear hb2); (try clear hk); (try clear hi)))
    go_ret
    exact ⟨by first | rfl | (simp [errW_none, errW_some] <;> rfl) | (simp [*, errW_none, errW_some] <;> rfl), by repeat (first | (with_reducible first | exact HB.out | apply below_alloc | apply pw_below_drewN | apply below_drew1) | exact HB.out)⟩

/-! ### symrec_BindName: function 33 -/
def symrec_BindName.f (a0 : Int) : Option (ByteArray) := symrec_named.f a0 tabS_symrec_bindings
set_option maxHeartbeats 1000000 in
theorem symrec_BindName.calls (a0 : Int) (r : ByteArray) (w : World) (hlaid_strconv : Laid_strconv w) (hlaid_symrecn : Laid_symrecn w) (h : symrec_BindName.f a0 = some r) :
    Calls Tryd.prog 33 #[.int .u64 a0] w fun e w' => e = .returned (.string r) ∧ Below w.heap.size w w' := by
  have hc := symrec_named.calls a0 (some ⟨0, 0, none⟩) tabS_symrec_bindings.length tabS_symrec_bindings r w hlaid_strconv hlaid_symrecn.symrec_bindings (Nat.le_refl _) h
  have hc2 : Calls Tryd.prog 70 #[.int .u64 a0, .slice (some ⟨0, 0, none⟩) tabS_symrec_bindings.length tabS_symrec_bindings.length] w fun e w' => e = .returned (.string r) ∧ Below w.heap.size w w' := hc
  rw [show tabS_symrec_bindings.length = 3 from rfl] at hc2
  clear h hc hlaid_strconv hlaid_symrecn
  go_enter Tryd.func33, Tryd.ntmps33
  go_wp2_with (go_at_call 70; refine hc2.mono ?_; rintro e w' ⟨rfl, hb⟩)
  go_ret
  exact ⟨rfl, hb⟩


/-! ### symrec_KindName: function 34 -/
def symrec_KindName.f (a0 : Int) : Option (ByteArray) := symrec_named.f a0 tabS_symrec_kinds
set_option maxHeartbeats 1000000 in
theorem symrec_KindName.calls (a0 : Int) (r : ByteArray) (w : World) (hlaid_strconv : Laid_strconv w) (hlaid_symrecn : Laid_symrecn w) (h : symrec_KindName.f a0 = some r) :
    Calls Tryd.prog 34 #[.int .u64 a0] w fun e w' => e = .returned (.string r) ∧ Below w.heap.size w w' := by
  have hc := symrec_named.calls a0 (some ⟨1, 0, none⟩) tabS_symrec_kinds.length tabS_symrec_kinds r w hlaid_strconv hlaid_symrecn.symrec_kinds (Nat.le_refl _) h
  have hc2 : Calls Tryd.prog 70 #[.int .u64 a0, .slice (some ⟨1, 0, none⟩) tabS_symrec_kinds.length tabS_symrec_kinds.length] w fun e w' => e = .returned (.string r) ∧ Below w.heap.size w w' := hc
  rw [show tabS_symrec_kinds.length = 7 from rfl] at hc2
  clear h hc hlaid_strconv hlaid_symrecn
  go_enter Tryd.func34, Tryd.ntmps34
  go_wp2_with (go_at_call 70; refine hc2.mono ?_; rintro e w' ⟨rfl, hb⟩)
  go_ret
  exact ⟨rfl, hb⟩


/-! ### symrec_PlaceName: function 35 -/
def symrec_PlaceName.f (a0 : Int) : Option (ByteArray) := if a0 = 0 then (some (⟨#[85, 78, 68]⟩ : ByteArray)) else (if a0 = 65521 then (some (⟨#[65, 66, 83]⟩ : ByteArray)) else (if a0 = 65522 then (some (⟨#[67, 79, 77]⟩ : ByteArray)) else ((strconv_FormatUint.f a0 10).bind fun t154 => (some t154))))
set_option maxHeartbeats 8000000 in
set_option maxRecDepth 100000 in
theorem symrec_PlaceName.calls (a0 : Int) (r : ByteArray) (w : World) (hlaid_strconv : Laid_strconv w) (h : symrec_PlaceName.f a0 = some r) :
    Calls Tryd.prog 35 #[.int .u64 a0] w fun e w' => e = .returned (.string r) ∧ Below w.heap.size w w' := by
  have HB := Aside0.mk (Below.refl w.heap.size w)
  have HLD_strconv := Aside0.mk hlaid_strconv
  clear hlaid_strconv
  have H : (if a0 = 0 then (some (⟨#[85, 78, 68]⟩ : ByteArray)) else (if a0 = 65521 then (some (⟨#[65, 66, 83]⟩ : ByteArray)) else (if a0 = 65522 then (some (⟨#[67, 79, 77]⟩ : ByteArray)) else ((strconv_FormatUint.f a0 10).bind fun t154 => (some t154))))) = some r := h
  clear h
  by_cases c2 : a0 = 0
  · rw [if_pos c2] at H
    have c2b0 : (a0 == 0) = true := beq_iff_eq.mpr c2
    have c2b1 : (a0 != 0) = false := bne_eq_false_iff_eq.mpr c2
    clear c2
    obtain rfl := Option.some.inj H
    go_enter Tryd.func35, Tryd.ntmps35
    go_wp2
    go_ret
    exact ⟨by first | rfl | (simp [errW_none, errW_some] <;> rfl) | (simp [*, errW_none, errW_some] <;> rfl), by repeat (first | (with_reducible first | exact HB.out | apply below_alloc | apply pw_below_drewN | apply below_drew1) | exact HB.out)⟩
  · rw [if_neg c2] at H
    have c2b0 : (a0 == 0) = false := beq_eq_false_iff_ne.mpr c2
    have c2b1 : (a0 != 0) = true := bne_iff_ne.mpr c2
    by_cases c3 : a0 = 65521
    · rw [if_pos c3] at H
      have c3b0 : (a0 == 65521) = true := beq_iff_eq.mpr c3
      have c3b1 : (a0 != 65521) = false := bne_eq_false_iff_eq.mpr c3
      clear c3
      obtain rfl := Option.some.inj H
      go_enter Tryd.func35, Tryd.ntmps35
      go_wp2
      go_ret
      exact ⟨by first | rfl | (simp [errW_none, errW_some] <;> rfl) | (simp [*, errW_none, errW_some] <;> rfl), by repeat (first | (with_reducible first | exact HB.out | apply below_alloc | apply pw_below_drewN | apply below_drew1) | exact HB.out)⟩
    · rw [if_neg c3] at H
      have c3b0 : (a0 == 65521) = false := beq_eq_false_iff_ne.mpr c3
      have c3b1 : (a0 != 65521) = true := bne_iff_ne.mpr c3
      by_cases c4 : a0 = 65522
      · rw [if_pos c4] at H
        have c4b0 : (a0 == 65522) = true := beq_iff_eq.mpr c4
        have c4b1 : (a0 != 65522) = false := bne_eq_false_iff_eq.mpr c4
        clear c4
        obtain rfl := Option.some.inj H
        go_enter Tryd.func35, Tryd.ntmps35
        go_wp2
        go_ret
        exact ⟨by first | rfl | (simp [errW_none, errW_some] <;> rfl) | (simp [*, errW_none, errW_some] <;> rfl), by repeat (first | (with_reducible first | exact HB.out | apply below_alloc | apply pw_below_drewN | apply below_drew1) | exact HB.out)⟩
      · rw [if_neg c4] at H
        have c4b0 : (a0 == 65522) = false := beq_eq_false_iff_ne.mpr c4
        have c4b1 : (a0 != 65522) = true := bne_iff_ne.mpr c4
        replace H := Option.bind_eq_some_iff.mp H
        obtain ⟨t154, A50, H⟩ := H
        replace H : (some t154) = some r := H
        have A5 := Aside0.mk A50
        clear A50
        obtain rfl := Option.some.inj H
        go_enter Tryd.func35, Tryd.ntmps35
        go_wp2_with (first | ((with_reducible refine gate_callee (f := 71) rfl ?_); refine goesL_ (some 11) rfl rfl Tryd.func71 (by kernel_rfl) rfl #[.int .u64 a0, .int .i64 10] rfl (by (try simp only [List.map_toArray, List.map_cons, List.map_nil]); first | done | rfl | (simp only [List.length_drop, List.length_take]; rfl)) ?_; (with_reducible refine (strconv_FormatUint.calls a0 10 t154 _ ?side1 A5.out).mono ?_); (case side1 => exact Laid_strconv.below HLD_strconv.out (by repeat (first | (with_reducible first | exact HB.out | apply below_alloc | apply pw_below_drewN | apply below_drew1) | exact HB.out))); rintro e w6 ⟨rfl, hb⟩; refine ⟨_, rfl, ?_⟩; have n0_ := Aside0.mk (below_step (by repeat (first | (with_reducible first | exact HB.out | apply below_alloc | apply pw_below_drewN | apply below_drew1) | exact HB.out)) hb); clear HB; have HB := n0_; clear n0_; (try clear hb); (try clear hb2); (try clear hk); (try clear hi)))
        go_ret
        exact ⟨by first | rfl | (simp [errW_none, errW_some] <;> rfl) | (simp [*, errW_none, errW_some] <;> rfl), by repeat (first | (with_reducible first | exact HB.out | apply below_alloc | apply pw_below_drewN | apply below_drew1) | exact HB.out)⟩

end Go.Proofs.YteoeohkjomehoaaDoor.Q
