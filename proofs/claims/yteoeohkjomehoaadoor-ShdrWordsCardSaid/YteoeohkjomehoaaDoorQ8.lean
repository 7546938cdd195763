/- What Go functions of the program compute, each as a Lean function with the proof that the call returns just that. No condition but those in the statements. -/
import Derived.Test.YteoeohkjomehoaaDoorQ0
import Derived.Test.YteoeohkjomehoaaDoorQ7
import Derived.Test.YteoeohkjomehoaaDoorPts
namespace Go.Proofs.YteoeohkjomehoaaDoor.Q
open Go.RowKit Go.Proofs.YteoeohkjomehoaaDoorW.PrintWords Go.Proofs.YteoeohkjomehoaaDoorW.PrintLast Go.Proofs.YteoeohkjomehoaaDoorW.PrintMore
attribute [local go_sem] max2_int min2_int max_two min_two max_three min_three max_four min_four   -- for this text's walks alone
set_option linter.unusedVariables false
set_option linter.unusedSimpArgs false

/-! ### shdr_hex: function 73 -/
def shdr_hex.f (a0 : Int) : Option (ByteArray) := (strconv_FormatUint.f a0 16).bind fun t156 => (if 2 + t156.size ≤ 9223372036854775807 then (some ((⟨#[48, 120]⟩ : ByteArray) ++ t156)) else (none))
set_option maxHeartbeats 8000000 in
set_option maxRecDepth 100000 in
theorem shdr_hex.calls (a0 : Int) (r : ByteArray) (w : World) (hlaid_strconv : Laid_strconv w) (h : shdr_hex.f a0 = some r) :
    Calls Tryd.prog 73 #[.int .u64 a0] w fun e w' => e = .returned (.string r) ∧ Below w.heap.size w w' := by
  have HB := Aside0.mk (Below.refl w.heap.size w)
  have HLD_strconv := Aside0.mk hlaid_strconv
  clear hlaid_strconv
  have H : ((strconv_FormatUint.f a0 16).bind fun t156 => (if 2 + t156.size ≤ 9223372036854775807 then (some ((⟨#[48, 120]⟩ : ByteArray) ++ t156)) else (none))) = some r := h
  clear h
  replace H := Option.bind_eq_some_iff.mp H
  obtain ⟨t156, A20, H⟩ := H
  replace H : (if 2 + t156.size ≤ 9223372036854775807 then (some ((⟨#[48, 120]⟩ : ByteArray) ++ t156)) else (none)) = some r := H
  have A2 := Aside0.mk A20
  clear A20
  by_cases c3 : 2 + t156.size ≤ 9223372036854775807
  · rw [if_pos c3] at H
    have c3b0 := eq_true c3
    have c3b1 : decide (2 + t156.size ≤ 9223372036854775807) = true := decide_eq_true c3
    try have c3b2 : (9223372036854775807 < 2 + t156.size) = False := eq_false (Nat.not_lt.2 c3)
    obtain rfl := Option.some.inj H
    go_enter Tryd.func73, Tryd.ntmps73
    go_wp2_with (first | ((with_reducible refine gate_callee (f := 71) rfl ?_); refine goesL_ (some 4) rfl rfl Tryd.func71 (by kernel_rfl) rfl #[.int .u64 a0, .int .i64 16] rfl (by (try simp only [List.map_toArray, List.map_cons, List.map_nil]); first | done | rfl | (simp only [List.length_drop, List.length_take]; rfl)) ?_; (with_reducible refine (strconv_FormatUint.calls a0 16 t156 _ ?side1 A2.out).mono ?_); (case side1 => exact Laid_strconv.below HLD_strconv.out (by repeat (first | (with_reducible first | exact HB.out | apply below_alloc | apply pw_below_drewN | apply below_drew1) | exact HB.out))); rintro e w4 ⟨rfl, hb⟩; refine ⟨_, rfl, ?_⟩; have n0_ := Aside0.mk (below_step (by repeat (first | (with_reducible first | exact HB.out | apply below_alloc | apply pw_below_drewN | apply below_drew1) | exact HB.out)) hb); clear HB; have HB := n0_; clear n0_; (try clear hb); (try clear hb2); (try clear hk); (try clear hi)))
    go_ret
    exact ⟨by first | rfl | (simp [errW_none, errW_some] <;> rfl) | (simp [*, errW_none, errW_some] <;> rfl), by repeat (first | (with_reducible first | exact HB.out | apply below_alloc | apply pw_below_drewN | apply below_drew1) | exact HB.out)⟩
  · rw [if_neg c3] at H
    exact absurd H (by simp)

/-! ### shdr_TypeName: function 37 -/
def shdr_TypeName.f (a0 : Int) : Option (ByteArray) := if a0 < 19 then (if 0 ≤ a0 then (if (rdOf ByteArray.empty tabS_shdr_names a0).data.toList = [] then shdr_hex.f a0 else some (rdOf ByteArray.empty tabS_shdr_names a0)) else none) else shdr_hex.f a0
set_option maxHeartbeats 4000000 in
set_option maxRecDepth 100000 in
theorem shdr_TypeName.calls (a0 : Int) (r : ByteArray) (w : World) (hlaid_shdrn : Laid_shdrn w) (hlaid_strconv : Laid_strconv w) (h : shdr_TypeName.f a0 = some r) :
    Calls Tryd.prog 37 #[.int .u64 a0] w fun e w' => e = .returned (.string r) ∧ Below w.heap.size w w' := by
  unfold shdr_TypeName.f at h
  have hx : shdr_hex.f a0 = some r → Calls Tryd.prog 73 #[.int .u64 a0] w fun e w' => e = .returned (.string r) ∧ Below w.heap.size w w' := fun h2 => shdr_hex.calls a0 r w hlaid_strconv h2
  by_cases c : a0 < 19
  · rw [if_pos c] at h
    by_cases c0 : 0 ≤ a0
    · rw [if_pos c0] at h
      obtain ⟨i, rfl⟩ := Int.eq_ofNat_of_zero_le c0
      have hcell : w.cell? ⟨2, i, none⟩ = some (.string (rdOf ByteArray.empty tabS_shdr_names (i : Int))) := by
        obtain ⟨ad, e, hc⟩ := Kd.at_string hlaid_shdrn.shdr_names (i : Int) c0 (by show (i : Int) < ((19 : Nat) : Int); omega)
        cases e
        simpa [add_plain] using hc
      generalize rdOf ByteArray.empty tabS_shdr_names (i : Int) = s at h hcell
      clear hlaid_shdrn hlaid_strconv
      have hlt : decide ((i : Int) < 19) = true := decide_eq_true c
      by_cases ce : s.data.toList = []
      · rw [if_pos ce] at h
        obtain ⟨d⟩ := s
        obtain rfl : d = #[] := by simpa using ce
        have hcall := hx h
        clear h hx ce
        go_enter Tryd.func37, Tryd.ntmps37
        go_wp2_with (go_at_call 73; refine hcall.mono ?_; rintro e w' ⟨rfl, hb⟩)
        go_ret
        exact ⟨rfl, hb⟩
      · rw [if_neg ce] at h
        obtain rfl := Option.some.inj h
        clear h hx
        have e0 : (s.toList == ([] : List UInt8)) = false := by rw [ByteArray.toList_eq]; simpa using ce
        have e1 : (s.toList != ([] : List UInt8)) = true := by rw [ByteArray.toList_eq]; simpa using ce
        have e2 : (!s.toList.isEmpty) = true := by rw [ByteArray.toList_eq]; simpa using ce
        have e3 : ¬ s.toList = ([] : List UInt8) := by rw [ByteArray.toList_eq]; exact ce
        clear ce
        go_enter Tryd.func37, Tryd.ntmps37
        go_wp2
        go_ret
        exact ⟨rfl, Below.refl _ _⟩
    · rw [if_neg c0] at h; cases h
  · rw [if_neg c] at h
    have hcall := hx h
    have hlt : decide (a0 < 19) = false := decide_eq_false c
    clear h hx c hlaid_shdrn hlaid_strconv
    go_enter Tryd.func37, Tryd.ntmps37
    go_wp2_with (go_at_call 73; refine hcall.mono ?_; rintro e w' ⟨rfl, hb⟩)
    go_ret
    exact ⟨rfl, hb⟩


/-! ### shdr_FlagLetters: function 38 -/
def shdr_FlagLetters.l0 : Nat → Int → ByteArray → Int → Int → Option (ByteArray)
  | 0, _, _, _, _ => none
  | k + 1, x0, x3, x4, x8 => if x8 < 12 then (if 0 ≤ x8 then (if (Go.bits .and .u64 x0 (shl .u64 1 x8)) = 0 then (shdr_FlagLetters.l0 k x0 x3 x4 (wrap64 (x8 + 1))) else (if (bt (⟨#[87, 65, 88, 32, 77, 83, 73, 76, 79, 71, 84, 67]⟩ : ByteArray) x8) = 32 then (shdr_FlagLetters.l0 k x0 x3 x4 (wrap64 (x8 + 1))) else (if x8 ≤ (wrap64 (x8 + 1)) then (if (wrap64 (x8 + 1)) ≤ 12 then (if x3.size + ((⟨#[87, 65, 88, 32, 77, 83, 73, 76, 79, 71, 84, 67]⟩ : ByteArray).extract (x8 : Int).toNat ((wrap64 (x8 + 1)) : Int).toNat).size ≤ 9223372036854775807 then (shdr_FlagLetters.l0 k x0 (x3 ++ ((⟨#[87, 65, 88, 32, 77, 83, 73, 76, 79, 71, 84, 67]⟩ : ByteArray).extract (x8 : Int).toNat ((wrap64 (x8 + 1)) : Int).toNat)) (Go.bits .andNot .u64 x4 (shl .u64 1 x8)) (wrap64 (x8 + 1))) else (none)) else (none)) else (none)))) else (none)) else (if x4 = 0 then (some x3) else ((shdr_hex.f x4).bind fun t157 => (if 1 + t157.size ≤ 9223372036854775807 then (if x3.size + ((⟨#[43]⟩ : ByteArray) ++ t157).size ≤ 9223372036854775807 then (some (x3 ++ ((⟨#[43]⟩ : ByteArray) ++ t157))) else (none)) else (none))))
def shdr_FlagLetters.f (k : Nat) (a0 : Int) : Option (ByteArray) := shdr_FlagLetters.l0 k a0 (⟨#[]⟩ : ByteArray) a0 0
theorem shdr_FlagLetters.mono_l : ∀ k, (∀ y0 y1 y2 y3, LeO (shdr_FlagLetters.l0 k y0 y1 y2 y3) (shdr_FlagLetters.l0 (k + 1) y0 y1 y2 y3))
  | 0 => fun _ _ _ _ r h => by simp [shdr_FlagLetters.l0] at h
  | k + 1 => by
    have ih0 := shdr_FlagLetters.mono_l k
    · intro y0 y1 y2 y3
      unfold shdr_FlagLetters.l0
      repeat' first
      | (with_reducible exact ih0 _ _ _ _)
      | (with_reducible exact LeO.refl _)
      | (with_reducible exact LeO.none _)
      | (with_reducible refine LeO.ite ?_ ?_)
      | (with_reducible refine LeO.bind ?_ (fun _ => ?_))
      | exact ih0 _ _ _ _
      | exact LeO.none _
      | refine LeO.ite ?_ ?_
      | refine LeO.bind ?_ (fun _ => ?_)
theorem shdr_FlagLetters.mono : ∀ a0 k, LeO (shdr_FlagLetters.f k a0) (shdr_FlagLetters.f (k + 1) a0) := by
  intro a0 k
  have ih0 := shdr_FlagLetters.mono_l k
  unfold shdr_FlagLetters.f
  repeat' first
      | (with_reducible exact ih0 _ _ _ _)
      | (with_reducible exact LeO.refl _)
      | (with_reducible exact LeO.none _)
      | (with_reducible refine LeO.ite ?_ ?_)
      | (with_reducible refine LeO.bind ?_ (fun _ => ?_))
      | exact ih0 _ _ _ _
      | exact LeO.none _
      | refine LeO.ite ?_ ?_
      | refine LeO.bind ?_ (fun _ => ?_)
set_option maxHeartbeats 8000000 in
set_option maxRecDepth 100000 in
theorem shdr_FlagLetters.calls (k : Nat) (a0 : Int) (r : ByteArray) (w : World) (hlaid_strconv : Laid_strconv w) (h : shdr_FlagLetters.f k a0 = some r) :
    Calls Tryd.prog 38 #[.int .u64 a0] w fun e w' => e = .returned (.string r) ∧ Below w.heap.size w w' := by
  have HB := Aside0.mk (Below.refl w.heap.size w)
  have HLD_strconv := Aside0.mk hlaid_strconv
  clear hlaid_strconv
  have H : (shdr_FlagLetters.l0 k a0 (⟨#[]⟩ : ByteArray) a0 0) = some r := h
  clear h
  have H' := Aside0.mk H
  clear H
  go_enter Tryd.func38, Tryd.ntmps38
  go_wp2
  go_loopg [3, 4, 8] k (fun kq v3 v4 v8 w' => ∃ (x3_1 : ByteArray) (x4_1 : Int) (x8_1 : Int), v3 = .string x3_1 ∧ v4 = .int .u64 x4_1 ∧ v8 = .int .i64 x8_1 ∧ Aside0 (shdr_FlagLetters.l0 kq a0 x3_1 x4_1 x8_1 = some r) ∧ Aside0 (kq ≤ k) ∧ Aside0 (Below w.heap.size w w'))
  case atStart => exact ⟨((⟨#[]⟩ : ByteArray)), (a0), (0), (by first | rfl | (simp; done) | (simp [*]; done)), (by first | rfl | (simp; done) | (simp [*]; done)), (by first | rfl | (simp; done) | (simp [*]; done)), H', ⟨Nat.le_refl _⟩, ⟨by repeat (first | (with_reducible first | exact HB.out | apply below_alloc | apply pw_below_drewN | apply below_drew1) | exact HB.out)⟩⟩
  case round =>
    clear H'
    obtain ⟨x3_1, x4_1, x8_1, rfl, rfl, rfl, HA, HK1, HB⟩ := hrel
    cases gk with
    | zero => exact absurd HA.out (by simp [shdr_FlagLetters.l0])
    | succ k1 =>
      have H := HA.out
      clear HA
      simp only [shdr_FlagLetters.l0] at H
      by_cases c2 : x8_1 < 12
      · rw [if_pos c2] at H
        have c2b0 : decide (x8_1 < 12) = true := decide_eq_true c2
        clear c2
        by_cases c3 : 0 ≤ x8_1
        · rw [if_pos c3] at H
          have c3b0 := eq_true c3
          have c3b1 : decide (0 ≤ x8_1) = true := decide_eq_true c3
          clear c3
          obtain ⟨ji4, hji4⟩ : ∃ j_ : Int, (shl .u64 1 x8_1) = j_ := ⟨_, rfl⟩
          replace H : (if (Go.bits .and .u64 a0 (ji4)) = 0 then (shdr_FlagLetters.l0 k1 a0 x3_1 x4_1 (wrap64 (x8_1 + 1))) else (if (bt (⟨#[87, 65, 88, 32, 77, 83, 73, 76, 79, 71, 84, 67]⟩ : ByteArray) x8_1) = 32 then (shdr_FlagLetters.l0 k1 a0 x3_1 x4_1 (wrap64 (x8_1 + 1))) else (if x8_1 ≤ (wrap64 (x8_1 + 1)) then (if (wrap64 (x8_1 + 1)) ≤ 12 then (if x3_1.size + ((⟨#[87, 65, 88, 32, 77, 83, 73, 76, 79, 71, 84, 67]⟩ : ByteArray).extract (x8_1 : Int).toNat ((wrap64 (x8_1 + 1)) : Int).toNat).size ≤ 9223372036854775807 then (shdr_FlagLetters.l0 k1 a0 (x3_1 ++ ((⟨#[87, 65, 88, 32, 77, 83, 73, 76, 79, 71, 84, 67]⟩ : ByteArray).extract (x8_1 : Int).toNat ((wrap64 (x8_1 + 1)) : Int).toNat)) (Go.bits .andNot .u64 x4_1 (ji4)) (wrap64 (x8_1 + 1))) else (none)) else (none)) else (none)))) = some r := by first | (rw [hji4] at H; exact H) | (simp only [hji4] at H ⊢; exact H)
          have hji4_ : (IntKind.u64.wrap (1 * 2 ^ min x8_1.toNat 64)) = ji4 := hji4
          have hji4z : x8_1 ≤ 64 → (IntKind.u64.wrap (1 * 2 ^ x8_1.toNat)) = ji4 := shl_small hji4
          (try have hji4y := hji4z (by first | omega | (simp only [decide_eq_true_eq] at *; omega)))
          have hji4u : (IntKind.u64.wrap (2 ^ min x8_1.toNat 64)) = ji4 := by have h_ := hji4_; rw [Int.one_mul] at h_; exact h_
          have hji4v : x8_1 ≤ 64 → (IntKind.u64.wrap (2 ^ x8_1.toNat)) = ji4 := fun hle_ => by have h_ := hji4z hle_; rw [Int.one_mul] at h_; exact h_
          by_cases c5 : (Go.bits .and .u64 a0 (ji4)) = 0
          · rw [if_pos c5] at H
            have c5b0 : ((Go.bits .and .u64 a0 (ji4)) == 0) = true := beq_iff_eq.mpr c5
            have c5b1 : ((Go.bits .and .u64 a0 (ji4)) != 0) = false := bne_eq_false_iff_eq.mpr c5
            clear c5
            have H' := Aside0.mk H
            clear H
            go_wp2
            go_roundg k1
            case measure => have := HK1.out; omega
            case rel => exact ⟨(x3_1), (x4_1), (wrap64 (x8_1 + 1)), (by first | rfl | (simp; done) | (simp [*]; done)), (by first | rfl | (simp; done) | (simp [*]; done)), (by first | rfl | (simp; done) | (simp [*]; done)), H', ⟨by have := HK1.out; omega⟩, ⟨by repeat (first | (with_reducible first | exact HB.out | apply below_alloc | apply pw_below_drewN | apply below_drew1) | exact HB.out)⟩⟩
          · rw [if_neg c5] at H
            have c5b0 : ((Go.bits .and .u64 a0 (ji4)) == 0) = false := beq_eq_false_iff_ne.mpr c5
            have c5b1 : ((Go.bits .and .u64 a0 (ji4)) != 0) = true := bne_iff_ne.mpr c5
            by_cases c7 : (bt (⟨#[87, 65, 88, 32, 77, 83, 73, 76, 79, 71, 84, 67]⟩ : ByteArray) x8_1) = 32
            · rw [if_pos c7] at H
              have c7b0 : ((bt (⟨#[87, 65, 88, 32, 77, 83, 73, 76, 79, 71, 84, 67]⟩ : ByteArray) x8_1) == 32) = true := beq_iff_eq.mpr c7
              have c7b1 : ((bt (⟨#[87, 65, 88, 32, 77, 83, 73, 76, 79, 71, 84, 67]⟩ : ByteArray) x8_1) != 32) = false := bne_eq_false_iff_eq.mpr c7
              clear c7
              have H' := Aside0.mk H
              clear H
              have p6 : 0 ≤ (x8_1 : Int) := of_decide_eq_true (by first | (with_reducible assumption) | assumption)
              have q6 : x8_1 < (12 : Int) := of_decide_eq_true (by first | (with_reducible assumption) | assumption)
              have hx6 := bt_at (⟨#[87, 65, 88, 32, 77, 83, 73, 76, 79, 71, 84, 67]⟩ : ByteArray) x8_1
              replace p6 := eq_true p6
              replace q6 := eq_true q6
              go_wp2
              go_roundg k1
              case measure => have := HK1.out; omega
              case rel => exact ⟨(x3_1), (x4_1), (wrap64 (x8_1 + 1)), (by first | rfl | (simp; done) | (simp [*]; done)), (by first | rfl | (simp; done) | (simp [*]; done)), (by first | rfl | (simp; done) | (simp [*]; done)), H', ⟨by have := HK1.out; omega⟩, ⟨by repeat (first | (with_reducible first | exact HB.out | apply below_alloc | apply pw_below_drewN | apply below_drew1) | exact HB.out)⟩⟩
            · rw [if_neg c7] at H
              have c7b0 : ((bt (⟨#[87, 65, 88, 32, 77, 83, 73, 76, 79, 71, 84, 67]⟩ : ByteArray) x8_1) == 32) = false := beq_eq_false_iff_ne.mpr c7
              have c7b1 : ((bt (⟨#[87, 65, 88, 32, 77, 83, 73, 76, 79, 71, 84, 67]⟩ : ByteArray) x8_1) != 32) = true := bne_iff_ne.mpr c7
              have c8b0 := eq_true (of_decide_eq_true (by first | (with_reducible assumption) | assumption) : 0 ≤ x8_1)
              by_cases c9 : x8_1 ≤ (wrap64 (x8_1 + 1))
              · rw [if_pos c9] at H
                have c9b0 := eq_true c9
                have c9b1 : decide (x8_1 ≤ (wrap64 (x8_1 + 1))) = true := decide_eq_true c9
                by_cases c10 : (wrap64 (x8_1 + 1)) ≤ 12
                · rw [if_pos c10] at H
                  have c10b0 := eq_true c10
                  have c10b1 : decide ((wrap64 (x8_1 + 1)) ≤ 12) = true := decide_eq_true c10
                  by_cases c11 : x3_1.size + ((⟨#[87, 65, 88, 32, 77, 83, 73, 76, 79, 71, 84, 67]⟩ : ByteArray).extract (x8_1 : Int).toNat ((wrap64 (x8_1 + 1)) : Int).toNat).size ≤ 9223372036854775807
                  · rw [if_pos c11] at H
                    have c11b0 := eq_true c11
                    have c11b1 : decide (x3_1.size + ((⟨#[87, 65, 88, 32, 77, 83, 73, 76, 79, 71, 84, 67]⟩ : ByteArray).extract (x8_1 : Int).toNat ((wrap64 (x8_1 + 1)) : Int).toNat).size ≤ 9223372036854775807) = true := decide_eq_true c11
                    try have c11b2 : (9223372036854775807 < x3_1.size + ((⟨#[87, 65, 88, 32, 77, 83, 73, 76, 79, 71, 84, 67]⟩ : ByteArray).extract (x8_1 : Int).toNat ((wrap64 (x8_1 + 1)) : Int).toNat).size) = False := eq_false (Nat.not_lt.2 c11)
                    have H' := Aside0.mk H
                    clear H
                    have p6 : 0 ≤ (x8_1 : Int) := of_decide_eq_true (by first | (with_reducible assumption) | assumption)
                    have q6 : x8_1 < (12 : Int) := of_decide_eq_true (by first | (with_reducible assumption) | assumption)
                    have hx6 := bt_at (⟨#[87, 65, 88, 32, 77, 83, 73, 76, 79, 71, 84, 67]⟩ : ByteArray) x8_1
                    replace p6 := eq_true p6
                    replace q6 := eq_true q6
                    go_wp2
                    go_roundg k1
                    case measure => have := HK1.out; omega
                    case rel => exact ⟨(x3_1 ++ ((⟨#[87, 65, 88, 32, 77, 83, 73, 76, 79, 71, 84, 67]⟩ : ByteArray).extract (x8_1 : Int).toNat ((wrap64 (x8_1 + 1)) : Int).toNat)), (Go.bits .andNot .u64 x4_1 (ji4)), (wrap64 (x8_1 + 1)), (by first | rfl | (simp; done) | (simp [*]; done)), (by first | rfl | (simp; done) | (simp only [← hji4] <;> (first | rfl | simp)) | (simp [*]; done)), (by first | rfl | (simp; done) | (simp [*]; done)), H', ⟨by have := HK1.out; omega⟩, ⟨by repeat (first | (with_reducible first | exact HB.out | apply below_alloc | apply pw_below_drewN | apply below_drew1) | exact HB.out)⟩⟩
                  · rw [if_neg c11] at H
                    exact absurd H (by simp)
                · rw [if_neg c10] at H
                  exact absurd H (by simp)
              · rw [if_neg c9] at H
                exact absurd H (by simp)
        · rw [if_neg c3] at H
          exact absurd H (by simp)
      · rw [if_neg c2] at H
        have c2b0 : decide (x8_1 < 12) = false := decide_eq_false c2
        clear c2
        by_cases c12 : x4_1 = 0
        · rw [if_pos c12] at H
          have c12b0 : (x4_1 == 0) = true := beq_iff_eq.mpr c12
          have c12b1 : (x4_1 != 0) = false := bne_eq_false_iff_eq.mpr c12
          clear c12
          obtain rfl := Option.some.inj H
          go_wp2
          go_ret
          exact ⟨by first | rfl | (simp [errW_none, errW_some] <;> rfl) | (simp [*, errW_none, errW_some] <;> rfl), by repeat (first | (with_reducible first | exact HB.out | apply below_alloc | apply pw_below_drewN | apply below_drew1) | exact HB.out)⟩
        · rw [if_neg c12] at H
          have c12b0 : (x4_1 == 0) = false := beq_eq_false_iff_ne.mpr c12
          have c12b1 : (x4_1 != 0) = true := bne_iff_ne.mpr c12
          replace H := Option.bind_eq_some_iff.mp H
          obtain ⟨t157, A130, H⟩ := H
          replace H : (if 1 + t157.size ≤ 9223372036854775807 then (if x3_1.size + ((⟨#[43]⟩ : ByteArray) ++ t157).size ≤ 9223372036854775807 then (some (x3_1 ++ ((⟨#[43]⟩ : ByteArray) ++ t157))) else (none)) else (none)) = some r := H
          have A13 := Aside0.mk A130
          clear A130
          by_cases c14 : 1 + t157.size ≤ 9223372036854775807
          · rw [if_pos c14] at H
            have c14b0 := eq_true c14
            have c14b1 : decide (1 + t157.size ≤ 9223372036854775807) = true := decide_eq_true c14
            try have c14b2 : (9223372036854775807 < 1 + t157.size) = False := eq_false (Nat.not_lt.2 c14)
            by_cases c15 : x3_1.size + ((⟨#[43]⟩ : ByteArray) ++ t157).size ≤ 9223372036854775807
            · rw [if_pos c15] at H
              have c15b0 := eq_true c15
              have c15b1 : decide (x3_1.size + ((⟨#[43]⟩ : ByteArray) ++ t157).size ≤ 9223372036854775807) = true := decide_eq_true c15
              try have c15b2 : (9223372036854775807 < x3_1.size + ((⟨#[43]⟩ : ByteArray) ++ t157).size) = False := eq_false (Nat.not_lt.2 c15)
              have c15b3 : (9223372036854775807 < x3_1.size + 1 + t157.size) = False := eq_false (by have h_ := c15; simp only [ByteArray.size_append, show (⟨#[43]⟩ : ByteArray).size = 1 from rfl] at h_; omega)
              obtain rfl := Option.some.inj H
              go_wp2_with (first | ((with_reducible refine gate_callee (f := 73) rfl ?_); refine goesL_ (some 36) rfl rfl Tryd.func73 (by kernel_rfl) rfl #[.int .u64 x4_1] rfl (by (try simp only [List.map_toArray, List.map_cons, List.map_nil]); first | done | rfl | (simp only [List.length_drop, List.length_take]; rfl)) ?_; (with_reducible refine (shdr_hex.calls x4_1 t157 _ ?side1 A13.out).mono ?_); (case side1 => exact Laid_strconv.below HLD_strconv.out (by repeat (first | (with_reducible first | exact HB.out | apply below_alloc | apply pw_below_drewN | apply below_drew1) | exact HB.out))); rintro e w16 ⟨rfl, hb⟩; refine ⟨_, rfl, ?_⟩; have n0_ := Aside0.mk (below_step (by repeat (first | (with_reducible first | exact HB.out | apply below_alloc | apply pw_below_drewN | apply below_drew1) | exact HB.out)) hb); clear HB; have HB := n0_; clear n0_; (try clear hb); (try clear hb2); (try clear hk); (try clear hi)))
              go_ret
              exact ⟨by first | rfl | (simp [errW_none, errW_some] <;> rfl) | (simp [*, errW_none, errW_some] <;> rfl), by repeat (first | (with_reducible first | exact HB.out | apply below_alloc | apply pw_below_drewN | apply below_drew1) | exact HB.out)⟩
            · rw [if_neg c15] at H
              exact absurd H (by simp)
          · rw [if_neg c14] at H
            exact absurd H (by simp)

end Go.Proofs.YteoeohkjomehoaaDoor.Q
