/- What Go functions of the program compute, each as a Lean function with the proof that the call returns just that. No condition but those in the statements. -/
import Derived.Test.YtjmjebbjfjgbeaaDoorQ0
import Derived.Test.YtjmjebbjfjgbeaaDoorQ8
import Derived.Test.YtjmjebbjfjgbeaaDoorPts
import Derived.Test.YtjmjebbjfjgbeaaDoorMrk
namespace Go.Proofs.YtjmjebbjfjgbeaaDoor.Q
open Go.RowKit Go.Proofs.YtjmjebbjfjgbeaaDoorW.PrintWords Go.Proofs.YtjmjebbjfjgbeaaDoorW.PrintLast Go.Proofs.YtjmjebbjfjgbeaaDoorW.PrintMore
attribute [local go_sem] max2_int min2_int max_two min_two max_three min_three max_four min_four   -- for this text's walks alone
set_option linter.unusedVariables false
set_option linter.unusedSimpArgs false

/-! ### phdr_TypeName: function 30 -/
def phdr_TypeName.f (a0 : Int) : Option (ByteArray) := if a0 < 8 then (if 0 ≤ a0 then some (rdOf ByteArray.empty tabS_phdr_names a0) else none) else ((strconv_FormatUint.f a0 16).bind fun t => (if 2 + t.size ≤ 9223372036854775807 then (some ((⟨#[48, 120]⟩ : ByteArray) ++ t)) else (none)))
set_option maxHeartbeats 4000000 in
set_option maxRecDepth 100000 in
theorem phdr_TypeName.calls (a0 : Int) (r : ByteArray) (w : World) (hlaid_phdrn : Laid_phdrn w) (hlaid_strconv : Laid_strconv w) (h : phdr_TypeName.f a0 = some r) :
    Calls Tryd.prog 30 #[.int .u64 a0] w fun e w' => e = .returned (.string r) ∧ Below w.heap.size w w' := by
  unfold phdr_TypeName.f at h
  by_cases c : a0 < 8
  · rw [if_pos c] at h
    by_cases c0 : 0 ≤ a0
    · rw [if_pos c0] at h
      obtain ⟨i, rfl⟩ := Int.eq_ofNat_of_zero_le c0
      have hcell : w.cell? ⟨2, i, none⟩ = some (.string (rdOf ByteArray.empty tabS_phdr_names (i : Int))) := by
        obtain ⟨ad, e, hc⟩ := Kd.at_string hlaid_phdrn.phdr_names (i : Int) c0 (by show (i : Int) < ((8 : Nat) : Int); omega)
        cases e
        simpa [add_plain] using hc
      obtain rfl := Option.some.inj h
      clear h
      generalize rdOf ByteArray.empty tabS_phdr_names (i : Int) = s at hcell ⊢
      clear hlaid_phdrn hlaid_strconv
      have hlt : decide ((i : Int) < 8) = true := decide_eq_true c
      go_enter Tryd.func30, Tryd.ntmps30
      go_wp2
      go_ret
      exact ⟨rfl, Below.refl _ _⟩
    · rw [if_neg c0] at h; cases h
  · rw [if_neg c] at h
    obtain ⟨t, ht, h⟩ := Option.bind_eq_some_iff.mp h
    have hcall := strconv_FormatUint.calls a0 16 t w hlaid_strconv ht
    by_cases c3 : 2 + t.size ≤ 9223372036854775807
    · rw [if_pos c3] at h
      obtain rfl := Option.some.inj h
      have c3b0 := eq_true c3
      have c3b1 : decide (2 + t.size ≤ 9223372036854775807) = true := decide_eq_true c3
      have c3b2 : (9223372036854775807 < 2 + t.size) = False := eq_false (Nat.not_lt.2 c3)
      have hlt : decide (a0 < 8) = false := decide_eq_false c
      clear h ht c hlaid_phdrn hlaid_strconv
      go_enter Tryd.func30, Tryd.ntmps30
      go_wp2_with (go_at_call 52; refine hcall.mono ?_; rintro e w' ⟨rfl, hb⟩)
      go_ret
      exact ⟨rfl, hb⟩
    · rw [if_neg c3] at h; cases h


/-! ### phdr_Letters: function 31 -/
def phdr_Letters.l0 : Nat → Int → List Int → List Int → Int → Int → Option (ByteArray)
  | 0, _, _, _, _, _ => none
  | k + 1, x0, x3, x10, x11, x12 => if x12 < x11 then (if 0 ≤ x12 then (if x12 < (x10.length : Int) then (if 0 ≤ (wrap64 (2 - x12)) then (if (Go.bits .and .u64 (shr .u64 x0 (wrap64 (2 - x12))) 1) = 1 then (if x12 < (x3.length : Int) then (phdr_Letters.l0 k x0 (x3.set (x12 : Int).toNat (rd x10 x12)) x10 x11 (wrap64 (x12 + 1))) else (none)) else (phdr_Letters.l0 k x0 x3 x10 x11 (wrap64 (x12 + 1)))) else (none)) else (none)) else (none)) else (if (Go.bits .andNot .u64 x0 7) = 0 then (some (strOfNums x3)) else (if (strOfNums x3).size + 3 ≤ 9223372036854775807 then ((strconv_FormatUint.f (Go.bits .andNot .u64 x0 7) 16).bind fun t162 => (if ((strOfNums x3) ++ (⟨#[43, 48, 120]⟩ : ByteArray)).size + t162.size ≤ 9223372036854775807 then (some (((strOfNums x3) ++ (⟨#[43, 48, 120]⟩ : ByteArray)) ++ t162)) else (none))) else (none)))
def phdr_Letters.f (k : Nat) (a0 : Int) : Option (ByteArray) := (some (([82, 87, 88] : List Int) : List Int)).bind fun y157 => (phdr_Letters.l0 k a0 (([45, 45, 45] : List Int)) y157 (y157.length : Int) 0)
theorem phdr_Letters.mono_l : ∀ k, (∀ y0 y1 y2 y3 y4, LeO (phdr_Letters.l0 k y0 y1 y2 y3 y4) (phdr_Letters.l0 (k + 1) y0 y1 y2 y3 y4))
  | 0 => fun _ _ _ _ _ r h => by simp [phdr_Letters.l0] at h
  | k + 1 => by
    have ih0 := phdr_Letters.mono_l k
    · intro y0 y1 y2 y3 y4
      unfold phdr_Letters.l0
      repeat' first
      | (with_reducible exact ih0 _ _ _ _ _)
      | (with_reducible exact LeO.refl _)
      | (with_reducible exact LeO.none _)
      | (with_reducible refine LeO.ite ?_ ?_)
      | (with_reducible refine LeO.bind ?_ (fun _ => ?_))
      | exact ih0 _ _ _ _ _
      | exact LeO.none _
      | refine LeO.ite ?_ ?_
      | refine LeO.bind ?_ (fun _ => ?_)
theorem phdr_Letters.mono : ∀ a0 k, LeO (phdr_Letters.f k a0) (phdr_Letters.f (k + 1) a0) := by
  intro a0 k
  have ih0 := phdr_Letters.mono_l k
  unfold phdr_Letters.f
  repeat' first
      | (with_reducible exact ih0 _ _ _ _ _)
      | (with_reducible exact LeO.refl _)
      | (with_reducible exact LeO.none _)
      | (with_reducible refine LeO.ite ?_ ?_)
      | (with_reducible refine LeO.bind ?_ (fun _ => ?_))
      | exact ih0 _ _ _ _ _
      | exact LeO.none _
      | refine LeO.ite ?_ ?_
      | refine LeO.bind ?_ (fun _ => ?_)
set_option maxHeartbeats 8000000 in
set_option maxRecDepth 100000 in
theorem phdr_Letters.calls (k : Nat) (a0 : Int) (r : ByteArray) (w : World) (hlaid_strconv : Laid_strconv w) (h : phdr_Letters.f k a0 = some r) :
    Calls Tryd.prog 31 #[.int .u64 a0] w fun e w' => e = .returned (.string r) ∧ Below w.heap.size w w' := by
  have HB := Aside0.mk (Below.refl w.heap.size w)
  have HLD_strconv := Aside0.mk hlaid_strconv
  clear hlaid_strconv
  have H : ((some (([82, 87, 88] : List Int) : List Int)).bind fun y157 => (phdr_Letters.l0 k a0 (([45, 45, 45] : List Int)) y157 (y157.length : Int) 0)) = some r := h
  clear h
  obtain ⟨y154, hy154⟩ : ∃ y_ : List Int, y_ = (([45, 45, 45] : List Int)) := ⟨_, rfl⟩
  replace H : ((some (([82, 87, 88] : List Int) : List Int)).bind fun y157 => (phdr_Letters.l0 k a0 y154 y157 (y157.length : Int) 0)) = some r := by first | (rw [hy154]; with_reducible exact H) | (have H2_ := (Option.bind_some _ _).symm.trans H; rw [hy154]; with_reducible exact H2_) | (have H2_ := (Option.bind_some _ _).symm.trans H; with_reducible exact H2_) | with_reducible exact H | (rw [hy154]; exact H) | exact H
  have Ny154 := Aside0.mk hy154
  clear hy154
  obtain ⟨y157, hy157⟩ : ∃ y_ : List Int, y_ = (([82, 87, 88] : List Int)) := ⟨_, rfl⟩
  replace H : (phdr_Letters.l0 k a0 y154 y157 (y157.length : Int) 0) = some r := by first | (rw [hy157]; with_reducible exact H) | (have H2_ := (Option.bind_some _ _).symm.trans H; rw [hy157]; with_reducible exact H2_) | (have H2_ := (Option.bind_some _ _).symm.trans H; with_reducible exact H2_) | with_reducible exact H | (rw [hy157]; exact H) | exact H
  have Ny157 := Aside0.mk hy157
  clear hy157
  have H' := Aside0.mk H
  clear H
  go_enter Tryd.func31, Tryd.ntmps31
  go_wp2_with (first | ((with_reducible refine gate_dst (N := 7) rfl ?_); refine Mk.R_lit2 _ 5 62 ?hg ?hg2 (N := 7) ?hd (xs := ([45, 45, 45] : List Int)) (ok := fun _ => True) ?hr ?ho2 (fun _ => rfl) Tryd.underlying62 Tryd.underlying5 trivial (Below.refl _ _) (Nat.le_refl _) (by simp) ?_; (case hd => rfl); (case hg => rfl); (case hg2 => rfl); (case ho2 => rfl); (case hr => first | (go_simp; done) | (go_simp; rfl)); intro v155 w2 ho3 hb hg_ hnew_; clear hg_ hnew_; (first | rw [← Ny154.out] at ho3 | (simp only [Int.reduceToNat] at ho3; rw [← Ny154.out] at ho3)); have n0_ := Aside0.mk (Mk.R_lower ho3 (below_size (by repeat (first | (with_reducible first | exact HB.out | apply below_alloc | apply pw_below_drewN | apply below_drew1) | exact HB.out)))); have n1_ := Aside0.mk (below_step (by repeat (first | (with_reducible first | exact HB.out | apply below_alloc | apply pw_below_drewN | apply below_drew1) | exact HB.out)) hb); clear HB; have HO156 := n0_; have HB := n1_; clear n0_ n1_; clear hb ho3) | ((with_reducible refine gate_dst (N := 9) rfl ?_); refine Mk.R_lit2 _ 5 62 ?hg ?hg2 (N := 9) ?hd (xs := ([82, 87, 88] : List Int)) (ok := fun _ => True) ?hr ?ho2 (fun _ => rfl) Tryd.underlying62 Tryd.underlying5 trivial (Below.refl _ _) (Nat.le_refl _) (by simp) ?_; (case hd => rfl); (case hg => rfl); (case hg2 => rfl); (case ho2 => rfl); (case hr => first | (go_simp; done) | (go_simp; rfl)); intro v158 w4 ho5 hb hg_ hnew_; clear hg_ hnew_; (first | rw [← Ny157.out] at ho5 | (simp only [Int.reduceToNat] at ho5; rw [← Ny157.out] at ho5)); have n0_ := Aside0.mk (Mk.R_elder' (by (with_reducible repeat (first | apply Mk.R_alloc | apply Mk.R_drewN | apply Mk.R_drew)); exact HO156.out) (Mk.R_base ho5) hb); have n1_ := Aside0.mk (Mk.R_lower (Mk.R_new' ho5 (Mk.R_lt (by (with_reducible repeat (first | apply Mk.R_alloc | apply Mk.R_drewN | apply Mk.R_drew)); exact HO156.out))) (below_size (by repeat (first | (with_reducible first | exact HB.out | apply below_alloc | apply pw_below_drewN | apply below_drew1) | exact HB.out)))); have n2_ := Aside0.mk (below_step (by repeat (first | (with_reducible first | exact HB.out | apply below_alloc | apply pw_below_drewN | apply below_drew1) | exact HB.out)) hb); clear HO156; clear HB; have HO156 := n0_; have HO159 := n1_; have HB := n2_; clear n0_ n1_ n2_; clear hb ho5; obtain ⟨Ao6, co6, eo6⟩ := Mk.R_slice HO159.out; subst eo6))
  go_loopg [12] k (fun kq v12 w' => ∃ (x3_1 : List Int) (x12_1 : Int), v12 = .int .i64 x12_1 ∧ Aside0 (phdr_Letters.l0 kq a0 x3_1 y157 (y157.length : Int) x12_1 = some r) ∧ Aside0 (kq ≤ k) ∧ Aside0 (Mk.R 5 w' w.heap.size (fun k_ => some k_ ≠ ((.slice Ao6 y157.length co6) : Value).ownBlock) v155 x3_1) ∧ Aside0 (Mk.R 5 w' w.heap.size (fun k_ => some k_ ≠ (v155 : Value).ownBlock) (.slice Ao6 y157.length co6) y157) ∧ Aside0 (Below w.heap.size w w'))
  case atStart => exact ⟨(y154), (0), (by first | rfl | (simp; done) | (simp [*]; done)), H', ⟨Nat.le_refl _⟩, ⟨by (with_reducible repeat (first | apply Mk.R_alloc | apply Mk.R_drewN | apply Mk.R_drew)); exact Mk.R_mono HO156.out (fun _ hk => hk.2)⟩, ⟨by (with_reducible repeat (first | apply Mk.R_alloc | apply Mk.R_drewN | apply Mk.R_drew)); exact Mk.R_mono HO159.out (fun _ hk => hk.2)⟩, ⟨by repeat (first | (with_reducible first | exact HB.out | apply below_alloc | apply pw_below_drewN | apply below_drew1) | exact HB.out)⟩⟩
  case round =>
    clear H'
    try clear p2
    try clear c3
    obtain ⟨x3_1, x12_1, rfl, HA, HK1, HO_3, HO_10, HB⟩ := hrel
    cases gk with
    | zero => exact absurd HA.out (by simp [phdr_Letters.l0])
    | succ k1 =>
      have H := HA.out
      clear HA
      simp only [phdr_Letters.l0] at H
      by_cases c7 : x12_1 < (y157.length : Int)
      · rw [if_pos c7] at H
        have c7b0 : decide (x12_1 < (y157.length : Int)) = true := decide_eq_true c7
        clear c7
        by_cases c8 : 0 ≤ x12_1
        · rw [if_pos c8] at H
          have c8b0 : decide (0 ≤ x12_1) = true := decide_eq_true c8
          clear c8
          by_cases c9 : x12_1 < (y157.length : Int)
          · rw [if_pos c9] at H
            have c9b0 : decide (x12_1 < (y157.length : Int)) = true := decide_eq_true c9
            clear c9
            obtain ⟨ji10, hji10⟩ : ∃ j_ : Int, (wrap64 (2 - x12_1)) = j_ := ⟨_, rfl⟩
            replace H : (if 0 ≤ (ji10) then (if (Go.bits .and .u64 (shr .u64 a0 (ji10)) 1) = 1 then (if x12_1 < (x3_1.length : Int) then (phdr_Letters.l0 k1 a0 (x3_1.set (x12_1 : Int).toNat (rd y157 x12_1)) y157 (y157.length : Int) (wrap64 (x12_1 + 1))) else (none)) else (phdr_Letters.l0 k1 a0 x3_1 y157 (y157.length : Int) (wrap64 (x12_1 + 1)))) else (none)) = some r := by first | (rw [hji10] at H; exact H) | (simp only [hji10] at H ⊢; exact H)
            have hji10w : (IntKind.i64.wrap (2 - x12_1)) = ji10 := (i64_w _).trans hji10
            by_cases c11 : 0 ≤ (ji10)
            · rw [if_pos c11] at H
              have c11b0 := eq_true c11
              have c11b1 : decide (0 ≤ (ji10)) = true := decide_eq_true c11
              clear c11
              obtain ⟨ji12, hji12⟩ : ∃ j_ : Int, (shr .u64 a0 (ji10)) = j_ := ⟨_, rfl⟩
              replace H : (if (Go.bits .and .u64 (ji12) 1) = 1 then (if x12_1 < (x3_1.length : Int) then (phdr_Letters.l0 k1 a0 (x3_1.set (x12_1 : Int).toNat (rd y157 x12_1)) y157 (y157.length : Int) (wrap64 (x12_1 + 1))) else (none)) else (phdr_Letters.l0 k1 a0 x3_1 y157 (y157.length : Int) (wrap64 (x12_1 + 1)))) = some r := by first | (rw [hji12] at H; exact H) | (simp only [hji12] at H ⊢; exact H)
              have hji12_ : (a0 / 2 ^ min (ji10).toNat 64) = ji12 := hji12
              have hji12z : (ji10) ≤ 64 → (a0 / 2 ^ (ji10).toNat) = ji12 := shr_small hji12
              (try have hji12y := hji12z (by first | omega | (simp only [decide_eq_true_eq] at *; omega)))
              by_cases c13 : (Go.bits .and .u64 (ji12) 1) = 1
              · rw [if_pos c13] at H
                have c13b0 : ((Go.bits .and .u64 (ji12) 1) == 1) = true := beq_iff_eq.mpr c13
                have c13b1 : ((Go.bits .and .u64 (ji12) 1) != 1) = false := bne_eq_false_iff_eq.mpr c13
                clear c13
                by_cases c14 : x12_1 < (x3_1.length : Int)
                · rw [if_pos c14] at H
                  have c14b0 : decide (x12_1 < (x3_1.length : Int)) = true := decide_eq_true c14
                  clear c14
                  obtain ⟨y161, hy161⟩ : ∃ y_ : List Int, y_ = (x3_1.set (x12_1 : Int).toNat (rd y157 x12_1)) := ⟨_, rfl⟩
                  replace H : (phdr_Letters.l0 k1 a0 y161 y157 (y157.length : Int) (wrap64 (x12_1 + 1))) = some r := by first | (rw [hy161]; with_reducible exact H) | (have H2_ := (Option.bind_some _ _).symm.trans H; rw [hy161]; with_reducible exact H2_) | (have H2_ := (Option.bind_some _ _).symm.trans H; with_reducible exact H2_) | with_reducible exact H | (rw [hy161]; exact H) | exact H
                  have Ny161 := Aside0.mk hy161
                  clear hy161
                  have H' := Aside0.mk H
                  clear H
                  have p160 : 0 ≤ (x12_1 : Int) := of_decide_eq_true (by first | (with_reducible assumption) | assumption)
                  have q160 : x12_1 < (y157.length : Int) := of_decide_eq_true (by first | (with_reducible assumption) | assumption)
                  obtain ⟨ad160, e160, hx160_0⟩ := Kd.at_int (Mk.R_reads' HO_10.out).2.2 x12_1 p160 q160
                  cases e160
                  replace p160 := eq_true p160
                  replace q160 := eq_true q160
                  have p15 : 0 ≤ (x12_1 : Int) := of_decide_eq_true (by first | (with_reducible assumption) | assumption)
                  have q15 : (x12_1 : Int) < ((x3_1.length : Int) : Int) := of_decide_eq_true (by first | (with_reducible assumption) | assumption)
                  obtain ⟨go15, co15, eo15, gb15, gl15, cl15, HG15⟩ := Mk.R_form HO_3.out (by omega)
                  (first | cases eo15 | (injection eo15 with ea_ en_ ec_; (first | subst ea_ | (injection ea_ with ea_; subst ea_)); subst ec_; clear en_))
                  have GB15 := Aside0.mk gb15
                  have GG15 := Aside0.mk HG15
                  clear gb15 gl15 HG15
                  obtain ⟨hx15_0, hf15_0⟩ := Mk.R_celln 0 HO_3.out (x12_1 : Int) p15 q15
                  replace p15 := eq_true p15
                  replace q15 := eq_true q15
                  have HP16 := Mk.R_putg HO_3.out (x12_1 : Int) (rd y157 x12_1)
                  go_wp2_with (first | ((with_reducible refine gate_store (t := 5) (p := 26) rfl ?_); refine store_event (t := 5) (p := 26) (v := ?vo_w17) (w1 := (wr.setCell ⟨go15, (x12_1 : Int).toNat, none⟩ (.int .u8 (rd y157 x12_1)))) ?hg ?ho ?hn ?hr ?_; (case ho => rfl); (case hg => rfl); (case hn => rfl); (case hr => first | (go_simp; done) | (go_simp; rfl)); intro w17 hw; have hg : wr.grownBy w17 (some go15) := (by rw [hw]; exact HP16.2); have hp_ : Mk.R 5 w17 w.heap.size (fun k_ => some k_ ≠ (.slice (some ad160) y157.length co6 : Value).ownBlock) (.slice (some ⟨go15, 0, none⟩) x3_1.length co15) y161 := (by rw [hw, Ny161.out]; exact HP16.1); clear HP16; have n0_ := Aside0.mk (hp_); have n1_ := Aside0.mk (Mk.R_after (v := (.slice (some ⟨go15, 0, none⟩) x3_1.length co15)) (v1 := (.slice (some ⟨go15, 0, none⟩) x3_1.length co15)) (ok := (fun _ => True)) (by (with_reducible repeat (first | apply Mk.R_alloc | apply Mk.R_drewN | apply Mk.R_drew)); exact Mk.R_mono HO_10.out (fun _ hk => ⟨trivial, hk⟩)) hg (.inl rfl)); have n2_ := Aside0.mk ((by rw [hw]; exact below_set (HB.out) GB15.out : Below w.heap.size w w17)); clear HO_3; clear HO_10; clear HB; have HO_3 := n0_; have HO_10 := n1_; have HB := n2_; clear n0_ n1_ n2_; clear hg hw hp_))
                  go_roundg k1
                  case measure => have := HK1.out; omega
                  case rel => exact ⟨(y161), (wrap64 (x12_1 + 1)), (by first | rfl | (simp; done) | (simp [*]; done)), H', ⟨by have := HK1.out; omega⟩, ⟨by (with_reducible repeat (first | apply Mk.R_alloc | apply Mk.R_drewN | apply Mk.R_drew)); exact HO_3.out⟩, ⟨by (with_reducible repeat (first | apply Mk.R_alloc | apply Mk.R_drewN | apply Mk.R_drew)); exact Mk.R_mono HO_10.out (fun _ hk => hk.2)⟩, ⟨by repeat (first | (with_reducible first | exact HB.out | apply below_alloc | apply pw_below_drewN | apply below_drew1) | exact HB.out)⟩⟩
                · rw [if_neg c14] at H
                  exact absurd H (by simp)
              · rw [if_neg c13] at H
                have c13b0 : ((Go.bits .and .u64 (ji12) 1) == 1) = false := beq_eq_false_iff_ne.mpr c13
                have c13b1 : ((Go.bits .and .u64 (ji12) 1) != 1) = true := bne_iff_ne.mpr c13
                have H' := Aside0.mk H
                clear H
                have p160 : 0 ≤ (x12_1 : Int) := of_decide_eq_true (by first | (with_reducible assumption) | assumption)
                have q160 : x12_1 < (y157.length : Int) := of_decide_eq_true (by first | (with_reducible assumption) | assumption)
                obtain ⟨ad160, e160, hx160_0⟩ := Kd.at_int (Mk.R_reads' HO_10.out).2.2 x12_1 p160 q160
                cases e160
                replace p160 := eq_true p160
                replace q160 := eq_true q160
                go_wp2
                go_roundg k1
                case measure => have := HK1.out; omega
                case rel => exact ⟨(x3_1), (wrap64 (x12_1 + 1)), (by first | rfl | (simp; done) | (simp [*]; done)), H', ⟨by have := HK1.out; omega⟩, ⟨by (with_reducible repeat (first | apply Mk.R_alloc | apply Mk.R_drewN | apply Mk.R_drew)); exact HO_3.out⟩, ⟨by (with_reducible repeat (first | apply Mk.R_alloc | apply Mk.R_drewN | apply Mk.R_drew)); exact HO_10.out⟩, ⟨by repeat (first | (with_reducible first | exact HB.out | apply below_alloc | apply pw_below_drewN | apply below_drew1) | exact HB.out)⟩⟩
            · rw [if_neg c11] at H
              exact absurd H (by simp)
          · rw [if_neg c9] at H
            exact absurd H (by simp)
        · rw [if_neg c8] at H
          exact absurd H (by simp)
      · rw [if_neg c7] at H
        have c7b0 : decide (x12_1 < (y157.length : Int)) = false := decide_eq_false c7
        clear c7
        by_cases c18 : (Go.bits .andNot .u64 a0 7) = 0
        · rw [if_pos c18] at H
          have c18b0 : ((Go.bits .andNot .u64 a0 7) == 0) = true := beq_iff_eq.mpr c18
          have c18b1 : ((Go.bits .andNot .u64 a0 7) != 0) = false := bne_eq_false_iff_eq.mpr c18
          clear c18
          obtain rfl := Option.some.inj H
          have hcv19 := Mk.own_string (P := Tryd.prog) Tryd.underlying62 Tryd.underlying5 Tryd.underlying9 HO_3.out
          go_wp2
          go_ret
          exact ⟨by first | rfl | (simp [errW_none, errW_some] <;> rfl) | (simp [*, errW_none, errW_some] <;> rfl), by repeat (first | (with_reducible first | exact HB.out | apply below_alloc | apply pw_below_drewN | apply below_drew1) | exact HB.out)⟩
        · rw [if_neg c18] at H
          have c18b0 : ((Go.bits .andNot .u64 a0 7) == 0) = false := beq_eq_false_iff_ne.mpr c18
          have c18b1 : ((Go.bits .andNot .u64 a0 7) != 0) = true := bne_iff_ne.mpr c18
          by_cases c20 : (strOfNums x3_1).size + 3 ≤ 9223372036854775807
          · rw [if_pos c20] at H
            have c20b0 := eq_true c20
            have c20b1 : decide ((strOfNums x3_1).size + 3 ≤ 9223372036854775807) = true := decide_eq_true c20
            try have c20b2 : (9223372036854775807 < (strOfNums x3_1).size + 3) = False := eq_false (Nat.not_lt.2 c20)
            replace H := Option.bind_eq_some_iff.mp H
            obtain ⟨t162, A210, H⟩ := H
            replace H : (if ((strOfNums x3_1) ++ (⟨#[43, 48, 120]⟩ : ByteArray)).size + t162.size ≤ 9223372036854775807 then (some (((strOfNums x3_1) ++ (⟨#[43, 48, 120]⟩ : ByteArray)) ++ t162)) else (none)) = some r := H
            have A21 := Aside0.mk A210
            clear A210
            by_cases c22 : ((strOfNums x3_1) ++ (⟨#[43, 48, 120]⟩ : ByteArray)).size + t162.size ≤ 9223372036854775807
            · rw [if_pos c22] at H
              have c22b0 := eq_true c22
              have c22b1 : decide (((strOfNums x3_1) ++ (⟨#[43, 48, 120]⟩ : ByteArray)).size + t162.size ≤ 9223372036854775807) = true := decide_eq_true c22
              try have c22b2 : (9223372036854775807 < ((strOfNums x3_1) ++ (⟨#[43, 48, 120]⟩ : ByteArray)).size + t162.size) = False := eq_false (Nat.not_lt.2 c22)
              have c22b3 : (9223372036854775807 < (strOfNums x3_1).size + 3 + t162.size) = False := eq_false (by have h_ := c22; simp only [ByteArray.size_append, show (⟨#[43, 48, 120]⟩ : ByteArray).size = 3 from rfl] at h_; omega)
              obtain rfl := Option.some.inj H
              try go_wp2
              have n0_ := Aside0.mk (Mk.R_drew HO_3.out)
              have n1_ := Aside0.mk (Mk.R_drew HO_10.out)
              have n2_ := Aside0.mk (below_drew1 HB.out)
              clear HO_3
              clear HO_10
              clear HB
              have HO_3 := n0_
              have HO_10 := n1_
              have HB := n2_
              clear n0_ n1_ n2_
              have hcv24 := Mk.own_string (P := Tryd.prog) Tryd.underlying62 Tryd.underlying5 Tryd.underlying9 HO_3.out
              refine start_ (n := 7) (S := fun w' => (convert 62 9 _).run Tryd.prog w' = .ok (.string (strOfNums _)) w') (ds := []) #[false, false, false, false, false, false, false] (by kernel_rfl) rfl rfl hcv24 (fun hHeld => ?_)
              generalize wr.drew = w23 at HO_3 HO_10 HB hHeld ⊢
              refine pure_ (i := 0) (N := some 32) (v := ?_) (a' := ?_) #[true, false, false, false, false, false, false] rfl rfl (by kernel_rfl) (fun _ _ _ h => h) (Or.inl ⟨by rfl, ?_⟩) ?_ ?_
              rotate_left
              · intro w'
                go_simp
                with_reducible rfl
              rotate_left
              · simp only [Act.put, List.setIfInBounds_toArray, List.set_cons_zero, List.set_cons_succ, i64_w, i32_w]
                rfl
              refine take_ (i := 1) (N := some 33) (v := ?_) (a' := ?_) #[true, true, false, false, false, false, false] rfl rfl (by kernel_rfl) (fun _ _ _ h => h) (Or.inl ⟨by rfl, ?_⟩) hHeld ?_ ?_
              rotate_left
              · intro w' s0
                go_simp
                with_reducible rfl
              rotate_left
              · simp only [Act.put, List.setIfInBounds_toArray, List.set_cons_zero, List.set_cons_succ, i64_w, i32_w]
                rfl
              refine pure_ (i := 2) (N := some 34) (v := ?_) (a' := ?_) #[true, true, true, false, false, false, false] rfl rfl (by kernel_rfl) (fun _ _ _ h => h) (Or.inl ⟨by rfl, ?_⟩) ?_ ?_
              rotate_left
              · intro w'
                go_simp
                with_reducible rfl
              rotate_left
              · simp only [Act.put, List.setIfInBounds_toArray, List.set_cons_zero, List.set_cons_succ, i64_w, i32_w]
                rfl
              refine pure_ (i := 3) (N := some 35) (v := ?_) (a' := ?_) #[true, true, true, true, false, false, false] rfl rfl (by kernel_rfl) (fun _ _ _ h => h) (Or.inl ⟨by rfl, ?_⟩) ?_ ?_
              rotate_left
              · intro w'
                go_simp
                with_reducible rfl
              rotate_left
              · simp only [Act.put, List.setIfInBounds_toArray, List.set_cons_zero, List.set_cons_succ, i64_w, i32_w]
                rfl
              refine one_ (i := 4) (N := some 36) #[true, true, true, true, true, false, false] rfl rfl (by kernel_rfl) (by decide) (fun K hK => ?_)
              refine goes_ Tryd.func52 (by kernel_rfl) rfl #[.int .u64 (Go.bits .andNot .u64 a0 7), .int .i64 16] (by rfl) rfl rfl (by (try simp only [List.map_toArray, List.map_cons, List.map_nil]); first | done | rfl | (simp only [List.length_drop, List.length_take]; rfl)) ?_
              with_reducible refine (strconv_FormatUint.calls (Go.bits .andNot .u64 a0 7) 16 t162 _ ?side1 A21.out).mono ?_
              (case side1 => exact Laid_strconv.below HLD_strconv.out (by repeat (first | (with_reducible first | exact HB.out | apply below_alloc | apply pw_below_drewN | apply below_drew1) | exact HB.out)))
              rintro e w25 ⟨rfl, hb⟩
              refine ⟨_, rfl, ?_⟩
              have n0_ := Aside0.mk (Mk.R_below (by (with_reducible repeat (first | apply Mk.R_alloc | apply Mk.R_drewN | apply Mk.R_drew)); exact HO_3.out) hb)
              have n1_ := Aside0.mk (Mk.R_below (by (with_reducible repeat (first | apply Mk.R_alloc | apply Mk.R_drewN | apply Mk.R_drew)); exact HO_10.out) hb)
              have n2_ := Aside0.mk (below_step (by repeat (first | (with_reducible first | exact HB.out | apply below_alloc | apply pw_below_drewN | apply below_drew1) | exact HB.out)) hb)
              clear HO_3
              clear HO_10
              clear HB
              have HO_3 := n0_
              have HO_10 := n1_
              have HB := n2_
              clear n0_ n1_ n2_
              (try clear hb)
              (try clear hb2)
              (try clear hk)
              (try clear hi)
              refine hK.out _ _ (Mk.own_string (P := Tryd.prog) Tryd.underlying62 Tryd.underlying5 Tryd.underlying9 HO_3.out) (fun hHeld => ?_)
              clear hK K
              refine norm_ (a' := ?_) ?_ ?_
              rotate_left
              · show Act.put _ (some 36) _ = _
                simp only [Act.put, List.setIfInBounds_toArray, List.set_cons_zero, List.set_cons_succ, i64_w, i32_w]
                rfl
              refine pure_ (i := 5) (N := some 37) (v := ?_) (a' := ?_) #[true, true, true, true, true, true, false] rfl rfl (by kernel_rfl) (fun _ _ _ h => h) (Or.inl ⟨by rfl, ?_⟩) ?_ ?_
              rotate_left
              · intro w'
                go_simp
                with_reducible rfl
              rotate_left
              · simp only [Act.put, List.setIfInBounds_toArray, List.set_cons_zero, List.set_cons_succ, i64_w, i32_w]
                rfl
              refine pure_ (i := 6) (N := some 2) (v := ?_) (a' := ?_) #[true, true, true, true, true, true, true] rfl rfl (by kernel_rfl) (fun _ _ _ h => h) (Or.inl ⟨by rfl, ?_⟩) ?_ ?_
              rotate_left
              · intro w'
                go_simp
                with_reducible rfl
              rotate_left
              · simp only [Act.put, List.setIfInBounds_toArray, List.set_cons_zero, List.set_cons_succ, i64_w, i32_w]
                rfl
              refine done_ (by kernel_rfl) ?_
              try go_wp2
              go_ret
              exact ⟨by first | rfl | (simp [errW_none, errW_some] <;> rfl) | (simp [*, errW_none, errW_some] <;> rfl), by repeat (first | (with_reducible first | exact HB.out | apply below_alloc | apply pw_below_drewN | apply below_drew1) | exact HB.out)⟩
            · rw [if_neg c22] at H
              exact absurd H (by simp)
          · rw [if_neg c20] at H
            exact absurd H (by simp)

end Go.Proofs.YtjmjebbjfjgbeaaDoor.Q
