/- What Go functions of the program compute, each as a Lean function with the proof that the call returns just that. No condition but those in the statements. -/
import Derived.Test.YthbkjppaimjpmaaQ0
import Derived.Test.YthbkjppaimjpmaaQ1
import Derived.Test.YthbkjppaimjpmaaBld
namespace Go.Proofs.Ythbkjppaimjpmaa.Q
open Go.RowKit Go.Proofs.YthbkjppaimjpmaaW.PrintWords Go.Proofs.YthbkjppaimjpmaaW.PrintLast Go.Proofs.YthbkjppaimjpmaaW.PrintMore
attribute [local go_sem] max2_int min2_int max_two min_two max_three min_three max_four min_four   -- for this text's walks alone
set_option linter.unusedVariables false
set_option linter.unusedSimpArgs false

/-! ### graverref01_Put: function 11 -/
mutual
def graverref01_Put.l0 : Nat → Bool → Int → Int → ByteArray → Int → Option (ByteArray)
  | 0, _, _, _, _, _ => none
  | k + 1, x0, x1, x2, x7, x8 => if x8 < x2 then (graverref01_Put.j1 k x0 x1 x2 x7 x8 (decide (x2 ≤ 8))) else (graverref01_Put.j1 k x0 x1 x2 x7 x8 false)
def graverref01_Put.j1 : Nat → Bool → Int → Int → ByteArray → Int → Bool → Option (ByteArray)
  | 0, _, _, _, _, _, _ => none
  | k + 1, x0, x1, x2, x7, x8, x16 => if x16 = true then ((some (([(Int.tmod x1 256) % 256] : List Int) : List Int)).bind fun y149 => (if x0 = true then (if (strOfNums y149).size + x7.size ≤ 9223372036854775807 then (graverref01_Put.l0 k x0 (IntKind.u64.wrap (Int.tdiv x1 256)) x2 ((strOfNums y149) ++ x7) (wrap64 (x8 + 1))) else (none)) else (if x7.size + (strOfNums y149).size ≤ 9223372036854775807 then (graverref01_Put.l0 k x0 (IntKind.u64.wrap (Int.tdiv x1 256)) x2 (x7 ++ (strOfNums y149)) (wrap64 (x8 + 1))) else (none)))) else (some x7)
end
def graverref01_Put.f (k : Nat) (a0 : Bool) (a1 : Int) (a2 : Int) : Option (ByteArray) := graverref01_Put.l0 k a0 a1 a2 (⟨#[]⟩ : ByteArray) 0
theorem graverref01_Put.mono_l : ∀ k, (∀ y0 y1 y2 y3 y4, LeO (graverref01_Put.l0 k y0 y1 y2 y3 y4) (graverref01_Put.l0 (k + 1) y0 y1 y2 y3 y4)) ∧ (∀ y0 y1 y2 y3 y4 y5, LeO (graverref01_Put.j1 k y0 y1 y2 y3 y4 y5) (graverref01_Put.j1 (k + 1) y0 y1 y2 y3 y4 y5))
  | 0 => ⟨fun _ _ _ _ _ r h => by simp [graverref01_Put.l0] at h, fun _ _ _ _ _ _ r h => by simp [graverref01_Put.j1] at h⟩
  | k + 1 => by
    obtain ⟨ih0, ih1⟩ := graverref01_Put.mono_l k
    refine ⟨?_, ?_⟩
    · intro y0 y1 y2 y3 y4
      unfold graverref01_Put.l0
      repeat' first
      | (with_reducible exact ih0 _ _ _ _ _)
      | (with_reducible exact ih1 _ _ _ _ _ _)
      | (with_reducible exact LeO.refl _)
      | (with_reducible exact LeO.none _)
      | (with_reducible refine LeO.ite ?_ ?_)
      | (with_reducible refine LeO.bind ?_ (fun _ => ?_))
      | exact ih0 _ _ _ _ _
      | exact ih1 _ _ _ _ _ _
      | exact LeO.none _
      | refine LeO.ite ?_ ?_
      | refine LeO.bind ?_ (fun _ => ?_)
    · intro y0 y1 y2 y3 y4 y5
      unfold graverref01_Put.j1
      repeat' first
      | (with_reducible exact ih0 _ _ _ _ _)
      | (with_reducible exact ih1 _ _ _ _ _ _)
      | (with_reducible exact LeO.refl _)
      | (with_reducible exact LeO.none _)
      | (with_reducible refine LeO.ite ?_ ?_)
      | (with_reducible refine LeO.bind ?_ (fun _ => ?_))
      | exact ih0 _ _ _ _ _
      | exact ih1 _ _ _ _ _ _
      | exact LeO.none _
      | refine LeO.ite ?_ ?_
      | refine LeO.bind ?_ (fun _ => ?_)
theorem graverref01_Put.mono : ∀ a0 a1 a2 k, LeO (graverref01_Put.f k a0 a1 a2) (graverref01_Put.f (k + 1) a0 a1 a2) := by
  intro a0 a1 a2 k
  obtain ⟨ih0, ih1⟩ := graverref01_Put.mono_l k
  unfold graverref01_Put.f
  repeat' first
      | (with_reducible exact ih0 _ _ _ _ _)
      | (with_reducible exact ih1 _ _ _ _ _ _)
      | (with_reducible exact LeO.refl _)
      | (with_reducible exact LeO.none _)
      | (with_reducible refine LeO.ite ?_ ?_)
      | (with_reducible refine LeO.bind ?_ (fun _ => ?_))
      | exact ih0 _ _ _ _ _
      | exact ih1 _ _ _ _ _ _
      | exact LeO.none _
      | refine LeO.ite ?_ ?_
      | refine LeO.bind ?_ (fun _ => ?_)
set_option maxHeartbeats 8000000 in
set_option maxRecDepth 100000 in
theorem graverref01_Put.calls (k : Nat) (a0 : Bool) (a1 : Int) (a2 : Int) (r : ByteArray) (w : World) (h : graverref01_Put.f k a0 a1 a2 = some r) :
    Calls Try.prog 11 #[.bool a0, .int .u64 a1, .int .i64 a2] w fun e w' => e = .returned (.string r) ∧ Below w.heap.size w w' := by
  have HB := Aside0.mk (Below.refl w.heap.size w)
  have H : (graverref01_Put.l0 k a0 a1 a2 (⟨#[]⟩ : ByteArray) 0) = some r := h
  clear h
  have H' := Aside0.mk H
  clear H
  go_enter Try.func11, Try.ntmps11
  go_wp2
  go_loopg [1, 7, 8] k (fun kq v1 v7 v8 w' => ∃ (x1_1 : Int) (x7_1 : ByteArray) (x8_1 : Int), v1 = .int .u64 x1_1 ∧ v7 = .string x7_1 ∧ v8 = .int .i64 x8_1 ∧ Aside0 (graverref01_Put.l0 kq a0 x1_1 a2 x7_1 x8_1 = some r) ∧ Aside0 (kq ≤ k) ∧ Aside0 (Below w.heap.size w w'))
  case atStart => exact ⟨(a1), ((⟨#[]⟩ : ByteArray)), (0), (by first | rfl | (simp; done) | (simp [*]; done)), (by first | rfl | (simp; done) | (simp [*]; done)), (by first | rfl | (simp; done) | (simp [*]; done)), H', ⟨Nat.le_refl _⟩, ⟨by repeat (first | (with_reducible first | exact HB.out | apply below_alloc | apply pw_below_drewN | apply below_drew1) | exact HB.out)⟩⟩
  case round =>
    clear H'
    try clear c1
    try clear p2
    obtain ⟨x1_1, x7_1, x8_1, rfl, rfl, rfl, HA, HK1, HB⟩ := hrel
    cases gk with
    | zero => exact absurd HA.out (by simp [graverref01_Put.l0])
    | succ k1 =>
      have H := HA.out
      clear HA
      simp only [graverref01_Put.l0] at H
      have HC4 := Aside0.mk H
      clear H
      go_upto_region 3 with (fail)
      go_cut [16] (fun v16 wc => ∃ (kq : Nat) (x16_3 : Bool), v16 = .bool x16_3 ∧ Aside0 (graverref01_Put.j1 kq a0 x1_1 a2 x7_1 x8_1 x16_3 = some r) ∧ Aside0 (kq ≤ k1) ∧ Aside0 (Below w.heap.size w wc))
      case first =>
        have H := HC4.out
        clear HC4
        by_cases c5 : x8_1 < a2
        · rw [if_pos c5] at H
          have c5b0 : decide (x8_1 < a2) = true := decide_eq_true c5
          clear c5
          (first | rw [c5b0] | (simp only [i64_w, i32_w]; rw [c5b0]) | skip)
          have H' := Aside0.mk H
          clear H
          go_wp2
          go_meet
          case rel => exact ⟨_, (decide (a2 ≤ 8)), (by first | rfl | (simp; done) | (simp [*]; done)), H', ⟨by have := HK1.out; first | omega | exact Nat.le_refl _⟩, ⟨by repeat (first | (with_reducible first | exact HB.out | apply below_alloc | apply pw_below_drewN | apply below_drew1) | exact HB.out)⟩⟩
        · rw [if_neg c5] at H
          have c5b0 : decide (x8_1 < a2) = false := decide_eq_false c5
          clear c5
          (first | rw [c5b0] | (simp only [i64_w, i32_w]; rw [c5b0]) | skip)
          have H' := Aside0.mk H
          clear H
          go_wp2
          go_meet
          case rel => exact ⟨_, (false), (by first | rfl | (simp; done) | (simp [*]; done)), H', ⟨by have := HK1.out; first | omega | exact Nat.le_refl _⟩, ⟨by repeat (first | (with_reducible first | exact HB.out | apply below_alloc | apply pw_below_drewN | apply below_drew1) | exact HB.out)⟩⟩
      case rest =>
        clear HC4
        try clear c1
        try clear p2
        try clear c5
        try clear c5b0
        try clear p2
        obtain ⟨kq, x16_3, rfl, HA, HJ3, HB⟩ := hcut
        cases kq with
        | zero => exact absurd HA.out (by simp [graverref01_Put.j1])
        | succ kj3 =>
          have H := HA.out
          clear HA
          simp only [graverref01_Put.j1] at H
          by_cases c6 : x16_3 = true
          · subst c6
            have H1 : ((some (([(Int.tmod x1_1 256) % 256] : List Int) : List Int)).bind fun y149 => (if a0 = true then (if (strOfNums y149).size + x7_1.size ≤ 9223372036854775807 then (graverref01_Put.l0 kj3 a0 (IntKind.u64.wrap (Int.tdiv x1_1 256)) a2 ((strOfNums y149) ++ x7_1) (wrap64 (x8_1 + 1))) else (none)) else (if x7_1.size + (strOfNums y149).size ≤ 9223372036854775807 then (graverref01_Put.l0 kj3 a0 (IntKind.u64.wrap (Int.tdiv x1_1 256)) a2 (x7_1 ++ (strOfNums y149)) (wrap64 (x8_1 + 1))) else (none)))) = some r := by rw [if_pos rfl] at H; exact H
            clear H
            have H := H1
            clear H1
            obtain ⟨y149, hy149⟩ : ∃ y_ : List Int, y_ = (([(Int.tmod x1_1 256) % 256] : List Int)) := ⟨_, rfl⟩
            replace H : (if a0 = true then (if (strOfNums y149).size + x7_1.size ≤ 9223372036854775807 then (graverref01_Put.l0 kj3 a0 (IntKind.u64.wrap (Int.tdiv x1_1 256)) a2 ((strOfNums y149) ++ x7_1) (wrap64 (x8_1 + 1))) else (none)) else (if x7_1.size + (strOfNums y149).size ≤ 9223372036854775807 then (graverref01_Put.l0 kj3 a0 (IntKind.u64.wrap (Int.tdiv x1_1 256)) a2 (x7_1 ++ (strOfNums y149)) (wrap64 (x8_1 + 1))) else (none))) = some r := by first | (rw [hy149]; with_reducible exact H) | (have H2_ := (Option.bind_some _ _).symm.trans H; rw [hy149]; with_reducible exact H2_) | (have H2_ := (Option.bind_some _ _).symm.trans H; with_reducible exact H2_) | with_reducible exact H | (rw [hy149]; exact H) | exact H
            have Ny149 := Aside0.mk hy149
            clear hy149
            by_cases c7 : a0 = true
            · subst c7
              have H1 : (if (strOfNums y149).size + x7_1.size ≤ 9223372036854775807 then (graverref01_Put.l0 kj3 true (IntKind.u64.wrap (Int.tdiv x1_1 256)) a2 ((strOfNums y149) ++ x7_1) (wrap64 (x8_1 + 1))) else (none)) = some r := by rw [if_pos rfl] at H; exact H
              clear H
              have H := H1
              clear H1
              by_cases c8 : (strOfNums y149).size + x7_1.size ≤ 9223372036854775807
              · rw [if_pos c8] at H
                have c8b0 := eq_true c8
                have c8b1 : decide ((strOfNums y149).size + x7_1.size ≤ 9223372036854775807) = true := decide_eq_true c8
                try have c8b2 : (9223372036854775807 < (strOfNums y149).size + x7_1.size) = False := eq_false (Nat.not_lt.2 c8)
                have H' := Aside0.mk H
                clear H
                go_wp2_with (first | ((with_reducible refine gate_dst (N := 22) rfl ?_); refine Kd.R_lit (Kd.int .u8) _ 5 ?hg (N := 22) ?hd (xs := ([(Int.tmod x1_1 256) % 256] : List Int)) (inner := [.int .u8 ((Int.tmod x1_1 256) % 256)]) (ok := fun _ => True) (okp := fun _ => True) ?hr ?hp (fun _ hk => hk) trivial (Below.refl _ _) (Nat.le_refl _) (by simp) ?_; (case hd => rfl); (case hg => rfl); (case hr => first | (go_simp; done) | (go_simp; rfl)); (case hp => exact (Reps.one (show Kd.M (Kd.int .u8) _ _ _ ((Int.tmod x1_1 256) % 256) [.int .u8 ((Int.tmod x1_1 256) % 256)] from rfl) (Reps.none _ _))); intro v150 w9 ho10 hb hg_ hnew_; clear hg_ hnew_; (first | rw [← Ny149.out] at ho10 | (simp only [Int.reduceToNat] at ho10; rw [← Ny149.out] at ho10)); have n0_ := Aside0.mk (Kd.R_lower ho10 (below_size (by repeat (first | (with_reducible first | exact HB.out | apply below_alloc | apply pw_below_drewN | apply below_drew1) | exact HB.out)))); have n1_ := Aside0.mk (below_step (by repeat (first | (with_reducible first | exact HB.out | apply below_alloc | apply pw_below_drewN | apply below_drew1) | exact HB.out)) hb); clear HB; have HO151 := n0_; have HB := n1_; clear n0_ n1_; clear hb ho10; have hcv11 := own_string (P := Try.prog) Try.underlying61 Try.underlying5 Try.underlying9 (Kd.own_of_R HO151.out)))
                go_roundg kj3
                case measure => have := HK1.out; have := HJ3.out; omega
                case rel => exact ⟨(IntKind.u64.wrap (Int.tdiv x1_1 256)), ((strOfNums y149) ++ x7_1), (wrap64 (x8_1 + 1)), (by first | rfl | (simp; done) | (simp [*]; done)), (by first | rfl | (simp; done) | (simp [*]; done)), (by first | rfl | (simp; done) | (simp [*]; done)), H', ⟨by have := HK1.out; have := HJ3.out; omega⟩, ⟨by repeat (first | (with_reducible first | exact HB.out | apply below_alloc | apply pw_below_drewN | apply below_drew1) | exact HB.out)⟩⟩
              · rw [if_neg c8] at H
                exact absurd H (by simp)
            · replace c7 := Bool.eq_false_iff.mpr c7
              subst c7
              have H1 : (if x7_1.size + (strOfNums y149).size ≤ 9223372036854775807 then (graverref01_Put.l0 kj3 false (IntKind.u64.wrap (Int.tdiv x1_1 256)) a2 (x7_1 ++ (strOfNums y149)) (wrap64 (x8_1 + 1))) else (none)) = some r := by rw [if_neg (show ¬ (false = true) by decide)] at H; exact H
              clear H
              have H := H1
              clear H1
              by_cases c12 : x7_1.size + (strOfNums y149).size ≤ 9223372036854775807
              · rw [if_pos c12] at H
                have c12b0 := eq_true c12
                have c12b1 : decide (x7_1.size + (strOfNums y149).size ≤ 9223372036854775807) = true := decide_eq_true c12
                try have c12b2 : (9223372036854775807 < x7_1.size + (strOfNums y149).size) = False := eq_false (Nat.not_lt.2 c12)
                have H' := Aside0.mk H
                clear H
                go_wp2_with (first | ((with_reducible refine gate_dst (N := 22) rfl ?_); refine Kd.R_lit (Kd.int .u8) _ 5 ?hg (N := 22) ?hd (xs := ([(Int.tmod x1_1 256) % 256] : List Int)) (inner := [.int .u8 ((Int.tmod x1_1 256) % 256)]) (ok := fun _ => True) (okp := fun _ => True) ?hr ?hp (fun _ hk => hk) trivial (Below.refl _ _) (Nat.le_refl _) (by simp) ?_; (case hd => rfl); (case hg => rfl); (case hr => first | (go_simp; done) | (go_simp; rfl)); (case hp => exact (Reps.one (show Kd.M (Kd.int .u8) _ _ _ ((Int.tmod x1_1 256) % 256) [.int .u8 ((Int.tmod x1_1 256) % 256)] from rfl) (Reps.none _ _))); intro v150 w13 ho14 hb hg_ hnew_; clear hg_ hnew_; (first | rw [← Ny149.out] at ho14 | (simp only [Int.reduceToNat] at ho14; rw [← Ny149.out] at ho14)); have n0_ := Aside0.mk (Kd.R_lower ho14 (below_size (by repeat (first | (with_reducible first | exact HB.out | apply below_alloc | apply pw_below_drewN | apply below_drew1) | exact HB.out)))); have n1_ := Aside0.mk (below_step (by repeat (first | (with_reducible first | exact HB.out | apply below_alloc | apply pw_below_drewN | apply below_drew1) | exact HB.out)) hb); clear HB; have HO151 := n0_; have HB := n1_; clear n0_ n1_; clear hb ho14; have hcv15 := own_string (P := Try.prog) Try.underlying61 Try.underlying5 Try.underlying9 (Kd.own_of_R HO151.out)))
                go_roundg kj3
                case measure => have := HK1.out; have := HJ3.out; omega
                case rel => exact ⟨(IntKind.u64.wrap (Int.tdiv x1_1 256)), (x7_1 ++ (strOfNums y149)), (wrap64 (x8_1 + 1)), (by first | rfl | (simp; done) | (simp [*]; done)), (by first | rfl | (simp; done) | (simp [*]; done)), (by first | rfl | (simp; done) | (simp [*]; done)), H', ⟨by have := HK1.out; have := HJ3.out; omega⟩, ⟨by repeat (first | (with_reducible first | exact HB.out | apply below_alloc | apply pw_below_drewN | apply below_drew1) | exact HB.out)⟩⟩
              · rw [if_neg c12] at H
                exact absurd H (by simp)
          · replace c6 := Bool.eq_false_iff.mpr c6
            subst c6
            have H1 : (some x7_1) = some r := by rw [if_neg (show ¬ (false = true) by decide)] at H; exact H
            clear H
            have H := H1
            clear H1
            obtain rfl := Option.some.inj H
            go_wp2
            go_ret
            exact ⟨by first | rfl | (simp [errW_none, errW_some] <;> rfl) | (simp [*, errW_none, errW_some] <;> rfl), by repeat (first | (with_reducible first | exact HB.out | apply below_alloc | apply pw_below_drewN | apply below_drew1) | exact HB.out)⟩

-- NOT PRINTED: function 43 (abi_NoEscape)

-- NOT PRINTED: function 38 (strings_Builder_copyCheck)

-- NOT PRINTED: function 32 (strings_Builder_WriteString)

-- NOT PRINTED: function 33 (strings_Builder_String)

/-! ### order_Order_Fields: function 21 -/
def order_Order_Fields.l0 : Nat → Bool → List Int → List Int → ByteArray → Int → Option (ByteArray)
  | 0, _, _, _, _, _ => none
  | k + 1, b, x1, x2, s, i => if i < mn (x1.length : Int) (x2.length : Int) then ((order_Order_Put.f k b (rd x2 i) (rd x1 i)).bind fun t => (if s.size + t.size ≤ 140737488355328 then (order_Order_Fields.l0 k b x1 x2 (s ++ t) (i + 1)) else none)) else (some s)
def order_Order_Fields.f (k : Nat) (a0_0 : Bool) (l1 : List Int) (l2 : List Int) : Option (ByteArray) := order_Order_Fields.l0 k a0_0 l1 l2 (⟨#[]⟩ : ByteArray) 0
theorem order_Order_Fields.mono_l : ∀ k y0 y1 y2 y3 y4, LeO (order_Order_Fields.l0 k y0 y1 y2 y3 y4) (order_Order_Fields.l0 (k + 1) y0 y1 y2 y3 y4)
  | 0 => fun _ _ _ _ _ r h => by simp [order_Order_Fields.l0] at h
  | k + 1 => by
    have ih := order_Order_Fields.mono_l k
    intro y0 y1 y2 y3 y4
    unfold order_Order_Fields.l0
    refine LeO.ite (LeO.bind (order_Order_Put.mono _ _ _ _) (fun _ => LeO.ite (ih _ _ _ _ _) (LeO.refl _))) (LeO.refl _)
theorem order_Order_Fields.mono : ∀ a0 a1 a2 k, LeO (order_Order_Fields.f k a0 a1 a2) (order_Order_Fields.f (k + 1) a0 a1 a2) := fun a0 a1 a2 k => order_Order_Fields.mono_l k a0 a1 a2 _ _
theorem order_Order_Fields.more {k j : Nat} (h : k ≤ j) {y0 y1 y2 y3 y4 r} (hr : order_Order_Fields.l0 k y0 y1 y2 y3 y4 = some r) : order_Order_Fields.l0 j y0 y1 y2 y3 y4 = some r := at_rounds (g := fun k => order_Order_Fields.l0 k y0 y1 y2 y3 y4) (fun k => order_Order_Fields.mono_l k _ _ _ _ _) h hr
theorem order_Order_Fields.cells (l : List UInt8) : Lib.byteCells l = l.map fun b => Value.int .u8 b.toNat := rfl
theorem order_Order_Fields.strCells (s : ByteArray) : Lib.strCells s = Lib.byteCells s.data.toList := rfl
def order_Order_Fields.T5 : Bool × List (List Nat × List Nat) := (true, [([], []), ([], []), ([], []), ([1, 2], [1, 2]), ([3], [3]), ([], []), ([], []), ([5, 6], [5, 6]), ([7], [7]), ([0, 4, 8], [0, 4, 8]), ([9, 9], [9])])
def order_Order_Fields.B5 : List Nat := [0, 0, 0, 6, 14, 0, 0, 96, 224, 511, 1023]
theorem order_Order_Fields.tab5 : rtab .any (opsOf Try.f21 5) = order_Order_Fields.T5 := by kernel_rfl
theorem order_Order_Fields.bits5 : waitsOk order_Order_Fields.T5.2 order_Order_Fields.B5 = true := by kernel_rfl
theorem order_Order_Fields.old {W W1 : World} {b : Addr} {v : Value} (hb : Below W.heap.size W W1) (h : W.cell? b = some v) : W1.cell? b = some v := pw_cell_below hb h
theorem order_Order_Fields.step (i m : Int) (h0 : 0 ≤ i) (h : i < m) {n : Nat} (hm : m ≤ n) (hn : n ≤ 9223372036854775807) : IntKind.i64.wrap (i + 1) = i + 1 := by
  rw [IntKind.wrap_i64]; omega
set_option maxHeartbeats 4000000 in
set_option maxRecDepth 100000 in
theorem order_Order_Fields.calls (k : Nat) (a0_0 : Bool) (A1 : Option Addr) (c1 : Nat) (l1 : List Int) (A2 : Option Addr) (c2 : Nat) (l2 : List Int) (r : ByteArray) (w : World) (hr1 : Kd.C (Kd.int .i64) w A1 l1.length l1) (hc1 : l1.length ≤ c1) (hr2 : Kd.C (Kd.int .u64) w A2 l2.length l2) (hc2 : l2.length ≤ c2) (h : order_Order_Fields.f k a0_0 l1 l2 = some r) :
    Calls Try.prog 21 #[.agg #[.bool a0_0], .slice A1 l1.length c1, .slice A2 l2.length c2] w fun e w' => e = .returned (.string r) ∧ Below w.heap.size w w' := by
  have H := Aside0.mk h
  clear h
  have HR1 := Aside0.mk hr1
  have HR2 := Aside0.mk hr2
  have M1 := Kd.C_max hr1
  have M2 := Kd.C_max hr2
  clear hr1 hr2 hc1 hc2
  obtain ⟨m, hm⟩ : ∃ m : Int, mn (l1.length : Int) (l2.length : Int) = m := ⟨_, rfl⟩
  have hm1 : m ≤ l1.length := by rw [← hm]; unfold mn; split <;> omega
  have hm2 : m ≤ l2.length := by rw [← hm]; unfold mn; split <;> omega
  have Hm := Aside0.mk hm
  have hm_ : (if l2.length < l1.length then (l2.length : Int) else (l1.length : Int)) = m := by rw [← hm]; unfold mn; simp only [Int.ofNat_lt]
  clear hm
  go_enter Try.func21, Try.ntmps21
  go_wp2
  clear hm_
  have hB0 : Below w.heap.size w ((w.alloc (Obj.cells #[Value.bool a0_0] 25)).alloc (Obj.cells #[Value.pointer none, Value.slice none 0 0] 65)) := ((Below.refl _ _).alloc (Nat.le_refl _) _).alloc (by simp) _
  have hI0 : Lib.IsBuilder 65 5 (w.heap.size + 1) (w.heap.size + 1) [] ((w.alloc (Obj.cells #[Value.bool a0_0] 25)).alloc (Obj.cells #[Value.pointer none, Value.slice none 0 0] 65)) := by
    have := Bld.isB_new (B := w.heap.size + 1) (w.alloc (Obj.cells #[Value.bool a0_0] 25)) (by simp)
    simpa using this
  have hC0 : ((w.alloc (Obj.cells #[Value.bool a0_0] 25)).alloc (Obj.cells #[Value.pointer none, Value.slice none 0 0] 65)).heap[w.heap.size]? = some (.cells #[.bool a0_0] 25 (0, 0)) := blk_alloc (heap_alloc_new w _) _
  have HI0 := Aside0.mk hI0
  have HC0 := Aside0.mk hC0
  have HB0 := Aside0.mk hB0
  clear hI0 hC0 hB0
  go_loopg [14] k (fun kq v14 w' => ∃ (i : Int) (s : ByteArray), v14 = .int .i64 i ∧ 0 ≤ i ∧ Aside0 (order_Order_Fields.l0 kq a0_0 l1 l2 s i = some r) ∧ Aside0 (kq ≤ k) ∧ Aside0 (Lib.IsBuilder 65 5 (w.heap.size + 1) (w.heap.size + 1) (Lib.byteCells s.data.toList) w') ∧ Aside0 (w'.heap[w.heap.size]? = some (.cells #[.bool a0_0] 25 (0, 0))) ∧ Aside0 (Below w.heap.size w w'))
  case atStart => exact ⟨0, ⟨#[]⟩, rfl, by omega, H, ⟨Nat.le_refl _⟩, HI0, HC0, HB0⟩
  case round =>
    clear H HI0 HC0 HB0
    obtain ⟨i, s, rfl, hi0, HA, HK, HI, HC, HB⟩ := hrel
    cases gk with
    | zero => exact absurd HA.out (by simp [order_Order_Fields.l0])
    | succ gk =>
      have H := HA.out
      clear HA
      simp only [order_Order_Fields.l0] at H
      rw [Hm.out] at H
      by_cases c1 : i < m
      · rw [if_pos c1] at H
        have c1b : decide (i < m) = true := decide_eq_true c1
        obtain ⟨t, hp, H2⟩ := Option.bind_eq_some_iff.mp H
        have HP := Aside0.mk hp
        have HT := Aside0.mk H2
        clear hp H H2
        have p0 : (0 ≤ i) = True := eq_true hi0
        have p1 : i < (l1.length : Int) := by omega
        have p2 : i < (l2.length : Int) := by omega
        obtain ⟨ad1, e1, hx1⟩ := Kd.at_int HR1.out i hi0 p1
        obtain ⟨ad2, e2, hx2⟩ := Kd.at_int HR2.out i hi0 p2
        cases e1
        cases e2
        replace hx1 := Aside0.mk hx1
        replace hx2 := Aside0.mk hx2
        replace p1 := eq_true p1
        replace p2 := eq_true p2
        have hS : ∀ W : World, Below w.heap.size w W → W.heap[w.heap.size]? = some (.cells #[.bool a0_0] 25 (0, 0)) → W.cell? ⟨w.heap.size, 0, none⟩ = some (.bool a0_0) ∧ W.cell? (ad2.add i.toNat) = some (.int .u64 (rd l2 i)) ∧ W.cell? (ad1.add i.toNat) = some (.int .i64 (rd l1 i)) := fun W hW hc => ⟨(blk_cell hc 0).trans rfl, pw_cell_below hW hx2.out, pw_cell_below hW hx1.out⟩
        have HS := Aside0.mk hS
        clear hS
        go_wp2
        have hhs : w.heap.size < wr.heap.size := blk_lt HC.out
        have n0_ := Aside0.mk (below_drew1 HB.out)
        have n1_ := Aside0.mk (blk_drew HC.out)
        have n2_ : Aside0 (Lib.IsBuilder 65 5 (w.heap.size + 1) (w.heap.size + 1) (Lib.byteCells s.data.toList) wr.drew) := ⟨HI.out⟩
        clear HB HC HI
        have HB := n0_
        have HC := n1_
        have HI := n2_
        clear n0_ n1_ n2_
        refine start_ (n := 11) (S := (fun w' => w'.cell? ⟨w.heap.size, 0, none⟩ = some (.bool a0_0) ∧ w'.cell? (ad2.add i.toNat) = some (.int .u64 (rd l2 i)) ∧ w'.cell? (ad1.add i.toNat) = some (.int .i64 (rd l1 i)))) (ds := []) #[false, false, false, false, false, false, false, false, false, false, false] (by kernel_rfl) rfl rfl ((HS.out _ HB.out HC.out)) (fun hHeld => ?_); refine with_tabW order_Order_Fields.tab5 order_Order_Fields.bits5 (fun HT_ HW_ => ?_)
        generalize wr.drew = W at HB HC HI hHeld ⊢
        refine pure_ (i := 1) (N := some 18) (v := ?_) (a' := ?_) #[false, true, false, false, false, false, false, false, false, false, false] rfl rfl (any_of HT_.out (by kernel_rfl)) (fun _ _ _ h => h) (Or.inl ⟨by rfl, ?_⟩) ?_ ?_
        rotate_left
        · intro w'
          go_simp
          with_reducible rfl
        rotate_left
        · simp only [Act.put, List.setIfInBounds_toArray, List.set_cons_zero, List.set_cons_succ, i64_w, i32_w]
          rfl
        refine pure_ (i := 2) (N := some 19) (v := ?_) (a' := ?_) #[false, true, true, false, false, false, false, false, false, false, false] rfl rfl (any_of HT_.out (by kernel_rfl)) (fun _ _ _ h => h) (Or.inl ⟨by rfl, ?_⟩) ?_ ?_
        rotate_left
        · intro w'
          go_simp
          with_reducible rfl
        rotate_left
        · simp only [Act.put, List.setIfInBounds_toArray, List.set_cons_zero, List.set_cons_succ, i64_w, i32_w]
          rfl
        refine pure_ (i := 3) (N := some 20) (v := ?_) (a' := ?_) #[false, true, true, true, false, false, false, false, false, false, false] rfl rfl (any_of HT_.out (by kernel_rfl)) (fun _ _ _ h => h) (Or.inl ⟨by rfl, ?_⟩) ?_ ?_
        rotate_left
        · intro w'
          go_simp
          with_reducible rfl
        rotate_left
        · simp only [Act.put, List.setIfInBounds_toArray, List.set_cons_zero, List.set_cons_succ, i64_w, i32_w]
          rfl
        refine pure_ (i := 5) (N := some 22) (v := ?_) (a' := ?_) #[false, true, true, true, false, true, false, false, false, false, false] rfl rfl (any_of HT_.out (by kernel_rfl)) (fun _ _ _ h => h) (Or.inl ⟨by rfl, ?_⟩) ?_ ?_
        rotate_left
        · intro w'
          go_simp
          with_reducible rfl
        rotate_left
        · simp only [Act.put, List.setIfInBounds_toArray, List.set_cons_zero, List.set_cons_succ, i64_w, i32_w]
          rfl
        refine pure_ (i := 6) (N := some 23) (v := ?_) (a' := ?_) #[false, true, true, true, false, true, true, false, false, false, false] rfl rfl (any_of HT_.out (by kernel_rfl)) (fun _ _ _ h => h) (Or.inl ⟨by rfl, ?_⟩) ?_ ?_
        rotate_left
        · intro w'
          go_simp
          with_reducible rfl
        rotate_left
        · simp only [Act.put, List.setIfInBounds_toArray, List.set_cons_zero, List.set_cons_succ, i64_w, i32_w]
          rfl
        refine pure_ (i := 7) (N := some 24) (v := ?_) (a' := ?_) #[false, true, true, true, false, true, true, true, false, false, false] rfl rfl (any_of HT_.out (by kernel_rfl)) (fun _ _ _ h => h) (Or.inl ⟨by rfl, ?_⟩) ?_ ?_
        rotate_left
        · intro w'
          go_simp
          with_reducible rfl
        rotate_left
        · simp only [Act.put, List.setIfInBounds_toArray, List.set_cons_zero, List.set_cons_succ, i64_w, i32_w]
          rfl
        refine take_ (i := 0) (N := some 17) (v := ?_) (a' := ?_) #[true, true, true, true, false, true, true, true, false, false, false] rfl rfl (take_ofW HT_.out HW_.out (by kernel_rfl)) (fun _ _ _ h => h) (Or.inl ⟨by rfl, ?_⟩) hHeld ?_ ?_
        rotate_left
        · intro w' s0
          go_simp
          with_reducible rfl
        rotate_left
        · simp only [Act.put, List.setIfInBounds_toArray, List.set_cons_zero, List.set_cons_succ, i64_w, i32_w]
          rfl
        refine take_ (i := 4) (N := some 21) (v := ?_) (a' := ?_) #[true, true, true, true, true, true, true, true, false, false, false] rfl rfl (take_ofW HT_.out HW_.out (by kernel_rfl)) (fun _ _ _ h => h) (Or.inl ⟨by rfl, ?_⟩) hHeld ?_ ?_
        rotate_left
        · intro w' s0
          go_simp
          with_reducible rfl
        rotate_left
        · simp only [Act.put, List.setIfInBounds_toArray, List.set_cons_zero, List.set_cons_succ, i64_w, i32_w]
          rfl
        refine take_ (i := 8) (N := some 25) (v := ?_) (a' := ?_) #[true, true, true, true, true, true, true, true, true, false, false] rfl rfl (take_ofW HT_.out HW_.out (by kernel_rfl)) (fun _ _ _ h => h) (Or.inl ⟨by rfl, ?_⟩) hHeld ?_ ?_
        rotate_left
        · intro w' s0
          go_simp
          with_reducible rfl
        rotate_left
        · simp only [Act.put, List.setIfInBounds_toArray, List.set_cons_zero, List.set_cons_succ, i64_w, i32_w]
          rfl
        refine one_ (i := 9) (N := (some 26)) #[true, true, true, true, true, true, true, true, true, true, false] rfl rfl (one_of HT_.out (by kernel_rfl)) (by decide) (fun K hK => ?_)
        refine goes_ Try.func10 (by kernel_rfl) rfl #[.agg #[.bool a0_0], .int .u64 (rd l2 i), .int .i64 (rd l1 i)] (by rfl) rfl rfl (by (try simp only [List.map_toArray, List.map_cons, List.map_nil]); first | done | rfl) ?_
        with_reducible refine (order_Order_Put.calls gk a0_0 (rd l2 i) (rd l1 i) t _ HP.out).mono ?_
        rintro e w2 ⟨rfl, hb⟩
        refine ⟨_, rfl, ?_⟩
        have n0_ := Aside0.mk (below_step HB.out hb)
        have n1_ := Aside0.mk (blk_below HC.out hb)
        have n2_ := Aside0.mk (Bld.isB_below HI.out hb)
        clear HB HC HI hb
        have HB := n0_
        have HC := n1_
        have HI := n2_
        clear n0_ n1_ n2_
        refine hK.out _ _ (HS.out _ HB.out HC.out) (fun hHeld => ?_)
        clear hK K
        refine norm_ (a' := ?_) ?_ ?_
        rotate_left
        · show Act.put _ (some 26) _ = _
          simp only [Act.put, List.setIfInBounds_toArray, List.set_cons_zero, List.set_cons_succ, i64_w, i32_w]
          rfl
        by_cases hl : s.size + t.size ≤ 140737488355328
        · have HL := Aside0.mk hl
          clear hl
          refine one_ (i := 10) (N := (some 27)) #[true, true, true, true, true, true, true, true, true, true, true] rfl rfl (one_of HT_.out (by kernel_rfl)) (by decide) (fun K hK => ?_)
          refine goes_ Try.func32 (by kernel_rfl) rfl #[.pointer (some ⟨w.heap.size + 1, 0, none⟩), .string t] (by rfl) rfl rfl (by (try simp only [List.map_toArray, List.map_cons, List.map_nil]); first | done | rfl) ?_
          with_reducible refine (Bld.writeString (w.heap.size + 1) (w.heap.size + 1) (Lib.byteCells s.data.toList) t _ HI.out (by rw [Bld.bytes_len]; exact HL.out) (by have := blk_lt HC.out; omega)).mono ?_
          rintro e w3 ⟨rfl, hbl, hb⟩
          refine ⟨_, rfl, ?_⟩
          rw [Bld.bytes_app] at hbl
          have n0_ := Aside0.mk (Bld.low HB.out hb (by omega))
          have n1_ := Aside0.mk ((hb.block w.heap.size (by omega)).trans HC.out)
          have n2_ := Aside0.mk (Bld.isB_at hbl)
          have hT := HT.out
          rw [if_pos HL.out] at hT
          have HT2 := Aside0.mk hT
          clear HB HC HI hb hbl hT HT
          have HB := n0_
          have HC := n1_
          have HI := n2_
          clear n0_ n1_ n2_
          refine hK.out _ _ (HS.out _ HB.out HC.out) (fun hHeld => ?_)
          clear hK K
          refine norm_ (a' := ?_) ?_ ?_
          rotate_left
          · show Act.put _ (some 27) _ = _
            simp only [Act.put, List.setIfInBounds_toArray, List.set_cons_zero, List.set_cons_succ, i64_w, i32_w]
            rfl
          refine done_ (done_of HT_.out (by kernel_rfl)) ?_
          have hw := order_Order_Fields.step i m hi0 (of_decide_eq_true c1b) hm1 M1
          go_wp2
          go_roundg gk
          case measure => have := HK.out; omega
          case rel => exact ⟨i + 1, s ++ t, rfl, by omega, HT2, ⟨by have := HK.out; omega⟩, HI, HC, HB⟩
        · exfalso
          have hT := HT.out
          rw [if_neg hl] at hT
          cases hT
      · rw [if_neg c1] at H
        have c1b : decide (i < m) = false := decide_eq_false c1
        obtain rfl := Option.some.inj H
        clear H c1
        go_wp2_with (go_at_call 33; refine (Try.Builder_String_any (w.heap.size + 1) (w.heap.size + 1) s.data.toList _ HI.out (by have := blk_lt HC.out; omega)).mono ?_; rintro e w4 ⟨rfl, hb⟩)
        go_ret
        exact ⟨rfl, Bld.low HB.out hb (by omega)⟩


end Go.Proofs.Ythbkjppaimjpmaa.Q
