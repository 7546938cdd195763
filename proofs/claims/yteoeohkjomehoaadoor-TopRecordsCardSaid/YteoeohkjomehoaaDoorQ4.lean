/- What Go functions of the program compute, each as a Lean function with the proof that the call returns just that. No condition but those in the statements. -/
import Derived.Test.YteoeohkjomehoaaDoorQ0
import Derived.Test.YteoeohkjomehoaaDoorQ2
import Derived.Test.YteoeohkjomehoaaDoorQ3
import Derived.Test.YteoeohkjomehoaaDoorBld
import Derived.Test.YteoeohkjomehoaaDoorPts
namespace Go.Proofs.YteoeohkjomehoaaDoor.Q
open Go.RowKit Go.Proofs.YteoeohkjomehoaaDoorW.PrintWords Go.Proofs.YteoeohkjomehoaaDoorW.PrintLast Go.Proofs.YteoeohkjomehoaaDoorW.PrintMore
attribute [local go_sem] max2_int min2_int max_two min_two max_three min_three max_four min_four   -- for this text's walks alone
set_option linter.unusedVariables false
set_option linter.unusedSimpArgs false

/-! ### order_Order_Fields: function 100 -/
def order_Order_Fields.l0 : Nat → Bool → List Int → List Int → ByteArray → Int → Option (ByteArray)
  | 0, _, _, _, _, _ => none
  | k + 1, b, x1, x2, s, i => if i < mn (x1.length : Int) (x2.length : Int) then ((order_Order_Put.f k b (rd x2 i) (rd x1 i)).bind fun t => (if s.size + t.size ≤ 140737488355328 then (order_Order_Fields.l0 k b x1 x2 (s ++ t) (i + 1)) else none)) else (some s)
def order_Order_Fields.f (k : Nat) (a0_0 : Bool) (l1 : List Int) (l2 : List Int) : Option (ByteArray) := order_Order_Fields.l0 k a0_0 l1 l2 (⟨#[]⟩ : ByteArray) 0
theorem order_Order_Fields.mono_l : ∀ k y0 y1 y2 y3 y4, LeO (order_Order_Fields.l0 k y0 y1 y2 y3 y4) (order_Order_Fields.l0 (k + 1) y0 y1 y2 y3 y4)
  | 0 => fun _ _ _ _ _ r h => by simp [order_Order_Fields.l0] at h
  | k + 1 => by
    (have ih := order_Order_Fields.mono_l k); intro y0 y1 y2 y3 y4; (unfold order_Order_Fields.l0); refine LeO.ite (LeO.bind (order_Order_Put.mono _ _ _ _) (fun _ => LeO.ite (ih _ _ _ _ _) (LeO.refl _))) (LeO.refl _)
theorem order_Order_Fields.mono : ∀ a0 a1 a2 k, LeO (order_Order_Fields.f k a0 a1 a2) (order_Order_Fields.f (k + 1) a0 a1 a2) := fun a0 a1 a2 k => order_Order_Fields.mono_l k a0 a1 a2 _ _
theorem order_Order_Fields.more {k j : Nat} (h : k ≤ j) {y0 y1 y2 y3 y4 r} (hr : order_Order_Fields.l0 k y0 y1 y2 y3 y4 = some r) : order_Order_Fields.l0 j y0 y1 y2 y3 y4 = some r := at_rounds (g := fun k => order_Order_Fields.l0 k y0 y1 y2 y3 y4) (fun k => order_Order_Fields.mono_l k _ _ _ _ _) h hr
theorem order_Order_Fields.cells (l : List UInt8) : Lib.byteCells l = l.map fun b => Value.int .u8 b.toNat := rfl
theorem order_Order_Fields.strCells (s : ByteArray) : Lib.strCells s = Lib.byteCells s.data.toList := rfl
def order_Order_Fields.T5 : Bool × List (List Nat × List Nat) := (true, [([], []), ([], []), ([], []), ([1, 2], [1, 2]), ([3], [3]), ([], []), ([], []), ([5, 6], [5, 6]), ([7], [7]), ([0, 4, 8], [0, 4, 8]), ([9, 9], [9])])
def order_Order_Fields.B5 : List Nat := [0, 0, 0, 6, 14, 0, 0, 96, 224, 511, 1023]
theorem order_Order_Fields.tab5 : rtab .any (opsOf Tryd.f100 5) = order_Order_Fields.T5 := by kernel_rfl
theorem order_Order_Fields.bits5 : waitsOk order_Order_Fields.T5.2 order_Order_Fields.B5 = true := by kernel_rfl
theorem order_Order_Fields.old {W W1 : World} {b : Addr} {v : Value} (hb : Below W.heap.size W W1) (h : W.cell? b = some v) : W1.cell? b = some v := pw_cell_below hb h
theorem order_Order_Fields.step (i m : Int) (h0 : 0 ≤ i) (h : i < m) {n : Nat} (hm : m ≤ n) (hn : n ≤ 9223372036854775807) : IntKind.i64.wrap (i + 1) = i + 1 := by
  rw [IntKind.wrap_i64]; omega
set_option maxHeartbeats 4000000 in
set_option maxRecDepth 100000 in
theorem order_Order_Fields.calls (k : Nat) (a0_0 : Bool) (A1 : Option Addr) (c1 : Nat) (l1 : List Int) (A2 : Option Addr) (c2 : Nat) (l2 : List Int) (r : ByteArray) (w : World) (hr1 : Kd.C (Kd.int .i64) w A1 l1.length l1) (hc1 : l1.length ≤ c1) (hr2 : Kd.C (Kd.int .u64) w A2 l2.length l2) (hc2 : l2.length ≤ c2) (h : order_Order_Fields.f k a0_0 l1 l2 = some r) :
    Calls Tryd.prog 100 #[.agg #[.bool a0_0], .slice A1 l1.length c1, .slice A2 l2.length c2] w fun e w' => e = .returned (.string r) ∧ Below w.heap.size w w' := by
  (have H := aS h); clear h; (have HR1 := aS hr1); (have HR2 := aS hr2); (have M1 := Kd.C_max hr1); (have M2 := Kd.C_max hr2); clear hr1 hr2 hc1 hc2; (obtain ⟨m, hm⟩ : ∃ m : Int, mn (l1.length : Int) (l2.length : Int) = m := ⟨_, rfl⟩); (have hm1 : m ≤ l1.length := by rw [← hm]; unfold mn; split <;> omega); (have hm2 : m ≤ l2.length := by rw [← hm]; unfold mn; split <;> omega); (have Hm := aS hm); (have hm_ : (if l2.length < l1.length then (l2.length : Int) else (l1.length : Int)) = m := by rw [← hm]; unfold mn; simp only [Int.ofNat_lt]); clear hm; (go_enter Tryd.func100, Tryd.ntmps100); (go_wp2); clear hm_; have hB0 : Below w.heap.size w ((w.alloc (Obj.cells #[Value.bool a0_0] 25)).alloc (Obj.cells #[Value.pointer none, Value.slice none 0 0] 198)) := ((Below.refl _ _).alloc (Nat.le_refl _) _).alloc (by simp) _
  have hI0 : Lib.IsBuilder 198 5 (w.heap.size + 1) (w.heap.size + 1) [] ((w.alloc (Obj.cells #[Value.bool a0_0] 25)).alloc (Obj.cells #[Value.pointer none, Value.slice none 0 0] 198)) := by
    have := Bld.isB_new (B := w.heap.size + 1) (w.alloc (Obj.cells #[Value.bool a0_0] 25)) (by simp)
    simpa using this
  (have hC0 : ((w.alloc (Obj.cells #[Value.bool a0_0] 25)).alloc (Obj.cells #[Value.pointer none, Value.slice none 0 0] 198)).heap[w.heap.size]? = some (.cells #[.bool a0_0] 25 (0, 0)) := blk_alloc (heap_alloc_new w _) _); (have HI0 := aS hI0); (have HC0 := aS hC0); (have HB0 := aS hB0); clear hI0 hC0 hB0; go_loopg [14] k (fun kq v14 w' => ∃ (i : Int) (s : ByteArray), v14 = .int .i64 i ∧ 0 ≤ i ∧ Aside0 (order_Order_Fields.l0 kq a0_0 l1 l2 s i = some r) ∧ Aside0 (kq ≤ k) ∧ Aside0 (Lib.IsBuilder 198 5 (w.heap.size + 1) (w.heap.size + 1) (Lib.byteCells s.data.toList) w') ∧ Aside0 (w'.heap[w.heap.size]? = some (.cells #[.bool a0_0] 25 (0, 0))) ∧ Aside0 (Below w.heap.size w w'))
  case atStart => exact ⟨0, ⟨#[]⟩, rfl, by omega, H, ⟨Nat.le_refl _⟩, HI0, HC0, HB0⟩
  case round =>
    clear H HI0 HC0 HB0; obtain ⟨i, s, rfl, hi0, HA, HK, HI, HC, HB⟩ := hrel
    cases gk with
    | zero => exact absurd HA.out (by simp [order_Order_Fields.l0])
    | succ gk =>
      (have H := HA.out); clear HA; (simp only [order_Order_Fields.l0] at H); rw [Hm.out] at H
      by_cases c1 : i < m
      · rw [if_pos c1] at H
        (have c1b : decide (i < m) = true := decide_eq_true c1); (obtain ⟨t, hp, H2⟩ := Option.bind_eq_some_iff.mp H); (have HP := aS hp); (have HT := aS H2); clear hp H H2; (have p0 : (0 ≤ i) = True := eq_true hi0); (have p1 : i < (l1.length : Int) := by omega); (have p2 : i < (l2.length : Int) := by omega); (obtain ⟨ad1, e1, hx1⟩ := Kd.at_int HR1.out i hi0 p1); obtain ⟨ad2, e2, hx2⟩ := Kd.at_int HR2.out i hi0 p2
        cases e1
        cases e2
        (replace hx1 := aS hx1); (replace hx2 := aS hx2); (replace p1 := eq_true p1); (replace p2 := eq_true p2); (have hS : ∀ W : World, Below w.heap.size w W → W.heap[w.heap.size]? = some (.cells #[.bool a0_0] 25 (0, 0)) → W.cell? ⟨w.heap.size, 0, none⟩ = some (.bool a0_0) ∧ W.cell? (ad2.add i.toNat) = some (.int .u64 (rd l2 i)) ∧ W.cell? (ad1.add i.toNat) = some (.int .i64 (rd l1 i)) := fun W hW hc => ⟨(blk_cell hc 0).trans rfl, pw_cell_below hW hx2.out, pw_cell_below hW hx1.out⟩); (have HS := aS hS); clear hS; (go_wp2); (have hhs : w.heap.size < wr.heap.size := blk_lt HC.out); (have n0_ := aS (below_drew1 HB.out)); (have n1_ := aS (blk_drew HC.out)); (have n2_ : Aside0 (Lib.IsBuilder 198 5 (w.heap.size + 1) (w.heap.size + 1) (Lib.byteCells s.data.toList) wr.drew) := ⟨HI.out⟩); clear HB HC HI; (have HB := n0_); (have HC := n1_); (have HI := n2_); clear n0_ n1_ n2_; (refine start_ (n := 11) (S := (fun w' => w'.cell? ⟨w.heap.size, 0, none⟩ = some (.bool a0_0) ∧ w'.cell? (ad2.add i.toNat) = some (.int .u64 (rd l2 i)) ∧ w'.cell? (ad1.add i.toNat) = some (.int .i64 (rd l1 i)))) (ds := []) #[false, false, false, false, false, false, false, false, false, false, false] (by kernel_rfl) rfl rfl ((HS.out _ HB.out HC.out)) (fun hHeld => ?_); refine with_tabW order_Order_Fields.tab5 order_Order_Fields.bits5 (fun HT_ HW_ => ?_)); (generalize wr.drew = W at HB HC HI hHeld ⊢); (refine pU 1 18 (bm 11 2) ?_); (refine pU 2 19 (bm 11 6) ?_); (refine pU 3 20 (bm 11 14) ?_); (refine pU 5 22 (bm 11 46) ?_); (refine pU 6 23 (bm 11 110) ?_); (refine pU 7 24 (bm 11 238) ?_); refine tU 0 17 (bm 11 239) hHeld ?_
        (refine tU 4 21 (bm 11 255) hHeld ?_); (refine tU 8 25 (bm 11 511) hHeld ?_); (refine one_ (i := 9) (N := (some 26)) (bm 11 1023) rfl rfl (one_of HT_.out (by kernel_rfl)) (by decide) (fun K hK => ?_)); (refine goes_ Tryd.func136 (by kernel_rfl) rfl #[.agg #[.bool a0_0], .int .u64 (rd l2 i), .int .i64 (rd l1 i)] (by rfl) rfl rfl (by (try simp only [List.map_toArray, List.map_cons, List.map_nil]); first | done | rfl) ?_); (with_reducible refine (order_Order_Put.calls gk a0_0 (rd l2 i) (rd l1 i) t _ HP.out).mono ?_); (rintro e w2 ⟨rfl, hb⟩); (refine ⟨_, rfl, ?_⟩); (have n0_ := aS (below_step HB.out hb)); (have n1_ := aS (blk_below HC.out hb)); (have n2_ := aS (Bld.isB_below HI.out hb)); clear HB HC HI hb; (have HB := n0_); (have HC := n1_); (have HI := n2_); clear n0_ n1_ n2_; (refine hK.out _ _ (HS.out _ HB.out HC.out) (fun hHeld => ?_)); clear hK K; (refine norm_ (a' := ?_) ?_ ?_); rotate_left
        · (show Act.put _ (some 26) _ = _); (simp only [Act.put, List.setIfInBounds_toArray, List.set_cons_zero, List.set_cons_succ, i64_w, i32_w]); rfl
        by_cases hl : s.size + t.size ≤ 140737488355328
        · have HL := aS hl
          clear hl; (refine one_ (i := 10) (N := (some 27)) (bm 11 2047) rfl rfl (one_of HT_.out (by kernel_rfl)) (by decide) (fun K hK => ?_)); (refine goes_ Tryd.func94 (by kernel_rfl) rfl #[.pointer (some ⟨w.heap.size + 1, 0, none⟩), .string t] (by rfl) rfl rfl (by (try simp only [List.map_toArray, List.map_cons, List.map_nil]); first | done | rfl) ?_); (with_reducible refine (Bld.writeString (w.heap.size + 1) (w.heap.size + 1) (Lib.byteCells s.data.toList) t _ HI.out (by rw [Bld.bytes_len]; exact HL.out) (by have := blk_lt HC.out; omega)).mono ?_); (rintro e w3 ⟨rfl, hbl, hb⟩); (refine ⟨_, rfl, ?_⟩); (rw [Bld.bytes_app] at hbl); (have n0_ := aS (Bld.low HB.out hb (by omega))); (have n1_ := aS ((hb.block w.heap.size (by omega)).trans HC.out)); (have n2_ := aS (Bld.isB_at hbl)); (have hT := HT.out); (rw [if_pos HL.out] at hT); (have HT2 := aS hT); clear HB HC HI hb hbl hT HT; (have HB := n0_); (have HC := n1_); (have HI := n2_); clear n0_ n1_ n2_; (refine hK.out _ _ (HS.out _ HB.out HC.out) (fun hHeld => ?_)); clear hK K; (refine norm_ (a' := ?_) ?_ ?_); rotate_left
          · (show Act.put _ (some 27) _ = _); (simp only [Act.put, List.setIfInBounds_toArray, List.set_cons_zero, List.set_cons_succ, i64_w, i32_w]); rfl
          (refine done_ (done_of HT_.out (by kernel_rfl)) ?_); (have hw := order_Order_Fields.step i m hi0 (of_decide_eq_true c1b) hm1 M1); (go_wp2); go_roundg gk
          case measure => have := HK.out; omega
          case rel => exact ⟨i + 1, s ++ t, rfl, by omega, HT2, ⟨by have := HK.out; omega⟩, HI, HC, HB⟩
        · exfalso
          (have hT := HT.out); rw [if_neg hl] at hT
          cases hT
      · rw [if_neg c1] at H
        (have c1b : decide (i < m) = false := decide_eq_false c1); (obtain rfl := Option.some.inj H); clear H c1; (go_wp2_with (go_at_call 96; refine (Tryd.Builder_String_any (w.heap.size + 1) (w.heap.size + 1) s.data.toList _ HI.out (by have := blk_lt HC.out; omega)).mono ?_; rintro e w4 ⟨rfl, hb⟩)); go_ret
        exact ⟨rfl, Bld.low HB.out hb (by omega)⟩


/-! ### class_Form_Record: function 57 -/
def class_Form_Record.l0 : Nat → List Int → List Int → List Int → Int → Int → Bool → Bool → Option (ByteArray × Bool)
  | 0, _, _, _, _, _, _, _ => none
  | k + 1, x2, x8, x23, x24, x25, x120000, x120001 => if x25 < x24 then (if 0 ≤ x25 then (if x25 < (x23.length : Int) then (if (rd x23 x25) < 0 then (some ((⟨#[]⟩ : ByteArray), false)) else (if (rd x23 x25) > 8 then (some ((⟨#[]⟩ : ByteArray), false)) else (if x25 < (x2.length : Int) then ((class_fits.f (rd x2 x25) (rd x23 x25)).bind fun t126 => (if t126 = true then (class_Form_Record.l0 k x2 x8 x23 x24 (wrap64 (x25 + 1)) x120000 x120001) else (some ((⟨#[]⟩ : ByteArray), false)))) else (none)))) else (none)) else (none)) else ((order_Order_Fields.f k x120000 x8 x2).bind fun t127 => (some (t127, true)))
def class_Form_Record.f (k : Nat) (a0_0 : Bool) (a0_1 : Bool) (l1 : List Int) (l2 : List Int) : Option (ByteArray × Bool) := if (l1.length : Int) = (l2.length : Int) then ((class_Form_Sizes.f k a0_0 a0_1 l1).bind fun bt120 => (class_Form_Record.l0 k l2 bt120.1 bt120.1 (bt120.1.length : Int) 0 a0_0 a0_1)) else (some ((⟨#[]⟩ : ByteArray), false))
theorem class_Form_Record.mono_l : ∀ k, (∀ y0 y1 y2 y3 y4 y5 y6, LeO (class_Form_Record.l0 k y0 y1 y2 y3 y4 y5 y6) (class_Form_Record.l0 (k + 1) y0 y1 y2 y3 y4 y5 y6))
  | 0 => fun _ _ _ _ _ _ _ r h => by simp [class_Form_Record.l0] at h
  | k + 1 => by
    have ih0 := class_Form_Record.mono_l k
    · intro y0 y1 y2 y3 y4 y5 y6
      unfold class_Form_Record.l0
      repeat' first
      | (with_reducible exact ih0 _ _ _ _ _ _ _)
      | (with_reducible exact class_Form_Sizes.mono _ _ _ _)
      | (with_reducible exact order_Order_Fields.mono _ _ _ _)
      | (with_reducible exact LeO.refl _)
      | (with_reducible exact LeO.none _)
      | (with_reducible refine LeO.ite ?_ ?_)
      | (with_reducible refine LeO.bind ?_ (fun _ => ?_))
      | exact ih0 _ _ _ _ _ _ _
      | exact class_Form_Sizes.mono _ _ _ _
      | exact order_Order_Fields.mono _ _ _ _
      | exact LeO.none _
      | refine LeO.ite ?_ ?_
      | refine LeO.bind ?_ (fun _ => ?_)
theorem class_Form_Record.mono : ∀ a0 a1 a2 a3 k, LeO (class_Form_Record.f k a0 a1 a2 a3) (class_Form_Record.f (k + 1) a0 a1 a2 a3) := by
  intro a0 a1 a2 a3 k; (have ih0 := class_Form_Record.mono_l k); unfold class_Form_Record.f
  repeat' first
      | (with_reducible exact ih0 _ _ _ _ _ _ _)
      | (with_reducible exact class_Form_Sizes.mono _ _ _ _)
      | (with_reducible exact order_Order_Fields.mono _ _ _ _)
      | (with_reducible exact LeO.refl _)
      | (with_reducible exact LeO.none _)
      | (with_reducible refine LeO.ite ?_ ?_)
      | (with_reducible refine LeO.bind ?_ (fun _ => ?_))
      | exact ih0 _ _ _ _ _ _ _
      | exact class_Form_Sizes.mono _ _ _ _
      | exact order_Order_Fields.mono _ _ _ _
      | exact LeO.none _
      | refine LeO.ite ?_ ?_
      | refine LeO.bind ?_ (fun _ => ?_)
set_option maxHeartbeats 8000000 in
set_option maxRecDepth 100000 in
theorem class_Form_Record.calls (k : Nat) (a0_0 : Bool) (a0_1 : Bool) (A1 : Option Addr) (c1 : Nat) (l1 : List Int) (A2 : Option Addr) (c2 : Nat) (l2 : List Int) (r1 : ByteArray) (r2 : Bool) (w : World) (hr1 : Kd.C (Kd.int .i64) w A1 l1.length l1) (hc1 : l1.length ≤ c1) (hr2 : Kd.C (Kd.int .u64) w A2 l2.length l2) (hc2 : l2.length ≤ c2) (h : class_Form_Record.f k a0_0 a0_1 l1 l2 = some (r1, r2)) :
    Calls Tryd.prog 57 #[.agg #[.bool a0_0, .bool a0_1], .slice A1 l1.length c1, .slice A2 l2.length c2] w fun e w' => e = .returned (.tuple #[.string r1, .bool r2]) ∧ Below w.heap.size w w' := by
  (have hu27 := Tryd.underlying27); (have hu25 := Tryd.underlying25); (have HR1 := aS hr1); (have HC1 := aS hc1); clear hr1 hc1; (have HR2 := aS hr2); (have HC2 := aS hc2); clear hr2 hc2; (have HB := aS (Below.refl w.heap.size w)); (have H : (if (l1.length : Int) = (l2.length : Int) then ((class_Form_Sizes.f k a0_0 a0_1 l1).bind fun bt120 => (class_Form_Record.l0 k l2 bt120.1 bt120.1 (bt120.1.length : Int) 0 a0_0 a0_1)) else (some ((⟨#[]⟩ : ByteArray), false))) = some (r1, r2) := h); clear h
  by_cases c4 : (l1.length : Int) = (l2.length : Int)
  · rw [if_pos c4] at H
    (have c4b0 : ((l1.length : Int) == (l2.length : Int)) = true := beq_iff_eq.mpr c4); (have c4b1 : ((l1.length : Int) != (l2.length : Int)) = false := bne_eq_false_iff_eq.mpr c4); (have c4b2 : (l1.length == l2.length) = true := by first | simpa using c4 | (simp at c4 ⊢; omega)); clear c4; (replace H := Option.bind_eq_some_iff.mp H); (obtain ⟨⟨t120, t123⟩, A50, H⟩ := H); (replace H : (class_Form_Record.l0 k l2 t120 t120 (t120.length : Int) 0 a0_0 a0_1) = some (r1, r2) := H); (have A5 := aS A50); clear A50; (have H' := aS H); clear H; (go_enter Tryd.func57, Tryd.ntmps57); go_wp2_with (first | ((with_reducible refine gate_dst (N := 3) rfl ?_); refine bE 3 #[.bool a0_0, .bool a0_1] 27 ?_; intro gb119 hg w6 hbox hb; have n0_ := aS (below_step hbN hb); have n1_ := aS (hbox); have n2_ := aS (bsz hg hbN : w.heap.size ≤ gb119); have n3_ := aS (bsz hg hbN : w.heap.size ≤ gb119); clear HB; have HB := n0_; have BK119 := n1_; have GW119 := n2_; have GE119 := n3_; clear n0_ n1_ n2_ n3_; clear hb hbox hg; have hcz7_0 : w6.cell? ⟨gb119, 0, none⟩ = some (.bool a0_0) := (blk_cell BK119.out 0).trans rfl; have hcz7_1 : w6.cell? ⟨gb119, 1, none⟩ = some (.bool a0_1) := (blk_cell BK119.out 1).trans rfl; have hfz7_0 := blk_frozen BK119.out 0; have hfz7_1 := blk_frozen BK119.out 1) | ((with_reducible refine gate_callee (f := 97) rfl ?_); refine gL (some 20) Tryd.func97 #[.agg #[.bool a0_0, .bool a0_1], .slice A1 l1.length c1] ?_; (with_reducible refine (class_Form_Sizes.calls k a0_0 a0_1 _ _ l1 t120 t123 _ ?side1 ?side2 A5.out).mono ?_); (case side1 => repeat (first | exact (Kd.C_below HR1.out HB.out) | (with_reducible refine Kd.C_alloc ?_ _) | (with_reducible refine Kd.C_drewN ?_ _) | (with_reducible refine Kd.C_drew ?_))); (case side2 => exact HC1.out); rintro e w8 ⟨v121, rfl, ho0, hb⟩; refine ⟨_, rfl, ?_⟩; have n0_ := aS (Kd.R_lower ho0 (below_size hbS)); have n1_ := aS (blk_below (g := gb119) (o := .cells #[.bool a0_0, .bool a0_1] 27 (0, 0)) bkN hb); have n2_ := aS (below_step hbS hb); clear BK119; clear HB; have HO122 := n0_; have BK119 := n1_; have HB := n2_; clear n0_ n1_ n2_; (try clear hb); (try clear hb2); (try clear hk); (try clear hi); (try clear ho0); obtain ⟨Ao9, co9, eo9⟩ := Kd.R_slice HO122.out; subst eo9))
    go_loopg [25] k (fun kq v25 w' => ∃ (x25_1 : Int), v25 = .int .i64 x25_1 ∧ Aside0 (class_Form_Record.l0 kq l2 t120 t120 (t120.length : Int) x25_1 a0_0 a0_1 = some (r1, r2)) ∧ Aside0 (kq ≤ k) ∧ Aside0 (Kd.R (Kd.int .i64) 3 w' w.heap.size (fun _ => True) (.slice Ao9 t120.length co9) t120) ∧ Aside0 (Kd.R (Kd.int .i64) 3 w' w.heap.size (fun _ => True) (.slice Ao9 t120.length co9) t120) ∧ Aside0 (w'.heap[gb119]? = some (.cells #[.bool a0_0, .bool a0_1] 27 (0, 0))) ∧ Aside0 (Below w.heap.size w w'))
    case atStart => exact ⟨(0), (by first | rfl | (simp; done) | (simp [*]; done)), H', ⟨Nat.le_refl _⟩, ⟨by (with_reducible repeat (first | apply Kd.R_alloc | apply Kd.R_drewN | apply Kd.R_drew)); exact HO122.out⟩, ⟨by (with_reducible repeat (first | apply Kd.R_alloc | apply Kd.R_drewN | apply Kd.R_drew)); exact HO122.out⟩, ⟨by (with_reducible repeat (first | refine blk_drewN ?_ _ | refine blk_drew ?_ | refine blk_alloc ?_ _)); exact BK119.out⟩, ⟨by repeat (first | (with_reducible first | exact HB.out | apply below_alloc | apply pw_below_drewN | apply below_drew1 | refine below_set ?_ GE119.out) | exact HB.out)⟩⟩
    case round =>
      clear H'; (try clear c1); (try clear c2); (try clear p2); (try clear c4); (try clear c4b0); (try clear c4b1); (try clear c4b2); (try clear c5); (try clear c9); (try clear hcz7_0); (try clear hcz7_1); (try clear hfz7_0); (try clear hfz7_1); obtain ⟨x25_1, rfl, HA, HK1, HO_8, HO_23, BK119, HB⟩ := hrel
      cases gk with
      | zero => exact absurd HA.out (by simp [class_Form_Record.l0])
      | succ k1 =>
        (have H := HA.out); clear HA; simp only [class_Form_Record.l0] at H
        by_cases c10 : x25_1 < (t120.length : Int)
        · rw [if_pos c10] at H
          (have c10b0 : decide (x25_1 < (t120.length : Int)) = true := decide_eq_true c10); clear c10
          by_cases c11 : 0 ≤ x25_1
          · rw [if_pos c11] at H
            (have c11b0 : decide (0 ≤ x25_1) = true := decide_eq_true c11); clear c11
            by_cases c12 : x25_1 < (t120.length : Int)
            · rw [if_pos c12] at H
              (have c12b0 : decide (x25_1 < (t120.length : Int)) = true := decide_eq_true c12); clear c12
              by_cases c13 : (rd t120 x25_1) < 0
              · rw [if_pos c13] at H
                (have c13b0 : decide ((rd t120 x25_1) < 0) = true := decide_eq_true c13); clear c13; (simp only [Option.some.injEq, Prod.mk.injEq] at H); (obtain ⟨rfl, rfl⟩ := H); (have p124 : 0 ≤ (x25_1 : Int) := of_decide_eq_true (by first | (with_reducible assumption) | assumption)); (have q124 : x25_1 < (t120.length : Int) := of_decide_eq_true (by first | (with_reducible assumption) | assumption)); obtain ⟨ad124, e124, hx124_0⟩ := Kd.at_int (Kd.R_reads' HO_23.out).2.2 x25_1 p124 q124
                cases e124
                (replace p124 := eq_true p124); (replace q124 := eq_true q124); (go_wp2); (go_ret2); exact ⟨by first | rfl | (simp [errW_none, errW_some] <;> rfl) | (simp [*, errW_none, errW_some] <;> rfl), by repeat (first | (with_reducible first | exact HB.out | apply below_alloc | apply pw_below_drewN | apply below_drew1 | refine below_set ?_ GE119.out) | exact HB.out)⟩
              · rw [if_neg c13] at H
                (have c13b0 : decide ((rd t120 x25_1) < 0) = false := decide_eq_false c13); clear c13
                by_cases c14 : (rd t120 x25_1) > 8
                · rw [if_pos c14] at H
                  (have c14b0 : decide (8 < (rd t120 x25_1)) = true := decide_eq_true c14); clear c14; (simp only [Option.some.injEq, Prod.mk.injEq] at H); (obtain ⟨rfl, rfl⟩ := H); (have p124 : 0 ≤ (x25_1 : Int) := of_decide_eq_true (by first | (with_reducible assumption) | assumption)); (have q124 : x25_1 < (t120.length : Int) := of_decide_eq_true (by first | (with_reducible assumption) | assumption)); obtain ⟨ad124, e124, hx124_0⟩ := Kd.at_int (Kd.R_reads' HO_23.out).2.2 x25_1 p124 q124
                  cases e124
                  (replace p124 := eq_true p124); (replace q124 := eq_true q124); (go_wp2); (go_ret2); exact ⟨by first | rfl | (simp [errW_none, errW_some] <;> rfl) | (simp [*, errW_none, errW_some] <;> rfl), by repeat (first | (with_reducible first | exact HB.out | apply below_alloc | apply pw_below_drewN | apply below_drew1 | refine below_set ?_ GE119.out) | exact HB.out)⟩
                · rw [if_neg c14] at H
                  (have c14b0 : decide (8 < (rd t120 x25_1)) = false := decide_eq_false c14); clear c14
                  by_cases c15 : x25_1 < (l2.length : Int)
                  · rw [if_pos c15] at H
                    (have c15b0 : decide (x25_1 < (l2.length : Int)) = true := decide_eq_true c15); clear c15; (replace H := Option.bind_eq_some_iff.mp H); (obtain ⟨t126, A160, H⟩ := H); (replace H : (if t126 = true then (class_Form_Record.l0 k1 l2 t120 t120 (t120.length : Int) (wrap64 (x25_1 + 1)) a0_0 a0_1) else (some ((⟨#[]⟩ : ByteArray), false))) = some (r1, r2) := H); (have A16 := aS A160); clear A160
                    by_cases c17 : t126 = true
                    · subst c17
                      (have H1 : (class_Form_Record.l0 k1 l2 t120 t120 (t120.length : Int) (wrap64 (x25_1 + 1)) a0_0 a0_1) = some (r1, r2) := by rw [if_pos rfl] at H; exact H); clear H; (have H := H1); clear H1; (have H' := aS H); clear H; (have p124 : 0 ≤ (x25_1 : Int) := of_decide_eq_true (by first | (with_reducible assumption) | assumption)); (have q124 : x25_1 < (t120.length : Int) := of_decide_eq_true (by first | (with_reducible assumption) | assumption)); obtain ⟨ad124, e124, hx124_0⟩ := Kd.at_int (Kd.R_reads' HO_23.out).2.2 x25_1 p124 q124
                      cases e124
                      (replace p124 := eq_true p124); (replace q124 := eq_true q124); (have p125 : 0 ≤ (x25_1 : Int) := of_decide_eq_true (by first | (with_reducible assumption) | assumption)); (have q125 : x25_1 < (l2.length : Int) := of_decide_eq_true (by first | (with_reducible assumption) | assumption)); obtain ⟨ad125, e125, hx125_0⟩ := Kd.at_int HR2.out x25_1 p125 q125
                      cases e125
                      (replace hx125_0 := (HB.out.cell (World.block_lt_of_cell? w _ hx125_0)).trans hx125_0); (replace p125 := eq_true p125); (replace q125 := eq_true q125); (go_wp2_with (first | (go_at_call 99; (with_reducible refine (class_fits.calls (rd l2 x25_1) (rd t120 x25_1) true _ A16.out).mono ?_); rintro e w' ⟨rfl, ⟨nd, rfl⟩⟩))); go_roundg k1
                      case measure => have := HK1.out; omega
                      case rel => exact ⟨(wrap64 (x25_1 + 1)), (by first | rfl | (simp; done) | (simp [*]; done)), H', ⟨by have := HK1.out; omega⟩, ⟨by (with_reducible repeat (first | apply Kd.R_alloc | apply Kd.R_drewN | apply Kd.R_drew)); exact HO_8.out⟩, ⟨by (with_reducible repeat (first | apply Kd.R_alloc | apply Kd.R_drewN | apply Kd.R_drew)); exact HO_23.out⟩, ⟨by (with_reducible repeat (first | refine blk_drewN ?_ _ | refine blk_drew ?_ | refine blk_alloc ?_ _)); exact BK119.out⟩, ⟨by repeat (first | (with_reducible first | exact HB.out | apply below_alloc | apply pw_below_drewN | apply below_drew1 | refine below_set ?_ GE119.out) | exact HB.out)⟩⟩
                    · replace c17 := Bool.eq_false_iff.mpr c17
                      (subst c17); (have H1 : (some ((⟨#[]⟩ : ByteArray), false)) = some (r1, r2) := by rw [if_neg (show ¬ (false = true) by decide)] at H; exact H); clear H; (have H := H1); clear H1; (simp only [Option.some.injEq, Prod.mk.injEq] at H); (obtain ⟨rfl, rfl⟩ := H); (have p124 : 0 ≤ (x25_1 : Int) := of_decide_eq_true (by first | (with_reducible assumption) | assumption)); (have q124 : x25_1 < (t120.length : Int) := of_decide_eq_true (by first | (with_reducible assumption) | assumption)); obtain ⟨ad124, e124, hx124_0⟩ := Kd.at_int (Kd.R_reads' HO_23.out).2.2 x25_1 p124 q124
                      cases e124
                      (replace p124 := eq_true p124); (replace q124 := eq_true q124); (have p125 : 0 ≤ (x25_1 : Int) := of_decide_eq_true (by first | (with_reducible assumption) | assumption)); (have q125 : x25_1 < (l2.length : Int) := of_decide_eq_true (by first | (with_reducible assumption) | assumption)); obtain ⟨ad125, e125, hx125_0⟩ := Kd.at_int HR2.out x25_1 p125 q125
                      cases e125
                      (replace hx125_0 := (HB.out.cell (World.block_lt_of_cell? w _ hx125_0)).trans hx125_0); (replace p125 := eq_true p125); (replace q125 := eq_true q125); (go_wp2_with (first | (go_at_call 99; (with_reducible refine (class_fits.calls (rd l2 x25_1) (rd t120 x25_1) false _ A16.out).mono ?_); rintro e w' ⟨rfl, ⟨nd, rfl⟩⟩))); (go_ret2); exact ⟨by first | rfl | (simp [errW_none, errW_some] <;> rfl) | (simp [*, errW_none, errW_some] <;> rfl), by repeat (first | (with_reducible first | exact HB.out | apply below_alloc | apply pw_below_drewN | apply below_drew1 | refine below_set ?_ GE119.out) | exact HB.out)⟩
                  · (rw [if_neg c15] at H); exact absurd H (by simp)
            · (rw [if_neg c12] at H); exact absurd H (by simp)
          · (rw [if_neg c11] at H); exact absurd H (by simp)
        · rw [if_neg c10] at H
          (have c10b0 : decide (x25_1 < (t120.length : Int)) = false := decide_eq_false c10); clear c10; (replace H := Option.bind_eq_some_iff.mp H); (obtain ⟨t127, A180, H⟩ := H); (replace H : (some (t127, true)) = some (r1, r2) := H); (have A18 := aS A180); clear A180; (simp only [Option.some.injEq, Prod.mk.injEq] at H); (obtain ⟨rfl, rfl⟩ := H); (have hcz19_0 : wr.cell? ⟨gb119, 0, none⟩ = some (.bool a0_0) := (blk_cell BK119.out 0).trans rfl); (have hcz19_1 : wr.cell? ⟨gb119, 1, none⟩ = some (.bool a0_1) := (blk_cell BK119.out 1).trans rfl); (have hfz19_0 := blk_frozen BK119.out 0); (have hfz19_1 := blk_frozen BK119.out 1); go_wp2_with (first | ((with_reducible refine gate_callee (f := 100) rfl ?_); refine gL (some 50) Tryd.func100 #[.agg #[.bool a0_0], .slice Ao9 t120.length co9, .slice A2 l2.length c2] ?_; (with_reducible refine (order_Order_Fields.calls k1 a0_0 _ _ t120 _ _ l2 t127 _ ?side1 ?side2 ?side3 ?side4 A18.out).mono ?_); (case side1 => repeat (first | exact (Kd.R_reads' HO_8.out).2.2 | (with_reducible refine Kd.C_alloc ?_ _) | (with_reducible refine Kd.C_drewN ?_ _) | (with_reducible refine Kd.C_drew ?_))); (case side2 => exact (Kd.R_reads' HO_8.out).2.1); (case side3 => repeat (first | exact (Kd.C_below HR2.out HB.out) | (with_reducible refine Kd.C_alloc ?_ _) | (with_reducible refine Kd.C_drewN ?_ _) | (with_reducible refine Kd.C_drew ?_))); (case side4 => exact HC2.out); rintro e w20 ⟨rfl, hb⟩; refine ⟨_, rfl, ?_⟩; have n0_ := aS (Kd.R_below (by (with_reducible repeat (first | apply Kd.R_alloc | apply Kd.R_drewN | apply Kd.R_drew)); exact HO_8.out) hb); have n1_ := aS (Kd.R_below (by (with_reducible repeat (first | apply Kd.R_alloc | apply Kd.R_drewN | apply Kd.R_drew)); exact HO_23.out) hb); have n2_ := aS (blk_below (g := gb119) (o := .cells #[.bool a0_0, .bool a0_1] 27 (0, 0)) bkN hb); have n3_ := aS (below_step hbS hb); clear HO_8; clear HO_23; clear BK119; clear HB; have HO_8 := n0_; have HO_23 := n1_; have BK119 := n2_; have HB := n3_; clear n0_ n1_ n2_ n3_; (try clear hb); (try clear hb2); (try clear hk); (try clear hi)))
          (go_ret2); exact ⟨by first | rfl | (simp [errW_none, errW_some] <;> rfl) | (simp [*, errW_none, errW_some] <;> rfl), by repeat (first | (with_reducible first | exact HB.out | apply below_alloc | apply pw_below_drewN | apply below_drew1 | refine below_set ?_ GE119.out) | exact HB.out)⟩
  · rw [if_neg c4] at H
    (have c4b0 : ((l1.length : Int) == (l2.length : Int)) = false := beq_eq_false_iff_ne.mpr c4); (have c4b1 : ((l1.length : Int) != (l2.length : Int)) = true := bne_iff_ne.mpr c4); (have c4b2 : (l1.length == l2.length) = false := by first | simpa using c4 | (simp at c4 ⊢; omega)); (simp only [Option.some.injEq, Prod.mk.injEq] at H); (obtain ⟨rfl, rfl⟩ := H); (go_enter Tryd.func57, Tryd.ntmps57); (go_wp2_with (first | ((with_reducible refine gate_dst (N := 3) rfl ?_); refine bE 3 #[.bool a0_0, .bool a0_1] 27 ?_; intro gb119 hg w21 hbox hb; have n0_ := aS (below_step hbN hb); have n1_ := aS (hbox); have n2_ := aS (bsz hg hbN : w.heap.size ≤ gb119); have n3_ := aS (bsz hg hbN : w.heap.size ≤ gb119); clear HB; have HB := n0_; have BK119 := n1_; have GW119 := n2_; have GE119 := n3_; clear n0_ n1_ n2_ n3_; clear hb hbox hg))); go_ret2
    exact ⟨by first | rfl | (simp [errW_none, errW_some] <;> rfl) | (simp [*, errW_none, errW_some] <;> rfl), by repeat (first | (with_reducible first | exact HB.out | apply below_alloc | apply pw_below_drewN | apply below_drew1 | refine below_set ?_ GE119.out) | exact HB.out)⟩

-- NOT PRINTED: function 101 (shdr_Section_numbers)

end Go.Proofs.YteoeohkjomehoaaDoor.Q
