/- What Go functions of the program compute, each as a Lean function with the proof that the call returns just that. No condition but those in the statements. -/
import Derived.Test.YthbkjppaimjpmaaQ0
import Derived.Test.YthbkjppaimjpmaaQ2
import Derived.Test.YthbkjppaimjpmaaBld
namespace Go.Proofs.Ythbkjppaimjpmaa.Q
open Go.RowKit Go.Proofs.YthbkjppaimjpmaaW.PrintWords Go.Proofs.YthbkjppaimjpmaaW.PrintLast Go.Proofs.YthbkjppaimjpmaaW.PrintMore
attribute [local go_sem] max2_int min2_int max_two min_two max_three min_three max_four min_four   -- for this text's walks alone
set_option linter.unusedVariables false
set_option linter.unusedSimpArgs false

/-! ### order_Order_Fields: function 21 -/
def order_Order_Fields.l0 : Nat → Bool → List Int → List Int → ByteArray → Int → Option (ByteArray)
  | 0, _, _, _, _, _ => none
  | k + 1, b, x1, x2, s, i => if i < mn (x1.length : Int) (x2.length : Int) then ((order_Order_Put.f k b (rd x2 i) (rd x1 i)).bind fun t => (if s.size + t.size ≤ 140737488355328 then (order_Order_Fields.l0 k b x1 x2 (s ++ t) (i + 1)) else none)) else (some s)
def order_Order_Fields.f (k : Nat) (a0_0 : Bool) (l1 : List Int) (l2 : List Int) : Option (ByteArray) := order_Order_Fields.l0 k a0_0 l1 l2 (⟨#[]⟩ : ByteArray) 0
theorem order_Order_Fields.mono_l : ∀ k y0 y1 y2 y3 y4, LeO (order_Order_Fields.l0 k y0 y1 y2 y3 y4) (order_Order_Fields.l0 (k + 1) y0 y1 y2 y3 y4)
  | 0 => fun _ _ _ _ _ r h => by simp [order_Order_Fields.l0] at h
  | k + 1 => by
    have ih := order_Order_Fields.mono_l k
    intro y0 y1 y2 y3 y4
    unfold order_Order_Fields.l0
    refine LeO.ite (LeO.bind (order_Order_Put.mono _ _ _ _) (fun _ => LeO.ite (ih _ _ _ _ _) (LeO.refl _))) (LeO.refl _)
theorem order_Order_Fields.mono : ∀ a0 a1 a2 k, LeO (order_Order_Fields.f k a0 a1 a2) (order_Order_Fields.f (k + 1) a0 a1 a2) := fun a0 a1 a2 k => order_Order_Fields.mono_l k a0 a1 a2 _ _
theorem order_Order_Fields.more {k j : Nat} (h : k ≤ j) {y0 y1 y2 y3 y4 r} (hr : order_Order_Fields.l0 k y0 y1 y2 y3 y4 = some r) : order_Order_Fields.l0 j y0 y1 y2 y3 y4 = some r := at_rounds (g := fun k => order_Order_Fields.l0 k y0 y1 y2 y3 y4) (fun k => order_Order_Fields.mono_l k _ _ _ _ _) h hr
theorem order_Order_Fields.cells (l : List UInt8) : Lib.byteCells l = l.map fun b => Value.int .u8 b.toNat := rfl
theorem order_Order_Fields.strCells (s : ByteArray) : Lib.strCells s = Lib.byteCells s.data.toList := rfl
def order_Order_Fields.T5 : Bool × List (List Nat × List Nat) := (true, [([], []), ([], []), ([], []), ([1, 2], [1, 2]), ([3], [3]), ([], []), ([], []), ([5, 6], [5, 6]), ([7], [7]), ([0, 4, 8], [0, 4, 8]), ([9, 9], [9])])
def order_Order_Fields.B5 : List Nat := [0, 0, 0, 6, 14, 0, 0, 96, 224, 511, 1023]
theorem order_Order_Fields.tab5 : rtab .any (opsOf Try.f21 5) = order_Order_Fields.T5 := by kernel_rfl
theorem order_Order_Fields.bits5 : waitsOk order_Order_Fields.T5.2 order_Order_Fields.B5 = true := by kernel_rfl
theorem order_Order_Fields.old {W W1 : World} {b : Addr} {v : Value} (hb : Below W.heap.size W W1) (h : W.cell? b = some v) : W1.cell? b = some v := pw_cell_below hb h
theorem order_Order_Fields.step (i m : Int) (h0 : 0 ≤ i) (h : i < m) {n : Nat} (hm : m ≤ n) (hn : n ≤ 9223372036854775807) : IntKind.i64.wrap (i + 1) = i + 1 := by
  rw [IntKind.wrap_i64]; omega
set_option maxHeartbeats 4000000 in
set_option maxRecDepth 100000 in
theorem order_Order_Fields.calls (k : Nat) (a0_0 : Bool) (A1 : Option Addr) (c1 : Nat) (l1 : List Int) (A2 : Option Addr) (c2 : Nat) (l2 : List Int) (r : ByteArray) (w : World) (hr1 : Kd.C (Kd.int .i64) w A1 l1.length l1) (hc1 : l1.length ≤ c1) (hr2 : Kd.C (Kd.int .u64) w A2 l2.length l2) (hc2 : l2.length ≤ c2) (h : order_Order_Fields.f k a0_0 l1 l2 = some r) :
    Calls Try.prog 21 #[.agg #[.bool a0_0], .slice A1 l1.length c1, .slice A2 l2.length c2] w fun e w' => e = .returned (.string r) ∧ Below w.heap.size w w' := by
  have H := Aside0.mk h
  clear h
  have HR1 := Aside0.mk hr1
  have HR2 := Aside0.mk hr2
  have M1 := Kd.C_max hr1
  have M2 := Kd.C_max hr2
  clear hr1 hr2 hc1 hc2
  obtain ⟨m, hm⟩ : ∃ m : Int, mn (l1.length : Int) (l2.length : Int) = m := ⟨_, rfl⟩
  have hm1 : m ≤ l1.length := by rw [← hm]; unfold mn; split <;> omega
  have hm2 : m ≤ l2.length := by rw [← hm]; unfold mn; split <;> omega
  have Hm := Aside0.mk hm
  have hm_ : (if l2.length < l1.length then (l2.length : Int) else (l1.length : Int)) = m := by rw [← hm]; unfold mn; simp only [Int.ofNat_lt]
  clear hm
  go_enter Try.func21, Try.ntmps21
  go_wp2
  clear hm_
  have hB0 : Below w.heap.size w ((w.alloc (Obj.cells #[Value.bool a0_0] 25)).alloc (Obj.cells #[Value.pointer none, Value.slice none 0 0] 65)) := ((Below.refl _ _).alloc (Nat.le_refl _) _).alloc (by simp) _
  have hI0 : Lib.IsBuilder 65 5 (w.heap.size + 1) (w.heap.size + 1) [] ((w.alloc (Obj.cells #[Value.bool a0_0] 25)).alloc (Obj.cells #[Value.pointer none, Value.slice none 0 0] 65)) := by
    have := Bld.isB_new (B := w.heap.size + 1) (w.alloc (Obj.cells #[Value.bool a0_0] 25)) (by simp)
    simpa using this
  have hC0 : ((w.alloc (Obj.cells #[Value.bool a0_0] 25)).alloc (Obj.cells #[Value.pointer none, Value.slice none 0 0] 65)).heap[w.heap.size]? = some (.cells #[.bool a0_0] 25 (0, 0)) := blk_alloc (heap_alloc_new w _) _
  have HI0 := Aside0.mk hI0
  have HC0 := Aside0.mk hC0
  have HB0 := Aside0.mk hB0
  clear hI0 hC0 hB0
  go_loopg [14] k (fun kq v14 w' => ∃ (i : Int) (s : ByteArray), v14 = .int .i64 i ∧ 0 ≤ i ∧ Aside0 (order_Order_Fields.l0 kq a0_0 l1 l2 s i = some r) ∧ Aside0 (kq ≤ k) ∧ Aside0 (Lib.IsBuilder 65 5 (w.heap.size + 1) (w.heap.size + 1) (Lib.byteCells s.data.toList) w') ∧ Aside0 (w'.heap[w.heap.size]? = some (.cells #[.bool a0_0] 25 (0, 0))) ∧ Aside0 (Below w.heap.size w w'))
  case atStart => exact ⟨0, ⟨#[]⟩, rfl, by omega, H, ⟨Nat.le_refl _⟩, HI0, HC0, HB0⟩
  case round =>
    clear H HI0 HC0 HB0
    obtain ⟨i, s, rfl, hi0, HA, HK, HI, HC, HB⟩ := hrel
    cases gk with
    | zero => exact absurd HA.out (by simp [order_Order_Fields.l0])
    | succ gk =>
      have H := HA.out
      clear HA
      simp only [order_Order_Fields.l0] at H
      rw [Hm.out] at H
      by_cases c1 : i < m
      · rw [if_pos c1] at H
        have c1b : decide (i < m) = true := decide_eq_true c1
        obtain ⟨t, hp, H2⟩ := Option.bind_eq_some_iff.mp H
        have HP := Aside0.mk hp
        have HT := Aside0.mk H2
        clear hp H H2
        have p0 : (0 ≤ i) = True := eq_true hi0
        have p1 : i < (l1.length : Int) := by omega
        have p2 : i < (l2.length : Int) := by omega
        obtain ⟨ad1, e1, hx1⟩ := Kd.at_int HR1.out i hi0 p1
        obtain ⟨ad2, e2, hx2⟩ := Kd.at_int HR2.out i hi0 p2
        cases e1
        cases e2
        replace hx1 := Aside0.mk hx1
        replace hx2 := Aside0.mk hx2
        replace p1 := eq_true p1
        replace p2 := eq_true p2
        have hS : ∀ W : World, Below w.heap.size w W → W.heap[w.heap.size]? = some (.cells #[.bool a0_0] 25 (0, 0)) → W.cell? ⟨w.heap.size, 0, none⟩ = some (.bool a0_0) ∧ W.cell? (ad2.add i.toNat) = some (.int .u64 (rd l2 i)) ∧ W.cell? (ad1.add i.toNat) = some (.int .i64 (rd l1 i)) := fun W hW hc => ⟨(blk_cell hc 0).trans rfl, pw_cell_below hW hx2.out, pw_cell_below hW hx1.out⟩
        have HS := Aside0.mk hS
        clear hS
        go_wp2
        have hhs : w.heap.size < wr.heap.size := blk_lt HC.out
        have n0_ := Aside0.mk (below_drew1 HB.out)
        have n1_ := Aside0.mk (blk_drew HC.out)
        have n2_ : Aside0 (Lib.IsBuilder 65 5 (w.heap.size + 1) (w.heap.size + 1) (Lib.byteCells s.data.toList) wr.drew) := ⟨HI.out⟩
        clear HB HC HI
        have HB := n0_
        have HC := n1_
        have HI := n2_
        clear n0_ n1_ n2_
        refine start_ (n := 11) (S := (fun w' => w'.cell? ⟨w.heap.size, 0, none⟩ = some (.bool a0_0) ∧ w'.cell? (ad2.add i.toNat) = some (.int .u64 (rd l2 i)) ∧ w'.cell? (ad1.add i.toNat) = some (.int .i64 (rd l1 i)))) (ds := []) #[false, false, false, false, false, false, false, false, false, false, false] (by kernel_rfl) rfl rfl ((HS.out _ HB.out HC.out)) (fun hHeld => ?_); refine with_tabW order_Order_Fields.tab5 order_Order_Fields.bits5 (fun HT_ HW_ => ?_)
        generalize wr.drew = W at HB HC HI hHeld ⊢
        refine pure_ (i := 1) (N := some 18) (v := ?_) (a' := ?_) #[false, true, false, false, false, false, false, false, false, false, false] rfl rfl (any_of HT_.out (by kernel_rfl)) (fun _ _ _ h => h) (Or.inl ⟨by rfl, ?_⟩) ?_ ?_
        rotate_left
        · intro w'
          go_simp
          with_reducible rfl
        rotate_left
        · simp only [Act.put, List.setIfInBounds_toArray, List.set_cons_zero, List.set_cons_succ, i64_w, i32_w]
          rfl
        refine pure_ (i := 2) (N := some 19) (v := ?_) (a' := ?_) #[false, true, true, false, false, false, false, false, false, false, false] rfl rfl (any_of HT_.out (by kernel_rfl)) (fun _ _ _ h => h) (Or.inl ⟨by rfl, ?_⟩) ?_ ?_
        rotate_left
        · intro w'
          go_simp
          with_reducible rfl
        rotate_left
        · simp only [Act.put, List.setIfInBounds_toArray, List.set_cons_zero, List.set_cons_succ, i64_w, i32_w]
          rfl
        refine pure_ (i := 3) (N := some 20) (v := ?_) (a' := ?_) #[false, true, true, true, false, false, false, false, false, false, false] rfl rfl (any_of HT_.out (by kernel_rfl)) (fun _ _ _ h => h) (Or.inl ⟨by rfl, ?_⟩) ?_ ?_
        rotate_left
        · intro w'
          go_simp
          with_reducible rfl
        rotate_left
        · simp only [Act.put, List.setIfInBounds_toArray, List.set_cons_zero, List.set_cons_succ, i64_w, i32_w]
          rfl
        refine pure_ (i := 5) (N := some 22) (v := ?_) (a' := ?_) #[false, true, true, true, false, true, false, false, false, false, false] rfl rfl (any_of HT_.out (by kernel_rfl)) (fun _ _ _ h => h) (Or.inl ⟨by rfl, ?_⟩) ?_ ?_
        rotate_left
        · intro w'
          go_simp
          with_reducible rfl
        rotate_left
        · simp only [Act.put, List.setIfInBounds_toArray, List.set_cons_zero, List.set_cons_succ, i64_w, i32_w]
          rfl
        refine pure_ (i := 6) (N := some 23) (v := ?_) (a' := ?_) #[false, true, true, true, false, true, true, false, false, false, false] rfl rfl (any_of HT_.out (by kernel_rfl)) (fun _ _ _ h => h) (Or.inl ⟨by rfl, ?_⟩) ?_ ?_
        rotate_left
        · intro w'
          go_simp
          with_reducible rfl
        rotate_left
        · simp only [Act.put, List.setIfInBounds_toArray, List.set_cons_zero, List.set_cons_succ, i64_w, i32_w]
          rfl
        refine pure_ (i := 7) (N := some 24) (v := ?_) (a' := ?_) #[false, true, true, true, false, true, true, true, false, false, false] rfl rfl (any_of HT_.out (by kernel_rfl)) (fun _ _ _ h => h) (Or.inl ⟨by rfl, ?_⟩) ?_ ?_
        rotate_left
        · intro w'
          go_simp
          with_reducible rfl
        rotate_left
        · simp only [Act.put, List.setIfInBounds_toArray, List.set_cons_zero, List.set_cons_succ, i64_w, i32_w]
          rfl
        refine take_ (i := 0) (N := some 17) (v := ?_) (a' := ?_) #[true, true, true, true, false, true, true, true, false, false, false] rfl rfl (take_ofW HT_.out HW_.out (by kernel_rfl)) (fun _ _ _ h => h) (Or.inl ⟨by rfl, ?_⟩) hHeld ?_ ?_
        rotate_left
        · intro w' s0
          go_simp
          with_reducible rfl
        rotate_left
        · simp only [Act.put, List.setIfInBounds_toArray, List.set_cons_zero, List.set_cons_succ, i64_w, i32_w]
          rfl
        refine take_ (i := 4) (N := some 21) (v := ?_) (a' := ?_) #[true, true, true, true, true, true, true, true, false, false, false] rfl rfl (take_ofW HT_.out HW_.out (by kernel_rfl)) (fun _ _ _ h => h) (Or.inl ⟨by rfl, ?_⟩) hHeld ?_ ?_
        rotate_left
        · intro w' s0
          go_simp
          with_reducible rfl
        rotate_left
        · simp only [Act.put, List.setIfInBounds_toArray, List.set_cons_zero, List.set_cons_succ, i64_w, i32_w]
          rfl
        refine take_ (i := 8) (N := some 25) (v := ?_) (a' := ?_) #[true, true, true, true, true, true, true, true, true, false, false] rfl rfl (take_ofW HT_.out HW_.out (by kernel_rfl)) (fun _ _ _ h => h) (Or.inl ⟨by rfl, ?_⟩) hHeld ?_ ?_
        rotate_left
        · intro w' s0
          go_simp
          with_reducible rfl
        rotate_left
        · simp only [Act.put, List.setIfInBounds_toArray, List.set_cons_zero, List.set_cons_succ, i64_w, i32_w]
          rfl
        refine one_ (i := 9) (N := (some 26)) #[true, true, true, true, true, true, true, true, true, true, false] rfl rfl (one_of HT_.out (by kernel_rfl)) (by decide) (fun K hK => ?_)
        refine goes_ Try.func10 (by kernel_rfl) rfl #[.agg #[.bool a0_0], .int .u64 (rd l2 i), .int .i64 (rd l1 i)] (by rfl) rfl rfl (by (try simp only [List.map_toArray, List.map_cons, List.map_nil]); first | done | rfl) ?_
        with_reducible refine (order_Order_Put.calls gk a0_0 (rd l2 i) (rd l1 i) t _ HP.out).mono ?_
        rintro e w2 ⟨rfl, hb⟩
        refine ⟨_, rfl, ?_⟩
        have n0_ := Aside0.mk (below_step HB.out hb)
        have n1_ := Aside0.mk (blk_below HC.out hb)
        have n2_ := Aside0.mk (Bld.isB_below HI.out hb)
        clear HB HC HI hb
        have HB := n0_
        have HC := n1_
        have HI := n2_
        clear n0_ n1_ n2_
        refine hK.out _ _ (HS.out _ HB.out HC.out) (fun hHeld => ?_)
        clear hK K
        refine norm_ (a' := ?_) ?_ ?_
        rotate_left
        · show Act.put _ (some 26) _ = _
          simp only [Act.put, List.setIfInBounds_toArray, List.set_cons_zero, List.set_cons_succ, i64_w, i32_w]
          rfl
        by_cases hl : s.size + t.size ≤ 140737488355328
        · have HL := Aside0.mk hl
          clear hl
          refine one_ (i := 10) (N := (some 27)) #[true, true, true, true, true, true, true, true, true, true, true] rfl rfl (one_of HT_.out (by kernel_rfl)) (by decide) (fun K hK => ?_)
          refine goes_ Try.func32 (by kernel_rfl) rfl #[.pointer (some ⟨w.heap.size + 1, 0, none⟩), .string t] (by rfl) rfl rfl (by (try simp only [List.map_toArray, List.map_cons, List.map_nil]); first | done | rfl) ?_
          with_reducible refine (Bld.writeString (w.heap.size + 1) (w.heap.size + 1) (Lib.byteCells s.data.toList) t _ HI.out (by rw [Bld.bytes_len]; exact HL.out) (by have := blk_lt HC.out; omega)).mono ?_
          rintro e w3 ⟨rfl, hbl, hb⟩
          refine ⟨_, rfl, ?_⟩
          rw [Bld.bytes_app] at hbl
          have n0_ := Aside0.mk (Bld.low HB.out hb (by omega))
          have n1_ := Aside0.mk ((hb.block w.heap.size (by omega)).trans HC.out)
          have n2_ := Aside0.mk (Bld.isB_at hbl)
          have hT := HT.out
          rw [if_pos HL.out] at hT
          have HT2 := Aside0.mk hT
          clear HB HC HI hb hbl hT HT
          have HB := n0_
          have HC := n1_
          have HI := n2_
          clear n0_ n1_ n2_
          refine hK.out _ _ (HS.out _ HB.out HC.out) (fun hHeld => ?_)
          clear hK K
          refine norm_ (a' := ?_) ?_ ?_
          rotate_left
          · show Act.put _ (some 27) _ = _
            simp only [Act.put, List.setIfInBounds_toArray, List.set_cons_zero, List.set_cons_succ, i64_w, i32_w]
            rfl
          refine done_ (done_of HT_.out (by kernel_rfl)) ?_
          have hw := order_Order_Fields.step i m hi0 (of_decide_eq_true c1b) hm1 M1
          go_wp2
          go_roundg gk
          case measure => have := HK.out; omega
          case rel => exact ⟨i + 1, s ++ t, rfl, by omega, HT2, ⟨by have := HK.out; omega⟩, HI, HC, HB⟩
        · exfalso
          have hT := HT.out
          rw [if_neg hl] at hT
          cases hT
      · rw [if_neg c1] at H
        have c1b : decide (i < m) = false := decide_eq_false c1
        obtain rfl := Option.some.inj H
        clear H c1
        go_wp2_with (go_at_call 33; refine (Try.Builder_String_any (w.heap.size + 1) (w.heap.size + 1) s.data.toList _ HI.out (by have := blk_lt HC.out; omega)).mono ?_; rintro e w4 ⟨rfl, hb⟩)
        go_ret
        exact ⟨rfl, Bld.low HB.out hb (by omega)⟩


end Go.Proofs.Ythbkjppaimjpmaa.Q
