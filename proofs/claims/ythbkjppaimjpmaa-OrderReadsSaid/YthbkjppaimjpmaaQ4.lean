/- What Go functions of the program compute, each as a Lean function with the proof that the call returns just that. No condition but those in the statements. -/
import Derived.Test.YthbkjppaimjpmaaQ0
import Derived.Test.YthbkjppaimjpmaaQ1
import Derived.Test.YthbkjppaimjpmaaQ3
namespace Go.Proofs.Ythbkjppaimjpmaa.Q
open Go.RowKit Go.Proofs.YthbkjppaimjpmaaW.PrintWords Go.Proofs.YthbkjppaimjpmaaW.PrintLast Go.Proofs.YthbkjppaimjpmaaW.PrintMore
attribute [local go_sem] max2_int min2_int max_two min_two max_three min_three max_four min_four   -- for this text's walks alone
set_option linter.unusedVariables false
set_option linter.unusedSimpArgs false

/-! ### order_Reader_Next: function 17 -/
def order_Reader_Next.f (k : Nat) (s0_0 : Bool) (s0_1 : ByteArray) (s0_2 : Int) (s0_3 : Bool) (a1 : Int) : Option (Int × Bool × ByteArray × Int × Bool) := if a1 < 1 then (some (0, s0_0, s0_1, s0_2, true)) else (if a1 > 8 then (some (0, s0_0, s0_1, s0_2, true)) else ((order_Reader_Bytes.f s0_0 s0_1 s0_2 s0_3 (IntKind.u64.wrap a1)).bind fun t => ((order_Order_Get.f k s0_0 t.1).bind fun n => (some (n, s0_0, t.2.2.1, t.2.2.2.1, t.2.2.2.2)))))
theorem order_Reader_Next.mono : ∀ a0 a1 a2 a3 a4 k, LeO (order_Reader_Next.f k a0 a1 a2 a3 a4) (order_Reader_Next.f (k + 1) a0 a1 a2 a3 a4) := by
  intro a0 a1 a2 a3 a4 k
  unfold order_Reader_Next.f
  exact LeO.ite (LeO.refl _) (LeO.ite (LeO.refl _) (LeO.bind (LeO.refl _) (fun _ => LeO.bind (order_Order_Get.mono _ _ _) (fun _ => LeO.refl _))))
theorem order_Reader_Next.same {b : Bool} {s : ByteArray} {p : Int} {d : Bool} {n : Int} {t : ByteArray × Bool × ByteArray × Int × Bool} (h : order_Reader_Bytes.f b s p d n = some t) : t.2.1 = b := by
  unfold order_Reader_Bytes.f at h
  repeat' (split at h)
  all_goals first | (injection h with h; rw [← h]) | cases h
def order_Reader_Next.T6 : Bool × List (List Nat × List Nat) := (true, [([], []), ([0], [0]), ([1], [1]), ([2], [2]), ([], []), ([], []), ([5], [5]), ([4, 6], [4, 6]), ([3, 7, 7], [3, 7]), ([8, 8, 0, 1, 2, 3, 4, 5, 6, 7, 8], [8])])
def order_Reader_Next.B6 : List Nat := [0, 1, 3, 7, 0, 0, 32, 112, 255, 511]
theorem order_Reader_Next.tab6 : rtab .any (opsOf Try.f17 6) = order_Reader_Next.T6 := by kernel_rfl
theorem order_Reader_Next.bits6 : waitsOk order_Reader_Next.T6.2 order_Reader_Next.B6 = true := by kernel_rfl
set_option maxHeartbeats 4000000 in
set_option maxRecDepth 100000 in
theorem order_Reader_Next.calls (k : Nat) (g : Nat) (s0_0 : Bool) (s0_1 : ByteArray) (s0_2 : Int) (s0_3 : Bool) (a1 : Int) (r1 : Int) (r2 : Bool) (r3 : ByteArray) (r4 : Int) (r5 : Bool) (w0 w : World) (hI : IsS43 w0 w g s0_0 s0_1 s0_2 s0_3) (hB : Below w0.heap.size w0 w) (h : order_Reader_Next.f k s0_0 s0_1 s0_2 s0_3 a1 = some (r1, r2, r3, r4, r5)) :
    Calls Try.prog 17 #[.pointer (some ⟨g, 0, none⟩), .int .i64 a1] w fun e w' => e = .returned (.int .u64 r1) ∧ IsS43 w0 w' g r2 r3 r4 r5 ∧ Below w0.heap.size w0 w' ∧ KeepBut w w' g none := by
  have hs := hI
  have HI := Aside0.mk hI
  have HB := Aside0.mk hB
  obtain ⟨HGz, hgz⟩ := hs
  have hc0 := cellS43_0 HGz
  have hc3 := cellS43_3 HGz
  have hf3 := blk_frozen HGz 3
  clear HGz hgz hI hB
  unfold order_Reader_Next.f at h
  have bad : a1 < 1 ∨ a1 > 8 → Calls Try.prog 17 #[.pointer (some ⟨g, 0, none⟩), .int .i64 a1] w fun e w' => e = .returned (.int .u64 0) ∧ IsS43 w0 w' g s0_0 s0_1 s0_2 true ∧ Below w0.heap.size w0 w' ∧ KeepBut w w' g none := by
    clear h
    intro hbad
    have fin : ∀ W : World, W = w.setCell ⟨g, 3, none⟩ (.bool true) → IsS43 w0 W g s0_0 s0_1 s0_2 true ∧ Below w0.heap.size w0 W ∧ KeepBut w W g none := by
      rintro W rfl
      exact ⟨HI.out.set_3 true, below_set HB.out (IsS43.ge HI.out), (KeepBut.refl w g none).set_ _ _⟩
    have Fin := Aside0.mk fin
    clear fin
    by_cases c : a1 < 1
    · have cb : decide (a1 < 1) = true := decide_eq_true c
      clear hbad c
      go_enter Try.func17, Try.ntmps17
      go_wp2
      go_ret
      exact ⟨rfl, Fin.out _ rfl⟩
    · have cb : decide (a1 < 1) = false := decide_eq_false c
      have cb2 : decide (8 < a1) = true := decide_eq_true (by omega)
      clear hbad c
      go_enter Try.func17, Try.ntmps17
      go_wp2
      go_ret
      exact ⟨rfl, Fin.out _ rfl⟩
  have Bad := Aside0.mk bad
  clear bad
  by_cases c1 : a1 < 1
  · rw [if_pos c1] at h
    simp only [Option.some.injEq, Prod.mk.injEq] at h
    obtain ⟨rfl, rfl, rfl, rfl, rfl⟩ := h
    exact Bad.out (.inl c1)
  · rw [if_neg c1] at h
    by_cases c8 : a1 > 8
    · rw [if_pos c8] at h
      simp only [Option.some.injEq, Prod.mk.injEq] at h
      obtain ⟨rfl, rfl, rfl, rfl, rfl⟩ := h
      exact Bad.out (.inr c8)
    · rw [if_neg c8] at h
      clear Bad
      obtain ⟨⟨t1, t2, t3, t4, t5⟩, ht, h⟩ := Option.bind_eq_some_iff.mp h
      obtain ⟨n, hn, h⟩ := Option.bind_eq_some_iff.mp h
      have hsame := order_Reader_Next.same ht
      simp only at hsame hn h
      simp only [Option.some.injEq, Prod.mk.injEq] at h
      obtain ⟨rfl, rfl, rfl, rfl, rfl⟩ := h
      replace hsame := hsame.symm
      subst hsame
      obtain ⟨u, hu⟩ : ∃ u : Int, IntKind.u64.wrap a1 = u := ⟨_, rfl⟩
      rw [hu] at ht
      have HT := Aside0.mk ht
      have HN := Aside0.mk hn
      have c1b : decide (a1 < 1) = false := decide_eq_false c1
      have c8b : decide (8 < a1) = false := decide_eq_false c8
      clear ht hn c1 c8 hc3 hf3 hc0
      have HS : Aside0 (∀ (W : World) (q1 : ByteArray) (q2 : Int) (q3 : Bool), IsS43 w0 W g s0_0 q1 q2 q3 → W.cell? ⟨g, 0, none⟩ = some (.bool s0_0)) := ⟨fun W q1 q2 q3 hq => cellS43_0 hq.1⟩
      go_enter Try.func17, Try.ntmps17
      go_wp2
      refine start_ (n := 10) (S := (fun w' => w'.cell? ⟨g, 0, none⟩ = some (.bool s0_0))) (ds := []) #[false, false, false, false, false, false, false, false, false, false] (by kernel_rfl) rfl rfl ((HS.out _ _ _ _ HI.out.drew)) (fun hHeld => ?_); refine with_tabW order_Reader_Next.tab6 order_Reader_Next.bits6 (fun HT_ HW_ => ?_)
      have n0_ := Aside0.mk HI.out.drew
      have n1_ := Aside0.mk (below_drew1 HB.out)
      have HK := Aside0.mk (keep_drew (KeepBut.refl w g none))
      clear HI HB
      have HI := n0_
      have HB := n1_
      clear n0_ n1_
      generalize hW : w.drew = W at HB HI HK hHeld ⊢
      clear hW
      refine pure_ (i := 0) (N := some 16) (v := ?_) (a' := ?_) #[true, false, false, false, false, false, false, false, false, false] rfl rfl (any_of HT_.out (by kernel_rfl)) (fun _ _ _ h => h) (Or.inl ⟨by rfl, ?_⟩) ?_ ?_
      rotate_left
      · intro w'
        go_simp
        with_reducible rfl
      rotate_left
      · simp only [Act.put, List.setIfInBounds_toArray, List.set_cons_zero, List.set_cons_succ, i64_w, i32_w]
        rfl
      refine pure_ (i := 1) (N := some 17) (v := ?_) (a' := ?_) #[true, true, false, false, false, false, false, false, false, false] rfl rfl (any_of HT_.out (by kernel_rfl)) (fun _ _ _ h => h) (Or.inl ⟨by rfl, ?_⟩) ?_ ?_
      rotate_left
      · intro w'
        go_simp
        with_reducible rfl
      rotate_left
      · simp only [Act.put, List.setIfInBounds_toArray, List.set_cons_zero, List.set_cons_succ, i64_w, i32_w]
        rfl
      refine pure_ (i := 2) (N := some 18) (v := ?_) (a' := ?_) #[true, true, true, false, false, false, false, false, false, false] rfl rfl (any_of HT_.out (by kernel_rfl)) (fun _ _ _ h => h) (Or.inl ⟨by rfl, ?_⟩) ?_ ?_
      rotate_left
      · intro w'
        go_simp
        with_reducible rfl
      rotate_left
      · simp only [Act.put, List.setIfInBounds_toArray, List.set_cons_zero, List.set_cons_succ, i64_w, i32_w]
        rfl
      refine pure_ (i := 4) (N := some 20) (v := ?_) (a' := ?_) #[true, true, true, false, true, false, false, false, false, false] rfl rfl (any_of HT_.out (by kernel_rfl)) (fun _ _ _ h => h) (Or.inl ⟨by rfl, ?_⟩) ?_ ?_
      rotate_left
      · intro w'
        go_simp
        with_reducible rfl
      rotate_left
      · simp only [Act.put, List.setIfInBounds_toArray, List.set_cons_zero, List.set_cons_succ, i64_w, i32_w]
        rfl
      refine pure_ (i := 5) (N := some 21) (v := ?_) (a' := ?_) #[true, true, true, false, true, true, false, false, false, false] rfl rfl (any_of HT_.out (by kernel_rfl)) (fun _ _ _ h => h) (Or.inl ⟨by rfl, ?_⟩) ?_ ?_
      rotate_left
      · intro w'
        go_simp
        with_reducible rfl
      rotate_left
      · simp only [Act.put, List.setIfInBounds_toArray, List.set_cons_zero, List.set_cons_succ, i64_w, i32_w]
        rfl
      refine pure_ (i := 6) (N := some 22) (v := ?_) (a' := ?_) #[true, true, true, false, true, true, true, false, false, false] rfl rfl (any_of HT_.out (by kernel_rfl)) (fun _ _ _ h => h) (Or.inl ⟨by rfl, ?_⟩) ?_ ?_
      rotate_left
      · intro w'
        go_simp
        with_reducible rfl
      rotate_left
      · simp only [Act.put, List.setIfInBounds_toArray, List.set_cons_zero, List.set_cons_succ, i64_w, i32_w]
        rfl
      refine take_ (i := 3) (N := some 19) (v := ?_) (a' := ?_) #[true, true, true, true, true, true, true, false, false, false] rfl rfl (take_ofW HT_.out HW_.out (by kernel_rfl)) (fun _ _ _ h => h) (Or.inl ⟨by rfl, ?_⟩) hHeld ?_ ?_
      rotate_left
      · intro w' s0
        go_simp
        with_reducible rfl
      rotate_left
      · simp only [Act.put, List.setIfInBounds_toArray, List.set_cons_zero, List.set_cons_succ, i64_w, i32_w]
        rfl
      refine one_ (i := 7) (N := (some 23)) #[true, true, true, true, true, true, true, true, false, false] rfl rfl (one_of HT_.out (by kernel_rfl)) (by decide) (fun K hK => ?_)
      refine goes_ Try.func18 (by kernel_rfl) rfl #[.pointer (some ⟨g, 0, none⟩), .int .u64 u] (by rfl) rfl rfl (by (try simp only [List.map_toArray, List.map_cons, List.map_nil]); first | done | rfl) ?_
      with_reducible refine (order_Reader_Bytes.calls g s0_0 s0_1 s0_2 s0_3 u t1 s0_0 t3 t4 t5 w0 _ HI.out HB.out HT.out).mono ?_
      rintro e w2 ⟨rfl, hi, hb, hk⟩
      refine ⟨_, rfl, ?_⟩
      have n0_ := Aside0.mk hi
      have n1_ := Aside0.mk hb
      have n2_ := Aside0.mk (HK.out.trans hk (.inl rfl))
      clear HI HB HK hi hb hk
      have HI := n0_
      have HB := n1_
      have HK := n2_
      clear n0_ n1_ n2_
      refine hK.out _ _ (HS.out _ _ _ _ HI.out) (fun hHeld => ?_)
      clear hK K
      refine norm_ (a' := ?_) ?_ ?_
      rotate_left
      · show Act.put _ (some 23) _ = _
        simp only [Act.put, List.setIfInBounds_toArray, List.set_cons_zero, List.set_cons_succ, i64_w, i32_w]
        rfl
      refine one_ (i := 8) (N := (some 24)) #[true, true, true, true, true, true, true, true, true, false] rfl rfl (one_of HT_.out (by kernel_rfl)) (by decide) (fun K hK => ?_)
      refine goes_ Try.func12 (by kernel_rfl) rfl #[.agg #[.bool s0_0], .string t1] (by rfl) rfl rfl (by (try simp only [List.map_toArray, List.map_cons, List.map_nil]); first | done | rfl) ?_
      with_reducible refine (order_Order_Get.calls k s0_0 t1 n _ HN.out).mono ?_
      rintro e w3 ⟨rfl, hb⟩
      refine ⟨_, rfl, ?_⟩
      have n0_ := Aside0.mk (HI.out.below hb)
      have n1_ := Aside0.mk (below_step HB.out hb)
      have n2_ := Aside0.mk (HK.out.trans (KeepBut.of_below hb g none) (.inl rfl))
      clear HI HB HK hb
      have HI := n0_
      have HB := n1_
      have HK := n2_
      clear n0_ n1_ n2_
      refine hK.out _ _ (HS.out _ _ _ _ HI.out) (fun hHeld => ?_)
      clear hK K
      refine norm_ (a' := ?_) ?_ ?_
      rotate_left
      · show Act.put _ (some 24) _ = _
        simp only [Act.put, List.setIfInBounds_toArray, List.set_cons_zero, List.set_cons_succ, i64_w, i32_w]
        rfl
      refine pure_ (i := 9) (N := some 4) (v := ?_) (a' := ?_) #[true, true, true, true, true, true, true, true, true, true] rfl rfl (any_of HT_.out (by kernel_rfl)) (fun _ _ _ h => h) (Or.inl ⟨by rfl, ?_⟩) ?_ ?_
      rotate_left
      · intro w'
        go_simp
        with_reducible rfl
      rotate_left
      · simp only [Act.put, List.setIfInBounds_toArray, List.set_cons_zero, List.set_cons_succ, i64_w, i32_w]
        rfl
      refine done_ (done_of HT_.out (by kernel_rfl)) ?_
      go_wp2
      go_ret
      exact ⟨rfl, HI.out, HB.out, HK.out⟩
def order_Reader_Next_nil.f (a1 : Int) : Option (Int) := some 0
theorem order_Reader_Next_nil.calls (a1 : Int) (r : Int) (w : World) (h : order_Reader_Next_nil.f a1 = some r) :
    Calls Try.prog 17 #[.pointer none, .int .i64 a1] w fun e w' => e = .returned (.int .u64 r) ∧ Below w.heap.size w w' := by
  simp only [order_Reader_Next_nil.f, Option.some.injEq] at h
  subst h
  go_enter Try.func17, Try.ntmps17
  go_wp2
  go_ret
  exact ⟨rfl, Below.refl _ _⟩


/-! ### order_Reader_At: function 19 -/
def order_Reader_At.f (s0_0 : Bool) (s0_1 : ByteArray) (s0_2 : Int) (s0_3 : Bool) : Option (Int × Bool × ByteArray × Int × Bool) := some (s0_2, s0_0, s0_1, s0_2, s0_3)
set_option maxHeartbeats 8000000 in
set_option maxRecDepth 100000 in
theorem order_Reader_At.calls (g : Nat) (s0_0 : Bool) (s0_1 : ByteArray) (s0_2 : Int) (s0_3 : Bool) (r1 : Int) (r2 : Bool) (r3 : ByteArray) (r4 : Int) (r5 : Bool) (w0 w : World) (hI : IsS43 w0 w g s0_0 s0_1 s0_2 s0_3) (hB : Below w0.heap.size w0 w) (h : order_Reader_At.f s0_0 s0_1 s0_2 s0_3 = some (r1, r2, r3, r4, r5)) :
    Calls Try.prog 19 #[.pointer (some ⟨g, 0, none⟩)] w fun e w' => e = .returned (.int .u64 r1) ∧ IsS43 w0 w' g r2 r3 r4 r5 ∧ Below w0.heap.size w0 w' ∧ KeepBut w w' g none := by
  have HI0 := Aside0.mk hI
  have HK := Aside0.mk (KeepBut.refl w g none)
  have HL := Aside0.mk hB.size
  clear hI
  have HW0 := Aside0.mk hB.size
  have HB := Aside0.mk hB
  clear hB
  have H : (some (s0_2, s0_0, s0_1, s0_2, s0_3)) = some (r1, r2, r3, r4, r5) := h
  clear h
  simp only [Option.some.injEq, Prod.mk.injEq] at H
  obtain ⟨rfl, rfl, rfl, rfl, rfl⟩ := H
  obtain ⟨HGz2, hgz2⟩ := HI0.out
  have hcz2_0 := cellS43_0 HGz2
  have hcz2_1 := cellS43_1 HGz2
  have hcz2_2 := cellS43_2 HGz2
  have hcz2_3 := cellS43_3 HGz2
  have hfz2_0 := blk_frozen HGz2 0
  have hfz2_1 := blk_frozen HGz2 1
  have hfz2_2 := blk_frozen HGz2 2
  have hfz2_3 := blk_frozen HGz2 3
  clear HGz2 hgz2
  go_enter Try.func19, Try.ntmps19
  go_wp2
  go_ret
  exact ⟨by first | rfl | (simp [errW_none, errW_some] <;> rfl) | (simp [*, errW_none, errW_some] <;> rfl), by repeat (first | (with_reducible first | exact HI0.out | apply IsS43.alloc | apply IsS43.drewN | apply IsS43.drew | apply IsS43.set_0 | apply IsS43.set_1 | apply IsS43.set_2 | apply IsS43.set_3) | exact HI0.out), by repeat (first | (with_reducible first | exact HB.out | apply below_alloc | apply pw_below_drewN | apply below_drew1 | refine below_set ?_ (IsS43.ge HI0.out)) | exact HB.out), by repeat (first | (with_reducible first | exact HK.out | apply KeepBut.set_ | apply keep_drewN | apply keep_drew | apply keep_alloc) | exact HK.out)⟩
def order_Reader_At_nil.f : Option (Int) := some 0
theorem order_Reader_At_nil.calls (r : Int) (w : World) (h : order_Reader_At_nil.f = some r) :
    Calls Try.prog 19 #[.pointer none] w fun e w' => e = .returned (.int .u64 r) ∧ Below w.heap.size w w' := by
  simp only [order_Reader_At_nil.f, Option.some.injEq] at h
  subst h
  go_enter Try.func19, Try.ntmps19
  go_wp2
  go_ret
  exact ⟨rfl, Below.refl _ _⟩


/-! ### order_Reader_Err: function 20 -/
def order_Reader_Err.f (s0_0 : Bool) (s0_1 : ByteArray) (s0_2 : Int) (s0_3 : Bool) : Option (Int × Bool × ByteArray × Int × Bool) := if s0_3 = true then (some (3, s0_0, s0_1, s0_2, s0_3)) else (some (0, s0_0, s0_1, s0_2, s0_3))
set_option maxHeartbeats 8000000 in
set_option maxRecDepth 100000 in
theorem order_Reader_Err.calls (g : Nat) (s0_0 : Bool) (s0_1 : ByteArray) (s0_2 : Int) (s0_3 : Bool) (r1 : Int) (r2 : Bool) (r3 : ByteArray) (r4 : Int) (r5 : Bool) (w0 w : World) (hI : IsS43 w0 w g s0_0 s0_1 s0_2 s0_3) (hB : Below w0.heap.size w0 w) (h : order_Reader_Err.f s0_0 s0_1 s0_2 s0_3 = some (r1, r2, r3, r4, r5)) :
    Calls Try.prog 20 #[.pointer (some ⟨g, 0, none⟩)] w fun e w' => e = .returned (.int .i64 r1) ∧ IsS43 w0 w' g r2 r3 r4 r5 ∧ Below w0.heap.size w0 w' ∧ KeepBut w w' g none := by
  have HI0 := Aside0.mk hI
  have HK := Aside0.mk (KeepBut.refl w g none)
  have HL := Aside0.mk hB.size
  clear hI
  have HW0 := Aside0.mk hB.size
  have HB := Aside0.mk hB
  clear hB
  have H : (if s0_3 = true then (some (3, s0_0, s0_1, s0_2, s0_3)) else (some (0, s0_0, s0_1, s0_2, s0_3))) = some (r1, r2, r3, r4, r5) := h
  clear h
  by_cases c2 : s0_3 = true
  · subst c2
    have H1 : (some (3, s0_0, s0_1, s0_2, true)) = some (r1, r2, r3, r4, r5) := by rw [if_pos rfl] at H; exact H
    clear H
    have H := H1
    clear H1
    simp only [Option.some.injEq, Prod.mk.injEq] at H
    obtain ⟨rfl, rfl, rfl, rfl, rfl⟩ := H
    obtain ⟨HGz3, hgz3⟩ := HI0.out
    have hcz3_0 := cellS43_0 HGz3
    have hcz3_1 := cellS43_1 HGz3
    have hcz3_2 := cellS43_2 HGz3
    have hcz3_3 := cellS43_3 HGz3
    have hfz3_0 := blk_frozen HGz3 0
    have hfz3_1 := blk_frozen HGz3 1
    have hfz3_2 := blk_frozen HGz3 2
    have hfz3_3 := blk_frozen HGz3 3
    clear HGz3 hgz3
    go_enter Try.func20, Try.ntmps20
    go_wp2
    go_ret
    exact ⟨by first | rfl | (simp [errW_none, errW_some] <;> rfl) | (simp [*, errW_none, errW_some] <;> rfl), by repeat (first | (with_reducible first | exact HI0.out | apply IsS43.alloc | apply IsS43.drewN | apply IsS43.drew | apply IsS43.set_0 | apply IsS43.set_1 | apply IsS43.set_2 | apply IsS43.set_3) | exact HI0.out), by repeat (first | (with_reducible first | exact HB.out | apply below_alloc | apply pw_below_drewN | apply below_drew1 | refine below_set ?_ (IsS43.ge HI0.out)) | exact HB.out), by repeat (first | (with_reducible first | exact HK.out | apply KeepBut.set_ | apply keep_drewN | apply keep_drew | apply keep_alloc) | exact HK.out)⟩
  · replace c2 := Bool.eq_false_iff.mpr c2
    subst c2
    have H1 : (some (0, s0_0, s0_1, s0_2, false)) = some (r1, r2, r3, r4, r5) := by rw [if_neg (show ¬ (false = true) by decide)] at H; exact H
    clear H
    have H := H1
    clear H1
    simp only [Option.some.injEq, Prod.mk.injEq] at H
    obtain ⟨rfl, rfl, rfl, rfl, rfl⟩ := H
    obtain ⟨HGz4, hgz4⟩ := HI0.out
    have hcz4_0 := cellS43_0 HGz4
    have hcz4_1 := cellS43_1 HGz4
    have hcz4_2 := cellS43_2 HGz4
    have hcz4_3 := cellS43_3 HGz4
    have hfz4_0 := blk_frozen HGz4 0
    have hfz4_1 := blk_frozen HGz4 1
    have hfz4_2 := blk_frozen HGz4 2
    have hfz4_3 := blk_frozen HGz4 3
    clear HGz4 hgz4
    go_enter Try.func20, Try.ntmps20
    go_wp2
    go_ret
    exact ⟨by first | rfl | (simp [errW_none, errW_some] <;> rfl) | (simp [*, errW_none, errW_some] <;> rfl), by repeat (first | (with_reducible first | exact HI0.out | apply IsS43.alloc | apply IsS43.drewN | apply IsS43.drew | apply IsS43.set_0 | apply IsS43.set_1 | apply IsS43.set_2 | apply IsS43.set_3) | exact HI0.out), by repeat (first | (with_reducible first | exact HB.out | apply below_alloc | apply pw_below_drewN | apply below_drew1 | refine below_set ?_ (IsS43.ge HI0.out)) | exact HB.out), by repeat (first | (with_reducible first | exact HK.out | apply KeepBut.set_ | apply keep_drewN | apply keep_drew | apply keep_alloc) | exact HK.out)⟩
def order_Reader_Err_nil.f : Option (Int) := some 1
theorem order_Reader_Err_nil.calls (r : Int) (w : World) (h : order_Reader_Err_nil.f = some r) :
    Calls Try.prog 20 #[.pointer none] w fun e w' => e = .returned (.int .i64 r) ∧ Below w.heap.size w w' := by
  simp only [order_Reader_Err_nil.f, Option.some.injEq] at h
  subst h
  go_enter Try.func20, Try.ntmps20
  go_wp2
  go_ret
  exact ⟨rfl, Below.refl _ _⟩


end Go.Proofs.Ythbkjppaimjpmaa.Q
