/- What Go functions of the program compute, each as a Lean function with the proof that the call returns just that. No condition but those in the statements. -/
import Derived.Test.YteoeohkjomehoaaQ0
import Derived.Test.YteoeohkjomehoaaQ1
import Derived.Test.YteoeohkjomehoaaQ4
import Derived.Test.YteoeohkjomehoaaQ5
import Derived.Test.YteoeohkjomehoaaQ6
import Derived.Test.YteoeohkjomehoaaMps
import Derived.Test.YteoeohkjomehoaaQ7d
namespace Go.Proofs.Yteoeohkjomehoaa.Q
open Go.RowKit Go.Proofs.YteoeohkjomehoaaW.PrintWords Go.Proofs.YteoeohkjomehoaaW.PrintLast Go.Proofs.YteoeohkjomehoaaW.PrintMore
attribute [local go_sem] max2_int min2_int max_two min_two max_three min_three max_four min_four   -- for this text's walks alone
set_option linter.unusedVariables false
set_option linter.unusedSimpArgs false

attribute [local go_sem high] eqA29
/-! ### graverlaw02_SpanUnions: function 6 -/
set_option maxHeartbeats 8000000 in
set_option maxRecDepth 100000 in
theorem graverlaw02_SpanUnions.calls (k : Nat) (A0 : Option Addr) (c0 : Nat) (l0 : List (S48)) (r : Bool) (w : World) (hrt : r = true) (hr0 : Kd.C k48 w A0 l0.length l0) (hc0 : l0.length ≤ c0) (h : graverlaw02_SpanUnions.f k l0 = some r) :
 Calls Try.prog 6 #[.slice A0 l0.length c0] w fun e w' => e = .returned (.bool r) ∧ Below w.heap.size w w' := by
 have hu29 := Try.underlying29
 have HR0 := aS hr0
 have HC0 := aS hc0
 clear hr0 hc0
 have HB := aS (Below.refl w.heap.size w)
 have HRT := aS hrt
 clear hrt
 have H : ((graverlaw02_speaks.f k).bind fun t167 => (if t167 = true then (graverlaw02_SpanUnions.l0 k l0 ([] : List (S29)) (([] : List Int)) 0) else (some false))) = some r := h
 clear h
 replace H := Option.bind_eq_some_iff.mp H
 obtain ⟨t167, A20, H⟩ := H
 replace H : (if t167 = true then (graverlaw02_SpanUnions.l0 k l0 ([] : List (S29)) (([] : List Int)) 0) else (some false)) = some r := H
 have A2 := aS A20
 clear A20
 by_cases c3 : t167 = true
 ·
  subst c3
  have H1 : (graverlaw02_SpanUnions.l0 k l0 ([] : List (S29)) (([] : List Int)) 0) = some r := by rw [if_pos rfl] at H; exact H
  clear H
  have H := H1
  clear H1
  obtain ⟨y168, hy168⟩ : ∃ y_ : List Int, y_ = (([] : List Int)) := ⟨_, rfl⟩
  replace H : (graverlaw02_SpanUnions.l0 k l0 ([] : List (S29)) y168 0) = some r := by first | (rw [hy168]; with_reducible exact H) | (have H2_ := (Option.bind_some _ _).symm.trans H; rw [hy168]; with_reducible exact H2_) | (have H2_ := (Option.bind_some _ _).symm.trans H; with_reducible exact H2_) | with_reducible exact H | (rw [hy168]; exact H) | exact H
  have Ny168 := aS hy168
  clear hy168
  have H' := aS H
  clear H
  go_enter Try.func6, Try.ntmps6
  go_wp2_with (first|((with_reducible refine gate_callee (f := 7) rfl ?_); refine goesL_ (some 18) rfl rfl Try.func7 (by kernel_rfl) rfl #[] rfl (by (try simp only [List.map_toArray, List.map_cons, List.map_nil]); first|done|rfl|(simp only [List.length_drop, List.length_take]; rfl)) ?_; (with_reducible refine (graverlaw02_speaks.calls k  true _ A2.out).mono ?_); rintro e w4 ⟨rfl, hb⟩; refine ⟨_, rfl, ?_⟩; have n0_ := aS (below_step (by repeat (first|(with_reducible first|exact HB.out|apply below_alloc|apply pw_below_drewN|apply below_drew1)|exact HB.out)) hb); clear HB; have HB := n0_; clear n0_; (try clear hb); (try clear hb2); (try clear hk); (try clear hi))|((with_reducible refine gate_dst (N := 20) rfl ?_); refine Kd.Mp_make (Kd.int .u64) 46 rfl (N := 20) rfl rfl (ok := fun _ => True) trivial (Below.refl _ _) (Nat.le_refl _) ?_; intro v169 w5 ho6 hb hg_ hnew_; clear hg_ hnew_; (first|rw [← Ny168.out] at ho6|(simp only [Int.reduceToNat] at ho6; rw [← Ny168.out] at ho6)); have n0_ := aS (Kd.Mp_lower ho6 (below_size (by repeat (first|(with_reducible first|exact HB.out|apply below_alloc|apply pw_below_drewN|apply below_drew1)|exact HB.out)))); have n1_ := aS (below_step (by repeat (first|(with_reducible first|exact HB.out|apply below_alloc|apply pw_below_drewN|apply below_drew1)|exact HB.out)) hb); clear HB; have HO170 := n0_; have HB := n1_; clear n0_ n1_; clear hb ho6))
  go_loopg [3, 5] k (fun kq v3 v5 w' => ∃ (x3_1 : List (S29)) (x4_1 : List Int) (x5_1 : Int), v5 = .int .i64 x5_1 ∧ Aside0 (graverlaw02_SpanUnions.l0 kq l0 x3_1 x4_1 x5_1 = some r) ∧ Aside0 (kq ≤ k) ∧ Aside0 (Kd.R k29 29 w' w.heap.size (fun _ => True) v3 x3_1) ∧ Aside0 (Kd.Mp (Kd.int .u64) 46 w' w.heap.size (fun _ => True) v169 x4_1) ∧ Aside0 (Below w.heap.size w w'))
  case atStart => exact ⟨(([] : List (S29))), (y168), (0), (by first|rfl|(simp; done)|(simp [*]; done)), H', ⟨Nat.le_refl _⟩, ⟨by first|exact Kd.R_nil _ _ _ _ _|exact Kd.N_nil _ _ _ _ _|exact Kd.V_nil _ _ _ _ _|exact Kd.Q_nil _ _ _ _ _|exact Kd.S_nil _ _ _ _ _⟩, ⟨by (with_reducible repeat (first|apply Kd.Mp_alloc|apply Kd.Mp_drewN|apply Kd.Mp_drew)); exact HO170.out⟩, ⟨by repeat (first|(with_reducible first|exact HB.out|apply below_alloc|apply pw_below_drewN|apply below_drew1)|exact HB.out)⟩⟩
  case round =>
   clear H'
   try clear p2
   try clear c3
   try clear c6
   obtain ⟨x3_1, x4_1, x5_1, rfl, HA, HK1, HO_3, HO_4, HB⟩ := hrel
   cases gk with
   | zero => exact absurd HA.out (by simp [graverlaw02_SpanUnions.l0])
   | succ k1 =>
    as_aux_lemma =>
     have H := HA.out
     clear HA
     simp only [graverlaw02_SpanUnions.l0] at H
     have HC7 := aS H
     clear H
     go_upto_region 6 with (fail)
     go_cut [28] (fun v28 wc => ∃ (kq : Nat) (x28_6 : Bool), v28 = .bool x28_6 ∧ Aside0 (graverlaw02_SpanUnions.j1 kq l0 x3_1 x4_1 x5_1 x28_6 = some r) ∧ Aside0 (kq ≤ k1) ∧ Aside0 (Kd.R k29 29 wc w.heap.size (fun _ => True) u3 x3_1) ∧ Aside0 (Kd.Mp (Kd.int .u64) 46 wc w.heap.size (fun _ => True) v169 x4_1) ∧ Aside0 (Below w.heap.size w wc))
     case first =>
      have H := HC7.out
      clear HC7
      by_cases c8 : x5_1 < (l0.length : Int)
      ·
       rw [if_pos c8] at H
       have c8b0 : decide (x5_1 < (l0.length : Int)) = true := decide_eq_true c8
       clear c8
       (first | rw [c8b0] | (simp only [i64_w, i32_w]; rw [c8b0]) | skip)
       have H' := aS H
       clear H
       go_wp2
       go_meet
       case rel => exact ⟨_, (decide (x5_1 < 8)), (by first|rfl|(simp; done)|(simp [*]; done)), H', ⟨by have := HK1.out; first|omega|exact Nat.le_refl _⟩, ⟨by (with_reducible repeat (first|apply Kd.R_alloc|apply Kd.R_drewN|apply Kd.R_drew)); exact HO_3.out⟩, ⟨by (with_reducible repeat (first|apply Kd.Mp_alloc|apply Kd.Mp_drewN|apply Kd.Mp_drew)); exact HO_4.out⟩, ⟨by repeat (first|(with_reducible first|exact HB.out|apply below_alloc|apply pw_below_drewN|apply below_drew1)|exact HB.out)⟩⟩
      ·
       rw [if_neg c8] at H
       have c8b0 : decide (x5_1 < (l0.length : Int)) = false := decide_eq_false c8
       clear c8
       (first | rw [c8b0] | (simp only [i64_w, i32_w]; rw [c8b0]) | skip)
       have H' := aS H
       clear H
       go_wp2
       go_meet
       case rel => exact ⟨_, (false), (by first|rfl|(simp; done)|(simp [*]; done)), H', ⟨by have := HK1.out; first|omega|exact Nat.le_refl _⟩, ⟨by (with_reducible repeat (first|apply Kd.R_alloc|apply Kd.R_drewN|apply Kd.R_drew)); exact HO_3.out⟩, ⟨by (with_reducible repeat (first|apply Kd.Mp_alloc|apply Kd.Mp_drewN|apply Kd.Mp_drew)); exact HO_4.out⟩, ⟨by repeat (first|(with_reducible first|exact HB.out|apply below_alloc|apply pw_below_drewN|apply below_drew1)|exact HB.out)⟩⟩
     case rest =>
      clear HC7
      try clear p2
      try clear c3
      try clear c6
      try clear c7
      try clear c8
      try clear c8b0
      try clear p2
      obtain ⟨kq, x28_6, rfl, HA, HJ6, HO_3, HO_4, HB⟩ := hcut
      cases kq with
      | zero => exact absurd HA.out (by simp [graverlaw02_SpanUnions.j1])
      | succ kj6 =>
       as_aux_lemma =>
        have H := HA.out
        clear HA
        simp only [graverlaw02_SpanUnions.j1] at H
        by_cases c9 : x28_6 = true
        ·
         subst c9
         have H1 : (if 0 ≤ x5_1 then (if x5_1 < (l0.length : Int) then (if x3_1.length < 8796093022208 then (graverlaw02_SpanUnions.l1 kj6 l0 (x3_1 ++ [(⟨IntKind.u64.wrap (Go.bits .and .u16 ((rd_T48 l0 x5_1).f0) 255), IntKind.u64.wrap (Go.bits .and .u16 ((rd_T48 l0 x5_1).f1) 63)⟩ : S29)]) x4_1 x5_1 (IntKind.u64.wrap (Go.bits .and .u16 ((rd_T48 l0 x5_1).f0) 255)) (IntKind.u64.wrap (Go.bits .and .u16 ((rd_T48 l0 x5_1).f0) 255)) (IntKind.u64.wrap (Go.bits .and .u16 ((rd_T48 l0 x5_1).f1) 63))) else (none)) else (none)) else (none)) = some r := by rw [if_pos rfl] at H; exact H
         clear H
         have H := H1
         clear H1
         by_cases c10 : 0 ≤ x5_1
         ·
          rw [if_pos c10] at H
          have c10b0 : decide (0 ≤ x5_1) = true := decide_eq_true c10
          clear c10
          by_cases c11 : x5_1 < (l0.length : Int)
          ·
           rw [if_pos c11] at H
           have c11b0 : decide (x5_1 < (l0.length : Int)) = true := decide_eq_true c11
           clear c11
           by_cases c12 : x3_1.length < 8796093022208
           ·
            rw [if_pos c12] at H
            have LMc12 := aS c12
            clear c12
            obtain ⟨y174, hy174⟩ : ∃ y_ : List (S29), y_ = (x3_1 ++ [(⟨IntKind.u64.wrap (Go.bits .and .u16 ((rd_T48 l0 x5_1).f0) 255), IntKind.u64.wrap (Go.bits .and .u16 ((rd_T48 l0 x5_1).f1) 63)⟩ : S29)]) := ⟨_, rfl⟩
            replace H : (graverlaw02_SpanUnions.l1 kj6 l0 y174 x4_1 x5_1 (IntKind.u64.wrap (Go.bits .and .u16 ((rd_T48 l0 x5_1).f0) 255)) (IntKind.u64.wrap (Go.bits .and .u16 ((rd_T48 l0 x5_1).f0) 255)) (IntKind.u64.wrap (Go.bits .and .u16 ((rd_T48 l0 x5_1).f1) 63))) = some r := by first | (rw [hy174]; with_reducible exact H) | (have H2_ := (Option.bind_some _ _).symm.trans H; rw [hy174]; with_reducible exact H2_) | (have H2_ := (Option.bind_some _ _).symm.trans H; with_reducible exact H2_) | with_reducible exact H | (rw [hy174]; exact H) | exact H
            have Ny174 := aS hy174
            clear hy174
            have H' := aS H
            clear H
            try go_wp2
            have n0_ := aS (Kd.R_drew HO_3.out)
            have n1_ := aS (Kd.Mp_drew HO_4.out)
            have n2_ := aS (below_drew1 HB.out)
            clear HO_3
            clear HO_4
            clear HB
            have HO_3 := n0_
            have HO_4 := n1_
            have HB := n2_
            clear n0_ n1_ n2_
            have p171 : 0 ≤ (x5_1 : Int) := of_decide_eq_true (by first | (with_reducible assumption) | assumption)
            have q171 : x5_1 < (l0.length : Int) := of_decide_eq_true (by first | (with_reducible assumption) | assumption)
            obtain ⟨ad171, e171, hx171_0, hx171_1⟩ := at_T48 HR0.out x5_1 p171 q171
            have hw171_1 := hx171_1
            have hw171_0 := hx171_0
            cases e171
            replace hx171_0 := (HB.out.cell (World.block_lt_of_cell? w _ hx171_0)).trans hx171_0
            replace hx171_1 := (HB.out.cell (World.block_lt_of_cell? w _ hx171_1)).trans hx171_1
            replace p171 := eq_true p171
            replace q171 := eq_true q171
            have p172 : 0 ≤ (x5_1 : Int) := of_decide_eq_true (by first | (with_reducible assumption) | assumption)
            have q172 : x5_1 < (l0.length : Int) := of_decide_eq_true (by first | (with_reducible assumption) | assumption)
            obtain ⟨ad172, e172, hx172_0, hx172_1⟩ := at_T48 HR0.out x5_1 p172 q172
            have hw172_1 := hx172_1
            have hw172_0 := hx172_0
            obtain rfl : ad171 = ad172 := (by injection e172)
            replace hx172_0 := (HB.out.cell (World.block_lt_of_cell? w _ hx172_0)).trans hx172_0
            replace hx172_1 := (HB.out.cell (World.block_lt_of_cell? w _ hx172_1)).trans hx172_1
            replace p172 := eq_true p172
            replace q172 := eq_true q172
            refine start_ (n := 17) (S := fun w' => w'.cell? (ad171.add ((x5_1).toNat * 2)) = some (.int .u16 ((rd_T48 l0 x5_1).f0)) ∧ w'.cell? ⟨(ad171.add ((x5_1).toNat * 2)).block, (ad171.add ((x5_1).toNat * 2)).off + 1, none⟩ = some (.int .u16 ((rd_T48 l0 x5_1).f1)) ∧ w'.cell? (ad171.add ((x5_1).toNat * 2)) = some (.int .u16 ((rd_T48 l0 x5_1).f0)) ∧ w'.cell? ⟨(ad171.add ((x5_1).toNat * 2)).block, (ad171.add ((x5_1).toNat * 2)).off + 1, none⟩ = some (.int .u16 ((rd_T48 l0 x5_1).f1))) (ds := []) #[false, false, false, false, false, false, false, false, false, false, false, false, false, false, false, false, false] (by kernel_rfl) rfl rfl ⟨((HB.out.cell (World.block_lt_of_cell? w _ hw171_0)).trans hw171_0), ((HB.out.cell (World.block_lt_of_cell? w _ hw171_1)).trans hw171_1), ((HB.out.cell (World.block_lt_of_cell? w _ hw172_0)).trans hw172_0), ((HB.out.cell (World.block_lt_of_cell? w _ hw172_1)).trans hw172_1)⟩ (fun hH => ?_); refine with_tabW graverlaw02_SpanUnions.tab8 graverlaw02_SpanUnions.bits8 (fun HT_ HW_ => ?_)
            generalize wc.drew = w13 at HO_3 HO_4 HB hx171_0 hx171_1 hx172_0 hx172_1 hH ⊢
            refine pure_ (i := 0) (N := some 31) (v := ?_) (a' := ?_) (bm 17 1) rfl rfl (any_of HT_.out (by kernel_rfl)) (fun _ _ _ h => h) (Or.inl ⟨by rfl, ?_⟩) ?_ ?_
            rotate_left
            ·
             intro w'
             go_simp
             with_reducible rfl
            rotate_left
            ·
             simp only [Act.put, aput]
             rfl
            refine pure_ (i := 1) (N := some 32) (v := ?_) (a' := ?_) (bm 17 3) rfl rfl (any_of HT_.out (by kernel_rfl)) (fun _ _ _ h => h) (Or.inl ⟨by rfl, ?_⟩) ?_ ?_
            rotate_left
            ·
             intro w'
             go_simp
             with_reducible rfl
            rotate_left
            ·
             simp only [Act.put, aput]
             rfl
            refine pure_ (i := 2) (N := some 33) (v := ?_) (a' := ?_) (bm 17 7) rfl rfl (any_of HT_.out (by kernel_rfl)) (fun _ _ _ h => h) (Or.inl ⟨by rfl, ?_⟩) ?_ ?_
            rotate_left
            ·
             intro w'
             go_simp
             with_reducible rfl
            rotate_left
            ·
             simp only [Act.put, aput]
             rfl
            refine pure_ (i := 3) (N := some 34) (v := ?_) (a' := ?_) (bm 17 15) rfl rfl (any_of HT_.out (by kernel_rfl)) (fun _ _ _ h => h) (Or.inl ⟨by rfl, ?_⟩) ?_ ?_
            rotate_left
            ·
             intro w'
             go_simp
             with_reducible rfl
            rotate_left
            ·
             simp only [Act.put, aput]
             rfl
            refine pure_ (i := 7) (N := some 38) (v := ?_) (a' := ?_) (bm 17 143) rfl rfl (any_of HT_.out (by kernel_rfl)) (fun _ _ _ h => h) (Or.inl ⟨by rfl, ?_⟩) ?_ ?_
            rotate_left
            ·
             intro w'
             go_simp
             with_reducible rfl
            rotate_left
            ·
             simp only [Act.put, aput]
             rfl
            refine pure_ (i := 8) (N := some 39) (v := ?_) (a' := ?_) (bm 17 399) rfl rfl (any_of HT_.out (by kernel_rfl)) (fun _ _ _ h => h) (Or.inl ⟨by rfl, ?_⟩) ?_ ?_
            rotate_left
            ·
             intro w'
             go_simp
             with_reducible rfl
            rotate_left
            ·
             simp only [Act.put, aput]
             rfl
            refine pure_ (i := 9) (N := some 40) (v := ?_) (a' := ?_) (bm 17 911) rfl rfl (any_of HT_.out (by kernel_rfl)) (fun _ _ _ h => h) (Or.inl ⟨by rfl, ?_⟩) ?_ ?_
            rotate_left
            ·
             intro w'
             go_simp
             with_reducible rfl
            rotate_left
            ·
             simp only [Act.put, aput]
             rfl
            refine pure_ (i := 10) (N := some 41) (v := ?_) (a' := ?_) (bm 17 1935) rfl rfl (any_of HT_.out (by kernel_rfl)) (fun _ _ _ h => h) (Or.inl ⟨by rfl, ?_⟩) ?_ ?_
            rotate_left
            ·
             intro w'
             go_simp
             with_reducible rfl
            rotate_left
            ·
             simp only [Act.put, aput]
             rfl
            refine take_ (i := 4) (N := some 35) (v := ?_) (a' := ?_) (bm 17 1951) rfl rfl (take_ofW HT_.out HW_.out (by kernel_rfl)) (fun _ _ _ h => h) (Or.inl ⟨by rfl, ?_⟩) hH ?_ ?_
            rotate_left
            ·
             intro w' s0
             go_simp
             with_reducible rfl
            rotate_left
            ·
             simp only [Act.put, aput]
             rfl
            refine pure_ (i := 5) (N := some 36) (v := ?_) (a' := ?_) (bm 17 1983) rfl rfl (any_of HT_.out (by kernel_rfl)) (fun _ _ _ h => h) (Or.inl ⟨by rfl, ?_⟩) ?_ ?_
            rotate_left
            ·
             intro w'
             go_simp
             with_reducible rfl
            rotate_left
            ·
             simp only [Act.put, aput]
             rfl
            refine pure_ (i := 6) (N := some 37) (v := ?_) (a' := ?_) (bm 17 2047) rfl rfl (any_of HT_.out (by kernel_rfl)) (fun _ _ _ h => h) (Or.inl ⟨by rfl, ?_⟩) ?_ ?_
            rotate_left
            ·
             intro w'
             go_simp
             with_reducible rfl
            rotate_left
            ·
             simp only [Act.put, aput]
             rfl
            refine take_ (i := 11) (N := some 42) (v := ?_) (a' := ?_) (bm 17 4095) rfl rfl (take_ofW HT_.out HW_.out (by kernel_rfl)) (fun _ _ _ h => h) (Or.inl ⟨by rfl, ?_⟩) hH ?_ ?_
            rotate_left
            ·
             intro w' s0
             go_simp
             with_reducible rfl
            rotate_left
            ·
             simp only [Act.put, aput]
             rfl
            refine pure_ (i := 12) (N := some 43) (v := ?_) (a' := ?_) (bm 17 8191) rfl rfl (any_of HT_.out (by kernel_rfl)) (fun _ _ _ h => h) (Or.inl ⟨by rfl, ?_⟩) ?_ ?_
            rotate_left
            ·
             intro w'
             go_simp
             with_reducible rfl
            rotate_left
            ·
             simp only [Act.put, aput]
             rfl
            refine pure_ (i := 13) (N := some 44) (v := ?_) (a' := ?_) (bm 17 16383) rfl rfl (any_of HT_.out (by kernel_rfl)) (fun _ _ _ h => h) (Or.inl ⟨by rfl, ?_⟩) ?_ ?_
            rotate_left
            ·
             intro w'
             go_simp
             with_reducible rfl
            rotate_left
            ·
             simp only [Act.put, aput]
             rfl
            refine pure_ (i := 14) (N := some 45) (v := ?_) (a' := ?_) (bm 17 32767) rfl rfl (any_of HT_.out (by kernel_rfl)) (fun _ _ _ h => h) (Or.inl ⟨by rfl, ?_⟩) ?_ ?_
            rotate_left
            ·
             intro w'
             go_simp
             with_reducible rfl
            rotate_left
            ·
             simp only [Act.put, aput]
             rfl
            refine one_ (i := 15) (N := some 6) (bm 17 65535) rfl rfl (one_of HT_.out (by kernel_rfl)) (by decide) (fun K hK => ?_)
            refine box_step ?hg (N := 6) ?hd (cs := #[.int .u64 0, .int .u64 0]) (t := 29) ?hr ?_; (case hd => rfl); (case hg => rfl); (case hr => (go_simp; try rfl))
            intro gb173 hg w14 hbox hb
            have n0_ := aS (Kd.R_below (Kd.R_elderB (by (with_reducible repeat (first|apply Kd.R_alloc|apply Kd.R_drewN|apply Kd.R_drew)); exact HO_3.out) gb173 (Nat.le_of_eq hg.symm)) hb)
            have n1_ := aS (Kd.Mp_below (by (with_reducible repeat (first|apply Kd.Mp_alloc|apply Kd.Mp_drewN|apply Kd.Mp_drew)); exact HO_4.out) hb)
            have n2_ := aS (below_step (by repeat (first|(with_reducible first|exact HB.out|apply below_alloc|apply pw_below_drewN|apply below_drew1)|exact HB.out)) hb)
            have n3_ := aS (hbox)
            have n4_ := aS ((by rw [hg]; exact (below_size (by repeat (first|(with_reducible first|exact HB.out|apply below_alloc|apply pw_below_drewN|apply below_drew1)|exact HB.out))) : w.heap.size ≤ gb173))
            have n5_ := aS ((by rw [hg]; exact (below_size (by repeat (first|(with_reducible first|exact HB.out|apply below_alloc|apply pw_below_drewN|apply below_drew1)|exact HB.out))) : w.heap.size ≤ gb173))
            clear HO_3
            clear HO_4
            clear HB
            have HO_3 := n0_
            have HO_4 := n1_
            have HB := n2_
            have BK173 := n3_
            have GW173 := n4_
            have GE173 := n5_
            clear n0_ n1_ n2_ n3_ n4_ n5_
            clear hb hbox hg
            refine hK.out _ _ ⟨((HB.out.cell (World.block_lt_of_cell? w _ hw171_0)).trans hw171_0), ((HB.out.cell (World.block_lt_of_cell? w _ hw171_1)).trans hw171_1), ((HB.out.cell (World.block_lt_of_cell? w _ hw172_0)).trans hw172_0), ((HB.out.cell (World.block_lt_of_cell? w _ hw172_1)).trans hw172_1)⟩ (fun hH => ?_)
            clear hK K
            refine norm_ (a' := ?_) ?_ ?_
            rotate_left
            ·
             show Act.put _ (some 6) _ = _
             simp only [Act.put, aput]
             rfl
            refine one_ (i := 16) (N := none) (bm 17 131071) rfl rfl (one_of HT_.out (by kernel_rfl)) (by decide) (fun K hK => ?_)
            have hs15 : w14.cell? ⟨gb173, 0, none⟩ = some (.int .u64 0) := (blk_cell BK173.out 0).trans rfl
            have hfs15 := blk_frozen BK173.out 0
            have hs16 : w14.cell? ⟨gb173, 1, none⟩ = some (.int .u64 0) := (blk_cell BK173.out 1).trans rfl
            have hfs16 := blk_frozen BK173.out 1
            refine skip_ (w1 := ?_) (by rfl) rfl ?_ ?_
            rotate_left
            ·
             go_simp
             rfl
            refine hK.out _ _ ⟨((cell_far (p := ⟨gb173, _, none⟩) (by first | exact Nat.ne_of_lt (Nat.lt_of_lt_of_le (by have := World.block_lt_of_cell? _ _ hw171_0; first | rwa [add_block] at this | exact this) GW173.out) | (rw [add_block]; exact Nat.ne_of_lt (Nat.lt_of_lt_of_le (by have := World.block_lt_of_cell? _ _ hw171_0; first | rwa [add_block] at this | exact this) GW173.out)) | (show (Addr.add _ _).block ≠ _; rw [add_block]; exact Nat.ne_of_lt (Nat.lt_of_lt_of_le (by have := World.block_lt_of_cell? _ _ hw171_0; first | rwa [add_block] at this | exact this) GW173.out)) | (dsimp only; exact Nat.ne_of_lt (Nat.lt_of_lt_of_le (by have := World.block_lt_of_cell? _ _ hw171_0; first | rwa [add_block] at this | exact this) GW173.out))) _).trans (((cell_far (p := ⟨gb173, _, none⟩) (by first | exact Nat.ne_of_lt (Nat.lt_of_lt_of_le (by have := World.block_lt_of_cell? _ _ hw171_0; first | rwa [add_block] at this | exact this) GW173.out) | (rw [add_block]; exact Nat.ne_of_lt (Nat.lt_of_lt_of_le (by have := World.block_lt_of_cell? _ _ hw171_0; first | rwa [add_block] at this | exact this) GW173.out)) | (show (Addr.add _ _).block ≠ _; rw [add_block]; exact Nat.ne_of_lt (Nat.lt_of_lt_of_le (by have := World.block_lt_of_cell? _ _ hw171_0; first | rwa [add_block] at this | exact this) GW173.out)) | (dsimp only; exact Nat.ne_of_lt (Nat.lt_of_lt_of_le (by have := World.block_lt_of_cell? _ _ hw171_0; first | rwa [add_block] at this | exact this) GW173.out))) _).trans (hH.1)))), ((cell_far (p := ⟨gb173, _, none⟩) (by first | exact Nat.ne_of_lt (Nat.lt_of_lt_of_le (by have := World.block_lt_of_cell? _ _ hw171_1; first | rwa [add_block] at this | exact this) GW173.out) | (rw [add_block]; exact Nat.ne_of_lt (Nat.lt_of_lt_of_le (by have := World.block_lt_of_cell? _ _ hw171_1; first | rwa [add_block] at this | exact this) GW173.out)) | (show (Addr.add _ _).block ≠ _; rw [add_block]; exact Nat.ne_of_lt (Nat.lt_of_lt_of_le (by have := World.block_lt_of_cell? _ _ hw171_1; first | rwa [add_block] at this | exact this) GW173.out)) | (dsimp only; exact Nat.ne_of_lt (Nat.lt_of_lt_of_le (by have := World.block_lt_of_cell? _ _ hw171_1; first | rwa [add_block] at this | exact this) GW173.out))) _).trans (((cell_far (p := ⟨gb173, _, none⟩) (by first | exact Nat.ne_of_lt (Nat.lt_of_lt_of_le (by have := World.block_lt_of_cell? _ _ hw171_1; first | rwa [add_block] at this | exact this) GW173.out) | (rw [add_block]; exact Nat.ne_of_lt (Nat.lt_of_lt_of_le (by have := World.block_lt_of_cell? _ _ hw171_1; first | rwa [add_block] at this | exact this) GW173.out)) | (show (Addr.add _ _).block ≠ _; rw [add_block]; exact Nat.ne_of_lt (Nat.lt_of_lt_of_le (by have := World.block_lt_of_cell? _ _ hw171_1; first | rwa [add_block] at this | exact this) GW173.out)) | (dsimp only; exact Nat.ne_of_lt (Nat.lt_of_lt_of_le (by have := World.block_lt_of_cell? _ _ hw171_1; first | rwa [add_block] at this | exact this) GW173.out))) _).trans (hH.2.1)))), ((cell_far (p := ⟨gb173, _, none⟩) (by first | exact Nat.ne_of_lt (Nat.lt_of_lt_of_le (by have := World.block_lt_of_cell? _ _ hw172_0; first | rwa [add_block] at this | exact this) GW173.out) | (rw [add_block]; exact Nat.ne_of_lt (Nat.lt_of_lt_of_le (by have := World.block_lt_of_cell? _ _ hw172_0; first | rwa [add_block] at this | exact this) GW173.out)) | (show (Addr.add _ _).block ≠ _; rw [add_block]; exact Nat.ne_of_lt (Nat.lt_of_lt_of_le (by have := World.block_lt_of_cell? _ _ hw172_0; first | rwa [add_block] at this | exact this) GW173.out)) | (dsimp only; exact Nat.ne_of_lt (Nat.lt_of_lt_of_le (by have := World.block_lt_of_cell? _ _ hw172_0; first | rwa [add_block] at this | exact this) GW173.out))) _).trans (((cell_far (p := ⟨gb173, _, none⟩) (by first | exact Nat.ne_of_lt (Nat.lt_of_lt_of_le (by have := World.block_lt_of_cell? _ _ hw172_0; first | rwa [add_block] at this | exact this) GW173.out) | (rw [add_block]; exact Nat.ne_of_lt (Nat.lt_of_lt_of_le (by have := World.block_lt_of_cell? _ _ hw172_0; first | rwa [add_block] at this | exact this) GW173.out)) | (show (Addr.add _ _).block ≠ _; rw [add_block]; exact Nat.ne_of_lt (Nat.lt_of_lt_of_le (by have := World.block_lt_of_cell? _ _ hw172_0; first | rwa [add_block] at this | exact this) GW173.out)) | (dsimp only; exact Nat.ne_of_lt (Nat.lt_of_lt_of_le (by have := World.block_lt_of_cell? _ _ hw172_0; first | rwa [add_block] at this | exact this) GW173.out))) _).trans (hH.2.2.1)))), ((cell_far (p := ⟨gb173, _, none⟩) (by first | exact Nat.ne_of_lt (Nat.lt_of_lt_of_le (by have := World.block_lt_of_cell? _ _ hw172_1; first | rwa [add_block] at this | exact this) GW173.out) | (rw [add_block]; exact Nat.ne_of_lt (Nat.lt_of_lt_of_le (by have := World.block_lt_of_cell? _ _ hw172_1; first | rwa [add_block] at this | exact this) GW173.out)) | (show (Addr.add _ _).block ≠ _; rw [add_block]; exact Nat.ne_of_lt (Nat.lt_of_lt_of_le (by have := World.block_lt_of_cell? _ _ hw172_1; first | rwa [add_block] at this | exact this) GW173.out)) | (dsimp only; exact Nat.ne_of_lt (Nat.lt_of_lt_of_le (by have := World.block_lt_of_cell? _ _ hw172_1; first | rwa [add_block] at this | exact this) GW173.out))) _).trans (((cell_far (p := ⟨gb173, _, none⟩) (by first | exact Nat.ne_of_lt (Nat.lt_of_lt_of_le (by have := World.block_lt_of_cell? _ _ hw172_1; first | rwa [add_block] at this | exact this) GW173.out) | (rw [add_block]; exact Nat.ne_of_lt (Nat.lt_of_lt_of_le (by have := World.block_lt_of_cell? _ _ hw172_1; first | rwa [add_block] at this | exact this) GW173.out)) | (show (Addr.add _ _).block ≠ _; rw [add_block]; exact Nat.ne_of_lt (Nat.lt_of_lt_of_le (by have := World.block_lt_of_cell? _ _ hw172_1; first | rwa [add_block] at this | exact this) GW173.out)) | (dsimp only; exact Nat.ne_of_lt (Nat.lt_of_lt_of_le (by have := World.block_lt_of_cell? _ _ hw172_1; first | rwa [add_block] at this | exact this) GW173.out))) _).trans (hH.2.2.2))))⟩ (fun hH => ?_)
            clear hK K
            refine done_ (done_of HT_.out (by kernel_rfl)) ?_
            have hcz17_0 : w14.cell? ⟨gb173, 0, none⟩ = some (.int .u64 0) := (blk_cell BK173.out 0).trans rfl
            have hcz17_1 : w14.cell? ⟨gb173, 1, none⟩ = some (.int .u64 0) := (blk_cell BK173.out 1).trans rfl
            have hfz17_0 := blk_frozen BK173.out 0
            have hfz17_1 := blk_frozen BK173.out 1
            try go_wp2_with (first|((with_reducible refine gate_builtin (b := .append) (xs := #[.tmp 46, .tmp 48]) rfl ?_); at_builtin; refine Kd.R_append k29 (w0 := w) w.heap.size rfl (.tmp 46) (.tmp 48) 24 29 (.agg #[(.int .u64 0), (.int .u64 0)]) 16 rfl Try.underlying24 info29 rfl (by decide) (by omega) u3 x3_1 (⟨IntKind.u64.wrap (Go.bits .and .u16 ((rd_T48 l0 x5_1).f0) 255), IntKind.u64.wrap (Go.bits .and .u16 ((rd_T48 l0 x5_1).f1) 63)⟩ : S29) [.int .u64 (IntKind.u64.wrap (Go.bits .and .u16 ((rd_T48 l0 x5_1).f0) 255)), .int .u64 (IntKind.u64.wrap (Go.bits .and .u16 ((rd_T48 l0 x5_1).f1) 63))] (fun k_ => k_ ≠ gb173) (fun _ => False) rfl (by first|(go_simp; done)|(go_simp; rfl)) ?aP (fun _ hk => hk.elim) ?aF ?aO ?aB ?aS ?aL ?_; (case aP => exact k29_mkM _ _ _ (⟨IntKind.u64.wrap (Go.bits .and .u16 ((rd_T48 l0 x5_1).f0) 255), IntKind.u64.wrap (Go.bits .and .u16 ((rd_T48 l0 x5_1).f1) 63)⟩ : S29)); (case aB => exact (by repeat (first|(with_reducible first|exact HB.out|apply eA|apply eN|apply eD|refine below_set ?_ GE173.out)|exact HB.out))); (case aF => exact (fun k_ hk => Kd.freshB (g := gb173) (o := .cells #[.int .u64 (IntKind.u64.wrap (Go.bits .and .u16 ((rd_T48 l0 x5_1).f0) 255)), .int .u64 (IntKind.u64.wrap (Go.bits .and .u16 ((rd_T48 l0 x5_1).f1) 63))] 29 (0, 0)) (by (with_reducible repeat (first|apply bN|apply bD|apply bA)); refine blk_put (cs := #[.int .u64 (IntKind.u64.wrap (Go.bits .and .u16 ((rd_T48 l0 x5_1).f0) 255)), .int .u64 0]) ?_ 1 _ rfl; (with_reducible repeat (first|apply bN|apply bD|apply bA)); refine blk_put (cs := #[.int .u64 0, .int .u64 0]) ?_ 0 _ rfl; (with_reducible repeat (first|apply bN|apply bD|apply bA)); exact BK173.out) k_ hk)); (case aO => exact (by (with_reducible repeat (first|apply Kd.R_alloc|apply Kd.R_drewN|apply Kd.R_drew)); exact Kd.R_mono (Kd.R_far (p := ⟨gb173, 1, none⟩) (Kd.R_far (p := ⟨gb173, 0, none⟩) (Kd.R_mono HO_3.out (fun k_ hk => (⟨hk, hk.2⟩ : _ ∧ k_ ≠ gb173))) (fun _ hk => hk.2) (.int .u64 (IntKind.u64.wrap (Go.bits .and .u16 ((rd_T48 l0 x5_1).f0) 255)))) (fun _ hk => hk.2) (.int .u64 (IntKind.u64.wrap (Go.bits .and .u16 ((rd_T48 l0 x5_1).f1) 63)))) (fun _ hk => hk.1.2))); (case aS => exact (below_size (by repeat (first|(with_reducible first|exact HB.out|apply eA|apply eN|apply eD|refine below_set ?_ GE173.out)|exact HB.out)))); (case aL => have := LMc12.out; omega); intro v175 w18 ho hb hg hat; rw [← Ny174.out] at ho; have n0_ := aS (Kd.Mp_over' (by (with_reducible repeat (first|apply Kd.Mp_alloc|apply Kd.Mp_drewN|apply Kd.Mp_drew)); exact (Kd.Mp_mono (Kd.Mp_far (p := ⟨gb173, 1, none⟩) (Kd.Mp_far (p := ⟨gb173, 0, none⟩) (Kd.Mp_types HO_4.out BK173.out (by decide)) (fun _ hk => hk.2) (.int .u64 (IntKind.u64.wrap (Go.bits .and .u16 ((rd_T48 l0 x5_1).f0) 255)))) (fun _ hk => hk.2) (.int .u64 (IntKind.u64.wrap (Go.bits .and .u16 ((rd_T48 l0 x5_1).f1) 63)))) (fun _ h_ => h_.1))) (Kd.R_typed (by (with_reducible repeat (first|apply Kd.R_alloc|apply Kd.R_drewN|apply Kd.R_drew)); exact (Kd.R_mono (Kd.R_far (p := ⟨gb173, 1, none⟩) (Kd.R_far (p := ⟨gb173, 0, none⟩) (Kd.R_mono HO_3.out (fun k_ hk => (⟨hk, hk.2⟩ : _ ∧ k_ ≠ gb173))) (fun _ hk => hk.2) (.int .u64 (IntKind.u64.wrap (Go.bits .and .u16 ((rd_T48 l0 x5_1).f0) 255)))) (fun _ hk => hk.2) (.int .u64 (IntKind.u64.wrap (Go.bits .and .u16 ((rd_T48 l0 x5_1).f1) 63)))) (fun _ h_ => h_.1)))) (by decide) hg); have n1_ := aS (blk_grown (g := gb173) (o := .cells #[.int .u64 (IntKind.u64.wrap (Go.bits .and .u16 ((rd_T48 l0 x5_1).f0) 255)), .int .u64 (IntKind.u64.wrap (Go.bits .and .u16 ((rd_T48 l0 x5_1).f1) 63))] 29 (0, 0)) (by (with_reducible repeat (first|apply bN|apply bD|apply bA)); refine blk_put (cs := #[.int .u64 (IntKind.u64.wrap (Go.bits .and .u16 ((rd_T48 l0 x5_1).f0) 255)), .int .u64 0]) ?_ 1 _ rfl; (with_reducible repeat (first|apply bN|apply bD|apply bA)); refine blk_put (cs := #[.int .u64 0, .int .u64 0]) ?_ 0 _ rfl; (with_reducible repeat (first|apply bN|apply bD|apply bA)); exact BK173.out) hg (Kd.R_away HO_3.out (fun _ hk => hk.2))); have n2_ := aS (hb); have n3_ := aS (ho); clear HO_4; clear BK173; clear HB; clear HO_3; have HO_4 := n0_; have BK173 := n1_; have HB := n2_; have HO176 := n3_; clear n0_ n1_ n2_ n3_; clear ho hb hg hat; have hcz19_0 : w18.cell? ⟨gb173, 0, none⟩ = some (.int .u64 (IntKind.u64.wrap (Go.bits .and .u16 ((rd_T48 l0 x5_1).f0) 255))) := (blk_cell BK173.out 0).trans rfl; have hcz19_1 : w18.cell? ⟨gb173, 1, none⟩ = some (.int .u64 (IntKind.u64.wrap (Go.bits .and .u16 ((rd_T48 l0 x5_1).f1) 63))) := (blk_cell BK173.out 1).trans rfl; have hfz19_0 := blk_frozen BK173.out 0; have hfz19_1 := blk_frozen BK173.out 1))
            go_loopg [7] kj6 (fun kq v7 w' => ∃ (x4_3 : List Int) (x7_3 : Int), v7 = .int .u64 x7_3 ∧ Aside0 (graverlaw02_SpanUnions.l1 kq l0 y174 x4_3 x5_1 x7_3 (IntKind.u64.wrap (Go.bits .and .u16 ((rd_T48 l0 x5_1).f0) 255)) (IntKind.u64.wrap (Go.bits .and .u16 ((rd_T48 l0 x5_1).f1) 63)) = some r) ∧ Aside0 (kq ≤ kj6) ∧ Aside0 (Kd.R k29 29 w' w.heap.size (fun k_ => k_ ≠ gb173) v175 y174) ∧ Aside0 (Kd.Mp (Kd.int .u64) 46 w' w.heap.size (fun _ => True) v169 x4_3) ∧ Aside0 (w'.heap[gb173]? = some (.cells #[.int .u64 (IntKind.u64.wrap (Go.bits .and .u16 ((rd_T48 l0 x5_1).f0) 255)), .int .u64 (IntKind.u64.wrap (Go.bits .and .u16 ((rd_T48 l0 x5_1).f1) 63))] 29 (0, 0))) ∧ Aside0 (Below w.heap.size w w'))
            case atStart => exact ⟨(x4_1), (IntKind.u64.wrap (Go.bits .and .u16 ((rd_T48 l0 x5_1).f0) 255)), (by first|rfl|(simp; done)|(simp [*]; done)), H', ⟨Nat.le_refl _⟩, ⟨by (with_reducible repeat (first|apply Kd.R_alloc|apply Kd.R_drewN|apply Kd.R_drew)); exact HO176.out⟩, ⟨by (with_reducible repeat (first|apply Kd.Mp_alloc|apply Kd.Mp_drewN|apply Kd.Mp_drew)); exact HO_4.out⟩, ⟨by (with_reducible repeat (first|apply bN|apply bD|apply bA)); exact BK173.out⟩, ⟨by repeat (first|(with_reducible first|exact HB.out|apply eA|apply eN|apply eD|refine below_set ?_ GE173.out)|exact HB.out)⟩⟩
            case round =>
             clear H'
             try clear c1
             try clear p1
             try clear q1
             try clear hx1
             try clear p2
             try clear c3
             try clear c6
             try clear c7
             try clear c8
             try clear c8b0
             try clear c9
             try clear c10
             try clear c10b0
             try clear c11
             try clear c11b0
             try clear c12
             try clear p17
             try clear q17
             try clear hx17
             try clear hcz17_0
             try clear hcz17_1
             try clear hcz19_0
             try clear hcz19_1
             try clear hfz17_0
             try clear hfz17_1
             try clear hfz19_0
             try clear hfz19_1
             try clear hx171_0
             try clear hx171_1
             try clear hx172_0
             try clear hx172_1
             try clear p171
             try clear p172
             try clear p2
             try clear q171
             try clear q172
             obtain ⟨x4_3, x7_3, rfl, HA, HK3, HO_3, HO_4, BK173, HB⟩ := hrel
             cases gk with
             | zero => exact absurd HA.out (by simp [graverlaw02_SpanUnions.l1])
             | succ k3 =>
              as_aux_lemma =>
               have H := HA.out
               clear HA
               simp only [graverlaw02_SpanUnions.l1] at H
               by_cases c20 : x7_3 < (IntKind.u64.wrap ((IntKind.u64.wrap (Go.bits .and .u16 ((rd_T48 l0 x5_1).f0) 255)) + (IntKind.u64.wrap (Go.bits .and .u16 ((rd_T48 l0 x5_1).f1) 63))))
               ·
                rw [if_pos c20] at H
                have c20b0 : decide (x7_3 < (IntKind.u64.wrap ((IntKind.u64.wrap (Go.bits .and .u16 ((rd_T48 l0 x5_1).f0) 255)) + (IntKind.u64.wrap (Go.bits .and .u16 ((rd_T48 l0 x5_1).f1) 63))))) = true := decide_eq_true c20
                clear c20
                obtain ⟨y177, hy177⟩ : ∃ y_ : List Int, y_ = (mapAdd x4_3 x7_3) := ⟨_, rfl⟩
                replace H : (graverlaw02_SpanUnions.l1 k3 l0 y174 y177 x5_1 (IntKind.u64.wrap (x7_3 + 1)) (IntKind.u64.wrap (Go.bits .and .u16 ((rd_T48 l0 x5_1).f0) 255)) (IntKind.u64.wrap (Go.bits .and .u16 ((rd_T48 l0 x5_1).f1) 63))) = some r := by first | (rw [hy177]; with_reducible exact H) | (have H2_ := (Option.bind_some _ _).symm.trans H; rw [hy177]; with_reducible exact H2_) | (have H2_ := (Option.bind_some _ _).symm.trans H; with_reducible exact H2_) | with_reducible exact H | (rw [hy177]; exact H) | exact H
                have Ny177 := aS hy177
                clear hy177
                have H' := aS H
                clear H
                have hcz21_0 : wr.cell? ⟨gb173, 0, none⟩ = some (.int .u64 (IntKind.u64.wrap (Go.bits .and .u16 ((rd_T48 l0 x5_1).f0) 255))) := (blk_cell BK173.out 0).trans rfl
                have hcz21_1 : wr.cell? ⟨gb173, 1, none⟩ = some (.int .u64 (IntKind.u64.wrap (Go.bits .and .u16 ((rd_T48 l0 x5_1).f1) 63))) := (blk_cell BK173.out 1).trans rfl
                have hfz21_0 := blk_frozen BK173.out 0
                have hfz21_1 := blk_frozen BK173.out 1
                go_wp2_with (first|((with_reducible refine gate_mapUp (t := 46) rfl ?_); refine Kd.Mp_up rfl rfl rfl Try.underlying46 (by kernel_rfl) rfl (by (with_reducible repeat (first|apply Kd.Mp_alloc|apply Kd.Mp_drewN|apply Kd.Mp_drew)); exact HO_4.out) (x7_3) rfl ?_; intro w22 bu_ hp0_ hu_ hb_; rw [← Ny177.out] at hp0_; have n0_ := aS (Kd.R_other (by (with_reducible repeat (first|apply Kd.R_alloc|apply Kd.R_drewN|apply Kd.R_drew)); exact HO_3.out) hu_); have n1_ := aS (hp0_); have n2_ := aS (blk_up (g := gb173) (o := .cells #[.int .u64 (IntKind.u64.wrap (Go.bits .and .u16 ((rd_T48 l0 x5_1).f0) 255)), .int .u64 (IntKind.u64.wrap (Go.bits .and .u16 ((rd_T48 l0 x5_1).f1) 63))] 29 (0, 0)) (by (with_reducible repeat (first|apply bN|apply bD|apply bA)); exact BK173.out) hu_ (by intro _ _ h_; cases h_)); have n3_ := aS (Below_up (HB.out) hu_ hb_); clear HO_3; clear HO_4; clear BK173; clear HB; have HO_3 := n0_; have HO_4 := n1_; have BK173 := n2_; have HB := n3_; clear n0_ n1_ n2_ n3_; clear hu_ hb_ hp0_))
                go_roundg k3
                case measure => have := HK1.out; have := HJ6.out; have := HK3.out; omega
                case rel => exact ⟨(y177), (IntKind.u64.wrap (x7_3 + 1)), (by first|rfl|(simp; done)|(simp [*]; done)), H', ⟨by have := HK1.out; have := HJ6.out; have := HK3.out; omega⟩, ⟨by (with_reducible repeat (first|apply Kd.R_alloc|apply Kd.R_drewN|apply Kd.R_drew)); exact HO_3.out⟩, ⟨by (with_reducible repeat (first|apply Kd.Mp_alloc|apply Kd.Mp_drewN|apply Kd.Mp_drew)); exact HO_4.out⟩, ⟨by (with_reducible repeat (first|apply bN|apply bD|apply bA)); exact BK173.out⟩, ⟨by repeat (first|(with_reducible first|exact HB.out|apply eA|apply eN|apply eD|refine below_set ?_ GE173.out)|exact HB.out)⟩⟩
               ·
                rw [if_neg c20] at H
                have c20b0 : decide (x7_3 < (IntKind.u64.wrap ((IntKind.u64.wrap (Go.bits .and .u16 ((rd_T48 l0 x5_1).f0) 255)) + (IntKind.u64.wrap (Go.bits .and .u16 ((rd_T48 l0 x5_1).f1) 63))))) = false := decide_eq_false c20
                clear c20
                have H' := aS H
                clear H
                have hcz23_0 : wr.cell? ⟨gb173, 0, none⟩ = some (.int .u64 (IntKind.u64.wrap (Go.bits .and .u16 ((rd_T48 l0 x5_1).f0) 255))) := (blk_cell BK173.out 0).trans rfl
                have hcz23_1 : wr.cell? ⟨gb173, 1, none⟩ = some (.int .u64 (IntKind.u64.wrap (Go.bits .and .u16 ((rd_T48 l0 x5_1).f1) 63))) := (blk_cell BK173.out 1).trans rfl
                have hfz23_0 := blk_frozen BK173.out 0
                have hfz23_1 := blk_frozen BK173.out 1
                go_wp2
                go_roundg k3
                case measure => have := HK1.out; have := HJ6.out; have := HK3.out; omega
                case rel => exact ⟨(y174), (x4_3), (wrap64 (x5_1 + 1)), (by first|rfl|(simp; done)|(simp [*]; done)), H', ⟨by have := HK1.out; have := HJ6.out; have := HK3.out; omega⟩, ⟨by (with_reducible repeat (first|apply Kd.R_alloc|apply Kd.R_drewN|apply Kd.R_drew)); exact Kd.R_mono HO_3.out (fun _ hk => trivial)⟩, ⟨by (with_reducible repeat (first|apply Kd.Mp_alloc|apply Kd.Mp_drewN|apply Kd.Mp_drew)); exact HO_4.out⟩, ⟨by repeat (first|(with_reducible first|exact HB.out|apply eA|apply eN|apply eD|refine below_set ?_ GE173.out)|exact HB.out)⟩⟩
           ·
            rw [if_neg c12] at H
            exact absurd H (by simp)
          ·
           rw [if_neg c11] at H
           exact absurd H (by simp)
         ·
          rw [if_neg c10] at H
          exact absurd H (by simp)
        ·
         replace c9 := Bool.eq_false_iff.mpr c9
         subst c9
         have H1 : ((span_Union.f kj6 x3_1).bind fun t178 => (graverlaw02_SpanUnions.l2 kj6 x3_1 x4_1 t178 0 0)) = some r := by rw [if_neg (show ¬ (false = true) by decide)] at H; exact H
         clear H
         have H := H1
         clear H1
         replace H := Option.bind_eq_some_iff.mp H
         obtain ⟨t178, A240, H⟩ := H
         replace H : (graverlaw02_SpanUnions.l2 kj6 x3_1 x4_1 t178 0 0) = some r := H
         have A24 := aS A240
         clear A240
         have H' := aS H
         clear H
         obtain ⟨Ao25, co25, eo25⟩ := Kd.R_slice HO_3.out
         subst eo25
         go_wp2_with (first|((with_reducible refine gate_callee (f := 19) rfl ?_); refine goesL_ (some 64) rfl rfl Try.func19 (by kernel_rfl) rfl #[.slice Ao25 x3_1.length co25] rfl (by (try simp only [List.map_toArray, List.map_cons, List.map_nil]); first|done|rfl|(simp only [List.length_drop, List.length_take]; rfl)) ?_; (with_reducible refine (span_Union.calls kj6 _ _ x3_1 t178 _ ?side1 ?side2 A24.out).mono ?_); (case side1 => repeat (first|exact (Kd.R_reads' HO_3.out).2.2|(with_reducible refine Kd.C_alloc ?_ _)|(with_reducible refine Kd.C_drewN ?_ _)|(with_reducible refine Kd.C_drew ?_))); (case side2 => exact (Kd.R_reads' HO_3.out).2.1); rintro e w26 ⟨v179, rfl, ho0, hb⟩; refine ⟨_, rfl, ?_⟩; have n0_ := aS (Kd.R_elder' (by (with_reducible repeat (first|apply Kd.R_alloc|apply Kd.R_drewN|apply Kd.R_drew)); exact HO_3.out) (Kd.R_base ho0) hb); have n1_ := aS (Kd.Mp_below (by (with_reducible repeat (first|apply Kd.Mp_alloc|apply Kd.Mp_drewN|apply Kd.Mp_drew)); exact HO_4.out) hb); have n2_ := aS (Kd.R_lower (Kd.R_new' ho0 (Kd.R_lt (by (with_reducible repeat (first|apply Kd.R_alloc|apply Kd.R_drewN|apply Kd.R_drew)); exact HO_3.out))) (below_size (by repeat (first|(with_reducible first|exact HB.out|apply below_alloc|apply pw_below_drewN|apply below_drew1)|exact HB.out)))); have n3_ := aS (below_step (by repeat (first|(with_reducible first|exact HB.out|apply below_alloc|apply pw_below_drewN|apply below_drew1)|exact HB.out)) hb); clear HO_3; clear HO_4; clear HB; have HO_3 := n0_; have HO_4 := n1_; have HO180 := n2_; have HB := n3_; clear n0_ n1_ n2_ n3_; (try clear hb); (try clear hb2); (try clear hk); (try clear hi); (try clear ho0)))
         go_loopg [9, 10] kj6 (fun kq v9 v10 w' => ∃ (x9_3 : Int) (x10_3 : Int), v9 = .int .i64 x9_3 ∧ v10 = .int .i64 x10_3 ∧ Aside0 (graverlaw02_SpanUnions.l2 kq x3_1 x4_1 t178 x9_3 x10_3 = some r) ∧ Aside0 (kq ≤ kj6) ∧ Aside0 (Kd.R k29 29 w' w.heap.size (fun k_ => some k_ ≠ (v179 : Value).ownBlock) (.slice Ao25 x3_1.length co25) x3_1) ∧ Aside0 (Kd.Mp (Kd.int .u64) 46 w' w.heap.size (fun _ => True) v169 x4_1) ∧ Aside0 (Kd.R k29 29 w' w.heap.size (fun k_ => some k_ ≠ ((.slice Ao25 x3_1.length co25) : Value).ownBlock) v179 t178) ∧ Aside0 (Below w.heap.size w w'))
         case atStart => exact ⟨(0), (0), (by first|rfl|(simp; done)|(simp [*]; done)), (by first|rfl|(simp; done)|(simp [*]; done)), H', ⟨Nat.le_refl _⟩, ⟨by (with_reducible repeat (first|apply Kd.R_alloc|apply Kd.R_drewN|apply Kd.R_drew)); exact Kd.R_mono HO_3.out (fun _ hk => hk.2)⟩, ⟨by (with_reducible repeat (first|apply Kd.Mp_alloc|apply Kd.Mp_drewN|apply Kd.Mp_drew)); exact HO_4.out⟩, ⟨by (with_reducible repeat (first|apply Kd.R_alloc|apply Kd.R_drewN|apply Kd.R_drew)); exact Kd.R_mono HO180.out (fun _ hk => hk.2)⟩, ⟨by repeat (first|(with_reducible first|exact HB.out|apply below_alloc|apply pw_below_drewN|apply below_drew1)|exact HB.out)⟩⟩
         case round =>
          clear H'
          try clear c1
          try clear p1
          try clear q1
          try clear hx1
          try clear c2
          try clear p2
          try clear c3
          try clear c6
          try clear p6
          try clear c7
          try clear c8
          try clear c8b0
          try clear c9
          try clear c10
          try clear c10b0
          try clear c11
          try clear c11b0
          try clear c12
          try clear p17
          try clear q17
          try clear hx17
          try clear c19
          try clear c20
          try clear c20b0
          try clear hcz17_0
          try clear hcz17_1
          try clear hcz19_0
          try clear hcz19_1
          try clear hcz21_0
          try clear hcz21_1
          try clear hcz23_0
          try clear hcz23_1
          try clear hfz17_0
          try clear hfz17_1
          try clear hfz19_0
          try clear hfz19_1
          try clear hfz21_0
          try clear hfz21_1
          try clear hfz23_0
          try clear hfz23_1
          try clear hx171_0
          try clear hx171_1
          try clear hx172_0
          try clear hx172_1
          try clear p1
          try clear p17
          try clear p171
          try clear p172
          try clear p2
          try clear q1
          try clear q17
          try clear q171
          try clear q172
          obtain ⟨x9_3, x10_3, rfl, rfl, HA, HK3, HO_3, HO_4, HO_8, HB⟩ := hrel
          cases gk with
          | zero => exact absurd HA.out (by simp [graverlaw02_SpanUnions.l2])
          | succ k3 =>
           as_aux_lemma =>
            have H := HA.out
            clear HA
            simp only [graverlaw02_SpanUnions.l2] at H
            by_cases c27 : x10_3 < (t178.length : Int)
            ·
             rw [if_pos c27] at H
             have c27b0 : decide (x10_3 < (t178.length : Int)) = true := decide_eq_true c27
             clear c27
             have HC28 := aS H
             clear H
             obtain ⟨Ao29, co29, eo29⟩ := Kd.R_slice HO_8.out
             subst eo29
             go_upto_region 19 with (fail)
             go_cut [101] (fun v101 wc => ∃ (kq : Nat) (x101_27 : Bool), v101 = .bool x101_27 ∧ Aside0 (graverlaw02_SpanUnions.j4 kq x3_1 x4_1 t178 x9_3 x10_3 x101_27 = some r) ∧ Aside0 (kq ≤ k3) ∧ Aside0 (Kd.R k29 29 wc w.heap.size (fun k_ => some k_ ≠ ((.slice Ao29 t178.length co29) : Value).ownBlock) (.slice Ao25 x3_1.length co25) x3_1) ∧ Aside0 (Kd.Mp (Kd.int .u64) 46 wc w.heap.size (fun _ => True) v169 x4_1) ∧ Aside0 (Kd.R k29 29 wc w.heap.size (fun k_ => some k_ ≠ ((.slice Ao25 x3_1.length co25) : Value).ownBlock) (.slice Ao29 t178.length co29) t178) ∧ Aside0 (Below w.heap.size w wc))
             case first =>
              have H := HC28.out
              clear HC28
              by_cases c30 : 0 ≤ x10_3
              ·
               rw [if_pos c30] at H
               have c30b0 : decide (0 ≤ x10_3) = true := decide_eq_true c30
               clear c30
               (first | rw [c30b0] | (simp only [i64_w, i32_w]; rw [c30b0]) | skip)
               by_cases c31 : ((rd_T29 t178 x10_3).f1) = 0
               ·
                rw [if_pos c31] at H
                have c31b0 : (((rd_T29 t178 x10_3).f1) == 0) = true := beq_iff_eq.mpr c31
                have c31b1 : (((rd_T29 t178 x10_3).f1) != 0) = false := bne_eq_false_iff_eq.mpr c31
                clear c31
                have H' := aS H
                clear H
                try go_wp2
                have n0_ := aS (Kd.R_drew HO_3.out)
                have n1_ := aS (Kd.Mp_drew HO_4.out)
                have n2_ := aS (Kd.R_drew HO_8.out)
                have n3_ := aS (below_drew1 HB.out)
                clear HO_3
                clear HO_4
                clear HO_8
                clear HB
                have HO_3 := n0_
                have HO_4 := n1_
                have HO_8 := n2_
                have HB := n3_
                clear n0_ n1_ n2_ n3_
                have p181 : 0 ≤ (x10_3 : Int) := of_decide_eq_true (by first | (with_reducible assumption) | assumption)
                have q181 : x10_3 < (t178.length : Int) := of_decide_eq_true (by first | (with_reducible assumption) | assumption)
                obtain ⟨ad181, e181, hx181_0, hx181_1⟩ := at_T29 (Kd.R_reads' HO_8.out).2.2 x10_3 p181 q181
                cases e181
                replace p181 := eq_true p181
                replace q181 := eq_true q181
                refine start_ (n := 31) (S := fun w' => w'.cell? (ad181.add ((x10_3).toNat * 2)) = some (.int .u64 ((rd_T29 t178 x10_3).f0)) ∧ w'.cell? ⟨(ad181.add ((x10_3).toNat * 2)).block, (ad181.add ((x10_3).toNat * 2)).off + 1, none⟩ = some (.int .u64 ((rd_T29 t178 x10_3).f1))) (ds := []) #[false, false, false, false, false, false, false, false, false, false, false, false, false, false, false, false, false, false, false, false, false, false, false, false, false, false, false, false, false, false, false] (by kernel_rfl) rfl rfl ⟨hx181_0, hx181_1⟩ (fun hH => ?_); refine with_tabW graverlaw02_SpanUnions.tab19 graverlaw02_SpanUnions.bits19 (fun HT_ HW_ => ?_)
                generalize wr.drew = w32 at HO_3 HO_4 HO_8 HB hx181_0 hx181_1 hH ⊢
                refine pure_ (i := 0) (N := some 71) (v := ?_) (a' := ?_) (bm 31 1) rfl rfl (any_of HT_.out (by kernel_rfl)) (fun _ _ _ h => h) (Or.inl ⟨by rfl, ?_⟩) ?_ ?_
                rotate_left
                ·
                 intro w'
                 go_simp
                 with_reducible rfl
                rotate_left
                ·
                 simp only [Act.put, aput]
                 rfl
                refine pure_ (i := 1) (N := some 72) (v := ?_) (a' := ?_) (bm 31 3) rfl rfl (any_of HT_.out (by kernel_rfl)) (fun _ _ _ h => h) (Or.inl ⟨by rfl, ?_⟩) ?_ ?_
                rotate_left
                ·
                 intro w'
                 go_simp
                 with_reducible rfl
                rotate_left
                ·
                 simp only [Act.put, aput]
                 rfl
                refine pure_ (i := 2) (N := some 73) (v := ?_) (a' := ?_) (bm 31 7) rfl rfl (any_of HT_.out (by kernel_rfl)) (fun _ _ _ h => h) (Or.inl ⟨by rfl, ?_⟩) ?_ ?_
                rotate_left
                ·
                 intro w'
                 go_simp
                 with_reducible rfl
                rotate_left
                ·
                 simp only [Act.put, aput]
                 rfl
                refine pure_ (i := 3) (N := some 74) (v := ?_) (a' := ?_) (bm 31 15) rfl rfl (any_of HT_.out (by kernel_rfl)) (fun _ _ _ h => h) (Or.inl ⟨by rfl, ?_⟩) ?_ ?_
                rotate_left
                ·
                 intro w'
                 go_simp
                 with_reducible rfl
                rotate_left
                ·
                 simp only [Act.put, aput]
                 rfl
                refine take_ (i := 4) (N := some 75) (v := ?_) (a' := ?_) (bm 31 31) rfl rfl (take_ofW HT_.out HW_.out (by kernel_rfl)) (fun _ _ _ h => h) (Or.inl ⟨by rfl, ?_⟩) hH ?_ ?_
                rotate_left
                ·
                 intro w' s0
                 go_simp
                 with_reducible rfl
                rotate_left
                ·
                 simp only [Act.put, aput]
                 rfl
                refine pure_ (i := 5) (N := some 76) (v := ?_) (a' := ?_) (bm 31 63) rfl rfl (any_of HT_.out (by kernel_rfl)) (fun _ _ _ h => h) (Or.inl ⟨by rfl, ?_⟩) ?_ ?_
                rotate_left
                ·
                 intro w'
                 go_simp
                 with_reducible rfl
                rotate_left
                ·
                 simp only [Act.put, aput]
                 rfl
                refine pure_ (i := 6) (N := some 77) (v := ?_) (a' := ?_) (bm 31 127) rfl rfl (any_of HT_.out (by kernel_rfl)) (fun _ _ _ h => h) (Or.inl ⟨by rfl, ?_⟩) ?_ ?_
                rotate_left
                ·
                 intro w'
                 go_simp
                 with_reducible rfl
                rotate_left
                ·
                 simp only [Act.put, aput]
                 rfl
                refine pure_ (i := 7) (N := some 78) (v := undef) (a' := ?_) (bm 31 255) rfl rfl (any_of HT_.out (by kernel_rfl)) (fun _ _ _ h => h) (Or.inr ⟨by rfl, rfl⟩) ?_ ?_
                rotate_left
                ·
                 simp only [Act.put, aput]
                 rfl
                refine pure_ (i := 8) (N := some 79) (v := undef) (a' := ?_) (bm 31 511) rfl rfl (any_of HT_.out (by kernel_rfl)) (fun _ _ _ h => h) (Or.inr ⟨by rfl, rfl⟩) ?_ ?_
                rotate_left
                ·
                 simp only [Act.put, aput]
                 rfl
                refine pure_ (i := 9) (N := some 80) (v := undef) (a' := ?_) (bm 31 1023) rfl rfl (any_of HT_.out (by kernel_rfl)) (fun _ _ _ h => h) (Or.inr ⟨by rfl, rfl⟩) ?_ ?_
                rotate_left
                ·
                 simp only [Act.put, aput]
                 rfl
                refine pure_ (i := 10) (N := some 81) (v := undef) (a' := ?_) (bm 31 2047) rfl rfl (any_of HT_.out (by kernel_rfl)) (fun _ _ _ h => h) (Or.inr ⟨by rfl, rfl⟩) ?_ ?_
                rotate_left
                ·
                 simp only [Act.put, aput]
                 rfl
                refine pure_ (i := 11) (N := some 82) (v := undef) (a' := ?_) (bm 31 4095) rfl rfl (any_of HT_.out (by kernel_rfl)) (fun _ _ _ h => h) (Or.inr ⟨by rfl, rfl⟩) ?_ ?_
                rotate_left
                ·
                 simp only [Act.put, aput]
                 rfl
                refine pure_ (i := 12) (N := some 83) (v := undef) (a' := ?_) (bm 31 8191) rfl rfl (any_of HT_.out (by kernel_rfl)) (fun _ _ _ h => h) (Or.inr ⟨by rfl, rfl⟩) ?_ ?_
                rotate_left
                ·
                 simp only [Act.put, aput]
                 rfl
                refine pure_ (i := 13) (N := some 84) (v := undef) (a' := ?_) (bm 31 16383) rfl rfl (any_of HT_.out (by kernel_rfl)) (fun _ _ _ h => h) (Or.inr ⟨by rfl, rfl⟩) ?_ ?_
                rotate_left
                ·
                 simp only [Act.put, aput]
                 rfl
                refine pure_ (i := 14) (N := some 85) (v := undef) (a' := ?_) (bm 31 32767) rfl rfl (any_of HT_.out (by kernel_rfl)) (fun _ _ _ h => h) (Or.inr ⟨by rfl, rfl⟩) ?_ ?_
                rotate_left
                ·
                 simp only [Act.put, aput]
                 rfl
                refine pure_ (i := 15) (N := some 86) (v := undef) (a' := ?_) (bm 31 65535) rfl rfl (any_of HT_.out (by kernel_rfl)) (fun _ _ _ h => h) (Or.inr ⟨by rfl, rfl⟩) ?_ ?_
                rotate_left
                ·
                 simp only [Act.put, aput]
                 rfl
                refine pure_ (i := 16) (N := some 87) (v := undef) (a' := ?_) (bm 31 131071) rfl rfl (any_of HT_.out (by kernel_rfl)) (fun _ _ _ h => h) (Or.inr ⟨by rfl, rfl⟩) ?_ ?_
                rotate_left
                ·
                 simp only [Act.put, aput]
                 rfl
                refine pure_ (i := 17) (N := some 88) (v := undef) (a' := ?_) (bm 31 262143) rfl rfl (any_of HT_.out (by kernel_rfl)) (fun _ _ _ h => h) (Or.inr ⟨by rfl, rfl⟩) ?_ ?_
                rotate_left
                ·
                 simp only [Act.put, aput]
                 rfl
                refine pure_ (i := 18) (N := some 89) (v := undef) (a' := ?_) (bm 31 524287) rfl rfl (any_of HT_.out (by kernel_rfl)) (fun _ _ _ h => h) (Or.inr ⟨by rfl, rfl⟩) ?_ ?_
                rotate_left
                ·
                 simp only [Act.put, aput]
                 rfl
                refine pure_ (i := 19) (N := some 90) (v := undef) (a' := ?_) (bm 31 1048575) rfl rfl (any_of HT_.out (by kernel_rfl)) (fun _ _ _ h => h) (Or.inr ⟨by rfl, rfl⟩) ?_ ?_
                rotate_left
                ·
                 simp only [Act.put, aput]
                 rfl
                refine pure_ (i := 20) (N := some 91) (v := undef) (a' := ?_) (bm 31 2097151) rfl rfl (any_of HT_.out (by kernel_rfl)) (fun _ _ _ h => h) (Or.inr ⟨by rfl, rfl⟩) ?_ ?_
                rotate_left
                ·
                 simp only [Act.put, aput]
                 rfl
                refine pure_ (i := 21) (N := some 92) (v := undef) (a' := ?_) (bm 31 4194303) rfl rfl (any_of HT_.out (by kernel_rfl)) (fun _ _ _ h => h) (Or.inr ⟨by rfl, rfl⟩) ?_ ?_
                rotate_left
                ·
                 simp only [Act.put, aput]
                 rfl
                refine pure_ (i := 22) (N := some 93) (v := undef) (a' := ?_) (bm 31 8388607) rfl rfl (any_of HT_.out (by kernel_rfl)) (fun _ _ _ h => h) (Or.inr ⟨by rfl, rfl⟩) ?_ ?_
                rotate_left
                ·
                 simp only [Act.put, aput]
                 rfl
                refine pure_ (i := 23) (N := some 94) (v := undef) (a' := ?_) (bm 31 16777215) rfl rfl (any_of HT_.out (by kernel_rfl)) (fun _ _ _ h => h) (Or.inr ⟨by rfl, rfl⟩) ?_ ?_
                rotate_left
                ·
                 simp only [Act.put, aput]
                 rfl
                refine pure_ (i := 24) (N := some 95) (v := undef) (a' := ?_) (bm 31 33554431) rfl rfl (any_of HT_.out (by kernel_rfl)) (fun _ _ _ h => h) (Or.inr ⟨by rfl, rfl⟩) ?_ ?_
                rotate_left
                ·
                 simp only [Act.put, aput]
                 rfl
                refine pure_ (i := 25) (N := some 96) (v := undef) (a' := ?_) (bm 31 67108863) rfl rfl (any_of HT_.out (by kernel_rfl)) (fun _ _ _ h => h) (Or.inr ⟨by rfl, rfl⟩) ?_ ?_
                rotate_left
                ·
                 simp only [Act.put, aput]
                 rfl
                refine pure_ (i := 26) (N := some 97) (v := undef) (a' := ?_) (bm 31 134217727) rfl rfl (any_of HT_.out (by kernel_rfl)) (fun _ _ _ h => h) (Or.inr ⟨by rfl, rfl⟩) ?_ ?_
                rotate_left
                ·
                 simp only [Act.put, aput]
                 rfl
                refine pure_ (i := 27) (N := some 98) (v := undef) (a' := ?_) (bm 31 268435455) rfl rfl (any_of HT_.out (by kernel_rfl)) (fun _ _ _ h => h) (Or.inr ⟨by rfl, rfl⟩) ?_ ?_
                rotate_left
                ·
                 simp only [Act.put, aput]
                 rfl
                refine pure_ (i := 28) (N := some 99) (v := undef) (a' := ?_) (bm 31 536870911) rfl rfl (any_of HT_.out (by kernel_rfl)) (fun _ _ _ h => h) (Or.inr ⟨by rfl, rfl⟩) ?_ ?_
                rotate_left
                ·
                 simp only [Act.put, aput]
                 rfl
                refine pure_ (i := 29) (N := some 100) (v := undef) (a' := ?_) (bm 31 1073741823) rfl rfl (any_of HT_.out (by kernel_rfl)) (fun _ _ _ h => h) (Or.inr ⟨by rfl, rfl⟩) ?_ ?_
                rotate_left
                ·
                 simp only [Act.put, aput]
                 rfl
                refine pure_ (i := 30) (N := some 101) (v := ?_) (a' := ?_) (bm 31 2147483647) rfl rfl (any_of HT_.out (by kernel_rfl)) (fun _ _ _ h => h) (Or.inl ⟨by rfl, ?_⟩) ?_ ?_
                rotate_left
                ·
                 intro w'
                 go_simp
                 with_reducible rfl
                rotate_left
                ·
                 simp only [Act.put, aput]
                 rfl
                refine done_ (done_of HT_.out (by kernel_rfl)) ?_
                try go_wp2
                go_meet
                case rel => exact ⟨_, (true), (by first|rfl|(simp; done)|(simp [*]; done)), H', ⟨by have := HK1.out; have := HJ6.out; have := HK3.out; first|omega|exact Nat.le_refl _⟩, ⟨by (with_reducible repeat (first|apply Kd.R_alloc|apply Kd.R_drewN|apply Kd.R_drew)); exact HO_3.out⟩, ⟨by (with_reducible repeat (first|apply Kd.Mp_alloc|apply Kd.Mp_drewN|apply Kd.Mp_drew)); exact HO_4.out⟩, ⟨by (with_reducible repeat (first|apply Kd.R_alloc|apply Kd.R_drewN|apply Kd.R_drew)); exact HO_8.out⟩, ⟨by repeat (first|(with_reducible first|exact HB.out|apply below_alloc|apply pw_below_drewN|apply below_drew1)|exact HB.out)⟩⟩
               ·
                rw [if_neg c31] at H
                have c31b0 : (((rd_T29 t178 x10_3).f1) == 0) = false := beq_eq_false_iff_ne.mpr c31
                have c31b1 : (((rd_T29 t178 x10_3).f1) != 0) = true := bne_iff_ne.mpr c31
                by_cases c33 : x10_3 > 0
                ·
                 rw [if_pos c33] at H
                 have c33b0 : decide (0 < x10_3) = true := decide_eq_true c33
                 clear c33
                 obtain ⟨ji34, hji34⟩ : ∃ j_ : Int, (wrap64 (x10_3 - 1)) = j_ := ⟨_, rfl⟩
                 replace H : (if 0 ≤ (ji34) then (if (ji34) < (t178.length : Int) then (graverlaw02_SpanUnions.j4 k3 x3_1 x4_1 t178 x9_3 x10_3 (decide (((rd_T29 t178 x10_3).f0) ≤ (IntKind.u64.wrap (((rd_T29 t178 (ji34)).f0) + ((rd_T29 t178 (ji34)).f1)))))) else (none)) else (none)) = some r := by first | (rw [hji34] at H; exact H) | (simp only [hji34] at H ⊢; exact H)
                 have hji34w : (IntKind.i64.wrap (x10_3 - 1)) = ji34 := (i64_w _).trans hji34
                 by_cases c35 : 0 ≤ (ji34)
                 ·
                  rw [if_pos c35] at H
                  have c35b0 : decide (0 ≤ (ji34)) = true := decide_eq_true c35
                  clear c35
                  by_cases c36 : (ji34) < (t178.length : Int)
                  ·
                   rw [if_pos c36] at H
                   have c36b0 : decide ((ji34) < (t178.length : Int)) = true := decide_eq_true c36
                   clear c36
                   have H' := aS H
                   clear H
                   try go_wp2
                   have n0_ := aS (Kd.R_drew HO_3.out)
                   have n1_ := aS (Kd.Mp_drew HO_4.out)
                   have n2_ := aS (Kd.R_drew HO_8.out)
                   have n3_ := aS (below_drew1 HB.out)
                   clear HO_3
                   clear HO_4
                   clear HO_8
                   clear HB
                   have HO_3 := n0_
                   have HO_4 := n1_
                   have HO_8 := n2_
                   have HB := n3_
                   clear n0_ n1_ n2_ n3_
                   have p181 : 0 ≤ (x10_3 : Int) := of_decide_eq_true (by first | (with_reducible assumption) | assumption)
                   have q181 : x10_3 < (t178.length : Int) := of_decide_eq_true (by first | (with_reducible assumption) | assumption)
                   obtain ⟨ad181, e181, hx181_0, hx181_1⟩ := at_T29 (Kd.R_reads' HO_8.out).2.2 x10_3 p181 q181
                   cases e181
                   replace p181 := eq_true p181
                   replace q181 := eq_true q181
                   have p182 : 0 ≤ (x10_3 : Int) := of_decide_eq_true (by first | (with_reducible assumption) | assumption)
                   have q182 : x10_3 < (t178.length : Int) := of_decide_eq_true (by first | (with_reducible assumption) | assumption)
                   obtain ⟨ad182, e182, hx182_0, hx182_1⟩ := at_T29 (Kd.R_reads' HO_8.out).2.2 x10_3 p182 q182
                   obtain rfl : ad181 = ad182 := (by injection e182)
                   replace p182 := eq_true p182
                   replace q182 := eq_true q182
                   have p183 : 0 ≤ ((ji34) : Int) := of_decide_eq_true (by first | (with_reducible assumption) | assumption)
                   have q183 : (ji34) < (t178.length : Int) := of_decide_eq_true (by first | (with_reducible assumption) | assumption)
                   obtain ⟨ad183, e183, hx183_0, hx183_1⟩ := at_T29 (Kd.R_reads' HO_8.out).2.2 (ji34) p183 q183
                   obtain rfl : ad181 = ad183 := (by injection e183)
                   replace p183 := eq_true p183
                   replace q183 := eq_true q183
                   have p184 : 0 ≤ ((ji34) : Int) := of_decide_eq_true (by first | (with_reducible assumption) | assumption)
                   have q184 : (ji34) < (t178.length : Int) := of_decide_eq_true (by first | (with_reducible assumption) | assumption)
                   obtain ⟨ad184, e184, hx184_0, hx184_1⟩ := at_T29 (Kd.R_reads' HO_8.out).2.2 (ji34) p184 q184
                   obtain rfl : ad181 = ad184 := (by injection e184)
                   replace p184 := eq_true p184
                   replace q184 := eq_true q184
                   refine start_ (n := 31) (S := fun w' => w'.cell? (ad181.add ((x10_3).toNat * 2)) = some (.int .u64 ((rd_T29 t178 x10_3).f0)) ∧ w'.cell? ⟨(ad181.add ((x10_3).toNat * 2)).block, (ad181.add ((x10_3).toNat * 2)).off + 1, none⟩ = some (.int .u64 ((rd_T29 t178 x10_3).f1)) ∧ w'.cell? (ad181.add ((x10_3).toNat * 2)) = some (.int .u64 ((rd_T29 t178 x10_3).f0)) ∧ w'.cell? ⟨(ad181.add ((x10_3).toNat * 2)).block, (ad181.add ((x10_3).toNat * 2)).off + 1, none⟩ = some (.int .u64 ((rd_T29 t178 x10_3).f1)) ∧ w'.cell? (ad181.add (((ji34)).toNat * 2)) = some (.int .u64 ((rd_T29 t178 (ji34)).f0)) ∧ w'.cell? ⟨(ad181.add (((ji34)).toNat * 2)).block, (ad181.add (((ji34)).toNat * 2)).off + 1, none⟩ = some (.int .u64 ((rd_T29 t178 (ji34)).f1)) ∧ w'.cell? (ad181.add (((ji34)).toNat * 2)) = some (.int .u64 ((rd_T29 t178 (ji34)).f0)) ∧ w'.cell? ⟨(ad181.add (((ji34)).toNat * 2)).block, (ad181.add (((ji34)).toNat * 2)).off + 1, none⟩ = some (.int .u64 ((rd_T29 t178 (ji34)).f1))) (ds := []) #[false, false, false, false, false, false, false, false, false, false, false, false, false, false, false, false, false, false, false, false, false, false, false, false, false, false, false, false, false, false, false] (by kernel_rfl) rfl rfl ⟨hx181_0, hx181_1, hx182_0, hx182_1, hx183_0, hx183_1, hx184_0, hx184_1⟩ (fun hH => ?_); refine with_tabW graverlaw02_SpanUnions.tab19 graverlaw02_SpanUnions.bits19 (fun HT_ HW_ => ?_)
                   generalize wr.drew = w37 at HO_3 HO_4 HO_8 HB hx181_0 hx181_1 hx182_0 hx182_1 hx183_0 hx183_1 hx184_0 hx184_1 hH ⊢
                   refine pure_ (i := 0) (N := some 71) (v := ?_) (a' := ?_) (bm 31 1) rfl rfl (any_of HT_.out (by kernel_rfl)) (fun _ _ _ h => h) (Or.inl ⟨by rfl, ?_⟩) ?_ ?_
                   rotate_left
                   ·
                    intro w'
                    go_simp
                    with_reducible rfl
                   rotate_left
                   ·
                    simp only [Act.put, aput]
                    rfl
                   refine pure_ (i := 1) (N := some 72) (v := ?_) (a' := ?_) (bm 31 3) rfl rfl (any_of HT_.out (by kernel_rfl)) (fun _ _ _ h => h) (Or.inl ⟨by rfl, ?_⟩) ?_ ?_
                   rotate_left
                   ·
                    intro w'
                    go_simp
                    with_reducible rfl
                   rotate_left
                   ·
                    simp only [Act.put, aput]
                    rfl
                   refine pure_ (i := 2) (N := some 73) (v := ?_) (a' := ?_) (bm 31 7) rfl rfl (any_of HT_.out (by kernel_rfl)) (fun _ _ _ h => h) (Or.inl ⟨by rfl, ?_⟩) ?_ ?_
                   rotate_left
                   ·
                    intro w'
                    go_simp
                    with_reducible rfl
                   rotate_left
                   ·
                    simp only [Act.put, aput]
                    rfl
                   refine pure_ (i := 3) (N := some 74) (v := ?_) (a' := ?_) (bm 31 15) rfl rfl (any_of HT_.out (by kernel_rfl)) (fun _ _ _ h => h) (Or.inl ⟨by rfl, ?_⟩) ?_ ?_
                   rotate_left
                   ·
                    intro w'
                    go_simp
                    with_reducible rfl
                   rotate_left
                   ·
                    simp only [Act.put, aput]
                    rfl
                   refine take_ (i := 4) (N := some 75) (v := ?_) (a' := ?_) (bm 31 31) rfl rfl (take_ofW HT_.out HW_.out (by kernel_rfl)) (fun _ _ _ h => h) (Or.inl ⟨by rfl, ?_⟩) hH ?_ ?_
                   rotate_left
                   ·
                    intro w' s0
                    go_simp
                    with_reducible rfl
                   rotate_left
                   ·
                    simp only [Act.put, aput]
                    rfl
                   refine pure_ (i := 5) (N := some 76) (v := ?_) (a' := ?_) (bm 31 63) rfl rfl (any_of HT_.out (by kernel_rfl)) (fun _ _ _ h => h) (Or.inl ⟨by rfl, ?_⟩) ?_ ?_
                   rotate_left
                   ·
                    intro w'
                    go_simp
                    with_reducible rfl
                   rotate_left
                   ·
                    simp only [Act.put, aput]
                    rfl
                   refine pure_ (i := 6) (N := some 77) (v := ?_) (a' := ?_) (bm 31 127) rfl rfl (any_of HT_.out (by kernel_rfl)) (fun _ _ _ h => h) (Or.inl ⟨by rfl, ?_⟩) ?_ ?_
                   rotate_left
                   ·
                    intro w'
                    go_simp
                    with_reducible rfl
                   rotate_left
                   ·
                    simp only [Act.put, aput]
                    rfl
                   refine pure_ (i := 7) (N := some 78) (v := ?_) (a' := ?_) (bm 31 255) rfl rfl (any_of HT_.out (by kernel_rfl)) (fun _ _ _ h => h) (Or.inl ⟨by rfl, ?_⟩) ?_ ?_
                   rotate_left
                   ·
                    intro w'
                    go_simp
                    with_reducible rfl
                   rotate_left
                   ·
                    simp only [Act.put, aput]
                    rfl
                   refine pure_ (i := 8) (N := some 79) (v := ?_) (a' := ?_) (bm 31 511) rfl rfl (any_of HT_.out (by kernel_rfl)) (fun _ _ _ h => h) (Or.inl ⟨by rfl, ?_⟩) ?_ ?_
                   rotate_left
                   ·
                    intro w'
                    go_simp
                    with_reducible rfl
                   rotate_left
                   ·
                    simp only [Act.put, aput]
                    rfl
                   refine pure_ (i := 9) (N := some 80) (v := ?_) (a' := ?_) (bm 31 1023) rfl rfl (any_of HT_.out (by kernel_rfl)) (fun _ _ _ h => h) (Or.inl ⟨by rfl, ?_⟩) ?_ ?_
                   rotate_left
                   ·
                    intro w'
                    go_simp
                    with_reducible rfl
                   rotate_left
                   ·
                    simp only [Act.put, aput]
                    rfl
                   refine pure_ (i := 10) (N := some 81) (v := ?_) (a' := ?_) (bm 31 2047) rfl rfl (any_of HT_.out (by kernel_rfl)) (fun _ _ _ h => h) (Or.inl ⟨by rfl, ?_⟩) ?_ ?_
                   rotate_left
                   ·
                    intro w'
                    go_simp
                    with_reducible rfl
                   rotate_left
                   ·
                    simp only [Act.put, aput]
                    rfl
                   refine pure_ (i := 11) (N := some 82) (v := ?_) (a' := ?_) (bm 31 4095) rfl rfl (any_of HT_.out (by kernel_rfl)) (fun _ _ _ h => h) (Or.inl ⟨by rfl, ?_⟩) ?_ ?_
                   rotate_left
                   ·
                    intro w'
                    go_simp
                    with_reducible rfl
                   rotate_left
                   ·
                    simp only [Act.put, aput]
                    rfl
                   refine pure_ (i := 12) (N := some 83) (v := ?_) (a' := ?_) (bm 31 8191) rfl rfl (any_of HT_.out (by kernel_rfl)) (fun _ _ _ h => h) (Or.inl ⟨by rfl, ?_⟩) ?_ ?_
                   rotate_left
                   ·
                    intro w'
                    go_simp
                    with_reducible rfl
                   rotate_left
                   ·
                    simp only [Act.put, aput]
                    rfl
                   refine pure_ (i := 13) (N := some 84) (v := ?_) (a' := ?_) (bm 31 16383) rfl rfl (any_of HT_.out (by kernel_rfl)) (fun _ _ _ h => h) (Or.inl ⟨by rfl, ?_⟩) ?_ ?_
                   rotate_left
                   ·
                    intro w'
                    go_simp
                    with_reducible rfl
                   rotate_left
                   ·
                    simp only [Act.put, aput]
                    rfl
                   refine pure_ (i := 15) (N := some 86) (v := ?_) (a' := ?_) (bm 31 49151) rfl rfl (any_of HT_.out (by kernel_rfl)) (fun _ _ _ h => h) (Or.inl ⟨by rfl, ?_⟩) ?_ ?_
                   rotate_left
                   ·
                    intro w'
                    go_simp
                    with_reducible rfl
                   rotate_left
                   ·
                    simp only [Act.put, aput]
                    rfl
                   refine pure_ (i := 16) (N := some 87) (v := ?_) (a' := ?_) (bm 31 114687) rfl rfl (any_of HT_.out (by kernel_rfl)) (fun _ _ _ h => h) (Or.inl ⟨by rfl, ?_⟩) ?_ ?_
                   rotate_left
                   ·
                    intro w'
                    go_simp
                    with_reducible rfl
                   rotate_left
                   ·
                    simp only [Act.put, aput]
                    rfl
                   refine pure_ (i := 17) (N := some 88) (v := ?_) (a' := ?_) (bm 31 245759) rfl rfl (any_of HT_.out (by kernel_rfl)) (fun _ _ _ h => h) (Or.inl ⟨by rfl, ?_⟩) ?_ ?_
                   rotate_left
                   ·
                    intro w'
                    go_simp
                    with_reducible rfl
                   rotate_left
                   ·
                    simp only [Act.put, aput]
                    rfl
                   refine pure_ (i := 18) (N := some 89) (v := ?_) (a' := ?_) (bm 31 507903) rfl rfl (any_of HT_.out (by kernel_rfl)) (fun _ _ _ h => h) (Or.inl ⟨by rfl, ?_⟩) ?_ ?_
                   rotate_left
                   ·
                    intro w'
                    go_simp
                    with_reducible rfl
                   rotate_left
                   ·
                    simp only [Act.put, aput]
                    rfl
                   refine pure_ (i := 19) (N := some 90) (v := ?_) (a' := ?_) (bm 31 1032191) rfl rfl (any_of HT_.out (by kernel_rfl)) (fun _ _ _ h => h) (Or.inl ⟨by rfl, ?_⟩) ?_ ?_
                   rotate_left
                   ·
                    intro w'
                    go_simp
                    with_reducible rfl
                   rotate_left
                   ·
                    simp only [Act.put, aput]
                    rfl
                   refine pure_ (i := 21) (N := some 92) (v := ?_) (a' := ?_) (bm 31 3129343) rfl rfl (any_of HT_.out (by kernel_rfl)) (fun _ _ _ h => h) (Or.inl ⟨by rfl, ?_⟩) ?_ ?_
                   rotate_left
                   ·
                    intro w'
                    go_simp
                    with_reducible rfl
                   rotate_left
                   ·
                    simp only [Act.put, aput]
                    rfl
                   refine pure_ (i := 22) (N := some 93) (v := ?_) (a' := ?_) (bm 31 7323647) rfl rfl (any_of HT_.out (by kernel_rfl)) (fun _ _ _ h => h) (Or.inl ⟨by rfl, ?_⟩) ?_ ?_
                   rotate_left
                   ·
                    intro w'
                    go_simp
                    with_reducible rfl
                   rotate_left
                   ·
                    simp only [Act.put, aput]
                    rfl
                   refine pure_ (i := 23) (N := some 94) (v := ?_) (a' := ?_) (bm 31 15712255) rfl rfl (any_of HT_.out (by kernel_rfl)) (fun _ _ _ h => h) (Or.inl ⟨by rfl, ?_⟩) ?_ ?_
                   rotate_left
                   ·
                    intro w'
                    go_simp
                    with_reducible rfl
                   rotate_left
                   ·
                    simp only [Act.put, aput]
                    rfl
                   refine pure_ (i := 24) (N := some 95) (v := ?_) (a' := ?_) (bm 31 32489471) rfl rfl (any_of HT_.out (by kernel_rfl)) (fun _ _ _ h => h) (Or.inl ⟨by rfl, ?_⟩) ?_ ?_
                   rotate_left
                   ·
                    intro w'
                    go_simp
                    with_reducible rfl
                   rotate_left
                   ·
                    simp only [Act.put, aput]
                    rfl
                   refine pure_ (i := 25) (N := some 96) (v := ?_) (a' := ?_) (bm 31 66043903) rfl rfl (any_of HT_.out (by kernel_rfl)) (fun _ _ _ h => h) (Or.inl ⟨by rfl, ?_⟩) ?_ ?_
                   rotate_left
                   ·
                    intro w'
                    go_simp
                    with_reducible rfl
                   rotate_left
                   ·
                    simp only [Act.put, aput]
                    rfl
                   refine take_ (i := 14) (N := some 85) (v := ?_) (a' := ?_) (bm 31 66060287) rfl rfl (take_ofW HT_.out HW_.out (by kernel_rfl)) (fun _ _ _ h => h) (Or.inl ⟨by rfl, ?_⟩) hH ?_ ?_
                   rotate_left
                   ·
                    intro w' s0
                    go_simp
                    with_reducible rfl
                   rotate_left
                   ·
                    simp only [Act.put, aput]
                    rfl
                   refine take_ (i := 20) (N := some 91) (v := ?_) (a' := ?_) (bm 31 67108863) rfl rfl (take_ofW HT_.out HW_.out (by kernel_rfl)) (fun _ _ _ h => h) (Or.inl ⟨by rfl, ?_⟩) hH ?_ ?_
                   rotate_left
                   ·
                    intro w' s0
                    go_simp
                    with_reducible rfl
                   rotate_left
                   ·
                    simp only [Act.put, aput]
                    rfl
                   refine take_ (i := 26) (N := some 97) (v := ?_) (a' := ?_) (bm 31 134217727) rfl rfl (take_ofW HT_.out HW_.out (by kernel_rfl)) (fun _ _ _ h => h) (Or.inl ⟨by rfl, ?_⟩) hH ?_ ?_
                   rotate_left
                   ·
                    intro w' s0
                    go_simp
                    with_reducible rfl
                   rotate_left
                   ·
                    simp only [Act.put, aput]
                    rfl
                   refine pure_ (i := 27) (N := some 98) (v := ?_) (a' := ?_) (bm 31 268435455) rfl rfl (any_of HT_.out (by kernel_rfl)) (fun _ _ _ h => h) (Or.inl ⟨by rfl, ?_⟩) ?_ ?_
                   rotate_left
                   ·
                    intro w'
                    go_simp
                    with_reducible rfl
                   rotate_left
                   ·
                    simp only [Act.put, aput]
                    rfl
                   refine pure_ (i := 28) (N := some 99) (v := ?_) (a' := ?_) (bm 31 536870911) rfl rfl (any_of HT_.out (by kernel_rfl)) (fun _ _ _ h => h) (Or.inl ⟨by rfl, ?_⟩) ?_ ?_
                   rotate_left
                   ·
                    intro w'
                    go_simp
                    with_reducible rfl
                   rotate_left
                   ·
                    simp only [Act.put, aput]
                    rfl
                   refine pure_ (i := 29) (N := some 100) (v := ?_) (a' := ?_) (bm 31 1073741823) rfl rfl (any_of HT_.out (by kernel_rfl)) (fun _ _ _ h => h) (Or.inl ⟨by rfl, ?_⟩) ?_ ?_
                   rotate_left
                   ·
                    intro w'
                    go_simp
                    with_reducible rfl
                   rotate_left
                   ·
                    simp only [Act.put, aput]
                    rfl
                   refine pure_ (i := 30) (N := some 101) (v := ?_) (a' := ?_) (bm 31 2147483647) rfl rfl (any_of HT_.out (by kernel_rfl)) (fun _ _ _ h => h) (Or.inl ⟨by rfl, ?_⟩) ?_ ?_
                   rotate_left
                   ·
                    intro w'
                    go_simp
                    with_reducible rfl
                   rotate_left
                   ·
                    simp only [Act.put, aput]
                    rfl
                   refine done_ (done_of HT_.out (by kernel_rfl)) ?_
                   try go_wp2
                   go_meet
                   case rel => exact ⟨_, (decide (((rd_T29 t178 x10_3).f0) ≤ (IntKind.u64.wrap (((rd_T29 t178 (ji34)).f0) + ((rd_T29 t178 (ji34)).f1))))), (by first|rfl|(simp; done)|(simp only [← hji34] <;> (first|rfl|simp))|(simp [*]; done)), H', ⟨by have := HK1.out; have := HJ6.out; have := HK3.out; first|omega|exact Nat.le_refl _⟩, ⟨by (with_reducible repeat (first|apply Kd.R_alloc|apply Kd.R_drewN|apply Kd.R_drew)); exact HO_3.out⟩, ⟨by (with_reducible repeat (first|apply Kd.Mp_alloc|apply Kd.Mp_drewN|apply Kd.Mp_drew)); exact HO_4.out⟩, ⟨by (with_reducible repeat (first|apply Kd.R_alloc|apply Kd.R_drewN|apply Kd.R_drew)); exact HO_8.out⟩, ⟨by repeat (first|(with_reducible first|exact HB.out|apply below_alloc|apply pw_below_drewN|apply below_drew1)|exact HB.out)⟩⟩
                  ·
                   rw [if_neg c36] at H
                   exact absurd H (by simp)
                 ·
                  rw [if_neg c35] at H
                  exact absurd H (by simp)
                ·
                 rw [if_neg c33] at H
                 have c33b0 : decide (0 < x10_3) = false := decide_eq_false c33
                 clear c33
                 have H' := aS H
                 clear H
                 try go_wp2
                 have n0_ := aS (Kd.R_drew HO_3.out)
                 have n1_ := aS (Kd.Mp_drew HO_4.out)
                 have n2_ := aS (Kd.R_drew HO_8.out)
                 have n3_ := aS (below_drew1 HB.out)
                 clear HO_3
                 clear HO_4
                 clear HO_8
                 clear HB
                 have HO_3 := n0_
                 have HO_4 := n1_
                 have HO_8 := n2_
                 have HB := n3_
                 clear n0_ n1_ n2_ n3_
                 have p181 : 0 ≤ (x10_3 : Int) := of_decide_eq_true (by first | (with_reducible assumption) | assumption)
                 have q181 : x10_3 < (t178.length : Int) := of_decide_eq_true (by first | (with_reducible assumption) | assumption)
                 obtain ⟨ad181, e181, hx181_0, hx181_1⟩ := at_T29 (Kd.R_reads' HO_8.out).2.2 x10_3 p181 q181
                 cases e181
                 replace p181 := eq_true p181
                 replace q181 := eq_true q181
                 refine start_ (n := 31) (S := fun w' => w'.cell? (ad181.add ((x10_3).toNat * 2)) = some (.int .u64 ((rd_T29 t178 x10_3).f0)) ∧ w'.cell? ⟨(ad181.add ((x10_3).toNat * 2)).block, (ad181.add ((x10_3).toNat * 2)).off + 1, none⟩ = some (.int .u64 ((rd_T29 t178 x10_3).f1))) (ds := []) #[false, false, false, false, false, false, false, false, false, false, false, false, false, false, false, false, false, false, false, false, false, false, false, false, false, false, false, false, false, false, false] (by kernel_rfl) rfl rfl ⟨hx181_0, hx181_1⟩ (fun hH => ?_); refine with_tabW graverlaw02_SpanUnions.tab19 graverlaw02_SpanUnions.bits19 (fun HT_ HW_ => ?_)
                 generalize wr.drew = w38 at HO_3 HO_4 HO_8 HB hx181_0 hx181_1 hH ⊢
                 refine pure_ (i := 0) (N := some 71) (v := ?_) (a' := ?_) (bm 31 1) rfl rfl (any_of HT_.out (by kernel_rfl)) (fun _ _ _ h => h) (Or.inl ⟨by rfl, ?_⟩) ?_ ?_
                 rotate_left
                 ·
                  intro w'
                  go_simp
                  with_reducible rfl
                 rotate_left
                 ·
                  simp only [Act.put, aput]
                  rfl
                 refine pure_ (i := 1) (N := some 72) (v := ?_) (a' := ?_) (bm 31 3) rfl rfl (any_of HT_.out (by kernel_rfl)) (fun _ _ _ h => h) (Or.inl ⟨by rfl, ?_⟩) ?_ ?_
                 rotate_left
                 ·
                  intro w'
                  go_simp
                  with_reducible rfl
                 rotate_left
                 ·
                  simp only [Act.put, aput]
                  rfl
                 refine pure_ (i := 2) (N := some 73) (v := ?_) (a' := ?_) (bm 31 7) rfl rfl (any_of HT_.out (by kernel_rfl)) (fun _ _ _ h => h) (Or.inl ⟨by rfl, ?_⟩) ?_ ?_
                 rotate_left
                 ·
                  intro w'
                  go_simp
                  with_reducible rfl
                 rotate_left
                 ·
                  simp only [Act.put, aput]
                  rfl
                 refine pure_ (i := 3) (N := some 74) (v := ?_) (a' := ?_) (bm 31 15) rfl rfl (any_of HT_.out (by kernel_rfl)) (fun _ _ _ h => h) (Or.inl ⟨by rfl, ?_⟩) ?_ ?_
                 rotate_left
                 ·
                  intro w'
                  go_simp
                  with_reducible rfl
                 rotate_left
                 ·
                  simp only [Act.put, aput]
                  rfl
                 refine take_ (i := 4) (N := some 75) (v := ?_) (a' := ?_) (bm 31 31) rfl rfl (take_ofW HT_.out HW_.out (by kernel_rfl)) (fun _ _ _ h => h) (Or.inl ⟨by rfl, ?_⟩) hH ?_ ?_
                 rotate_left
                 ·
                  intro w' s0
                  go_simp
                  with_reducible rfl
                 rotate_left
                 ·
                  simp only [Act.put, aput]
                  rfl
                 refine pure_ (i := 5) (N := some 76) (v := ?_) (a' := ?_) (bm 31 63) rfl rfl (any_of HT_.out (by kernel_rfl)) (fun _ _ _ h => h) (Or.inl ⟨by rfl, ?_⟩) ?_ ?_
                 rotate_left
                 ·
                  intro w'
                  go_simp
                  with_reducible rfl
                 rotate_left
                 ·
                  simp only [Act.put, aput]
                  rfl
                 refine pure_ (i := 6) (N := some 77) (v := ?_) (a' := ?_) (bm 31 127) rfl rfl (any_of HT_.out (by kernel_rfl)) (fun _ _ _ h => h) (Or.inl ⟨by rfl, ?_⟩) ?_ ?_
                 rotate_left
                 ·
                  intro w'
                  go_simp
                  with_reducible rfl
                 rotate_left
                 ·
                  simp only [Act.put, aput]
                  rfl
                 refine pure_ (i := 7) (N := some 78) (v := ?_) (a' := ?_) (bm 31 255) rfl rfl (any_of HT_.out (by kernel_rfl)) (fun _ _ _ h => h) (Or.inl ⟨by rfl, ?_⟩) ?_ ?_
                 rotate_left
                 ·
                  intro w'
                  go_simp
                  with_reducible rfl
                 rotate_left
                 ·
                  simp only [Act.put, aput]
                  rfl
                 refine pure_ (i := 8) (N := some 79) (v := ?_) (a' := ?_) (bm 31 511) rfl rfl (any_of HT_.out (by kernel_rfl)) (fun _ _ _ h => h) (Or.inl ⟨by rfl, ?_⟩) ?_ ?_
                 rotate_left
                 ·
                  intro w'
                  go_simp
                  with_reducible rfl
                 rotate_left
                 ·
                  simp only [Act.put, aput]
                  rfl
                 refine pure_ (i := 9) (N := some 80) (v := ?_) (a' := ?_) (bm 31 1023) rfl rfl (any_of HT_.out (by kernel_rfl)) (fun _ _ _ h => h) (Or.inl ⟨by rfl, ?_⟩) ?_ ?_
                 rotate_left
                 ·
                  intro w'
                  go_simp
                  with_reducible rfl
                 rotate_left
                 ·
                  simp only [Act.put, aput]
                  rfl
                 refine pure_ (i := 10) (N := some 81) (v := undef) (a' := ?_) (bm 31 2047) rfl rfl (any_of HT_.out (by kernel_rfl)) (fun _ _ _ h => h) (Or.inr ⟨by rfl, rfl⟩) ?_ ?_
                 rotate_left
                 ·
                  simp only [Act.put, aput]
                  rfl
                 refine pure_ (i := 11) (N := some 82) (v := undef) (a' := ?_) (bm 31 4095) rfl rfl (any_of HT_.out (by kernel_rfl)) (fun _ _ _ h => h) (Or.inr ⟨by rfl, rfl⟩) ?_ ?_
                 rotate_left
                 ·
                  simp only [Act.put, aput]
                  rfl
                 refine pure_ (i := 12) (N := some 83) (v := undef) (a' := ?_) (bm 31 8191) rfl rfl (any_of HT_.out (by kernel_rfl)) (fun _ _ _ h => h) (Or.inr ⟨by rfl, rfl⟩) ?_ ?_
                 rotate_left
                 ·
                  simp only [Act.put, aput]
                  rfl
                 refine pure_ (i := 13) (N := some 84) (v := undef) (a' := ?_) (bm 31 16383) rfl rfl (any_of HT_.out (by kernel_rfl)) (fun _ _ _ h => h) (Or.inr ⟨by rfl, rfl⟩) ?_ ?_
                 rotate_left
                 ·
                  simp only [Act.put, aput]
                  rfl
                 refine pure_ (i := 14) (N := some 85) (v := undef) (a' := ?_) (bm 31 32767) rfl rfl (any_of HT_.out (by kernel_rfl)) (fun _ _ _ h => h) (Or.inr ⟨by rfl, rfl⟩) ?_ ?_
                 rotate_left
                 ·
                  simp only [Act.put, aput]
                  rfl
                 refine pure_ (i := 15) (N := some 86) (v := undef) (a' := ?_) (bm 31 65535) rfl rfl (any_of HT_.out (by kernel_rfl)) (fun _ _ _ h => h) (Or.inr ⟨by rfl, rfl⟩) ?_ ?_
                 rotate_left
                 ·
                  simp only [Act.put, aput]
                  rfl
                 refine pure_ (i := 16) (N := some 87) (v := undef) (a' := ?_) (bm 31 131071) rfl rfl (any_of HT_.out (by kernel_rfl)) (fun _ _ _ h => h) (Or.inr ⟨by rfl, rfl⟩) ?_ ?_
                 rotate_left
                 ·
                  simp only [Act.put, aput]
                  rfl
                 refine pure_ (i := 17) (N := some 88) (v := undef) (a' := ?_) (bm 31 262143) rfl rfl (any_of HT_.out (by kernel_rfl)) (fun _ _ _ h => h) (Or.inr ⟨by rfl, rfl⟩) ?_ ?_
                 rotate_left
                 ·
                  simp only [Act.put, aput]
                  rfl
                 refine pure_ (i := 18) (N := some 89) (v := undef) (a' := ?_) (bm 31 524287) rfl rfl (any_of HT_.out (by kernel_rfl)) (fun _ _ _ h => h) (Or.inr ⟨by rfl, rfl⟩) ?_ ?_
                 rotate_left
                 ·
                  simp only [Act.put, aput]
                  rfl
                 refine pure_ (i := 19) (N := some 90) (v := undef) (a' := ?_) (bm 31 1048575) rfl rfl (any_of HT_.out (by kernel_rfl)) (fun _ _ _ h => h) (Or.inr ⟨by rfl, rfl⟩) ?_ ?_
                 rotate_left
                 ·
                  simp only [Act.put, aput]
                  rfl
                 refine pure_ (i := 20) (N := some 91) (v := undef) (a' := ?_) (bm 31 2097151) rfl rfl (any_of HT_.out (by kernel_rfl)) (fun _ _ _ h => h) (Or.inr ⟨by rfl, rfl⟩) ?_ ?_
                 rotate_left
                 ·
                  simp only [Act.put, aput]
                  rfl
                 refine pure_ (i := 21) (N := some 92) (v := undef) (a' := ?_) (bm 31 4194303) rfl rfl (any_of HT_.out (by kernel_rfl)) (fun _ _ _ h => h) (Or.inr ⟨by rfl, rfl⟩) ?_ ?_
                 rotate_left
                 ·
                  simp only [Act.put, aput]
                  rfl
                 refine pure_ (i := 22) (N := some 93) (v := undef) (a' := ?_) (bm 31 8388607) rfl rfl (any_of HT_.out (by kernel_rfl)) (fun _ _ _ h => h) (Or.inr ⟨by rfl, rfl⟩) ?_ ?_
                 rotate_left
                 ·
                  simp only [Act.put, aput]
                  rfl
                 refine pure_ (i := 23) (N := some 94) (v := undef) (a' := ?_) (bm 31 16777215) rfl rfl (any_of HT_.out (by kernel_rfl)) (fun _ _ _ h => h) (Or.inr ⟨by rfl, rfl⟩) ?_ ?_
                 rotate_left
                 ·
                  simp only [Act.put, aput]
                  rfl
                 refine pure_ (i := 24) (N := some 95) (v := undef) (a' := ?_) (bm 31 33554431) rfl rfl (any_of HT_.out (by kernel_rfl)) (fun _ _ _ h => h) (Or.inr ⟨by rfl, rfl⟩) ?_ ?_
                 rotate_left
                 ·
                  simp only [Act.put, aput]
                  rfl
                 refine pure_ (i := 25) (N := some 96) (v := undef) (a' := ?_) (bm 31 67108863) rfl rfl (any_of HT_.out (by kernel_rfl)) (fun _ _ _ h => h) (Or.inr ⟨by rfl, rfl⟩) ?_ ?_
                 rotate_left
                 ·
                  simp only [Act.put, aput]
                  rfl
                 refine pure_ (i := 26) (N := some 97) (v := undef) (a' := ?_) (bm 31 134217727) rfl rfl (any_of HT_.out (by kernel_rfl)) (fun _ _ _ h => h) (Or.inr ⟨by rfl, rfl⟩) ?_ ?_
                 rotate_left
                 ·
                  simp only [Act.put, aput]
                  rfl
                 refine pure_ (i := 27) (N := some 98) (v := undef) (a' := ?_) (bm 31 268435455) rfl rfl (any_of HT_.out (by kernel_rfl)) (fun _ _ _ h => h) (Or.inr ⟨by rfl, rfl⟩) ?_ ?_
                 rotate_left
                 ·
                  simp only [Act.put, aput]
                  rfl
                 refine pure_ (i := 28) (N := some 99) (v := undef) (a' := ?_) (bm 31 536870911) rfl rfl (any_of HT_.out (by kernel_rfl)) (fun _ _ _ h => h) (Or.inr ⟨by rfl, rfl⟩) ?_ ?_
                 rotate_left
                 ·
                  simp only [Act.put, aput]
                  rfl
                 refine pure_ (i := 29) (N := some 100) (v := ?_) (a' := ?_) (bm 31 1073741823) rfl rfl (any_of HT_.out (by kernel_rfl)) (fun _ _ _ h => h) (Or.inl ⟨by rfl, ?_⟩) ?_ ?_
                 rotate_left
                 ·
                  intro w'
                  go_simp
                  with_reducible rfl
                 rotate_left
                 ·
                  simp only [Act.put, aput]
                  rfl
                 refine pure_ (i := 30) (N := some 101) (v := ?_) (a' := ?_) (bm 31 2147483647) rfl rfl (any_of HT_.out (by kernel_rfl)) (fun _ _ _ h => h) (Or.inl ⟨by rfl, ?_⟩) ?_ ?_
                 rotate_left
                 ·
                  intro w'
                  go_simp
                  with_reducible rfl
                 rotate_left
                 ·
                  simp only [Act.put, aput]
                  rfl
                 refine done_ (done_of HT_.out (by kernel_rfl)) ?_
                 try go_wp2
                 go_meet
                 case rel => exact ⟨_, (false), (by first|rfl|(simp; done)|(simp [*]; done)), H', ⟨by have := HK1.out; have := HJ6.out; have := HK3.out; first|omega|exact Nat.le_refl _⟩, ⟨by (with_reducible repeat (first|apply Kd.R_alloc|apply Kd.R_drewN|apply Kd.R_drew)); exact HO_3.out⟩, ⟨by (with_reducible repeat (first|apply Kd.Mp_alloc|apply Kd.Mp_drewN|apply Kd.Mp_drew)); exact HO_4.out⟩, ⟨by (with_reducible repeat (first|apply Kd.R_alloc|apply Kd.R_drewN|apply Kd.R_drew)); exact HO_8.out⟩, ⟨by repeat (first|(with_reducible first|exact HB.out|apply below_alloc|apply pw_below_drewN|apply below_drew1)|exact HB.out)⟩⟩
              ·
               rw [if_neg c30] at H
               exact absurd H (by simp)
             case rest =>
              clear HC28
              try clear p1
              try clear q1
              try clear hx1
              try clear p2
              try clear c3
              try clear p6
              try clear p18
              try clear q18
              try clear hx18
              try clear c30
              try clear c31
              try clear c31b0
              try clear c31b1
              try clear c33
              try clear c33b0
              try clear c35
              try clear c35b0
              try clear c36
              try clear c36b0
              try clear hx181_0
              try clear hx181_1
              try clear hx182_0
              try clear hx182_1
              try clear hx183_0
              try clear hx183_1
              try clear hx184_0
              try clear hx184_1
              try clear p181
              try clear p182
              try clear p183
              try clear p184
              try clear q181
              try clear q182
              try clear q183
              try clear q184
              obtain ⟨kq, x101_27, rfl, HA, HJ27, HO_3, HO_4, HO_8, HB⟩ := hcut
              cases kq with
              | zero => exact absurd HA.out (by simp [graverlaw02_SpanUnions.j4])
              | succ kj27 =>
               as_aux_lemma =>
                have H := HA.out
                clear HA
                simp only [graverlaw02_SpanUnions.j4] at H
                by_cases c39 : x101_27 = true
                ·
                 subst c39
                 have H1 : (some false) = some r := by rw [if_pos rfl] at H; exact H
                 clear H
                 have H := H1
                 clear H1
                 exact absurd ((Option.some.inj H).trans HRT.out) (by decide)
                ·
                 replace c39 := Bool.eq_false_iff.mpr c39
                 subst c39
                 have H1 : (if 0 ≤ x10_3 then (if x10_3 < (t178.length : Int) then (graverlaw02_SpanUnions.l3 kj27 x3_1 x4_1 t178 x9_3 x10_3 ((rd_T29 t178 x10_3).f0)) else (none)) else (none)) = some r := by rw [if_neg (show ¬ (false = true) by decide)] at H; exact H
                 clear H
                 have H := H1
                 clear H1
                 by_cases c40 : 0 ≤ x10_3
                 ·
                  rw [if_pos c40] at H
                  have c40b0 : decide (0 ≤ x10_3) = true := decide_eq_true c40
                  clear c40
                  by_cases c41 : x10_3 < (t178.length : Int)
                  ·
                   rw [if_pos c41] at H
                   have c41b0 : decide (x10_3 < (t178.length : Int)) = true := decide_eq_true c41
                   clear c41
                   have H' := aS H
                   clear H
                   have p185 : 0 ≤ (x10_3 : Int) := of_decide_eq_true (by first | (with_reducible assumption) | assumption)
                   have q185 : x10_3 < (t178.length : Int) := of_decide_eq_true (by first | (with_reducible assumption) | assumption)
                   obtain ⟨ad185, e185, hx185_0, hx185_1⟩ := at_T29 (Kd.R_reads' HO_8.out).2.2 x10_3 p185 q185
                   cases e185
                   replace p185 := eq_true p185
                   replace q185 := eq_true q185
                   go_wp2
                   go_loopg [9, 11] kj27 (fun kq v9 v11 w' => ∃ (x9_5 : Int) (x11_5 : Int), v9 = .int .i64 x9_5 ∧ v11 = .int .u64 x11_5 ∧ Aside0 (graverlaw02_SpanUnions.l3 kq x3_1 x4_1 t178 x9_5 x10_3 x11_5 = some r) ∧ Aside0 (kq ≤ kj27) ∧ Aside0 (Kd.R k29 29 w' w.heap.size (fun k_ => some k_ ≠ ((.slice (some ad185) t178.length co29) : Value).ownBlock) (.slice Ao25 x3_1.length co25) x3_1) ∧ Aside0 (Kd.Mp (Kd.int .u64) 46 w' w.heap.size (fun _ => True) v169 x4_1) ∧ Aside0 (Kd.R k29 29 w' w.heap.size (fun k_ => some k_ ≠ ((.slice Ao25 x3_1.length co25) : Value).ownBlock) (.slice (some ad185) t178.length co29) t178) ∧ Aside0 (Below w.heap.size w w'))
                   case atStart => exact ⟨(x9_3), ((rd_T29 t178 x10_3).f0), (by first|rfl|(simp; done)|(simp [*]; done)), (by first|rfl|(simp; done)|(simp [*]; done)), H', ⟨Nat.le_refl _⟩, ⟨by (with_reducible repeat (first|apply Kd.R_alloc|apply Kd.R_drewN|apply Kd.R_drew)); exact HO_3.out⟩, ⟨by (with_reducible repeat (first|apply Kd.Mp_alloc|apply Kd.Mp_drewN|apply Kd.Mp_drew)); exact HO_4.out⟩, ⟨by (with_reducible repeat (first|apply Kd.R_alloc|apply Kd.R_drewN|apply Kd.R_drew)); exact HO_8.out⟩, ⟨by repeat (first|(with_reducible first|exact HB.out|apply below_alloc|apply pw_below_drewN|apply below_drew1)|exact HB.out)⟩⟩
                   case round =>
                    clear H'
                    try clear p1
                    try clear q1
                    try clear hx1
                    try clear p2
                    try clear c3
                    try clear c4
                    try clear p6
                    try clear p18
                    try clear q18
                    try clear hx18
                    try clear c30
                    try clear c31
                    try clear c31b0
                    try clear c31b1
                    try clear c33
                    try clear c33b0
                    try clear c35
                    try clear c35b0
                    try clear c36
                    try clear c36b0
                    try clear c39
                    try clear c40
                    try clear c40b0
                    try clear c41
                    try clear c41b0
                    try clear hx181_0
                    try clear hx181_1
                    try clear hx182_0
                    try clear hx182_1
                    try clear hx183_0
                    try clear hx183_1
                    try clear hx184_0
                    try clear hx184_1
                    try clear hx185_0
                    try clear hx185_1
                    try clear p1
                    try clear p18
                    try clear p181
                    try clear p182
                    try clear p183
                    try clear p184
                    try clear p185
                    try clear p2
                    try clear p6
                    try clear q1
                    try clear q18
                    try clear q181
                    try clear q182
                    try clear q183
                    try clear q184
                    try clear q185
                    obtain ⟨x9_5, x11_5, rfl, rfl, HA, HK5, HO_3, HO_4, HO_8, HB⟩ := hrel
                    cases gk with
                    | zero => exact absurd HA.out (by simp [graverlaw02_SpanUnions.l3])
                    | succ k5 =>
                     as_aux_lemma =>
                      have H := HA.out
                      clear HA
                      simp only [graverlaw02_SpanUnions.l3] at H
                      by_cases c42 : 0 ≤ x10_3
                      ·
                       rw [if_pos c42] at H
                       have c42b0 : decide (0 ≤ x10_3) = true := decide_eq_true c42
                       clear c42
                       by_cases c43 : x10_3 < (t178.length : Int)
                       ·
                        rw [if_pos c43] at H
                        have c43b0 : decide (x10_3 < (t178.length : Int)) = true := decide_eq_true c43
                        clear c43
                        by_cases c44 : x11_5 < (IntKind.u64.wrap (((rd_T29 t178 x10_3).f0) + ((rd_T29 t178 x10_3).f1)))
                        ·
                         rw [if_pos c44] at H
                         have c44b0 : decide (x11_5 < (IntKind.u64.wrap (((rd_T29 t178 x10_3).f0) + ((rd_T29 t178 x10_3).f1)))) = true := decide_eq_true c44
                         clear c44
                         by_cases c45 : mapMem x4_1 x11_5 = true
                         ·
                          rw [if_pos c45] at H
                          have c45b0 : mapMem x4_1 x11_5 = true := c45
                          clear c45
                          have H' := aS H
                          clear H
                          try go_wp2
                          have n0_ := aS (Kd.R_drew HO_3.out)
                          have n1_ := aS (Kd.Mp_drew HO_4.out)
                          have n2_ := aS (Kd.R_drew HO_8.out)
                          have n3_ := aS (below_drew1 HB.out)
                          clear HO_3
                          clear HO_4
                          clear HO_8
                          clear HB
                          have HO_3 := n0_
                          have HO_4 := n1_
                          have HO_8 := n2_
                          have HB := n3_
                          clear n0_ n1_ n2_ n3_
                          have p186 : 0 ≤ (x10_3 : Int) := of_decide_eq_true (by first | (with_reducible assumption) | assumption)
                          have q186 : x10_3 < (t178.length : Int) := of_decide_eq_true (by first | (with_reducible assumption) | assumption)
                          obtain ⟨ad186, e186, hx186_0, hx186_1⟩ := at_T29 (Kd.R_reads' HO_8.out).2.2 x10_3 p186 q186
                          obtain rfl : ad185 = ad186 := (by injection e186)
                          replace p186 := eq_true p186
                          replace q186 := eq_true q186
                          have p187 : 0 ≤ (x10_3 : Int) := of_decide_eq_true (by first | (with_reducible assumption) | assumption)
                          have q187 : x10_3 < (t178.length : Int) := of_decide_eq_true (by first | (with_reducible assumption) | assumption)
                          obtain ⟨ad187, e187, hx187_0, hx187_1⟩ := at_T29 (Kd.R_reads' HO_8.out).2.2 x10_3 p187 q187
                          obtain rfl : ad185 = ad187 := (by injection e187)
                          replace p187 := eq_true p187
                          replace q187 := eq_true q187
                          refine start_ (n := 13) (S := fun w' => w'.cell? (ad185.add ((x10_3).toNat * 2)) = some (.int .u64 ((rd_T29 t178 x10_3).f0)) ∧ w'.cell? ⟨(ad185.add ((x10_3).toNat * 2)).block, (ad185.add ((x10_3).toNat * 2)).off + 1, none⟩ = some (.int .u64 ((rd_T29 t178 x10_3).f1)) ∧ w'.cell? (ad185.add ((x10_3).toNat * 2)) = some (.int .u64 ((rd_T29 t178 x10_3).f0)) ∧ w'.cell? ⟨(ad185.add ((x10_3).toNat * 2)).block, (ad185.add ((x10_3).toNat * 2)).off + 1, none⟩ = some (.int .u64 ((rd_T29 t178 x10_3).f1))) (ds := []) #[false, false, false, false, false, false, false, false, false, false, false, false, false] (by kernel_rfl) rfl rfl ⟨hx186_0, hx186_1, hx187_0, hx187_1⟩ (fun hH => ?_); refine with_tabW graverlaw02_SpanUnions.tab22 graverlaw02_SpanUnions.bits22 (fun HT_ HW_ => ?_)
                          generalize wr.drew = w46 at HO_3 HO_4 HO_8 HB hx186_0 hx186_1 hx187_0 hx187_1 hH ⊢
                          refine pure_ (i := 0) (N := some 107) (v := ?_) (a' := ?_) (bm 13 1) rfl rfl (any_of HT_.out (by kernel_rfl)) (fun _ _ _ h => h) (Or.inl ⟨by rfl, ?_⟩) ?_ ?_
                          rotate_left
                          ·
                           intro w'
                           go_simp
                           with_reducible rfl
                          rotate_left
                          ·
                           simp only [Act.put, aput]
                           rfl
                          refine pure_ (i := 1) (N := some 108) (v := ?_) (a' := ?_) (bm 13 3) rfl rfl (any_of HT_.out (by kernel_rfl)) (fun _ _ _ h => h) (Or.inl ⟨by rfl, ?_⟩) ?_ ?_
                          rotate_left
                          ·
                           intro w'
                           go_simp
                           with_reducible rfl
                          rotate_left
                          ·
                           simp only [Act.put, aput]
                           rfl
                          refine pure_ (i := 2) (N := some 109) (v := ?_) (a' := ?_) (bm 13 7) rfl rfl (any_of HT_.out (by kernel_rfl)) (fun _ _ _ h => h) (Or.inl ⟨by rfl, ?_⟩) ?_ ?_
                          rotate_left
                          ·
                           intro w'
                           go_simp
                           with_reducible rfl
                          rotate_left
                          ·
                           simp only [Act.put, aput]
                           rfl
                          refine pure_ (i := 3) (N := some 110) (v := ?_) (a' := ?_) (bm 13 15) rfl rfl (any_of HT_.out (by kernel_rfl)) (fun _ _ _ h => h) (Or.inl ⟨by rfl, ?_⟩) ?_ ?_
                          rotate_left
                          ·
                           intro w'
                           go_simp
                           with_reducible rfl
                          rotate_left
                          ·
                           simp only [Act.put, aput]
                           rfl
                          refine pure_ (i := 4) (N := some 111) (v := ?_) (a' := ?_) (bm 13 31) rfl rfl (any_of HT_.out (by kernel_rfl)) (fun _ _ _ h => h) (Or.inl ⟨by rfl, ?_⟩) ?_ ?_
                          rotate_left
                          ·
                           intro w'
                           go_simp
                           with_reducible rfl
                          rotate_left
                          ·
                           simp only [Act.put, aput]
                           rfl
                          refine pure_ (i := 6) (N := some 113) (v := ?_) (a' := ?_) (bm 13 95) rfl rfl (any_of HT_.out (by kernel_rfl)) (fun _ _ _ h => h) (Or.inl ⟨by rfl, ?_⟩) ?_ ?_
                          rotate_left
                          ·
                           intro w'
                           go_simp
                           with_reducible rfl
                          rotate_left
                          ·
                           simp only [Act.put, aput]
                           rfl
                          refine pure_ (i := 7) (N := some 114) (v := ?_) (a' := ?_) (bm 13 223) rfl rfl (any_of HT_.out (by kernel_rfl)) (fun _ _ _ h => h) (Or.inl ⟨by rfl, ?_⟩) ?_ ?_
                          rotate_left
                          ·
                           intro w'
                           go_simp
                           with_reducible rfl
                          rotate_left
                          ·
                           simp only [Act.put, aput]
                           rfl
                          refine pure_ (i := 8) (N := some 115) (v := ?_) (a' := ?_) (bm 13 479) rfl rfl (any_of HT_.out (by kernel_rfl)) (fun _ _ _ h => h) (Or.inl ⟨by rfl, ?_⟩) ?_ ?_
                          rotate_left
                          ·
                           intro w'
                           go_simp
                           with_reducible rfl
                          rotate_left
                          ·
                           simp only [Act.put, aput]
                           rfl
                          refine pure_ (i := 9) (N := some 116) (v := ?_) (a' := ?_) (bm 13 991) rfl rfl (any_of HT_.out (by kernel_rfl)) (fun _ _ _ h => h) (Or.inl ⟨by rfl, ?_⟩) ?_ ?_
                          rotate_left
                          ·
                           intro w'
                           go_simp
                           with_reducible rfl
                          rotate_left
                          ·
                           simp only [Act.put, aput]
                           rfl
                          refine take_ (i := 5) (N := some 112) (v := ?_) (a' := ?_) (bm 13 1023) rfl rfl (take_ofW HT_.out HW_.out (by kernel_rfl)) (fun _ _ _ h => h) (Or.inl ⟨by rfl, ?_⟩) hH ?_ ?_
                          rotate_left
                          ·
                           intro w' s0
                           go_simp
                           with_reducible rfl
                          rotate_left
                          ·
                           simp only [Act.put, aput]
                           rfl
                          refine take_ (i := 10) (N := some 117) (v := ?_) (a' := ?_) (bm 13 2047) rfl rfl (take_ofW HT_.out HW_.out (by kernel_rfl)) (fun _ _ _ h => h) (Or.inl ⟨by rfl, ?_⟩) hH ?_ ?_
                          rotate_left
                          ·
                           intro w' s0
                           go_simp
                           with_reducible rfl
                          rotate_left
                          ·
                           simp only [Act.put, aput]
                           rfl
                          refine pure_ (i := 11) (N := some 118) (v := ?_) (a' := ?_) (bm 13 4095) rfl rfl (any_of HT_.out (by kernel_rfl)) (fun _ _ _ h => h) (Or.inl ⟨by rfl, ?_⟩) ?_ ?_
                          rotate_left
                          ·
                           intro w'
                           go_simp
                           with_reducible rfl
                          rotate_left
                          ·
                           simp only [Act.put, aput]
                           rfl
                          refine pure_ (i := 12) (N := some 119) (v := ?_) (a' := ?_) (bm 13 8191) rfl rfl (any_of HT_.out (by kernel_rfl)) (fun _ _ _ h => h) (Or.inl ⟨by rfl, ?_⟩) ?_ ?_
                          rotate_left
                          ·
                           intro w'
                           go_simp
                           with_reducible rfl
                          rotate_left
                          ·
                           simp only [Act.put, aput]
                           rfl
                          refine done_ (done_of HT_.out (by kernel_rfl)) ?_
                          have hml47 := mp_look (P := Try.prog) Try.underlying46 (by kernel_rfl) rfl HO_4.out x11_5
                          try go_wp2
                          go_roundg k5
                          case measure => have := HK1.out; have := HJ6.out; have := HK3.out; have := HJ27.out; have := HK5.out; omega
                          case rel => exact ⟨(wrap64 (x9_5 + 1)), (IntKind.u64.wrap (x11_5 + 1)), (by first|rfl|(simp; done)|(simp [*]; done)), (by first|rfl|(simp; done)|(simp [*]; done)), H', ⟨by have := HK1.out; have := HJ6.out; have := HK3.out; have := HJ27.out; have := HK5.out; omega⟩, ⟨by (with_reducible repeat (first|apply Kd.R_alloc|apply Kd.R_drewN|apply Kd.R_drew)); exact HO_3.out⟩, ⟨by (with_reducible repeat (first|apply Kd.Mp_alloc|apply Kd.Mp_drewN|apply Kd.Mp_drew)); exact HO_4.out⟩, ⟨by (with_reducible repeat (first|apply Kd.R_alloc|apply Kd.R_drewN|apply Kd.R_drew)); exact HO_8.out⟩, ⟨by repeat (first|(with_reducible first|exact HB.out|apply below_alloc|apply pw_below_drewN|apply below_drew1)|exact HB.out)⟩⟩
                         ·
                          rw [if_neg c45] at H
                          have c45b0 : mapMem x4_1 x11_5 = false := by simpa using c45
                          clear c45
                          exact absurd ((Option.some.inj H).trans HRT.out) (by decide)
                        ·
                         rw [if_neg c44] at H
                         have c44b0 : decide (x11_5 < (IntKind.u64.wrap (((rd_T29 t178 x10_3).f0) + ((rd_T29 t178 x10_3).f1)))) = false := decide_eq_false c44
                         clear c44
                         have H' := aS H
                         clear H
                         try go_wp2
                         have n0_ := aS (Kd.R_drew HO_3.out)
                         have n1_ := aS (Kd.Mp_drew HO_4.out)
                         have n2_ := aS (Kd.R_drew HO_8.out)
                         have n3_ := aS (below_drew1 HB.out)
                         clear HO_3
                         clear HO_4
                         clear HO_8
                         clear HB
                         have HO_3 := n0_
                         have HO_4 := n1_
                         have HO_8 := n2_
                         have HB := n3_
                         clear n0_ n1_ n2_ n3_
                         have p186 : 0 ≤ (x10_3 : Int) := of_decide_eq_true (by first | (with_reducible assumption) | assumption)
                         have q186 : x10_3 < (t178.length : Int) := of_decide_eq_true (by first | (with_reducible assumption) | assumption)
                         obtain ⟨ad186, e186, hx186_0, hx186_1⟩ := at_T29 (Kd.R_reads' HO_8.out).2.2 x10_3 p186 q186
                         obtain rfl : ad185 = ad186 := (by injection e186)
                         replace p186 := eq_true p186
                         replace q186 := eq_true q186
                         have p187 : 0 ≤ (x10_3 : Int) := of_decide_eq_true (by first | (with_reducible assumption) | assumption)
                         have q187 : x10_3 < (t178.length : Int) := of_decide_eq_true (by first | (with_reducible assumption) | assumption)
                         obtain ⟨ad187, e187, hx187_0, hx187_1⟩ := at_T29 (Kd.R_reads' HO_8.out).2.2 x10_3 p187 q187
                         obtain rfl : ad185 = ad187 := (by injection e187)
                         replace p187 := eq_true p187
                         replace q187 := eq_true q187
                         refine start_ (n := 13) (S := fun w' => w'.cell? (ad185.add ((x10_3).toNat * 2)) = some (.int .u64 ((rd_T29 t178 x10_3).f0)) ∧ w'.cell? ⟨(ad185.add ((x10_3).toNat * 2)).block, (ad185.add ((x10_3).toNat * 2)).off + 1, none⟩ = some (.int .u64 ((rd_T29 t178 x10_3).f1)) ∧ w'.cell? (ad185.add ((x10_3).toNat * 2)) = some (.int .u64 ((rd_T29 t178 x10_3).f0)) ∧ w'.cell? ⟨(ad185.add ((x10_3).toNat * 2)).block, (ad185.add ((x10_3).toNat * 2)).off + 1, none⟩ = some (.int .u64 ((rd_T29 t178 x10_3).f1))) (ds := []) #[false, false, false, false, false, false, false, false, false, false, false, false, false] (by kernel_rfl) rfl rfl ⟨hx186_0, hx186_1, hx187_0, hx187_1⟩ (fun hH => ?_); refine with_tabW graverlaw02_SpanUnions.tab22 graverlaw02_SpanUnions.bits22 (fun HT_ HW_ => ?_)
                         generalize wr.drew = w48 at HO_3 HO_4 HO_8 HB hx186_0 hx186_1 hx187_0 hx187_1 hH ⊢
                         refine pure_ (i := 0) (N := some 107) (v := ?_) (a' := ?_) (bm 13 1) rfl rfl (any_of HT_.out (by kernel_rfl)) (fun _ _ _ h => h) (Or.inl ⟨by rfl, ?_⟩) ?_ ?_
                         rotate_left
                         ·
                          intro w'
                          go_simp
                          with_reducible rfl
                         rotate_left
                         ·
                          simp only [Act.put, aput]
                          rfl
                         refine pure_ (i := 1) (N := some 108) (v := ?_) (a' := ?_) (bm 13 3) rfl rfl (any_of HT_.out (by kernel_rfl)) (fun _ _ _ h => h) (Or.inl ⟨by rfl, ?_⟩) ?_ ?_
                         rotate_left
                         ·
                          intro w'
                          go_simp
                          with_reducible rfl
                         rotate_left
                         ·
                          simp only [Act.put, aput]
                          rfl
                         refine pure_ (i := 2) (N := some 109) (v := ?_) (a' := ?_) (bm 13 7) rfl rfl (any_of HT_.out (by kernel_rfl)) (fun _ _ _ h => h) (Or.inl ⟨by rfl, ?_⟩) ?_ ?_
                         rotate_left
                         ·
                          intro w'
                          go_simp
                          with_reducible rfl
                         rotate_left
                         ·
                          simp only [Act.put, aput]
                          rfl
                         refine pure_ (i := 3) (N := some 110) (v := ?_) (a' := ?_) (bm 13 15) rfl rfl (any_of HT_.out (by kernel_rfl)) (fun _ _ _ h => h) (Or.inl ⟨by rfl, ?_⟩) ?_ ?_
                         rotate_left
                         ·
                          intro w'
                          go_simp
                          with_reducible rfl
                         rotate_left
                         ·
                          simp only [Act.put, aput]
                          rfl
                         refine pure_ (i := 4) (N := some 111) (v := ?_) (a' := ?_) (bm 13 31) rfl rfl (any_of HT_.out (by kernel_rfl)) (fun _ _ _ h => h) (Or.inl ⟨by rfl, ?_⟩) ?_ ?_
                         rotate_left
                         ·
                          intro w'
                          go_simp
                          with_reducible rfl
                         rotate_left
                         ·
                          simp only [Act.put, aput]
                          rfl
                         refine pure_ (i := 6) (N := some 113) (v := ?_) (a' := ?_) (bm 13 95) rfl rfl (any_of HT_.out (by kernel_rfl)) (fun _ _ _ h => h) (Or.inl ⟨by rfl, ?_⟩) ?_ ?_
                         rotate_left
                         ·
                          intro w'
                          go_simp
                          with_reducible rfl
                         rotate_left
                         ·
                          simp only [Act.put, aput]
                          rfl
                         refine pure_ (i := 7) (N := some 114) (v := ?_) (a' := ?_) (bm 13 223) rfl rfl (any_of HT_.out (by kernel_rfl)) (fun _ _ _ h => h) (Or.inl ⟨by rfl, ?_⟩) ?_ ?_
                         rotate_left
                         ·
                          intro w'
                          go_simp
                          with_reducible rfl
                         rotate_left
                         ·
                          simp only [Act.put, aput]
                          rfl
                         refine pure_ (i := 8) (N := some 115) (v := ?_) (a' := ?_) (bm 13 479) rfl rfl (any_of HT_.out (by kernel_rfl)) (fun _ _ _ h => h) (Or.inl ⟨by rfl, ?_⟩) ?_ ?_
                         rotate_left
                         ·
                          intro w'
                          go_simp
                          with_reducible rfl
                         rotate_left
                         ·
                          simp only [Act.put, aput]
                          rfl
                         refine pure_ (i := 9) (N := some 116) (v := ?_) (a' := ?_) (bm 13 991) rfl rfl (any_of HT_.out (by kernel_rfl)) (fun _ _ _ h => h) (Or.inl ⟨by rfl, ?_⟩) ?_ ?_
                         rotate_left
                         ·
                          intro w'
                          go_simp
                          with_reducible rfl
                         rotate_left
                         ·
                          simp only [Act.put, aput]
                          rfl
                         refine take_ (i := 5) (N := some 112) (v := ?_) (a' := ?_) (bm 13 1023) rfl rfl (take_ofW HT_.out HW_.out (by kernel_rfl)) (fun _ _ _ h => h) (Or.inl ⟨by rfl, ?_⟩) hH ?_ ?_
                         rotate_left
                         ·
                          intro w' s0
                          go_simp
                          with_reducible rfl
                         rotate_left
                         ·
                          simp only [Act.put, aput]
                          rfl
                         refine take_ (i := 10) (N := some 117) (v := ?_) (a' := ?_) (bm 13 2047) rfl rfl (take_ofW HT_.out HW_.out (by kernel_rfl)) (fun _ _ _ h => h) (Or.inl ⟨by rfl, ?_⟩) hH ?_ ?_
                         rotate_left
                         ·
                          intro w' s0
                          go_simp
                          with_reducible rfl
                         rotate_left
                         ·
                          simp only [Act.put, aput]
                          rfl
                         refine pure_ (i := 11) (N := some 118) (v := ?_) (a' := ?_) (bm 13 4095) rfl rfl (any_of HT_.out (by kernel_rfl)) (fun _ _ _ h => h) (Or.inl ⟨by rfl, ?_⟩) ?_ ?_
                         rotate_left
                         ·
                          intro w'
                          go_simp
                          with_reducible rfl
                         rotate_left
                         ·
                          simp only [Act.put, aput]
                          rfl
                         refine pure_ (i := 12) (N := some 119) (v := ?_) (a' := ?_) (bm 13 8191) rfl rfl (any_of HT_.out (by kernel_rfl)) (fun _ _ _ h => h) (Or.inl ⟨by rfl, ?_⟩) ?_ ?_
                         rotate_left
                         ·
                          intro w'
                          go_simp
                          with_reducible rfl
                         rotate_left
                         ·
                          simp only [Act.put, aput]
                          rfl
                         refine done_ (done_of HT_.out (by kernel_rfl)) ?_
                         try go_wp2
                         go_roundg k5
                         case measure => have := HK1.out; have := HJ6.out; have := HK3.out; have := HJ27.out; have := HK5.out; omega
                         case rel => exact ⟨(x9_5), (wrap64 (x10_3 + 1)), (by first|rfl|(simp; done)|(simp [*]; done)), (by first|rfl|(simp; done)|(simp [*]; done)), H', ⟨by have := HK1.out; have := HJ6.out; have := HK3.out; have := HJ27.out; have := HK5.out; omega⟩, ⟨by (with_reducible repeat (first|apply Kd.R_alloc|apply Kd.R_drewN|apply Kd.R_drew)); exact HO_3.out⟩, ⟨by (with_reducible repeat (first|apply Kd.Mp_alloc|apply Kd.Mp_drewN|apply Kd.Mp_drew)); exact HO_4.out⟩, ⟨by (with_reducible repeat (first|apply Kd.R_alloc|apply Kd.R_drewN|apply Kd.R_drew)); exact HO_8.out⟩, ⟨by repeat (first|(with_reducible first|exact HB.out|apply below_alloc|apply pw_below_drewN|apply below_drew1)|exact HB.out)⟩⟩
                       ·
                        rw [if_neg c43] at H
                        exact absurd H (by simp)
                      ·
                       rw [if_neg c42] at H
                       exact absurd H (by simp)
                  ·
                   rw [if_neg c41] at H
                   exact absurd H (by simp)
                 ·
                  rw [if_neg c40] at H
                  exact absurd H (by simp)
            ·
             rw [if_neg c27] at H
             have c27b0 : decide (x10_3 < (t178.length : Int)) = false := decide_eq_false c27
             clear c27
             by_cases c49 : x9_3 = (x4_1.length : Int)
             ·
              rw [if_pos c49] at H
              have c49b0 : (x9_3 == (x4_1.length : Int)) = true := beq_iff_eq.mpr c49
              have c49b1 : (x9_3 != (x4_1.length : Int)) = false := bne_eq_false_iff_eq.mpr c49
              clear c49
              have H' := aS H
              clear H
              obtain ⟨Ao50, co50, eo50⟩ := Kd.R_slice HO_8.out
              subst eo50
              have hml51 := mp_len (P := Try.prog) Try.underlying46 HO_4.out
              go_wp2
              go_loopg [12] k3 (fun kq v12 w' => ∃ (x12_4 : Int), v12 = .int .i64 x12_4 ∧ Aside0 (graverlaw02_SpanUnions.l4 kq x3_1 x12_4 = some r) ∧ Aside0 (kq ≤ k3) ∧ Aside0 (Kd.R k29 29 w' w.heap.size (fun _ => True) (.slice Ao25 x3_1.length co25) x3_1) ∧ Aside0 (Below w.heap.size w w'))
              case atStart => exact ⟨(0), (by first|rfl|(simp; done)|(simp [*]; done)), H', ⟨Nat.le_refl _⟩, ⟨by (with_reducible repeat (first|apply Kd.R_alloc|apply Kd.R_drewN|apply Kd.R_drew)); exact Kd.R_mono HO_3.out (fun _ hk => trivial)⟩, ⟨by repeat (first|(with_reducible first|exact HB.out|apply below_alloc|apply pw_below_drewN|apply below_drew1)|exact HB.out)⟩⟩
              case round =>
               clear H'
               try clear p1
               try clear q1
               try clear hx1
               try clear c2
               try clear p2
               try clear c3
               try clear c4
               try clear p6
               try clear p18
               try clear q18
               try clear hx18
               try clear c27
               try clear c27b0
               try clear c30
               try clear c31
               try clear c31b0
               try clear c31b1
               try clear c33
               try clear c33b0
               try clear c35
               try clear c35b0
               try clear c36
               try clear c36b0
               try clear c39
               try clear c40
               try clear c40b0
               try clear c41
               try clear c41b0
               try clear c42
               try clear c42b0
               try clear c43
               try clear c43b0
               try clear c44
               try clear c44b0
               try clear c45
               try clear c45b0
               try clear c49
               try clear c49b0
               try clear c49b1
               try clear hx181_0
               try clear hx181_1
               try clear hx182_0
               try clear hx182_1
               try clear hx183_0
               try clear hx183_1
               try clear hx184_0
               try clear hx184_1
               try clear hx185_0
               try clear hx185_1
               try clear hx186_0
               try clear hx186_1
               try clear hx187_0
               try clear hx187_1
               try clear p1
               try clear p18
               try clear p181
               try clear p182
               try clear p183
               try clear p184
               try clear p185
               try clear p186
               try clear p187
               try clear p2
               try clear p6
               try clear q1
               try clear q18
               try clear q181
               try clear q182
               try clear q183
               try clear q184
               try clear q185
               try clear q186
               try clear q187
               obtain ⟨x12_4, rfl, HA, HK4, HO_3, HB⟩ := hrel
               cases gk with
               | zero => exact absurd HA.out (by simp [graverlaw02_SpanUnions.l4])
               | succ k4 =>
                as_aux_lemma =>
                 have H := HA.out
                 clear HA
                 simp only [graverlaw02_SpanUnions.l4] at H
                 by_cases c52 : x12_4 < (x3_1.length : Int)
                 ·
                  rw [if_pos c52] at H
                  have c52b0 : decide (x12_4 < (x3_1.length : Int)) = true := decide_eq_true c52
                  clear c52
                  have H' := aS H
                  clear H
                  go_wp2
                  go_loopg [13] k4 (fun kq v13 w' => ∃ (x13_5 : Int), v13 = .int .i64 x13_5 ∧ Aside0 (graverlaw02_SpanUnions.l5 kq x3_1 x12_4 x13_5 = some r) ∧ Aside0 (kq ≤ k4) ∧ Aside0 (Kd.R k29 29 w' w.heap.size (fun _ => True) (.slice Ao25 x3_1.length co25) x3_1) ∧ Aside0 (Below w.heap.size w w'))
                  case atStart => exact ⟨(0), (by first|rfl|(simp; done)|(simp [*]; done)), H', ⟨Nat.le_refl _⟩, ⟨by (with_reducible repeat (first|apply Kd.R_alloc|apply Kd.R_drewN|apply Kd.R_drew)); exact HO_3.out⟩, ⟨by repeat (first|(with_reducible first|exact HB.out|apply below_alloc|apply pw_below_drewN|apply below_drew1)|exact HB.out)⟩⟩
                  case round =>
                   clear H'
                   try clear p1
                   try clear q1
                   try clear hx1
                   try clear c2
                   try clear p2
                   try clear c3
                   try clear c4
                   try clear c5
                   try clear p6
                   try clear p18
                   try clear q18
                   try clear hx18
                   try clear c27
                   try clear c27b0
                   try clear c30
                   try clear c31
                   try clear c31b0
                   try clear c31b1
                   try clear c33
                   try clear c33b0
                   try clear c35
                   try clear c35b0
                   try clear c36
                   try clear c36b0
                   try clear c39
                   try clear c40
                   try clear c40b0
                   try clear c41
                   try clear c41b0
                   try clear c42
                   try clear c42b0
                   try clear c43
                   try clear c43b0
                   try clear c44
                   try clear c44b0
                   try clear c45
                   try clear c45b0
                   try clear c49
                   try clear c49b0
                   try clear c49b1
                   try clear c52
                   try clear c52b0
                   try clear hx181_0
                   try clear hx181_1
                   try clear hx182_0
                   try clear hx182_1
                   try clear hx183_0
                   try clear hx183_1
                   try clear hx184_0
                   try clear hx184_1
                   try clear hx185_0
                   try clear hx185_1
                   try clear hx186_0
                   try clear hx186_1
                   try clear hx187_0
                   try clear hx187_1
                   try clear p1
                   try clear p18
                   try clear p181
                   try clear p182
                   try clear p183
                   try clear p184
                   try clear p185
                   try clear p186
                   try clear p187
                   try clear p2
                   try clear p6
                   try clear q1
                   try clear q18
                   try clear q181
                   try clear q182
                   try clear q183
                   try clear q184
                   try clear q185
                   try clear q186
                   try clear q187
                   obtain ⟨x13_5, rfl, HA, HK5, HO_3, HB⟩ := hrel
                   cases gk with
                   | zero => exact absurd HA.out (by simp [graverlaw02_SpanUnions.l5])
                   | succ k5 =>
                    as_aux_lemma =>
                     have H := HA.out
                     clear HA
                     simp only [graverlaw02_SpanUnions.l5] at H
                     by_cases c53 : x13_5 < (x3_1.length : Int)
                     ·
                      rw [if_pos c53] at H
                      have c53b0 : decide (x13_5 < (x3_1.length : Int)) = true := decide_eq_true c53
                      clear c53
                      by_cases c54 : 0 ≤ x12_4
                      ·
                       rw [if_pos c54] at H
                       have c54b0 : decide (0 ≤ x12_4) = true := decide_eq_true c54
                       clear c54
                       by_cases c55 : x12_4 < (x3_1.length : Int)
                       ·
                        rw [if_pos c55] at H
                        have c55b0 : decide (x12_4 < (x3_1.length : Int)) = true := decide_eq_true c55
                        clear c55
                        by_cases c56 : 0 ≤ x13_5
                        ·
                         rw [if_pos c56] at H
                         have c56b0 : decide (0 ≤ x13_5) = true := decide_eq_true c56
                         clear c56
                         replace H := Option.bind_eq_some_iff.mp H
                         obtain ⟨⟨t190, t191, t192⟩, A570, H⟩ := H
                         replace H : (if (mx ((rd_T29 x3_1 x12_4).f0) ((rd_T29 x3_1 x13_5).f0)) < (mn (IntKind.u64.wrap (((rd_T29 x3_1 x12_4).f0) + ((rd_T29 x3_1 x12_4).f1))) (IntKind.u64.wrap (((rd_T29 x3_1 x13_5).f0) + ((rd_T29 x3_1 x13_5).f1)))) then (if t192 = true then (if t190 = (mx ((rd_T29 x3_1 x12_4).f0) ((rd_T29 x3_1 x13_5).f0)) then (if t191 = (IntKind.u64.wrap ((mn (IntKind.u64.wrap (((rd_T29 x3_1 x12_4).f0) + ((rd_T29 x3_1 x12_4).f1))) (IntKind.u64.wrap (((rd_T29 x3_1 x13_5).f0) + ((rd_T29 x3_1 x13_5).f1)))) - (mx ((rd_T29 x3_1 x12_4).f0) ((rd_T29 x3_1 x13_5).f0)))) then (graverlaw02_SpanUnions.l5 k5 x3_1 x12_4 (wrap64 (x13_5 + 1))) else (some false)) else (some false)) else (some false)) else (if t192 = true then (some false) else (if (!(t190 == 0) || (!(t191 == 0))) = true then (some false) else (graverlaw02_SpanUnions.l5 k5 x3_1 x12_4 (wrap64 (x13_5 + 1)))))) = some r := H
                         have A57 := aS A570
                         clear A570
                         obtain ⟨ji58, hji58⟩ : ∃ j_ : Int, (mx ((rd_T29 x3_1 x12_4).f0) ((rd_T29 x3_1 x13_5).f0)) = j_ := ⟨_, rfl⟩
                         replace H : (if (ji58) < (mn (IntKind.u64.wrap (((rd_T29 x3_1 x12_4).f0) + ((rd_T29 x3_1 x12_4).f1))) (IntKind.u64.wrap (((rd_T29 x3_1 x13_5).f0) + ((rd_T29 x3_1 x13_5).f1)))) then (if t192 = true then (if t190 = (ji58) then (if t191 = (IntKind.u64.wrap ((mn (IntKind.u64.wrap (((rd_T29 x3_1 x12_4).f0) + ((rd_T29 x3_1 x12_4).f1))) (IntKind.u64.wrap (((rd_T29 x3_1 x13_5).f0) + ((rd_T29 x3_1 x13_5).f1)))) - (ji58))) then (graverlaw02_SpanUnions.l5 k5 x3_1 x12_4 (wrap64 (x13_5 + 1))) else (some false)) else (some false)) else (some false)) else (if t192 = true then (some false) else (if (!(t190 == 0) || (!(t191 == 0))) = true then (some false) else (graverlaw02_SpanUnions.l5 k5 x3_1 x12_4 (wrap64 (x13_5 + 1)))))) = some r := by first | (rw [hji58] at H; exact H) | (simp only [hji58] at H ⊢; exact H)
                         (try rw [hji58] at A57)
                         have hji58_ : (if ((rd_T29 x3_1 x12_4).f0) < ((rd_T29 x3_1 x13_5).f0) then ((rd_T29 x3_1 x13_5).f0) else ((rd_T29 x3_1 x12_4).f0)) = ji58 := hji58
                         obtain ⟨ji59, hji59⟩ : ∃ j_ : Int, (mn (IntKind.u64.wrap (((rd_T29 x3_1 x12_4).f0) + ((rd_T29 x3_1 x12_4).f1))) (IntKind.u64.wrap (((rd_T29 x3_1 x13_5).f0) + ((rd_T29 x3_1 x13_5).f1)))) = j_ := ⟨_, rfl⟩
                         replace H : (if (ji58) < (ji59) then (if t192 = true then (if t190 = (ji58) then (if t191 = (IntKind.u64.wrap ((ji59) - (ji58))) then (graverlaw02_SpanUnions.l5 k5 x3_1 x12_4 (wrap64 (x13_5 + 1))) else (some false)) else (some false)) else (some false)) else (if t192 = true then (some false) else (if (!(t190 == 0) || (!(t191 == 0))) = true then (some false) else (graverlaw02_SpanUnions.l5 k5 x3_1 x12_4 (wrap64 (x13_5 + 1)))))) = some r := by first | (rw [hji59] at H; exact H) | (simp only [hji59] at H ⊢; exact H)
                         (try rw [hji59] at A57)
                         have hji59_ : (if (IntKind.u64.wrap (((rd_T29 x3_1 x13_5).f0) + ((rd_T29 x3_1 x13_5).f1))) < (IntKind.u64.wrap (((rd_T29 x3_1 x12_4).f0) + ((rd_T29 x3_1 x12_4).f1))) then (IntKind.u64.wrap (((rd_T29 x3_1 x13_5).f0) + ((rd_T29 x3_1 x13_5).f1))) else (IntKind.u64.wrap (((rd_T29 x3_1 x12_4).f0) + ((rd_T29 x3_1 x12_4).f1)))) = ji59 := hji59
                         by_cases c60 : (ji58) < (ji59)
                         ·
                          rw [if_pos c60] at H
                          have c60b0 : decide ((ji58) < (ji59)) = true := decide_eq_true c60
                          clear c60
                          by_cases c61 : t192 = true
                          ·
                           subst c61
                           have H1 : (if t190 = (ji58) then (if t191 = (IntKind.u64.wrap ((ji59) - (ji58))) then (graverlaw02_SpanUnions.l5 k5 x3_1 x12_4 (wrap64 (x13_5 + 1))) else (some false)) else (some false)) = some r := by rw [if_pos rfl] at H; exact H
                           clear H
                           have H := H1
                           clear H1
                           by_cases c62 : t190 = (ji58)
                           ·
                            rw [if_pos c62] at H
                            have c62b0 : (t190 == (ji58)) = true := beq_iff_eq.mpr c62
                            have c62b1 : (t190 != (ji58)) = false := bne_eq_false_iff_eq.mpr c62
                            clear c62
                            by_cases c63 : t191 = (IntKind.u64.wrap ((ji59) - (ji58)))
                            ·
                             rw [if_pos c63] at H
                             have c63b0 : (t191 == (IntKind.u64.wrap ((ji59) - (ji58)))) = true := beq_iff_eq.mpr c63
                             have c63b1 : (t191 != (IntKind.u64.wrap ((ji59) - (ji58)))) = false := bne_eq_false_iff_eq.mpr c63
                             clear c63
                             have H' := aS H
                             clear H
                             try go_wp2
                             have n0_ := aS (Kd.R_drew HO_3.out)
                             have n1_ := aS (below_drew1 HB.out)
                             clear HO_3
                             clear HB
                             have HO_3 := n0_
                             have HB := n1_
                             clear n0_ n1_
                             have p188 : 0 ≤ (x12_4 : Int) := of_decide_eq_true (by first | (with_reducible assumption) | assumption)
                             have q188 : x12_4 < (x3_1.length : Int) := of_decide_eq_true (by first | (with_reducible assumption) | assumption)
                             obtain ⟨ad188, e188, hx188_0, hx188_1⟩ := at_T29 (Kd.R_reads' HO_3.out).2.2 x12_4 p188 q188
                             cases e188
                             replace p188 := eq_true p188
                             replace q188 := eq_true q188
                             have p189 : 0 ≤ (x13_5 : Int) := of_decide_eq_true (by first | (with_reducible assumption) | assumption)
                             have q189 : x13_5 < (x3_1.length : Int) := of_decide_eq_true (by first | (with_reducible assumption) | assumption)
                             obtain ⟨ad189, e189, hx189_0, hx189_1⟩ := at_T29 (Kd.R_reads' HO_3.out).2.2 x13_5 p189 q189
                             obtain rfl : ad188 = ad189 := (by injection e189)
                             replace p189 := eq_true p189
                             replace q189 := eq_true q189
                             refine start_ (n := 15) (S := fun w' => w'.cell? (ad188.add ((x12_4).toNat * 2)) = some (.int .u64 ((rd_T29 x3_1 x12_4).f0)) ∧ w'.cell? ⟨(ad188.add ((x12_4).toNat * 2)).block, (ad188.add ((x12_4).toNat * 2)).off + 1, none⟩ = some (.int .u64 ((rd_T29 x3_1 x12_4).f1)) ∧ w'.cell? (ad188.add ((x13_5).toNat * 2)) = some (.int .u64 ((rd_T29 x3_1 x13_5).f0)) ∧ w'.cell? ⟨(ad188.add ((x13_5).toNat * 2)).block, (ad188.add ((x13_5).toNat * 2)).off + 1, none⟩ = some (.int .u64 ((rd_T29 x3_1 x13_5).f1))) (ds := []) #[false, false, false, false, false, false, false, false, false, false, false, false, false, false, false] (by kernel_rfl) rfl rfl ⟨hx188_0, hx188_1, hx189_0, hx189_1⟩ (fun hH => ?_); refine with_tabW graverlaw02_SpanUnions.tab35 graverlaw02_SpanUnions.bits35 (fun HT_ HW_ => ?_)
                             generalize wr.drew = w64 at HO_3 HB hx188_0 hx188_1 hx189_0 hx189_1 hH ⊢
                             refine pure_ (i := 0) (N := some 145) (v := ?_) (a' := ?_) (bm 15 1) rfl rfl (any_of HT_.out (by kernel_rfl)) (fun _ _ _ h => h) (Or.inl ⟨by rfl, ?_⟩) ?_ ?_
                             rotate_left
                             ·
                              intro w'
                              go_simp
                              with_reducible rfl
                             rotate_left
                             ·
                              simp only [Act.put, aput]
                              rfl
                             refine pure_ (i := 1) (N := some 146) (v := ?_) (a' := ?_) (bm 15 3) rfl rfl (any_of HT_.out (by kernel_rfl)) (fun _ _ _ h => h) (Or.inl ⟨by rfl, ?_⟩) ?_ ?_
                             rotate_left
                             ·
                              intro w'
                              go_simp
                              with_reducible rfl
                             rotate_left
                             ·
                              simp only [Act.put, aput]
                              rfl
                             refine pure_ (i := 2) (N := some 147) (v := ?_) (a' := ?_) (bm 15 7) rfl rfl (any_of HT_.out (by kernel_rfl)) (fun _ _ _ h => h) (Or.inl ⟨by rfl, ?_⟩) ?_ ?_
                             rotate_left
                             ·
                              intro w'
                              go_simp
                              with_reducible rfl
                             rotate_left
                             ·
                              simp only [Act.put, aput]
                              rfl
                             refine pure_ (i := 4) (N := some 149) (v := ?_) (a' := ?_) (bm 15 23) rfl rfl (any_of HT_.out (by kernel_rfl)) (fun _ _ _ h => h) (Or.inl ⟨by rfl, ?_⟩) ?_ ?_
                             rotate_left
                             ·
                              intro w'
                              go_simp
                              with_reducible rfl
                             rotate_left
                             ·
                              simp only [Act.put, aput]
                              rfl
                             refine pure_ (i := 5) (N := some 150) (v := ?_) (a' := ?_) (bm 15 55) rfl rfl (any_of HT_.out (by kernel_rfl)) (fun _ _ _ h => h) (Or.inl ⟨by rfl, ?_⟩) ?_ ?_
                             rotate_left
                             ·
                              intro w'
                              go_simp
                              with_reducible rfl
                             rotate_left
                             ·
                              simp only [Act.put, aput]
                              rfl
                             refine pure_ (i := 6) (N := some 151) (v := ?_) (a' := ?_) (bm 15 119) rfl rfl (any_of HT_.out (by kernel_rfl)) (fun _ _ _ h => h) (Or.inl ⟨by rfl, ?_⟩) ?_ ?_
                             rotate_left
                             ·
                              intro w'
                              go_simp
                              with_reducible rfl
                             rotate_left
                             ·
                              simp only [Act.put, aput]
                              rfl
                             refine take_ (i := 3) (N := some 148) (v := ?_) (a' := ?_) (bm 15 127) rfl rfl (take_ofW HT_.out HW_.out (by kernel_rfl)) (fun _ _ _ h => h) (Or.inl ⟨by rfl, ?_⟩) hH ?_ ?_
                             rotate_left
                             ·
                              intro w' s0
                              go_simp
                              with_reducible rfl
                             rotate_left
                             ·
                              simp only [Act.put, aput]
                              rfl
                             refine take_ (i := 7) (N := some 152) (v := ?_) (a' := ?_) (bm 15 255) rfl rfl (take_ofW HT_.out HW_.out (by kernel_rfl)) (fun _ _ _ h => h) (Or.inl ⟨by rfl, ?_⟩) hH ?_ ?_
                             rotate_left
                             ·
                              intro w' s0
                              go_simp
                              with_reducible rfl
                             rotate_left
                             ·
                              simp only [Act.put, aput]
                              rfl
                             refine join_ (σ := Nat) 2 (bm 15 8191) (fun s_ => [(153, .tuple #[.agg #[.int .u64 t190, .int .u64 t191], .bool true]), (14, .pointer (some ⟨s_, 0, none⟩)), (144, .tuple #[.agg #[.int .u64 t190, .int .u64 t191], .bool true]), (154, .agg #[.int .u64 t190, .int .u64 t191]), (155, .bool true)]) (fun s_ w' => (w'.cell? (ad188.add ((x12_4).toNat * 2)) = some (.int .u64 ((rd_T29 x3_1 x12_4).f0)) ∧ w'.cell? ⟨(ad188.add ((x12_4).toNat * 2)).block, (ad188.add ((x12_4).toNat * 2)).off + 1, none⟩ = some (.int .u64 ((rd_T29 x3_1 x12_4).f1)) ∧ w'.cell? (ad188.add ((x13_5).toNat * 2)) = some (.int .u64 ((rd_T29 x3_1 x13_5).f0)) ∧ w'.cell? ⟨(ad188.add ((x13_5).toNat * 2)).block, (ad188.add ((x13_5).toNat * 2)).off + 1, none⟩ = some (.int .u64 ((rd_T29 x3_1 x13_5).f1))) ∧ (Kd.R k29 29 w' w.heap.size (fun k_ => k_ ≠ s_) (.slice (some ad188) x3_1.length co25) x3_1) ∧ (w'.heap[s_]? = some (.cells #[.int .u64 0, .int .u64 0] 29 (0, 0))) ∧ (w.heap.size ≤ s_) ∧ (w.heap.size ≤ s_) ∧ (Below w.heap.size w w')) ?_ ?_
                             rotate_left
                             ·
                              intro hCont
                              refine two_ (i := 8) (j := 12) (Ni := some 153) (Nj := some 14) (bm 15 511) (bm 15 4351) rfl rfl rfl rfl (two_of HT_.out (by kernel_rfl)) (by decide) (by decide) (fun K hK => ?_) (fun K hK => ?_)
                              ·
                               skip
                               refine goes_ Try.func20 (by kernel_rfl) rfl #[.agg #[.int .u64 ((rd_T29 x3_1 x12_4).f0), .int .u64 ((rd_T29 x3_1 x12_4).f1)], .agg #[.int .u64 ((rd_T29 x3_1 x13_5).f0), .int .u64 ((rd_T29 x3_1 x13_5).f1)]] (by rfl) rfl rfl (by (try simp only [List.map_toArray, List.map_cons, List.map_nil]); first | done | rfl | (simp only [List.length_drop, List.length_take]; rfl)) ?_
                               with_reducible refine (span_Common.calls k5 ((rd_T29 x3_1 x12_4).f0) ((rd_T29 x3_1 x12_4).f1) ((rd_T29 x3_1 x13_5).f0) ((rd_T29 x3_1 x13_5).f1) t190 t191 true _ A57.out).mono ?_
                               rintro e w65 ⟨rfl, hb⟩
                               have HS0_ := (hb.cell (World.block_lt_of_cell? _ _ (hH.1))).trans (hH.1)
                               have HS1_ := (hb.cell (World.block_lt_of_cell? _ _ (hH.2.1))).trans (hH.2.1)
                               have HS2_ := (hb.cell (World.block_lt_of_cell? _ _ (hH.2.2.1))).trans (hH.2.2.1)
                               have HS3_ := (hb.cell (World.block_lt_of_cell? _ _ (hH.2.2.2))).trans (hH.2.2.2)
                               refine ⟨_, rfl, ?_⟩
                               have n0_ := aS (Kd.R_below (by (with_reducible repeat (first|apply Kd.R_alloc|apply Kd.R_drewN|apply Kd.R_drew)); exact HO_3.out) hb)
                               have n1_ := aS (below_step (by repeat (first|(with_reducible first|exact HB.out|apply below_alloc|apply pw_below_drewN|apply below_drew1)|exact HB.out)) hb)
                               clear HO_3
                               clear HB
                               have HO_3 := n0_
                               have HB := n1_
                               clear n0_ n1_
                               (try clear hb)
                               (try clear hb2)
                               (try clear hk)
                               (try clear hi)
                               refine hK.out _ _ ⟨HS0_, HS1_, HS2_, HS3_⟩ (fun hH => ?_)
                               clear hK K
                               refine norm_ (a' := ?_) ?_ ?_
                               rotate_left
                               ·
                                show Act.put _ (some 153) _ = _
                                simp only [Act.put, aput]
                                rfl
                               refine pure_ (i := 9) (N := some 144) (v := ?_) (a' := ?_) (bm 15 1023) rfl rfl (any_of HT_.out (by kernel_rfl)) (fun _ _ _ h => h) (Or.inl ⟨by rfl, ?_⟩) ?_ ?_
                               rotate_left
                               ·
                                intro w'
                                go_simp
                                with_reducible rfl
                               rotate_left
                               ·
                                simp only [Act.put, aput]
                                rfl
                               refine pure_ (i := 10) (N := some 154) (v := ?_) (a' := ?_) (bm 15 2047) rfl rfl (any_of HT_.out (by kernel_rfl)) (fun _ _ _ h => h) (Or.inl ⟨by rfl, ?_⟩) ?_ ?_
                               rotate_left
                               ·
                                intro w'
                                go_simp
                                with_reducible rfl
                               rotate_left
                               ·
                                simp only [Act.put, aput]
                                rfl
                               refine pure_ (i := 11) (N := some 155) (v := ?_) (a' := ?_) (bm 15 4095) rfl rfl (any_of HT_.out (by kernel_rfl)) (fun _ _ _ h => h) (Or.inl ⟨by rfl, ?_⟩) ?_ ?_
                               rotate_left
                               ·
                                intro w'
                                go_simp
                                with_reducible rfl
                               rotate_left
                               ·
                                simp only [Act.put, aput]
                                rfl
                               refine one_ (i := 12) (N := some 14) (bm 15 8191) rfl rfl (one_of HT_.out (by kernel_rfl)) (by decide) (fun K hK => ?_)
                               refine box_step ?hg (N := 14) ?hd (cs := #[.int .u64 0, .int .u64 0]) (t := 29) ?hr ?_; (case hd => rfl); (case hg => rfl); (case hr => (go_simp; try rfl))
                               intro gb193 hg w66 hbox hb
                               have HS0_ := (hb.cell (World.block_lt_of_cell? _ _ (hH.1))).trans (hH.1)
                               have HS1_ := (hb.cell (World.block_lt_of_cell? _ _ (hH.2.1))).trans (hH.2.1)
                               have HS2_ := (hb.cell (World.block_lt_of_cell? _ _ (hH.2.2.1))).trans (hH.2.2.1)
                               have HS3_ := (hb.cell (World.block_lt_of_cell? _ _ (hH.2.2.2))).trans (hH.2.2.2)
                               have n0_ := aS (Kd.R_below (Kd.R_elderB (by (with_reducible repeat (first|apply Kd.R_alloc|apply Kd.R_drewN|apply Kd.R_drew)); exact HO_3.out) gb193 (Nat.le_of_eq hg.symm)) hb)
                               have n1_ := aS (below_step (by repeat (first|(with_reducible first|exact HB.out|apply below_alloc|apply pw_below_drewN|apply below_drew1)|exact HB.out)) hb)
                               have n2_ := aS (hbox)
                               have n3_ := aS ((by rw [hg]; exact (below_size (by repeat (first|(with_reducible first|exact HB.out|apply below_alloc|apply pw_below_drewN|apply below_drew1)|exact HB.out))) : w.heap.size ≤ gb193))
                               have n4_ := aS ((by rw [hg]; exact (below_size (by repeat (first|(with_reducible first|exact HB.out|apply below_alloc|apply pw_below_drewN|apply below_drew1)|exact HB.out))) : w.heap.size ≤ gb193))
                               clear HO_3
                               clear HB
                               have HO_3 := n0_
                               have HB := n1_
                               have BK193 := n2_
                               have GW193 := n3_
                               have GE193 := n4_
                               clear n0_ n1_ n2_ n3_ n4_
                               clear hb hbox hg
                               refine hK.out _ _ ⟨HS0_, HS1_, HS2_, HS3_⟩ (fun hH => ?_)
                               clear hK K
                               refine norm_ (a' := ?_) ?_ ?_
                               rotate_left
                               ·
                                show Act.put _ (some 14) _ = _
                                simp only [Act.put, aput]
                                rfl
                               exact norm_ (by simp only [putAll, Act.put, List.setIfInBounds_toArray, List.set_cons_zero, List.set_cons_succ]) (hCont (gb193) _ ⟨hH, (by (with_reducible repeat (first|apply Kd.R_alloc|apply Kd.R_drewN|apply Kd.R_drew)); exact Kd.R_mono HO_3.out (fun _ hk => hk.2)), (by (with_reducible repeat (first|apply bN|apply bD|apply bA)); exact BK193.out), GW193.out, GE193.out, (by repeat (first|(with_reducible first|exact HB.out|apply eA|apply eN|apply eD|refine below_set ?_ GE193.out)|exact HB.out))⟩)
                              ·
                               skip
                               refine box_step ?hg (N := 14) ?hd (cs := #[.int .u64 0, .int .u64 0]) (t := 29) ?hr ?_; (case hd => rfl); (case hg => rfl); (case hr => (go_simp; try rfl))
                               intro gb193 hg w65 hbox hb
                               have HS0_ := (hb.cell (World.block_lt_of_cell? _ _ (hH.1))).trans (hH.1)
                               have HS1_ := (hb.cell (World.block_lt_of_cell? _ _ (hH.2.1))).trans (hH.2.1)
                               have HS2_ := (hb.cell (World.block_lt_of_cell? _ _ (hH.2.2.1))).trans (hH.2.2.1)
                               have HS3_ := (hb.cell (World.block_lt_of_cell? _ _ (hH.2.2.2))).trans (hH.2.2.2)
                               have n0_ := aS (Kd.R_below (Kd.R_elderB (by (with_reducible repeat (first|apply Kd.R_alloc|apply Kd.R_drewN|apply Kd.R_drew)); exact HO_3.out) gb193 (Nat.le_of_eq hg.symm)) hb)
                               have n1_ := aS (below_step (by repeat (first|(with_reducible first|exact HB.out|apply below_alloc|apply pw_below_drewN|apply below_drew1)|exact HB.out)) hb)
                               have n2_ := aS (hbox)
                               have n3_ := aS ((by rw [hg]; exact (below_size (by repeat (first|(with_reducible first|exact HB.out|apply below_alloc|apply pw_below_drewN|apply below_drew1)|exact HB.out))) : w.heap.size ≤ gb193))
                               have n4_ := aS ((by rw [hg]; exact (below_size (by repeat (first|(with_reducible first|exact HB.out|apply below_alloc|apply pw_below_drewN|apply below_drew1)|exact HB.out))) : w.heap.size ≤ gb193))
                               clear HO_3
                               clear HB
                               have HO_3 := n0_
                               have HB := n1_
                               have BK193 := n2_
                               have GW193 := n3_
                               have GE193 := n4_
                               clear n0_ n1_ n2_ n3_ n4_
                               clear hb hbox hg
                               refine hK.out _ _ ⟨HS0_, HS1_, HS2_, HS3_⟩ (fun hH => ?_)
                               clear hK K
                               refine norm_ (a' := ?_) ?_ ?_
                               rotate_left
                               ·
                                show Act.put _ (some 14) _ = _
                                simp only [Act.put, aput]
                                rfl
                               refine one_ (i := 8) (N := some 153) (bm 15 4607) rfl rfl (one_of HT_.out (by kernel_rfl)) (by decide) (fun K hK => ?_)
                               refine goes_ Try.func20 (by kernel_rfl) rfl #[.agg #[.int .u64 ((rd_T29 x3_1 x12_4).f0), .int .u64 ((rd_T29 x3_1 x12_4).f1)], .agg #[.int .u64 ((rd_T29 x3_1 x13_5).f0), .int .u64 ((rd_T29 x3_1 x13_5).f1)]] (by rfl) rfl rfl (by (try simp only [List.map_toArray, List.map_cons, List.map_nil]); first | done | rfl | (simp only [List.length_drop, List.length_take]; rfl)) ?_
                               with_reducible refine (span_Common.calls k5 ((rd_T29 x3_1 x12_4).f0) ((rd_T29 x3_1 x12_4).f1) ((rd_T29 x3_1 x13_5).f0) ((rd_T29 x3_1 x13_5).f1) t190 t191 true _ A57.out).mono ?_
                               rintro e w66 ⟨rfl, hb⟩
                               have HS0_ := (hb.cell (World.block_lt_of_cell? _ _ (hH.1))).trans (hH.1)
                               have HS1_ := (hb.cell (World.block_lt_of_cell? _ _ (hH.2.1))).trans (hH.2.1)
                               have HS2_ := (hb.cell (World.block_lt_of_cell? _ _ (hH.2.2.1))).trans (hH.2.2.1)
                               have HS3_ := (hb.cell (World.block_lt_of_cell? _ _ (hH.2.2.2))).trans (hH.2.2.2)
                               refine ⟨_, rfl, ?_⟩
                               have n0_ := aS (Kd.R_below (by (with_reducible repeat (first|apply Kd.R_alloc|apply Kd.R_drewN|apply Kd.R_drew)); exact HO_3.out) hb)
                               have n1_ := aS (blk_below (g := gb193) (o := .cells #[.int .u64 0, .int .u64 0] 29 (0, 0)) (by (with_reducible repeat (first|apply bN|apply bD|apply bA)); exact BK193.out) hb)
                               have n2_ := aS (below_step (by repeat (first|(with_reducible first|exact HB.out|apply eA|apply eN|apply eD|refine below_set ?_ GE193.out)|exact HB.out)) hb)
                               clear HO_3
                               clear BK193
                               clear HB
                               have HO_3 := n0_
                               have BK193 := n1_
                               have HB := n2_
                               clear n0_ n1_ n2_
                               (try clear hb)
                               (try clear hb2)
                               (try clear hk)
                               (try clear hi)
                               refine hK.out _ _ ⟨HS0_, HS1_, HS2_, HS3_⟩ (fun hH => ?_)
                               clear hK K
                               refine norm_ (a' := ?_) ?_ ?_
                               rotate_left
                               ·
                                show Act.put _ (some 153) _ = _
                                simp only [Act.put, aput]
                                rfl
                               refine pure_ (i := 9) (N := some 144) (v := ?_) (a' := ?_) (bm 15 5119) rfl rfl (any_of HT_.out (by kernel_rfl)) (fun _ _ _ h => h) (Or.inl ⟨by rfl, ?_⟩) ?_ ?_
                               rotate_left
                               ·
                                intro w'
                                go_simp
                                with_reducible rfl
                               rotate_left
                               ·
                                simp only [Act.put, aput]
                                rfl
                               refine pure_ (i := 10) (N := some 154) (v := ?_) (a' := ?_) (bm 15 6143) rfl rfl (any_of HT_.out (by kernel_rfl)) (fun _ _ _ h => h) (Or.inl ⟨by rfl, ?_⟩) ?_ ?_
                               rotate_left
                               ·
                                intro w'
                                go_simp
                                with_reducible rfl
                               rotate_left
                               ·
                                simp only [Act.put, aput]
                                rfl
                               refine pure_ (i := 11) (N := some 155) (v := ?_) (a' := ?_) (bm 15 8191) rfl rfl (any_of HT_.out (by kernel_rfl)) (fun _ _ _ h => h) (Or.inl ⟨by rfl, ?_⟩) ?_ ?_
                               rotate_left
                               ·
                                intro w'
                                go_simp
                                with_reducible rfl
                               rotate_left
                               ·
                                simp only [Act.put, aput]
                                rfl
                               exact norm_ (by simp only [putAll, Act.put, List.setIfInBounds_toArray, List.set_cons_zero, List.set_cons_succ]) (hCont (gb193) _ ⟨hH, (by (with_reducible repeat (first|apply Kd.R_alloc|apply Kd.R_drewN|apply Kd.R_drew)); exact Kd.R_mono HO_3.out (fun _ hk => hk.2)), (by (with_reducible repeat (first|apply bN|apply bD|apply bA)); exact BK193.out), GW193.out, GE193.out, (by repeat (first|(with_reducible first|exact HB.out|apply eA|apply eN|apply eD|refine below_set ?_ GE193.out)|exact HB.out))⟩)
                             rintro gb193 w67 ⟨hS_, h0_, h1_, h2_, h3_, h4_⟩
                             have n0_ : Aside0 (Kd.R k29 29 w67 w.heap.size (fun k_ => k_ ≠ gb193) (.slice (some ad188) x3_1.length co25) x3_1) := ⟨h0_⟩
                             have n1_ : Aside0 (w67.heap[gb193]? = some (.cells #[.int .u64 0, .int .u64 0] 29 (0, 0))) := ⟨h1_⟩
                             have n2_ : Aside0 (w.heap.size ≤ gb193) := ⟨h2_⟩
                             have n3_ : Aside0 (w.heap.size ≤ gb193) := ⟨h3_⟩
                             have n4_ : Aside0 (Below w.heap.size w w67) := ⟨h4_⟩
                             clear HO_3
                             clear HB
                             clear h0_ h1_ h2_ h3_ h4_
                             have HO_3 := n0_
                             have BK193 := n1_
                             have GW193 := n2_
                             have GE193 := n3_
                             have HB := n4_
                             clear n0_ n1_ n2_ n3_ n4_
                             have hH : w67.cell? (ad188.add ((x12_4).toNat * 2)) = some (.int .u64 ((rd_T29 x3_1 x12_4).f0)) ∧ w67.cell? ⟨(ad188.add ((x12_4).toNat * 2)).block, (ad188.add ((x12_4).toNat * 2)).off + 1, none⟩ = some (.int .u64 ((rd_T29 x3_1 x12_4).f1)) ∧ w67.cell? (ad188.add ((x13_5).toNat * 2)) = some (.int .u64 ((rd_T29 x3_1 x13_5).f0)) ∧ w67.cell? ⟨(ad188.add ((x13_5).toNat * 2)).block, (ad188.add ((x13_5).toNat * 2)).off + 1, none⟩ = some (.int .u64 ((rd_T29 x3_1 x13_5).f1)) := hS_
                             refine norm_ (a' := ?_) ?_ ?_
                             rotate_left
                             ·
                              simp only [putAll, Act.put, List.setIfInBounds_toArray, List.set_cons_zero, List.set_cons_succ]
                              rfl
                             refine one_ (i := 13) (N := none) (bm 15 16383) rfl rfl (one_of HT_.out (by kernel_rfl)) (by decide) (fun K hK => ?_)
                             have hs68 : w67.cell? ⟨gb193, 0, none⟩ = some (.int .u64 0) := (blk_cell BK193.out 0).trans rfl
                             have hfs68 := blk_frozen BK193.out 0
                             have hs69 : w67.cell? ⟨gb193, 1, none⟩ = some (.int .u64 0) := (blk_cell BK193.out 1).trans rfl
                             have hfs69 := blk_frozen BK193.out 1
                             refine skip_ (w1 := ?_) (by rfl) rfl ?_ ?_
                             rotate_left
                             ·
                              go_simp
                              rfl
                             refine hK.out _ _ ⟨((cell_far (p := ⟨gb193, _, none⟩) (by first | exact Kd.own_blk (Kd.R_away HO_3.out (fun _ hk => hk)) | (rw [add_block]; exact Kd.own_blk (Kd.R_away HO_3.out (fun _ hk => hk))) | (show (Addr.add _ _).block ≠ _; rw [add_block]; exact Kd.own_blk (Kd.R_away HO_3.out (fun _ hk => hk))) | (dsimp only; exact Kd.own_blk (Kd.R_away HO_3.out (fun _ hk => hk)))) _).trans (((cell_far (p := ⟨gb193, _, none⟩) (by first | exact Kd.own_blk (Kd.R_away HO_3.out (fun _ hk => hk)) | (rw [add_block]; exact Kd.own_blk (Kd.R_away HO_3.out (fun _ hk => hk))) | (show (Addr.add _ _).block ≠ _; rw [add_block]; exact Kd.own_blk (Kd.R_away HO_3.out (fun _ hk => hk))) | (dsimp only; exact Kd.own_blk (Kd.R_away HO_3.out (fun _ hk => hk)))) _).trans (hH.1)))), ((cell_far (p := ⟨gb193, _, none⟩) (by first | exact Kd.own_blk (Kd.R_away HO_3.out (fun _ hk => hk)) | (rw [add_block]; exact Kd.own_blk (Kd.R_away HO_3.out (fun _ hk => hk))) | (show (Addr.add _ _).block ≠ _; rw [add_block]; exact Kd.own_blk (Kd.R_away HO_3.out (fun _ hk => hk))) | (dsimp only; exact Kd.own_blk (Kd.R_away HO_3.out (fun _ hk => hk)))) _).trans (((cell_far (p := ⟨gb193, _, none⟩) (by first | exact Kd.own_blk (Kd.R_away HO_3.out (fun _ hk => hk)) | (rw [add_block]; exact Kd.own_blk (Kd.R_away HO_3.out (fun _ hk => hk))) | (show (Addr.add _ _).block ≠ _; rw [add_block]; exact Kd.own_blk (Kd.R_away HO_3.out (fun _ hk => hk))) | (dsimp only; exact Kd.own_blk (Kd.R_away HO_3.out (fun _ hk => hk)))) _).trans (hH.2.1)))), ((cell_far (p := ⟨gb193, _, none⟩) (by first | exact Kd.own_blk (Kd.R_away HO_3.out (fun _ hk => hk)) | (rw [add_block]; exact Kd.own_blk (Kd.R_away HO_3.out (fun _ hk => hk))) | (show (Addr.add _ _).block ≠ _; rw [add_block]; exact Kd.own_blk (Kd.R_away HO_3.out (fun _ hk => hk))) | (dsimp only; exact Kd.own_blk (Kd.R_away HO_3.out (fun _ hk => hk)))) _).trans (((cell_far (p := ⟨gb193, _, none⟩) (by first | exact Kd.own_blk (Kd.R_away HO_3.out (fun _ hk => hk)) | (rw [add_block]; exact Kd.own_blk (Kd.R_away HO_3.out (fun _ hk => hk))) | (show (Addr.add _ _).block ≠ _; rw [add_block]; exact Kd.own_blk (Kd.R_away HO_3.out (fun _ hk => hk))) | (dsimp only; exact Kd.own_blk (Kd.R_away HO_3.out (fun _ hk => hk)))) _).trans (hH.2.2.1)))), ((cell_far (p := ⟨gb193, _, none⟩) (by first | exact Kd.own_blk (Kd.R_away HO_3.out (fun _ hk => hk)) | (rw [add_block]; exact Kd.own_blk (Kd.R_away HO_3.out (fun _ hk => hk))) | (show (Addr.add _ _).block ≠ _; rw [add_block]; exact Kd.own_blk (Kd.R_away HO_3.out (fun _ hk => hk))) | (dsimp only; exact Kd.own_blk (Kd.R_away HO_3.out (fun _ hk => hk)))) _).trans (((cell_far (p := ⟨gb193, _, none⟩) (by first | exact Kd.own_blk (Kd.R_away HO_3.out (fun _ hk => hk)) | (rw [add_block]; exact Kd.own_blk (Kd.R_away HO_3.out (fun _ hk => hk))) | (show (Addr.add _ _).block ≠ _; rw [add_block]; exact Kd.own_blk (Kd.R_away HO_3.out (fun _ hk => hk))) | (dsimp only; exact Kd.own_blk (Kd.R_away HO_3.out (fun _ hk => hk)))) _).trans (hH.2.2.2))))⟩ (fun hH => ?_)
                             clear hK K
                             refine pure_ (i := 14) (N := some 15) (v := ?_) (a' := ?_) (bm 15 32767) rfl rfl (any_of HT_.out (by kernel_rfl)) (fun _ _ _ h => h) (Or.inl ⟨by rfl, ?_⟩) ?_ ?_
                             rotate_left
                             ·
                              intro w'
                              go_simp
                              with_reducible rfl
                             rotate_left
                             ·
                              simp only [Act.put, aput]
                              rfl
                             refine done_ (done_of HT_.out (by kernel_rfl)) ?_
                             try go_wp2
                             have n0_ : Aside0 (Kd.R k29 29 ((w67.setCell ⟨gb193, 0, none⟩ (.int .u64 t190)).setCell ⟨gb193, 1, none⟩ (.int .u64 t191)) w.heap.size (fun k_ => k_ ≠ gb193) (.slice (some ad188) x3_1.length co25) x3_1) := ⟨by (with_reducible repeat (first|apply Kd.R_alloc|apply Kd.R_drewN|apply Kd.R_drew)); exact Kd.R_mono (Kd.R_far (p := ⟨gb193, 1, none⟩) (Kd.R_far (p := ⟨gb193, 0, none⟩) (Kd.R_mono HO_3.out (fun k_ hk => (⟨hk, hk⟩ : _ ∧ k_ ≠ gb193))) (fun _ hk => hk.2) (.int .u64 t190)) (fun _ hk => hk.2) (.int .u64 t191)) (fun _ hk => hk.1)⟩
                             have n1_ : Aside0 (((w67.setCell ⟨gb193, 0, none⟩ (.int .u64 t190)).setCell ⟨gb193, 1, none⟩ (.int .u64 t191)).heap[gb193]? = some (.cells #[.int .u64 t190, .int .u64 t191] 29 (0, 0))) := ⟨by (with_reducible repeat (first|apply bN|apply bD|apply bA)); refine blk_put (cs := #[.int .u64 t190, .int .u64 0]) ?_ 1 _ rfl; (with_reducible repeat (first|apply bN|apply bD|apply bA)); refine blk_put (cs := #[.int .u64 0, .int .u64 0]) ?_ 0 _ rfl; (with_reducible repeat (first|apply bN|apply bD|apply bA)); exact BK193.out⟩
                             have n2_ : Aside0 (Below w.heap.size w ((w67.setCell ⟨gb193, 0, none⟩ (.int .u64 t190)).setCell ⟨gb193, 1, none⟩ (.int .u64 t191))) := ⟨by repeat (first|(with_reducible first|exact HB.out|apply eA|apply eN|apply eD|refine below_set ?_ GE193.out)|exact HB.out)⟩
                             (try clear HO_3)
                             (try clear BK193)
                             (try clear HB)
                             generalize ((w67.setCell ⟨gb193, 0, none⟩ (.int .u64 t190)).setCell ⟨gb193, 1, none⟩ (.int .u64 t191)) = w70 at n0_ n1_ n2_ ⊢
                             have HO_3 := n0_
                             have BK193 := n1_
                             have HB := n2_
                             clear n0_ n1_ n2_
                             have n0_ := aS (Kd.R_drew HO_3.out)
                             have n1_ := aS (blk_drew BK193.out)
                             have n2_ := aS (below_drew1 HB.out)
                             clear HO_3
                             clear BK193
                             clear HB
                             have HO_3 := n0_
                             have BK193 := n1_
                             have HB := n2_
                             clear n0_ n1_ n2_
                             have p194 : 0 ≤ (x12_4 : Int) := of_decide_eq_true (by first | (with_reducible assumption) | assumption)
                             have q194 : x12_4 < (x3_1.length : Int) := of_decide_eq_true (by first | (with_reducible assumption) | assumption)
                             obtain ⟨ad194, e194, hx194_0, hx194_1⟩ := at_T29 (Kd.R_reads' HO_3.out).2.2 x12_4 p194 q194
                             obtain rfl : ad188 = ad194 := (by injection e194)
                             replace p194 := eq_true p194
                             replace q194 := eq_true q194
                             have p195 : 0 ≤ (x13_5 : Int) := of_decide_eq_true (by first | (with_reducible assumption) | assumption)
                             have q195 : x13_5 < (x3_1.length : Int) := of_decide_eq_true (by first | (with_reducible assumption) | assumption)
                             obtain ⟨ad195, e195, hx195_0, hx195_1⟩ := at_T29 (Kd.R_reads' HO_3.out).2.2 x13_5 p195 q195
                             obtain rfl : ad188 = ad195 := (by injection e195)
                             replace p195 := eq_true p195
                             replace q195 := eq_true q195
                             have p196 : 0 ≤ (x12_4 : Int) := of_decide_eq_true (by first | (with_reducible assumption) | assumption)
                             have q196 : x12_4 < (x3_1.length : Int) := of_decide_eq_true (by first | (with_reducible assumption) | assumption)
                             obtain ⟨ad196, e196, hx196_0, hx196_1⟩ := at_T29 (Kd.R_reads' HO_3.out).2.2 x12_4 p196 q196
                             obtain rfl : ad188 = ad196 := (by injection e196)
                             replace p196 := eq_true p196
                             replace q196 := eq_true q196
                             have p197 : 0 ≤ (x12_4 : Int) := of_decide_eq_true (by first | (with_reducible assumption) | assumption)
                             have q197 : x12_4 < (x3_1.length : Int) := of_decide_eq_true (by first | (with_reducible assumption) | assumption)
                             obtain ⟨ad197, e197, hx197_0, hx197_1⟩ := at_T29 (Kd.R_reads' HO_3.out).2.2 x12_4 p197 q197
                             obtain rfl : ad188 = ad197 := (by injection e197)
                             replace p197 := eq_true p197
                             replace q197 := eq_true q197
                             have p198 : 0 ≤ (x13_5 : Int) := of_decide_eq_true (by first | (with_reducible assumption) | assumption)
                             have q198 : x13_5 < (x3_1.length : Int) := of_decide_eq_true (by first | (with_reducible assumption) | assumption)
                             obtain ⟨ad198, e198, hx198_0, hx198_1⟩ := at_T29 (Kd.R_reads' HO_3.out).2.2 x13_5 p198 q198
                             obtain rfl : ad188 = ad198 := (by injection e198)
                             replace p198 := eq_true p198
                             replace q198 := eq_true q198
                             have p199 : 0 ≤ (x13_5 : Int) := of_decide_eq_true (by first | (with_reducible assumption) | assumption)
                             have q199 : x13_5 < (x3_1.length : Int) := of_decide_eq_true (by first | (with_reducible assumption) | assumption)
                             obtain ⟨ad199, e199, hx199_0, hx199_1⟩ := at_T29 (Kd.R_reads' HO_3.out).2.2 x13_5 p199 q199
                             obtain rfl : ad188 = ad199 := (by injection e199)
                             replace p199 := eq_true p199
                             replace q199 := eq_true q199
                             refine start_ (n := 36) (S := fun w' => w'.cell? (ad188.add ((x12_4).toNat * 2)) = some (.int .u64 ((rd_T29 x3_1 x12_4).f0)) ∧ w'.cell? ⟨(ad188.add ((x12_4).toNat * 2)).block, (ad188.add ((x12_4).toNat * 2)).off + 1, none⟩ = some (.int .u64 ((rd_T29 x3_1 x12_4).f1)) ∧ w'.cell? (ad188.add ((x13_5).toNat * 2)) = some (.int .u64 ((rd_T29 x3_1 x13_5).f0)) ∧ w'.cell? ⟨(ad188.add ((x13_5).toNat * 2)).block, (ad188.add ((x13_5).toNat * 2)).off + 1, none⟩ = some (.int .u64 ((rd_T29 x3_1 x13_5).f1)) ∧ w'.cell? (ad188.add ((x12_4).toNat * 2)) = some (.int .u64 ((rd_T29 x3_1 x12_4).f0)) ∧ w'.cell? ⟨(ad188.add ((x12_4).toNat * 2)).block, (ad188.add ((x12_4).toNat * 2)).off + 1, none⟩ = some (.int .u64 ((rd_T29 x3_1 x12_4).f1)) ∧ w'.cell? (ad188.add ((x12_4).toNat * 2)) = some (.int .u64 ((rd_T29 x3_1 x12_4).f0)) ∧ w'.cell? ⟨(ad188.add ((x12_4).toNat * 2)).block, (ad188.add ((x12_4).toNat * 2)).off + 1, none⟩ = some (.int .u64 ((rd_T29 x3_1 x12_4).f1)) ∧ w'.cell? (ad188.add ((x13_5).toNat * 2)) = some (.int .u64 ((rd_T29 x3_1 x13_5).f0)) ∧ w'.cell? ⟨(ad188.add ((x13_5).toNat * 2)).block, (ad188.add ((x13_5).toNat * 2)).off + 1, none⟩ = some (.int .u64 ((rd_T29 x3_1 x13_5).f1)) ∧ w'.cell? (ad188.add ((x13_5).toNat * 2)) = some (.int .u64 ((rd_T29 x3_1 x13_5).f0)) ∧ w'.cell? ⟨(ad188.add ((x13_5).toNat * 2)).block, (ad188.add ((x13_5).toNat * 2)).off + 1, none⟩ = some (.int .u64 ((rd_T29 x3_1 x13_5).f1))) (ds := []) #[false, false, false, false, false, false, false, false, false, false, false, false, false, false, false, false, false, false, false, false, false, false, false, false, false, false, false, false, false, false, false, false, false, false, false, false] (by kernel_rfl) rfl rfl ⟨hx194_0, hx194_1, hx195_0, hx195_1, hx196_0, hx196_1, hx197_0, hx197_1, hx198_0, hx198_1, hx199_0, hx199_1⟩ (fun hH => ?_); refine with_tabW graverlaw02_SpanUnions.tab36 graverlaw02_SpanUnions.bits36 (fun HT_ HW_ => ?_)
                             generalize w70.drew = w71 at HO_3 BK193 HB hx194_0 hx194_1 hx195_0 hx195_1 hx196_0 hx196_1 hx197_0 hx197_1 hx198_0 hx198_1 hx199_0 hx199_1 hH ⊢
                             refine pure_ (i := 0) (N := some 156) (v := ?_) (a' := ?_) (bm 36 1) rfl rfl (any_of HT_.out (by kernel_rfl)) (fun _ _ _ h => h) (Or.inl ⟨by rfl, ?_⟩) ?_ ?_
                             rotate_left
                             ·
                              intro w'
                              go_simp
                              with_reducible rfl
                             rotate_left
                             ·
                              simp only [Act.put, aput]
                              rfl
                             refine pure_ (i := 1) (N := some 157) (v := ?_) (a' := ?_) (bm 36 3) rfl rfl (any_of HT_.out (by kernel_rfl)) (fun _ _ _ h => h) (Or.inl ⟨by rfl, ?_⟩) ?_ ?_
                             rotate_left
                             ·
                              intro w'
                              go_simp
                              with_reducible rfl
                             rotate_left
                             ·
                              simp only [Act.put, aput]
                              rfl
                             refine pure_ (i := 2) (N := some 158) (v := ?_) (a' := ?_) (bm 36 7) rfl rfl (any_of HT_.out (by kernel_rfl)) (fun _ _ _ h => h) (Or.inl ⟨by rfl, ?_⟩) ?_ ?_
                             rotate_left
                             ·
                              intro w'
                              go_simp
                              with_reducible rfl
                             rotate_left
                             ·
                              simp only [Act.put, aput]
                              rfl
                             refine pure_ (i := 3) (N := some 159) (v := ?_) (a' := ?_) (bm 36 15) rfl rfl (any_of HT_.out (by kernel_rfl)) (fun _ _ _ h => h) (Or.inl ⟨by rfl, ?_⟩) ?_ ?_
                             rotate_left
                             ·
                              intro w'
                              go_simp
                              with_reducible rfl
                             rotate_left
                             ·
                              simp only [Act.put, aput]
                              rfl
                             refine pure_ (i := 5) (N := some 161) (v := ?_) (a' := ?_) (bm 36 47) rfl rfl (any_of HT_.out (by kernel_rfl)) (fun _ _ _ h => h) (Or.inl ⟨by rfl, ?_⟩) ?_ ?_
                             rotate_left
                             ·
                              intro w'
                              go_simp
                              with_reducible rfl
                             rotate_left
                             ·
                              simp only [Act.put, aput]
                              rfl
                             refine pure_ (i := 6) (N := some 162) (v := ?_) (a' := ?_) (bm 36 111) rfl rfl (any_of HT_.out (by kernel_rfl)) (fun _ _ _ h => h) (Or.inl ⟨by rfl, ?_⟩) ?_ ?_
                             rotate_left
                             ·
                              intro w'
                              go_simp
                              with_reducible rfl
                             rotate_left
                             ·
                              simp only [Act.put, aput]
                              rfl
                             refine pure_ (i := 7) (N := some 163) (v := ?_) (a' := ?_) (bm 36 239) rfl rfl (any_of HT_.out (by kernel_rfl)) (fun _ _ _ h => h) (Or.inl ⟨by rfl, ?_⟩) ?_ ?_
                             rotate_left
                             ·
                              intro w'
                              go_simp
                              with_reducible rfl
                             rotate_left
                             ·
                              simp only [Act.put, aput]
                              rfl
                             refine pure_ (i := 8) (N := some 164) (v := ?_) (a' := ?_) (bm 36 495) rfl rfl (any_of HT_.out (by kernel_rfl)) (fun _ _ _ h => h) (Or.inl ⟨by rfl, ?_⟩) ?_ ?_
                             rotate_left
                             ·
                              intro w'
                              go_simp
                              with_reducible rfl
                             rotate_left
                             ·
                              simp only [Act.put, aput]
                              rfl
                             refine pure_ (i := 11) (N := some 167) (v := ?_) (a' := ?_) (bm 36 2543) rfl rfl (any_of HT_.out (by kernel_rfl)) (fun _ _ _ h => h) (Or.inl ⟨by rfl, ?_⟩) ?_ ?_
                             rotate_left
                             ·
                              intro w'
                              go_simp
                              with_reducible rfl
                             rotate_left
                             ·
                              simp only [Act.put, aput]
                              rfl
                             refine pure_ (i := 12) (N := some 168) (v := ?_) (a' := ?_) (bm 36 6639) rfl rfl (any_of HT_.out (by kernel_rfl)) (fun _ _ _ h => h) (Or.inl ⟨by rfl, ?_⟩) ?_ ?_
                             rotate_left
                             ·
                              intro w'
                              go_simp
                              with_reducible rfl
                             rotate_left
                             ·
                              simp only [Act.put, aput]
                              rfl
                             refine pure_ (i := 13) (N := some 169) (v := ?_) (a' := ?_) (bm 36 14831) rfl rfl (any_of HT_.out (by kernel_rfl)) (fun _ _ _ h => h) (Or.inl ⟨by rfl, ?_⟩) ?_ ?_
                             rotate_left
                             ·
                              intro w'
                              go_simp
                              with_reducible rfl
                             rotate_left
                             ·
                              simp only [Act.put, aput]
                              rfl
                             refine pure_ (i := 14) (N := some 170) (v := ?_) (a' := ?_) (bm 36 31215) rfl rfl (any_of HT_.out (by kernel_rfl)) (fun _ _ _ h => h) (Or.inl ⟨by rfl, ?_⟩) ?_ ?_
                             rotate_left
                             ·
                              intro w'
                              go_simp
                              with_reducible rfl
                             rotate_left
                             ·
                              simp only [Act.put, aput]
                              rfl
                             refine pure_ (i := 16) (N := some 172) (v := ?_) (a' := ?_) (bm 36 96751) rfl rfl (any_of HT_.out (by kernel_rfl)) (fun _ _ _ h => h) (Or.inl ⟨by rfl, ?_⟩) ?_ ?_
                             rotate_left
                             ·
                              intro w'
                              go_simp
                              with_reducible rfl
                             rotate_left
                             ·
                              simp only [Act.put, aput]
                              rfl
                             refine pure_ (i := 17) (N := some 173) (v := ?_) (a' := ?_) (bm 36 227823) rfl rfl (any_of HT_.out (by kernel_rfl)) (fun _ _ _ h => h) (Or.inl ⟨by rfl, ?_⟩) ?_ ?_
                             rotate_left
                             ·
                              intro w'
                              go_simp
                              with_reducible rfl
                             rotate_left
                             ·
                              simp only [Act.put, aput]
                              rfl
                             refine pure_ (i := 18) (N := some 174) (v := ?_) (a' := ?_) (bm 36 489967) rfl rfl (any_of HT_.out (by kernel_rfl)) (fun _ _ _ h => h) (Or.inl ⟨by rfl, ?_⟩) ?_ ?_
                             rotate_left
                             ·
                              intro w'
                              go_simp
                              with_reducible rfl
                             rotate_left
                             ·
                              simp only [Act.put, aput]
                              rfl
                             refine pure_ (i := 19) (N := some 175) (v := ?_) (a' := ?_) (bm 36 1014255) rfl rfl (any_of HT_.out (by kernel_rfl)) (fun _ _ _ h => h) (Or.inl ⟨by rfl, ?_⟩) ?_ ?_
                             rotate_left
                             ·
                              intro w'
                              go_simp
                              with_reducible rfl
                             rotate_left
                             ·
                              simp only [Act.put, aput]
                              rfl
                             refine pure_ (i := 22) (N := some 178) (v := ?_) (a' := ?_) (bm 36 5208559) rfl rfl (any_of HT_.out (by kernel_rfl)) (fun _ _ _ h => h) (Or.inl ⟨by rfl, ?_⟩) ?_ ?_
                             rotate_left
                             ·
                              intro w'
                              go_simp
                              with_reducible rfl
                             rotate_left
                             ·
                              simp only [Act.put, aput]
                              rfl
                             refine pure_ (i := 23) (N := some 179) (v := ?_) (a' := ?_) (bm 36 13597167) rfl rfl (any_of HT_.out (by kernel_rfl)) (fun _ _ _ h => h) (Or.inl ⟨by rfl, ?_⟩) ?_ ?_
                             rotate_left
                             ·
                              intro w'
                              go_simp
                              with_reducible rfl
                             rotate_left
                             ·
                              simp only [Act.put, aput]
                              rfl
                             refine pure_ (i := 24) (N := some 180) (v := ?_) (a' := ?_) (bm 36 30374383) rfl rfl (any_of HT_.out (by kernel_rfl)) (fun _ _ _ h => h) (Or.inl ⟨by rfl, ?_⟩) ?_ ?_
                             rotate_left
                             ·
                              intro w'
                              go_simp
                              with_reducible rfl
                             rotate_left
                             ·
                              simp only [Act.put, aput]
                              rfl
                             refine pure_ (i := 25) (N := some 181) (v := ?_) (a' := ?_) (bm 36 63928815) rfl rfl (any_of HT_.out (by kernel_rfl)) (fun _ _ _ h => h) (Or.inl ⟨by rfl, ?_⟩) ?_ ?_
                             rotate_left
                             ·
                              intro w'
                              go_simp
                              with_reducible rfl
                             rotate_left
                             ·
                              simp only [Act.put, aput]
                              rfl
                             refine pure_ (i := 27) (N := some 183) (v := ?_) (a' := ?_) (bm 36 198146543) rfl rfl (any_of HT_.out (by kernel_rfl)) (fun _ _ _ h => h) (Or.inl ⟨by rfl, ?_⟩) ?_ ?_
                             rotate_left
                             ·
                              intro w'
                              go_simp
                              with_reducible rfl
                             rotate_left
                             ·
                              simp only [Act.put, aput]
                              rfl
                             refine pure_ (i := 28) (N := some 184) (v := ?_) (a' := ?_) (bm 36 466581999) rfl rfl (any_of HT_.out (by kernel_rfl)) (fun _ _ _ h => h) (Or.inl ⟨by rfl, ?_⟩) ?_ ?_
                             rotate_left
                             ·
                              intro w'
                              go_simp
                              with_reducible rfl
                             rotate_left
                             ·
                              simp only [Act.put, aput]
                              rfl
                             refine pure_ (i := 29) (N := some 185) (v := ?_) (a' := ?_) (bm 36 1003452911) rfl rfl (any_of HT_.out (by kernel_rfl)) (fun _ _ _ h => h) (Or.inl ⟨by rfl, ?_⟩) ?_ ?_
                             rotate_left
                             ·
                              intro w'
                              go_simp
                              with_reducible rfl
                             rotate_left
                             ·
                              simp only [Act.put, aput]
                              rfl
                             refine pure_ (i := 30) (N := some 186) (v := ?_) (a' := ?_) (bm 36 2077194735) rfl rfl (any_of HT_.out (by kernel_rfl)) (fun _ _ _ h => h) (Or.inl ⟨by rfl, ?_⟩) ?_ ?_
                             rotate_left
                             ·
                              intro w'
                              go_simp
                              with_reducible rfl
                             rotate_left
                             ·
                              simp only [Act.put, aput]
                              rfl
                             refine take_ (i := 4) (N := some 160) (v := ?_) (a' := ?_) (bm 36 2077194751) rfl rfl (take_ofW HT_.out HW_.out (by kernel_rfl)) (fun _ _ _ h => h) (Or.inl ⟨by rfl, ?_⟩) hH ?_ ?_
                             rotate_left
                             ·
                              intro w' s0
                              go_simp
                              with_reducible rfl
                             rotate_left
                             ·
                              simp only [Act.put, aput]
                              rfl
                             refine take_ (i := 9) (N := some 165) (v := ?_) (a' := ?_) (bm 36 2077195263) rfl rfl (take_ofW HT_.out HW_.out (by kernel_rfl)) (fun _ _ _ h => h) (Or.inl ⟨by rfl, ?_⟩) hH ?_ ?_
                             rotate_left
                             ·
                              intro w' s0
                              go_simp
                              with_reducible rfl
                             rotate_left
                             ·
                              simp only [Act.put, aput]
                              rfl
                             refine pure_ (i := 10) (N := some 166) (v := ?_) (a' := ?_) (bm 36 2077196287) rfl rfl (any_of HT_.out (by kernel_rfl)) (fun _ _ _ h => h) (Or.inl ⟨by rfl, ?_⟩) ?_ ?_
                             rotate_left
                             ·
                              intro w'
                              go_simp
                              with_reducible rfl
                             rotate_left
                             ·
                              simp only [Act.put, aput]
                              rfl
                             refine pure_ (i := 34) (N := some 16) (v := ?_) (a' := ?_) (bm 36 19257065471) rfl rfl (any_of HT_.out (by kernel_rfl)) (fun _ _ _ h => h) (Or.inl ⟨by rfl, ?_⟩) ?_ ?_
                             rotate_left
                             ·
                              intro w'
                              go_simp
                              with_reducible rfl
                             rotate_left
                             ·
                              simp only [Act.put, aput]
                              rfl
                             refine take_ (i := 15) (N := some 171) (v := ?_) (a' := ?_) (bm 36 19257098239) rfl rfl (take_ofW HT_.out HW_.out (by kernel_rfl)) (fun _ _ _ h => h) (Or.inl ⟨by rfl, ?_⟩) hH ?_ ?_
                             rotate_left
                             ·
                              intro w' s0
                              go_simp
                              with_reducible rfl
                             rotate_left
                             ·
                              simp only [Act.put, aput]
                              rfl
                             refine take_ (i := 20) (N := some 176) (v := ?_) (a' := ?_) (bm 36 19258146815) rfl rfl (take_ofW HT_.out HW_.out (by kernel_rfl)) (fun _ _ _ h => h) (Or.inl ⟨by rfl, ?_⟩) hH ?_ ?_
                             rotate_left
                             ·
                              intro w' s0
                              go_simp
                              with_reducible rfl
                             rotate_left
                             ·
                              simp only [Act.put, aput]
                              rfl
                             refine pure_ (i := 21) (N := some 177) (v := ?_) (a' := ?_) (bm 36 19260243967) rfl rfl (any_of HT_.out (by kernel_rfl)) (fun _ _ _ h => h) (Or.inl ⟨by rfl, ?_⟩) ?_ ?_
                             rotate_left
                             ·
                              intro w'
                              go_simp
                              with_reducible rfl
                             rotate_left
                             ·
                              simp only [Act.put, aput]
                              rfl
                             refine take_ (i := 26) (N := some 182) (v := ?_) (a' := ?_) (bm 36 19327352831) rfl rfl (take_ofW HT_.out HW_.out (by kernel_rfl)) (fun _ _ _ h => h) (Or.inl ⟨by rfl, ?_⟩) hH ?_ ?_
                             rotate_left
                             ·
                              intro w' s0
                              go_simp
                              with_reducible rfl
                             rotate_left
                             ·
                              simp only [Act.put, aput]
                              rfl
                             refine take_ (i := 31) (N := some 187) (v := ?_) (a' := ?_) (bm 36 21474836479) rfl rfl (take_ofW HT_.out HW_.out (by kernel_rfl)) (fun _ _ _ h => h) (Or.inl ⟨by rfl, ?_⟩) hH ?_ ?_
                             rotate_left
                             ·
                              intro w' s0
                              go_simp
                              with_reducible rfl
                             rotate_left
                             ·
                              simp only [Act.put, aput]
                              rfl
                             refine pure_ (i := 32) (N := some 188) (v := ?_) (a' := ?_) (bm 36 25769803775) rfl rfl (any_of HT_.out (by kernel_rfl)) (fun _ _ _ h => h) (Or.inl ⟨by rfl, ?_⟩) ?_ ?_
                             rotate_left
                             ·
                              intro w'
                              go_simp
                              with_reducible rfl
                             rotate_left
                             ·
                              simp only [Act.put, aput]
                              rfl
                             refine pure_ (i := 33) (N := some 189) (v := ?_) (a' := ?_) (bm 36 34359738367) rfl rfl (any_of HT_.out (by kernel_rfl)) (fun _ _ _ h => h) (Or.inl ⟨by rfl, ?_⟩) ?_ ?_
                             rotate_left
                             ·
                              intro w'
                              go_simp
                              with_reducible rfl
                             rotate_left
                             ·
                              simp only [Act.put, aput]
                              rfl
                             refine pure_ (i := 35) (N := some 17) (v := ?_) (a' := ?_) (bm 36 68719476735) rfl rfl (any_of HT_.out (by kernel_rfl)) (fun _ _ _ h => h) (Or.inl ⟨by rfl, ?_⟩) ?_ ?_
                             rotate_left
                             ·
                              intro w'
                              go_simp
                              with_reducible rfl
                             rotate_left
                             ·
                              simp only [Act.put, aput]
                              rfl
                             refine done_ (done_of HT_.out (by kernel_rfl)) ?_
                             have hcz72_0 : w71.cell? ⟨gb193, 0, none⟩ = some (.int .u64 t190) := (blk_cell BK193.out 0).trans rfl
                             have hcz72_1 : w71.cell? ⟨gb193, 1, none⟩ = some (.int .u64 t191) := (blk_cell BK193.out 1).trans rfl
                             have hfz72_0 := blk_frozen BK193.out 0
                             have hfz72_1 := blk_frozen BK193.out 1
                             try go_wp2
                             go_roundg k5
                             case measure => have := HK1.out; have := HJ6.out; have := HK3.out; have := HK4.out; have := HK5.out; omega
                             case rel => exact ⟨(wrap64 (x13_5 + 1)), (by first|rfl|(simp; done)|(simp [*]; done)), H', ⟨by have := HK1.out; have := HJ6.out; have := HK3.out; have := HK4.out; have := HK5.out; omega⟩, ⟨by (with_reducible repeat (first|apply Kd.R_alloc|apply Kd.R_drewN|apply Kd.R_drew)); exact Kd.R_mono HO_3.out (fun _ hk => trivial)⟩, ⟨by repeat (first|(with_reducible first|exact HB.out|apply eA|apply eN|apply eD|refine below_set ?_ GE193.out)|exact HB.out)⟩⟩
                            ·
                             rw [if_neg c63] at H
                             have c63b0 : (t191 == (IntKind.u64.wrap ((ji59) - (ji58)))) = false := beq_eq_false_iff_ne.mpr c63
                             have c63b1 : (t191 != (IntKind.u64.wrap ((ji59) - (ji58)))) = true := bne_iff_ne.mpr c63
                             exact absurd ((Option.some.inj H).trans HRT.out) (by decide)
                           ·
                            rw [if_neg c62] at H
                            have c62b0 : (t190 == (ji58)) = false := beq_eq_false_iff_ne.mpr c62
                            have c62b1 : (t190 != (ji58)) = true := bne_iff_ne.mpr c62
                            exact absurd ((Option.some.inj H).trans HRT.out) (by decide)
                          ·
                           replace c61 := Bool.eq_false_iff.mpr c61
                           subst c61
                           have H1 : (some false) = some r := by rw [if_neg (show ¬ (false = true) by decide)] at H; exact H
                           clear H
                           have H := H1
                           clear H1
                           exact absurd ((Option.some.inj H).trans HRT.out) (by decide)
                         ·
                          rw [if_neg c60] at H
                          have c60b0 : decide ((ji58) < (ji59)) = false := decide_eq_false c60
                          clear c60
                          by_cases c73 : t192 = true
                          ·
                           subst c73
                           have H1 : (some false) = some r := by rw [if_pos rfl] at H; exact H
                           clear H
                           have H := H1
                           clear H1
                           exact absurd ((Option.some.inj H).trans HRT.out) (by decide)
                          ·
                           replace c73 := Bool.eq_false_iff.mpr c73
                           subst c73
                           have H1 : (if (!(t190 == 0) || (!(t191 == 0))) = true then (some false) else (graverlaw02_SpanUnions.l5 k5 x3_1 x12_4 (wrap64 (x13_5 + 1)))) = some r := by rw [if_neg (show ¬ (false = true) by decide)] at H; exact H
                           clear H
                           have H := H1
                           clear H1
                           by_cases c74 : (!(t190 == 0) || (!(t191 == 0))) = true
                           ·
                            rw [if_pos c74] at H
                            have c74b0 : (!(t190 == 0) || (!(t191 == 0))) = true := c74
                            clear c74
                            exact absurd ((Option.some.inj H).trans HRT.out) (by decide)
                           ·
                            rw [if_neg c74] at H
                            have c74b0 : (!(t190 == 0) || (!(t191 == 0))) = false := by simpa using c74
                            clear c74
                            have H' := aS H
                            clear H
                            try go_wp2
                            have n0_ := aS (Kd.R_drew HO_3.out)
                            have n1_ := aS (below_drew1 HB.out)
                            clear HO_3
                            clear HB
                            have HO_3 := n0_
                            have HB := n1_
                            clear n0_ n1_
                            have p188 : 0 ≤ (x12_4 : Int) := of_decide_eq_true (by first | (with_reducible assumption) | assumption)
                            have q188 : x12_4 < (x3_1.length : Int) := of_decide_eq_true (by first | (with_reducible assumption) | assumption)
                            obtain ⟨ad188, e188, hx188_0, hx188_1⟩ := at_T29 (Kd.R_reads' HO_3.out).2.2 x12_4 p188 q188
                            cases e188
                            replace p188 := eq_true p188
                            replace q188 := eq_true q188
                            have p189 : 0 ≤ (x13_5 : Int) := of_decide_eq_true (by first | (with_reducible assumption) | assumption)
                            have q189 : x13_5 < (x3_1.length : Int) := of_decide_eq_true (by first | (with_reducible assumption) | assumption)
                            obtain ⟨ad189, e189, hx189_0, hx189_1⟩ := at_T29 (Kd.R_reads' HO_3.out).2.2 x13_5 p189 q189
                            obtain rfl : ad188 = ad189 := (by injection e189)
                            replace p189 := eq_true p189
                            replace q189 := eq_true q189
                            refine start_ (n := 15) (S := fun w' => w'.cell? (ad188.add ((x12_4).toNat * 2)) = some (.int .u64 ((rd_T29 x3_1 x12_4).f0)) ∧ w'.cell? ⟨(ad188.add ((x12_4).toNat * 2)).block, (ad188.add ((x12_4).toNat * 2)).off + 1, none⟩ = some (.int .u64 ((rd_T29 x3_1 x12_4).f1)) ∧ w'.cell? (ad188.add ((x13_5).toNat * 2)) = some (.int .u64 ((rd_T29 x3_1 x13_5).f0)) ∧ w'.cell? ⟨(ad188.add ((x13_5).toNat * 2)).block, (ad188.add ((x13_5).toNat * 2)).off + 1, none⟩ = some (.int .u64 ((rd_T29 x3_1 x13_5).f1))) (ds := []) #[false, false, false, false, false, false, false, false, false, false, false, false, false, false, false] (by kernel_rfl) rfl rfl ⟨hx188_0, hx188_1, hx189_0, hx189_1⟩ (fun hH => ?_); refine with_tabW graverlaw02_SpanUnions.tab35 graverlaw02_SpanUnions.bits35 (fun HT_ HW_ => ?_)
                            generalize wr.drew = w75 at HO_3 HB hx188_0 hx188_1 hx189_0 hx189_1 hH ⊢
                            refine pure_ (i := 0) (N := some 145) (v := ?_) (a' := ?_) (bm 15 1) rfl rfl (any_of HT_.out (by kernel_rfl)) (fun _ _ _ h => h) (Or.inl ⟨by rfl, ?_⟩) ?_ ?_
                            rotate_left
                            ·
                             intro w'
                             go_simp
                             with_reducible rfl
                            rotate_left
                            ·
                             simp only [Act.put, aput]
                             rfl
                            refine pure_ (i := 1) (N := some 146) (v := ?_) (a' := ?_) (bm 15 3) rfl rfl (any_of HT_.out (by kernel_rfl)) (fun _ _ _ h => h) (Or.inl ⟨by rfl, ?_⟩) ?_ ?_
                            rotate_left
                            ·
                             intro w'
                             go_simp
                             with_reducible rfl
                            rotate_left
                            ·
                             simp only [Act.put, aput]
                             rfl
                            refine pure_ (i := 2) (N := some 147) (v := ?_) (a' := ?_) (bm 15 7) rfl rfl (any_of HT_.out (by kernel_rfl)) (fun _ _ _ h => h) (Or.inl ⟨by rfl, ?_⟩) ?_ ?_
                            rotate_left
                            ·
                             intro w'
                             go_simp
                             with_reducible rfl
                            rotate_left
                            ·
                             simp only [Act.put, aput]
                             rfl
                            refine pure_ (i := 4) (N := some 149) (v := ?_) (a' := ?_) (bm 15 23) rfl rfl (any_of HT_.out (by kernel_rfl)) (fun _ _ _ h => h) (Or.inl ⟨by rfl, ?_⟩) ?_ ?_
                            rotate_left
                            ·
                             intro w'
                             go_simp
                             with_reducible rfl
                            rotate_left
                            ·
                             simp only [Act.put, aput]
                             rfl
                            refine pure_ (i := 5) (N := some 150) (v := ?_) (a' := ?_) (bm 15 55) rfl rfl (any_of HT_.out (by kernel_rfl)) (fun _ _ _ h => h) (Or.inl ⟨by rfl, ?_⟩) ?_ ?_
                            rotate_left
                            ·
                             intro w'
                             go_simp
                             with_reducible rfl
                            rotate_left
                            ·
                             simp only [Act.put, aput]
                             rfl
                            refine pure_ (i := 6) (N := some 151) (v := ?_) (a' := ?_) (bm 15 119) rfl rfl (any_of HT_.out (by kernel_rfl)) (fun _ _ _ h => h) (Or.inl ⟨by rfl, ?_⟩) ?_ ?_
                            rotate_left
                            ·
                             intro w'
                             go_simp
                             with_reducible rfl
                            rotate_left
                            ·
                             simp only [Act.put, aput]
                             rfl
                            refine take_ (i := 3) (N := some 148) (v := ?_) (a' := ?_) (bm 15 127) rfl rfl (take_ofW HT_.out HW_.out (by kernel_rfl)) (fun _ _ _ h => h) (Or.inl ⟨by rfl, ?_⟩) hH ?_ ?_
                            rotate_left
                            ·
                             intro w' s0
                             go_simp
                             with_reducible rfl
                            rotate_left
                            ·
                             simp only [Act.put, aput]
                             rfl
                            refine take_ (i := 7) (N := some 152) (v := ?_) (a' := ?_) (bm 15 255) rfl rfl (take_ofW HT_.out HW_.out (by kernel_rfl)) (fun _ _ _ h => h) (Or.inl ⟨by rfl, ?_⟩) hH ?_ ?_
                            rotate_left
                            ·
                             intro w' s0
                             go_simp
                             with_reducible rfl
                            rotate_left
                            ·
                             simp only [Act.put, aput]
                             rfl
                            refine join_ (σ := Nat) 2 (bm 15 8191) (fun s_ => [(153, .tuple #[.agg #[.int .u64 t190, .int .u64 t191], .bool false]), (14, .pointer (some ⟨s_, 0, none⟩)), (144, .tuple #[.agg #[.int .u64 t190, .int .u64 t191], .bool false]), (154, .agg #[.int .u64 t190, .int .u64 t191]), (155, .bool false)]) (fun s_ w' => (w'.cell? (ad188.add ((x12_4).toNat * 2)) = some (.int .u64 ((rd_T29 x3_1 x12_4).f0)) ∧ w'.cell? ⟨(ad188.add ((x12_4).toNat * 2)).block, (ad188.add ((x12_4).toNat * 2)).off + 1, none⟩ = some (.int .u64 ((rd_T29 x3_1 x12_4).f1)) ∧ w'.cell? (ad188.add ((x13_5).toNat * 2)) = some (.int .u64 ((rd_T29 x3_1 x13_5).f0)) ∧ w'.cell? ⟨(ad188.add ((x13_5).toNat * 2)).block, (ad188.add ((x13_5).toNat * 2)).off + 1, none⟩ = some (.int .u64 ((rd_T29 x3_1 x13_5).f1))) ∧ (Kd.R k29 29 w' w.heap.size (fun k_ => k_ ≠ s_) (.slice (some ad188) x3_1.length co25) x3_1) ∧ (w'.heap[s_]? = some (.cells #[.int .u64 0, .int .u64 0] 29 (0, 0))) ∧ (w.heap.size ≤ s_) ∧ (w.heap.size ≤ s_) ∧ (Below w.heap.size w w')) ?_ ?_
                            rotate_left
                            ·
                             intro hCont
                             refine two_ (i := 8) (j := 12) (Ni := some 153) (Nj := some 14) (bm 15 511) (bm 15 4351) rfl rfl rfl rfl (two_of HT_.out (by kernel_rfl)) (by decide) (by decide) (fun K hK => ?_) (fun K hK => ?_)
                             ·
                              skip
                              refine goes_ Try.func20 (by kernel_rfl) rfl #[.agg #[.int .u64 ((rd_T29 x3_1 x12_4).f0), .int .u64 ((rd_T29 x3_1 x12_4).f1)], .agg #[.int .u64 ((rd_T29 x3_1 x13_5).f0), .int .u64 ((rd_T29 x3_1 x13_5).f1)]] (by rfl) rfl rfl (by (try simp only [List.map_toArray, List.map_cons, List.map_nil]); first | done | rfl | (simp only [List.length_drop, List.length_take]; rfl)) ?_
                              with_reducible refine (span_Common.calls k5 ((rd_T29 x3_1 x12_4).f0) ((rd_T29 x3_1 x12_4).f1) ((rd_T29 x3_1 x13_5).f0) ((rd_T29 x3_1 x13_5).f1) t190 t191 false _ A57.out).mono ?_
                              rintro e w76 ⟨rfl, hb⟩
                              have HS0_ := (hb.cell (World.block_lt_of_cell? _ _ (hH.1))).trans (hH.1)
                              have HS1_ := (hb.cell (World.block_lt_of_cell? _ _ (hH.2.1))).trans (hH.2.1)
                              have HS2_ := (hb.cell (World.block_lt_of_cell? _ _ (hH.2.2.1))).trans (hH.2.2.1)
                              have HS3_ := (hb.cell (World.block_lt_of_cell? _ _ (hH.2.2.2))).trans (hH.2.2.2)
                              refine ⟨_, rfl, ?_⟩
                              have n0_ := aS (Kd.R_below (by (with_reducible repeat (first|apply Kd.R_alloc|apply Kd.R_drewN|apply Kd.R_drew)); exact HO_3.out) hb)
                              have n1_ := aS (below_step (by repeat (first|(with_reducible first|exact HB.out|apply below_alloc|apply pw_below_drewN|apply below_drew1)|exact HB.out)) hb)
                              clear HO_3
                              clear HB
                              have HO_3 := n0_
                              have HB := n1_
                              clear n0_ n1_
                              (try clear hb)
                              (try clear hb2)
                              (try clear hk)
                              (try clear hi)
                              refine hK.out _ _ ⟨HS0_, HS1_, HS2_, HS3_⟩ (fun hH => ?_)
                              clear hK K
                              refine norm_ (a' := ?_) ?_ ?_
                              rotate_left
                              ·
                               show Act.put _ (some 153) _ = _
                               simp only [Act.put, aput]
                               rfl
                              refine pure_ (i := 9) (N := some 144) (v := ?_) (a' := ?_) (bm 15 1023) rfl rfl (any_of HT_.out (by kernel_rfl)) (fun _ _ _ h => h) (Or.inl ⟨by rfl, ?_⟩) ?_ ?_
                              rotate_left
                              ·
                               intro w'
                               go_simp
                               with_reducible rfl
                              rotate_left
                              ·
                               simp only [Act.put, aput]
                               rfl
                              refine pure_ (i := 10) (N := some 154) (v := ?_) (a' := ?_) (bm 15 2047) rfl rfl (any_of HT_.out (by kernel_rfl)) (fun _ _ _ h => h) (Or.inl ⟨by rfl, ?_⟩) ?_ ?_
                              rotate_left
                              ·
                               intro w'
                               go_simp
                               with_reducible rfl
                              rotate_left
                              ·
                               simp only [Act.put, aput]
                               rfl
                              refine pure_ (i := 11) (N := some 155) (v := ?_) (a' := ?_) (bm 15 4095) rfl rfl (any_of HT_.out (by kernel_rfl)) (fun _ _ _ h => h) (Or.inl ⟨by rfl, ?_⟩) ?_ ?_
                              rotate_left
                              ·
                               intro w'
                               go_simp
                               with_reducible rfl
                              rotate_left
                              ·
                               simp only [Act.put, aput]
                               rfl
                              refine one_ (i := 12) (N := some 14) (bm 15 8191) rfl rfl (one_of HT_.out (by kernel_rfl)) (by decide) (fun K hK => ?_)
                              refine box_step ?hg (N := 14) ?hd (cs := #[.int .u64 0, .int .u64 0]) (t := 29) ?hr ?_; (case hd => rfl); (case hg => rfl); (case hr => (go_simp; try rfl))
                              intro gb193 hg w77 hbox hb
                              have HS0_ := (hb.cell (World.block_lt_of_cell? _ _ (hH.1))).trans (hH.1)
                              have HS1_ := (hb.cell (World.block_lt_of_cell? _ _ (hH.2.1))).trans (hH.2.1)
                              have HS2_ := (hb.cell (World.block_lt_of_cell? _ _ (hH.2.2.1))).trans (hH.2.2.1)
                              have HS3_ := (hb.cell (World.block_lt_of_cell? _ _ (hH.2.2.2))).trans (hH.2.2.2)
                              have n0_ := aS (Kd.R_below (Kd.R_elderB (by (with_reducible repeat (first|apply Kd.R_alloc|apply Kd.R_drewN|apply Kd.R_drew)); exact HO_3.out) gb193 (Nat.le_of_eq hg.symm)) hb)
                              have n1_ := aS (below_step (by repeat (first|(with_reducible first|exact HB.out|apply below_alloc|apply pw_below_drewN|apply below_drew1)|exact HB.out)) hb)
                              have n2_ := aS (hbox)
                              have n3_ := aS ((by rw [hg]; exact (below_size (by repeat (first|(with_reducible first|exact HB.out|apply below_alloc|apply pw_below_drewN|apply below_drew1)|exact HB.out))) : w.heap.size ≤ gb193))
                              have n4_ := aS ((by rw [hg]; exact (below_size (by repeat (first|(with_reducible first|exact HB.out|apply below_alloc|apply pw_below_drewN|apply below_drew1)|exact HB.out))) : w.heap.size ≤ gb193))
                              clear HO_3
                              clear HB
                              have HO_3 := n0_
                              have HB := n1_
                              have BK193 := n2_
                              have GW193 := n3_
                              have GE193 := n4_
                              clear n0_ n1_ n2_ n3_ n4_
                              clear hb hbox hg
                              refine hK.out _ _ ⟨HS0_, HS1_, HS2_, HS3_⟩ (fun hH => ?_)
                              clear hK K
                              refine norm_ (a' := ?_) ?_ ?_
                              rotate_left
                              ·
                               show Act.put _ (some 14) _ = _
                               simp only [Act.put, aput]
                               rfl
                              exact norm_ (by simp only [putAll, Act.put, List.setIfInBounds_toArray, List.set_cons_zero, List.set_cons_succ]) (hCont (gb193) _ ⟨hH, (by (with_reducible repeat (first|apply Kd.R_alloc|apply Kd.R_drewN|apply Kd.R_drew)); exact Kd.R_mono HO_3.out (fun _ hk => hk.2)), (by (with_reducible repeat (first|apply bN|apply bD|apply bA)); exact BK193.out), GW193.out, GE193.out, (by repeat (first|(with_reducible first|exact HB.out|apply eA|apply eN|apply eD|refine below_set ?_ GE193.out)|exact HB.out))⟩)
                             ·
                              skip
                              refine box_step ?hg (N := 14) ?hd (cs := #[.int .u64 0, .int .u64 0]) (t := 29) ?hr ?_; (case hd => rfl); (case hg => rfl); (case hr => (go_simp; try rfl))
                              intro gb193 hg w76 hbox hb
                              have HS0_ := (hb.cell (World.block_lt_of_cell? _ _ (hH.1))).trans (hH.1)
                              have HS1_ := (hb.cell (World.block_lt_of_cell? _ _ (hH.2.1))).trans (hH.2.1)
                              have HS2_ := (hb.cell (World.block_lt_of_cell? _ _ (hH.2.2.1))).trans (hH.2.2.1)
                              have HS3_ := (hb.cell (World.block_lt_of_cell? _ _ (hH.2.2.2))).trans (hH.2.2.2)
                              have n0_ := aS (Kd.R_below (Kd.R_elderB (by (with_reducible repeat (first|apply Kd.R_alloc|apply Kd.R_drewN|apply Kd.R_drew)); exact HO_3.out) gb193 (Nat.le_of_eq hg.symm)) hb)
                              have n1_ := aS (below_step (by repeat (first|(with_reducible first|exact HB.out|apply below_alloc|apply pw_below_drewN|apply below_drew1)|exact HB.out)) hb)
                              have n2_ := aS (hbox)
                              have n3_ := aS ((by rw [hg]; exact (below_size (by repeat (first|(with_reducible first|exact HB.out|apply below_alloc|apply pw_below_drewN|apply below_drew1)|exact HB.out))) : w.heap.size ≤ gb193))
                              have n4_ := aS ((by rw [hg]; exact (below_size (by repeat (first|(with_reducible first|exact HB.out|apply below_alloc|apply pw_below_drewN|apply below_drew1)|exact HB.out))) : w.heap.size ≤ gb193))
                              clear HO_3
                              clear HB
                              have HO_3 := n0_
                              have HB := n1_
                              have BK193 := n2_
                              have GW193 := n3_
                              have GE193 := n4_
                              clear n0_ n1_ n2_ n3_ n4_
                              clear hb hbox hg
                              refine hK.out _ _ ⟨HS0_, HS1_, HS2_, HS3_⟩ (fun hH => ?_)
                              clear hK K
                              refine norm_ (a' := ?_) ?_ ?_
                              rotate_left
                              ·
                               show Act.put _ (some 14) _ = _
                               simp only [Act.put, aput]
                               rfl
                              refine one_ (i := 8) (N := some 153) (bm 15 4607) rfl rfl (one_of HT_.out (by kernel_rfl)) (by decide) (fun K hK => ?_)
                              refine goes_ Try.func20 (by kernel_rfl) rfl #[.agg #[.int .u64 ((rd_T29 x3_1 x12_4).f0), .int .u64 ((rd_T29 x3_1 x12_4).f1)], .agg #[.int .u64 ((rd_T29 x3_1 x13_5).f0), .int .u64 ((rd_T29 x3_1 x13_5).f1)]] (by rfl) rfl rfl (by (try simp only [List.map_toArray, List.map_cons, List.map_nil]); first | done | rfl | (simp only [List.length_drop, List.length_take]; rfl)) ?_
                              with_reducible refine (span_Common.calls k5 ((rd_T29 x3_1 x12_4).f0) ((rd_T29 x3_1 x12_4).f1) ((rd_T29 x3_1 x13_5).f0) ((rd_T29 x3_1 x13_5).f1) t190 t191 false _ A57.out).mono ?_
                              rintro e w77 ⟨rfl, hb⟩
                              have HS0_ := (hb.cell (World.block_lt_of_cell? _ _ (hH.1))).trans (hH.1)
                              have HS1_ := (hb.cell (World.block_lt_of_cell? _ _ (hH.2.1))).trans (hH.2.1)
                              have HS2_ := (hb.cell (World.block_lt_of_cell? _ _ (hH.2.2.1))).trans (hH.2.2.1)
                              have HS3_ := (hb.cell (World.block_lt_of_cell? _ _ (hH.2.2.2))).trans (hH.2.2.2)
                              refine ⟨_, rfl, ?_⟩
                              have n0_ := aS (Kd.R_below (by (with_reducible repeat (first|apply Kd.R_alloc|apply Kd.R_drewN|apply Kd.R_drew)); exact HO_3.out) hb)
                              have n1_ := aS (blk_below (g := gb193) (o := .cells #[.int .u64 0, .int .u64 0] 29 (0, 0)) (by (with_reducible repeat (first|apply bN|apply bD|apply bA)); exact BK193.out) hb)
                              have n2_ := aS (below_step (by repeat (first|(with_reducible first|exact HB.out|apply eA|apply eN|apply eD|refine below_set ?_ GE193.out)|exact HB.out)) hb)
                              clear HO_3
                              clear BK193
                              clear HB
                              have HO_3 := n0_
                              have BK193 := n1_
                              have HB := n2_
                              clear n0_ n1_ n2_
                              (try clear hb)
                              (try clear hb2)
                              (try clear hk)
                              (try clear hi)
                              refine hK.out _ _ ⟨HS0_, HS1_, HS2_, HS3_⟩ (fun hH => ?_)
                              clear hK K
                              refine norm_ (a' := ?_) ?_ ?_
                              rotate_left
                              ·
                               show Act.put _ (some 153) _ = _
                               simp only [Act.put, aput]
                               rfl
                              refine pure_ (i := 9) (N := some 144) (v := ?_) (a' := ?_) (bm 15 5119) rfl rfl (any_of HT_.out (by kernel_rfl)) (fun _ _ _ h => h) (Or.inl ⟨by rfl, ?_⟩) ?_ ?_
                              rotate_left
                              ·
                               intro w'
                               go_simp
                               with_reducible rfl
                              rotate_left
                              ·
                               simp only [Act.put, aput]
                               rfl
                              refine pure_ (i := 10) (N := some 154) (v := ?_) (a' := ?_) (bm 15 6143) rfl rfl (any_of HT_.out (by kernel_rfl)) (fun _ _ _ h => h) (Or.inl ⟨by rfl, ?_⟩) ?_ ?_
                              rotate_left
                              ·
                               intro w'
                               go_simp
                               with_reducible rfl
                              rotate_left
                              ·
                               simp only [Act.put, aput]
                               rfl
                              refine pure_ (i := 11) (N := some 155) (v := ?_) (a' := ?_) (bm 15 8191) rfl rfl (any_of HT_.out (by kernel_rfl)) (fun _ _ _ h => h) (Or.inl ⟨by rfl, ?_⟩) ?_ ?_
                              rotate_left
                              ·
                               intro w'
                               go_simp
                               with_reducible rfl
                              rotate_left
                              ·
                               simp only [Act.put, aput]
                               rfl
                              exact norm_ (by simp only [putAll, Act.put, List.setIfInBounds_toArray, List.set_cons_zero, List.set_cons_succ]) (hCont (gb193) _ ⟨hH, (by (with_reducible repeat (first|apply Kd.R_alloc|apply Kd.R_drewN|apply Kd.R_drew)); exact Kd.R_mono HO_3.out (fun _ hk => hk.2)), (by (with_reducible repeat (first|apply bN|apply bD|apply bA)); exact BK193.out), GW193.out, GE193.out, (by repeat (first|(with_reducible first|exact HB.out|apply eA|apply eN|apply eD|refine below_set ?_ GE193.out)|exact HB.out))⟩)
                            rintro gb193 w78 ⟨hS_, h0_, h1_, h2_, h3_, h4_⟩
                            have n0_ : Aside0 (Kd.R k29 29 w78 w.heap.size (fun k_ => k_ ≠ gb193) (.slice (some ad188) x3_1.length co25) x3_1) := ⟨h0_⟩
                            have n1_ : Aside0 (w78.heap[gb193]? = some (.cells #[.int .u64 0, .int .u64 0] 29 (0, 0))) := ⟨h1_⟩
                            have n2_ : Aside0 (w.heap.size ≤ gb193) := ⟨h2_⟩
                            have n3_ : Aside0 (w.heap.size ≤ gb193) := ⟨h3_⟩
                            have n4_ : Aside0 (Below w.heap.size w w78) := ⟨h4_⟩
                            clear HO_3
                            clear HB
                            clear h0_ h1_ h2_ h3_ h4_
                            have HO_3 := n0_
                            have BK193 := n1_
                            have GW193 := n2_
                            have GE193 := n3_
                            have HB := n4_
                            clear n0_ n1_ n2_ n3_ n4_
                            have hH : w78.cell? (ad188.add ((x12_4).toNat * 2)) = some (.int .u64 ((rd_T29 x3_1 x12_4).f0)) ∧ w78.cell? ⟨(ad188.add ((x12_4).toNat * 2)).block, (ad188.add ((x12_4).toNat * 2)).off + 1, none⟩ = some (.int .u64 ((rd_T29 x3_1 x12_4).f1)) ∧ w78.cell? (ad188.add ((x13_5).toNat * 2)) = some (.int .u64 ((rd_T29 x3_1 x13_5).f0)) ∧ w78.cell? ⟨(ad188.add ((x13_5).toNat * 2)).block, (ad188.add ((x13_5).toNat * 2)).off + 1, none⟩ = some (.int .u64 ((rd_T29 x3_1 x13_5).f1)) := hS_
                            refine norm_ (a' := ?_) ?_ ?_
                            rotate_left
                            ·
                             simp only [putAll, Act.put, List.setIfInBounds_toArray, List.set_cons_zero, List.set_cons_succ]
                             rfl
                            refine one_ (i := 13) (N := none) (bm 15 16383) rfl rfl (one_of HT_.out (by kernel_rfl)) (by decide) (fun K hK => ?_)
                            have hs79 : w78.cell? ⟨gb193, 0, none⟩ = some (.int .u64 0) := (blk_cell BK193.out 0).trans rfl
                            have hfs79 := blk_frozen BK193.out 0
                            have hs80 : w78.cell? ⟨gb193, 1, none⟩ = some (.int .u64 0) := (blk_cell BK193.out 1).trans rfl
                            have hfs80 := blk_frozen BK193.out 1
                            refine skip_ (w1 := ?_) (by rfl) rfl ?_ ?_
                            rotate_left
                            ·
                             go_simp
                             rfl
                            refine hK.out _ _ ⟨((cell_far (p := ⟨gb193, _, none⟩) (by first | exact Kd.own_blk (Kd.R_away HO_3.out (fun _ hk => hk)) | (rw [add_block]; exact Kd.own_blk (Kd.R_away HO_3.out (fun _ hk => hk))) | (show (Addr.add _ _).block ≠ _; rw [add_block]; exact Kd.own_blk (Kd.R_away HO_3.out (fun _ hk => hk))) | (dsimp only; exact Kd.own_blk (Kd.R_away HO_3.out (fun _ hk => hk)))) _).trans (((cell_far (p := ⟨gb193, _, none⟩) (by first | exact Kd.own_blk (Kd.R_away HO_3.out (fun _ hk => hk)) | (rw [add_block]; exact Kd.own_blk (Kd.R_away HO_3.out (fun _ hk => hk))) | (show (Addr.add _ _).block ≠ _; rw [add_block]; exact Kd.own_blk (Kd.R_away HO_3.out (fun _ hk => hk))) | (dsimp only; exact Kd.own_blk (Kd.R_away HO_3.out (fun _ hk => hk)))) _).trans (hH.1)))), ((cell_far (p := ⟨gb193, _, none⟩) (by first | exact Kd.own_blk (Kd.R_away HO_3.out (fun _ hk => hk)) | (rw [add_block]; exact Kd.own_blk (Kd.R_away HO_3.out (fun _ hk => hk))) | (show (Addr.add _ _).block ≠ _; rw [add_block]; exact Kd.own_blk (Kd.R_away HO_3.out (fun _ hk => hk))) | (dsimp only; exact Kd.own_blk (Kd.R_away HO_3.out (fun _ hk => hk)))) _).trans (((cell_far (p := ⟨gb193, _, none⟩) (by first | exact Kd.own_blk (Kd.R_away HO_3.out (fun _ hk => hk)) | (rw [add_block]; exact Kd.own_blk (Kd.R_away HO_3.out (fun _ hk => hk))) | (show (Addr.add _ _).block ≠ _; rw [add_block]; exact Kd.own_blk (Kd.R_away HO_3.out (fun _ hk => hk))) | (dsimp only; exact Kd.own_blk (Kd.R_away HO_3.out (fun _ hk => hk)))) _).trans (hH.2.1)))), ((cell_far (p := ⟨gb193, _, none⟩) (by first | exact Kd.own_blk (Kd.R_away HO_3.out (fun _ hk => hk)) | (rw [add_block]; exact Kd.own_blk (Kd.R_away HO_3.out (fun _ hk => hk))) | (show (Addr.add _ _).block ≠ _; rw [add_block]; exact Kd.own_blk (Kd.R_away HO_3.out (fun _ hk => hk))) | (dsimp only; exact Kd.own_blk (Kd.R_away HO_3.out (fun _ hk => hk)))) _).trans (((cell_far (p := ⟨gb193, _, none⟩) (by first | exact Kd.own_blk (Kd.R_away HO_3.out (fun _ hk => hk)) | (rw [add_block]; exact Kd.own_blk (Kd.R_away HO_3.out (fun _ hk => hk))) | (show (Addr.add _ _).block ≠ _; rw [add_block]; exact Kd.own_blk (Kd.R_away HO_3.out (fun _ hk => hk))) | (dsimp only; exact Kd.own_blk (Kd.R_away HO_3.out (fun _ hk => hk)))) _).trans (hH.2.2.1)))), ((cell_far (p := ⟨gb193, _, none⟩) (by first | exact Kd.own_blk (Kd.R_away HO_3.out (fun _ hk => hk)) | (rw [add_block]; exact Kd.own_blk (Kd.R_away HO_3.out (fun _ hk => hk))) | (show (Addr.add _ _).block ≠ _; rw [add_block]; exact Kd.own_blk (Kd.R_away HO_3.out (fun _ hk => hk))) | (dsimp only; exact Kd.own_blk (Kd.R_away HO_3.out (fun _ hk => hk)))) _).trans (((cell_far (p := ⟨gb193, _, none⟩) (by first | exact Kd.own_blk (Kd.R_away HO_3.out (fun _ hk => hk)) | (rw [add_block]; exact Kd.own_blk (Kd.R_away HO_3.out (fun _ hk => hk))) | (show (Addr.add _ _).block ≠ _; rw [add_block]; exact Kd.own_blk (Kd.R_away HO_3.out (fun _ hk => hk))) | (dsimp only; exact Kd.own_blk (Kd.R_away HO_3.out (fun _ hk => hk)))) _).trans (hH.2.2.2))))⟩ (fun hH => ?_)
                            clear hK K
                            refine pure_ (i := 14) (N := some 15) (v := ?_) (a' := ?_) (bm 15 32767) rfl rfl (any_of HT_.out (by kernel_rfl)) (fun _ _ _ h => h) (Or.inl ⟨by rfl, ?_⟩) ?_ ?_
                            rotate_left
                            ·
                             intro w'
                             go_simp
                             with_reducible rfl
                            rotate_left
                            ·
                             simp only [Act.put, aput]
                             rfl
                            refine done_ (done_of HT_.out (by kernel_rfl)) ?_
                            try go_wp2
                            have n0_ : Aside0 (Kd.R k29 29 ((w78.setCell ⟨gb193, 0, none⟩ (.int .u64 t190)).setCell ⟨gb193, 1, none⟩ (.int .u64 t191)) w.heap.size (fun k_ => k_ ≠ gb193) (.slice (some ad188) x3_1.length co25) x3_1) := ⟨by (with_reducible repeat (first|apply Kd.R_alloc|apply Kd.R_drewN|apply Kd.R_drew)); exact Kd.R_mono (Kd.R_far (p := ⟨gb193, 1, none⟩) (Kd.R_far (p := ⟨gb193, 0, none⟩) (Kd.R_mono HO_3.out (fun k_ hk => (⟨hk, hk⟩ : _ ∧ k_ ≠ gb193))) (fun _ hk => hk.2) (.int .u64 t190)) (fun _ hk => hk.2) (.int .u64 t191)) (fun _ hk => hk.1)⟩
                            have n1_ : Aside0 (((w78.setCell ⟨gb193, 0, none⟩ (.int .u64 t190)).setCell ⟨gb193, 1, none⟩ (.int .u64 t191)).heap[gb193]? = some (.cells #[.int .u64 t190, .int .u64 t191] 29 (0, 0))) := ⟨by (with_reducible repeat (first|apply bN|apply bD|apply bA)); refine blk_put (cs := #[.int .u64 t190, .int .u64 0]) ?_ 1 _ rfl; (with_reducible repeat (first|apply bN|apply bD|apply bA)); refine blk_put (cs := #[.int .u64 0, .int .u64 0]) ?_ 0 _ rfl; (with_reducible repeat (first|apply bN|apply bD|apply bA)); exact BK193.out⟩
                            have n2_ : Aside0 (Below w.heap.size w ((w78.setCell ⟨gb193, 0, none⟩ (.int .u64 t190)).setCell ⟨gb193, 1, none⟩ (.int .u64 t191))) := ⟨by repeat (first|(with_reducible first|exact HB.out|apply eA|apply eN|apply eD|refine below_set ?_ GE193.out)|exact HB.out)⟩
                            (try clear HO_3)
                            (try clear BK193)
                            (try clear HB)
                            generalize ((w78.setCell ⟨gb193, 0, none⟩ (.int .u64 t190)).setCell ⟨gb193, 1, none⟩ (.int .u64 t191)) = w81 at n0_ n1_ n2_ ⊢
                            have HO_3 := n0_
                            have BK193 := n1_
                            have HB := n2_
                            clear n0_ n1_ n2_
                            have n0_ := aS (Kd.R_drew HO_3.out)
                            have n1_ := aS (blk_drew BK193.out)
                            have n2_ := aS (below_drew1 HB.out)
                            clear HO_3
                            clear BK193
                            clear HB
                            have HO_3 := n0_
                            have BK193 := n1_
                            have HB := n2_
                            clear n0_ n1_ n2_
                            have p194 : 0 ≤ (x12_4 : Int) := of_decide_eq_true (by first | (with_reducible assumption) | assumption)
                            have q194 : x12_4 < (x3_1.length : Int) := of_decide_eq_true (by first | (with_reducible assumption) | assumption)
                            obtain ⟨ad194, e194, hx194_0, hx194_1⟩ := at_T29 (Kd.R_reads' HO_3.out).2.2 x12_4 p194 q194
                            obtain rfl : ad188 = ad194 := (by injection e194)
                            replace p194 := eq_true p194
                            replace q194 := eq_true q194
                            have p195 : 0 ≤ (x13_5 : Int) := of_decide_eq_true (by first | (with_reducible assumption) | assumption)
                            have q195 : x13_5 < (x3_1.length : Int) := of_decide_eq_true (by first | (with_reducible assumption) | assumption)
                            obtain ⟨ad195, e195, hx195_0, hx195_1⟩ := at_T29 (Kd.R_reads' HO_3.out).2.2 x13_5 p195 q195
                            obtain rfl : ad188 = ad195 := (by injection e195)
                            replace p195 := eq_true p195
                            replace q195 := eq_true q195
                            have p196 : 0 ≤ (x12_4 : Int) := of_decide_eq_true (by first | (with_reducible assumption) | assumption)
                            have q196 : x12_4 < (x3_1.length : Int) := of_decide_eq_true (by first | (with_reducible assumption) | assumption)
                            obtain ⟨ad196, e196, hx196_0, hx196_1⟩ := at_T29 (Kd.R_reads' HO_3.out).2.2 x12_4 p196 q196
                            obtain rfl : ad188 = ad196 := (by injection e196)
                            replace p196 := eq_true p196
                            replace q196 := eq_true q196
                            have p197 : 0 ≤ (x12_4 : Int) := of_decide_eq_true (by first | (with_reducible assumption) | assumption)
                            have q197 : x12_4 < (x3_1.length : Int) := of_decide_eq_true (by first | (with_reducible assumption) | assumption)
                            obtain ⟨ad197, e197, hx197_0, hx197_1⟩ := at_T29 (Kd.R_reads' HO_3.out).2.2 x12_4 p197 q197
                            obtain rfl : ad188 = ad197 := (by injection e197)
                            replace p197 := eq_true p197
                            replace q197 := eq_true q197
                            have p198 : 0 ≤ (x13_5 : Int) := of_decide_eq_true (by first | (with_reducible assumption) | assumption)
                            have q198 : x13_5 < (x3_1.length : Int) := of_decide_eq_true (by first | (with_reducible assumption) | assumption)
                            obtain ⟨ad198, e198, hx198_0, hx198_1⟩ := at_T29 (Kd.R_reads' HO_3.out).2.2 x13_5 p198 q198
                            obtain rfl : ad188 = ad198 := (by injection e198)
                            replace p198 := eq_true p198
                            replace q198 := eq_true q198
                            have p199 : 0 ≤ (x13_5 : Int) := of_decide_eq_true (by first | (with_reducible assumption) | assumption)
                            have q199 : x13_5 < (x3_1.length : Int) := of_decide_eq_true (by first | (with_reducible assumption) | assumption)
                            obtain ⟨ad199, e199, hx199_0, hx199_1⟩ := at_T29 (Kd.R_reads' HO_3.out).2.2 x13_5 p199 q199
                            obtain rfl : ad188 = ad199 := (by injection e199)
                            replace p199 := eq_true p199
                            replace q199 := eq_true q199
                            refine start_ (n := 36) (S := fun w' => w'.cell? (ad188.add ((x12_4).toNat * 2)) = some (.int .u64 ((rd_T29 x3_1 x12_4).f0)) ∧ w'.cell? ⟨(ad188.add ((x12_4).toNat * 2)).block, (ad188.add ((x12_4).toNat * 2)).off + 1, none⟩ = some (.int .u64 ((rd_T29 x3_1 x12_4).f1)) ∧ w'.cell? (ad188.add ((x13_5).toNat * 2)) = some (.int .u64 ((rd_T29 x3_1 x13_5).f0)) ∧ w'.cell? ⟨(ad188.add ((x13_5).toNat * 2)).block, (ad188.add ((x13_5).toNat * 2)).off + 1, none⟩ = some (.int .u64 ((rd_T29 x3_1 x13_5).f1)) ∧ w'.cell? (ad188.add ((x12_4).toNat * 2)) = some (.int .u64 ((rd_T29 x3_1 x12_4).f0)) ∧ w'.cell? ⟨(ad188.add ((x12_4).toNat * 2)).block, (ad188.add ((x12_4).toNat * 2)).off + 1, none⟩ = some (.int .u64 ((rd_T29 x3_1 x12_4).f1)) ∧ w'.cell? (ad188.add ((x12_4).toNat * 2)) = some (.int .u64 ((rd_T29 x3_1 x12_4).f0)) ∧ w'.cell? ⟨(ad188.add ((x12_4).toNat * 2)).block, (ad188.add ((x12_4).toNat * 2)).off + 1, none⟩ = some (.int .u64 ((rd_T29 x3_1 x12_4).f1)) ∧ w'.cell? (ad188.add ((x13_5).toNat * 2)) = some (.int .u64 ((rd_T29 x3_1 x13_5).f0)) ∧ w'.cell? ⟨(ad188.add ((x13_5).toNat * 2)).block, (ad188.add ((x13_5).toNat * 2)).off + 1, none⟩ = some (.int .u64 ((rd_T29 x3_1 x13_5).f1)) ∧ w'.cell? (ad188.add ((x13_5).toNat * 2)) = some (.int .u64 ((rd_T29 x3_1 x13_5).f0)) ∧ w'.cell? ⟨(ad188.add ((x13_5).toNat * 2)).block, (ad188.add ((x13_5).toNat * 2)).off + 1, none⟩ = some (.int .u64 ((rd_T29 x3_1 x13_5).f1))) (ds := []) #[false, false, false, false, false, false, false, false, false, false, false, false, false, false, false, false, false, false, false, false, false, false, false, false, false, false, false, false, false, false, false, false, false, false, false, false] (by kernel_rfl) rfl rfl ⟨hx194_0, hx194_1, hx195_0, hx195_1, hx196_0, hx196_1, hx197_0, hx197_1, hx198_0, hx198_1, hx199_0, hx199_1⟩ (fun hH => ?_); refine with_tabW graverlaw02_SpanUnions.tab36 graverlaw02_SpanUnions.bits36 (fun HT_ HW_ => ?_)
                            generalize w81.drew = w82 at HO_3 BK193 HB hx194_0 hx194_1 hx195_0 hx195_1 hx196_0 hx196_1 hx197_0 hx197_1 hx198_0 hx198_1 hx199_0 hx199_1 hH ⊢
                            refine pure_ (i := 0) (N := some 156) (v := ?_) (a' := ?_) (bm 36 1) rfl rfl (any_of HT_.out (by kernel_rfl)) (fun _ _ _ h => h) (Or.inl ⟨by rfl, ?_⟩) ?_ ?_
                            rotate_left
                            ·
                             intro w'
                             go_simp
                             with_reducible rfl
                            rotate_left
                            ·
                             simp only [Act.put, aput]
                             rfl
                            refine pure_ (i := 1) (N := some 157) (v := ?_) (a' := ?_) (bm 36 3) rfl rfl (any_of HT_.out (by kernel_rfl)) (fun _ _ _ h => h) (Or.inl ⟨by rfl, ?_⟩) ?_ ?_
                            rotate_left
                            ·
                             intro w'
                             go_simp
                             with_reducible rfl
                            rotate_left
                            ·
                             simp only [Act.put, aput]
                             rfl
                            refine pure_ (i := 2) (N := some 158) (v := ?_) (a' := ?_) (bm 36 7) rfl rfl (any_of HT_.out (by kernel_rfl)) (fun _ _ _ h => h) (Or.inl ⟨by rfl, ?_⟩) ?_ ?_
                            rotate_left
                            ·
                             intro w'
                             go_simp
                             with_reducible rfl
                            rotate_left
                            ·
                             simp only [Act.put, aput]
                             rfl
                            refine pure_ (i := 3) (N := some 159) (v := ?_) (a' := ?_) (bm 36 15) rfl rfl (any_of HT_.out (by kernel_rfl)) (fun _ _ _ h => h) (Or.inl ⟨by rfl, ?_⟩) ?_ ?_
                            rotate_left
                            ·
                             intro w'
                             go_simp
                             with_reducible rfl
                            rotate_left
                            ·
                             simp only [Act.put, aput]
                             rfl
                            refine pure_ (i := 5) (N := some 161) (v := ?_) (a' := ?_) (bm 36 47) rfl rfl (any_of HT_.out (by kernel_rfl)) (fun _ _ _ h => h) (Or.inl ⟨by rfl, ?_⟩) ?_ ?_
                            rotate_left
                            ·
                             intro w'
                             go_simp
                             with_reducible rfl
                            rotate_left
                            ·
                             simp only [Act.put, aput]
                             rfl
                            refine pure_ (i := 6) (N := some 162) (v := ?_) (a' := ?_) (bm 36 111) rfl rfl (any_of HT_.out (by kernel_rfl)) (fun _ _ _ h => h) (Or.inl ⟨by rfl, ?_⟩) ?_ ?_
                            rotate_left
                            ·
                             intro w'
                             go_simp
                             with_reducible rfl
                            rotate_left
                            ·
                             simp only [Act.put, aput]
                             rfl
                            refine pure_ (i := 7) (N := some 163) (v := ?_) (a' := ?_) (bm 36 239) rfl rfl (any_of HT_.out (by kernel_rfl)) (fun _ _ _ h => h) (Or.inl ⟨by rfl, ?_⟩) ?_ ?_
                            rotate_left
                            ·
                             intro w'
                             go_simp
                             with_reducible rfl
                            rotate_left
                            ·
                             simp only [Act.put, aput]
                             rfl
                            refine pure_ (i := 8) (N := some 164) (v := ?_) (a' := ?_) (bm 36 495) rfl rfl (any_of HT_.out (by kernel_rfl)) (fun _ _ _ h => h) (Or.inl ⟨by rfl, ?_⟩) ?_ ?_
                            rotate_left
                            ·
                             intro w'
                             go_simp
                             with_reducible rfl
                            rotate_left
                            ·
                             simp only [Act.put, aput]
                             rfl
                            refine pure_ (i := 11) (N := some 167) (v := ?_) (a' := ?_) (bm 36 2543) rfl rfl (any_of HT_.out (by kernel_rfl)) (fun _ _ _ h => h) (Or.inl ⟨by rfl, ?_⟩) ?_ ?_
                            rotate_left
                            ·
                             intro w'
                             go_simp
                             with_reducible rfl
                            rotate_left
                            ·
                             simp only [Act.put, aput]
                             rfl
                            refine pure_ (i := 12) (N := some 168) (v := ?_) (a' := ?_) (bm 36 6639) rfl rfl (any_of HT_.out (by kernel_rfl)) (fun _ _ _ h => h) (Or.inl ⟨by rfl, ?_⟩) ?_ ?_
                            rotate_left
                            ·
                             intro w'
                             go_simp
                             with_reducible rfl
                            rotate_left
                            ·
                             simp only [Act.put, aput]
                             rfl
                            refine pure_ (i := 13) (N := some 169) (v := ?_) (a' := ?_) (bm 36 14831) rfl rfl (any_of HT_.out (by kernel_rfl)) (fun _ _ _ h => h) (Or.inl ⟨by rfl, ?_⟩) ?_ ?_
                            rotate_left
                            ·
                             intro w'
                             go_simp
                             with_reducible rfl
                            rotate_left
                            ·
                             simp only [Act.put, aput]
                             rfl
                            refine pure_ (i := 14) (N := some 170) (v := ?_) (a' := ?_) (bm 36 31215) rfl rfl (any_of HT_.out (by kernel_rfl)) (fun _ _ _ h => h) (Or.inl ⟨by rfl, ?_⟩) ?_ ?_
                            rotate_left
                            ·
                             intro w'
                             go_simp
                             with_reducible rfl
                            rotate_left
                            ·
                             simp only [Act.put, aput]
                             rfl
                            refine pure_ (i := 16) (N := some 172) (v := ?_) (a' := ?_) (bm 36 96751) rfl rfl (any_of HT_.out (by kernel_rfl)) (fun _ _ _ h => h) (Or.inl ⟨by rfl, ?_⟩) ?_ ?_
                            rotate_left
                            ·
                             intro w'
                             go_simp
                             with_reducible rfl
                            rotate_left
                            ·
                             simp only [Act.put, aput]
                             rfl
                            refine pure_ (i := 17) (N := some 173) (v := ?_) (a' := ?_) (bm 36 227823) rfl rfl (any_of HT_.out (by kernel_rfl)) (fun _ _ _ h => h) (Or.inl ⟨by rfl, ?_⟩) ?_ ?_
                            rotate_left
                            ·
                             intro w'
                             go_simp
                             with_reducible rfl
                            rotate_left
                            ·
                             simp only [Act.put, aput]
                             rfl
                            refine pure_ (i := 18) (N := some 174) (v := ?_) (a' := ?_) (bm 36 489967) rfl rfl (any_of HT_.out (by kernel_rfl)) (fun _ _ _ h => h) (Or.inl ⟨by rfl, ?_⟩) ?_ ?_
                            rotate_left
                            ·
                             intro w'
                             go_simp
                             with_reducible rfl
                            rotate_left
                            ·
                             simp only [Act.put, aput]
                             rfl
                            refine pure_ (i := 19) (N := some 175) (v := ?_) (a' := ?_) (bm 36 1014255) rfl rfl (any_of HT_.out (by kernel_rfl)) (fun _ _ _ h => h) (Or.inl ⟨by rfl, ?_⟩) ?_ ?_
                            rotate_left
                            ·
                             intro w'
                             go_simp
                             with_reducible rfl
                            rotate_left
                            ·
                             simp only [Act.put, aput]
                             rfl
                            refine pure_ (i := 22) (N := some 178) (v := ?_) (a' := ?_) (bm 36 5208559) rfl rfl (any_of HT_.out (by kernel_rfl)) (fun _ _ _ h => h) (Or.inl ⟨by rfl, ?_⟩) ?_ ?_
                            rotate_left
                            ·
                             intro w'
                             go_simp
                             with_reducible rfl
                            rotate_left
                            ·
                             simp only [Act.put, aput]
                             rfl
                            refine pure_ (i := 23) (N := some 179) (v := ?_) (a' := ?_) (bm 36 13597167) rfl rfl (any_of HT_.out (by kernel_rfl)) (fun _ _ _ h => h) (Or.inl ⟨by rfl, ?_⟩) ?_ ?_
                            rotate_left
                            ·
                             intro w'
                             go_simp
                             with_reducible rfl
                            rotate_left
                            ·
                             simp only [Act.put, aput]
                             rfl
                            refine pure_ (i := 24) (N := some 180) (v := ?_) (a' := ?_) (bm 36 30374383) rfl rfl (any_of HT_.out (by kernel_rfl)) (fun _ _ _ h => h) (Or.inl ⟨by rfl, ?_⟩) ?_ ?_
                            rotate_left
                            ·
                             intro w'
                             go_simp
                             with_reducible rfl
                            rotate_left
                            ·
                             simp only [Act.put, aput]
                             rfl
                            refine pure_ (i := 25) (N := some 181) (v := ?_) (a' := ?_) (bm 36 63928815) rfl rfl (any_of HT_.out (by kernel_rfl)) (fun _ _ _ h => h) (Or.inl ⟨by rfl, ?_⟩) ?_ ?_
                            rotate_left
                            ·
                             intro w'
                             go_simp
                             with_reducible rfl
                            rotate_left
                            ·
                             simp only [Act.put, aput]
                             rfl
                            refine pure_ (i := 27) (N := some 183) (v := ?_) (a' := ?_) (bm 36 198146543) rfl rfl (any_of HT_.out (by kernel_rfl)) (fun _ _ _ h => h) (Or.inl ⟨by rfl, ?_⟩) ?_ ?_
                            rotate_left
                            ·
                             intro w'
                             go_simp
                             with_reducible rfl
                            rotate_left
                            ·
                             simp only [Act.put, aput]
                             rfl
                            refine pure_ (i := 28) (N := some 184) (v := ?_) (a' := ?_) (bm 36 466581999) rfl rfl (any_of HT_.out (by kernel_rfl)) (fun _ _ _ h => h) (Or.inl ⟨by rfl, ?_⟩) ?_ ?_
                            rotate_left
                            ·
                             intro w'
                             go_simp
                             with_reducible rfl
                            rotate_left
                            ·
                             simp only [Act.put, aput]
                             rfl
                            refine pure_ (i := 29) (N := some 185) (v := ?_) (a' := ?_) (bm 36 1003452911) rfl rfl (any_of HT_.out (by kernel_rfl)) (fun _ _ _ h => h) (Or.inl ⟨by rfl, ?_⟩) ?_ ?_
                            rotate_left
                            ·
                             intro w'
                             go_simp
                             with_reducible rfl
                            rotate_left
                            ·
                             simp only [Act.put, aput]
                             rfl
                            refine pure_ (i := 30) (N := some 186) (v := ?_) (a' := ?_) (bm 36 2077194735) rfl rfl (any_of HT_.out (by kernel_rfl)) (fun _ _ _ h => h) (Or.inl ⟨by rfl, ?_⟩) ?_ ?_
                            rotate_left
                            ·
                             intro w'
                             go_simp
                             with_reducible rfl
                            rotate_left
                            ·
                             simp only [Act.put, aput]
                             rfl
                            refine take_ (i := 4) (N := some 160) (v := ?_) (a' := ?_) (bm 36 2077194751) rfl rfl (take_ofW HT_.out HW_.out (by kernel_rfl)) (fun _ _ _ h => h) (Or.inl ⟨by rfl, ?_⟩) hH ?_ ?_
                            rotate_left
                            ·
                             intro w' s0
                             go_simp
                             with_reducible rfl
                            rotate_left
                            ·
                             simp only [Act.put, aput]
                             rfl
                            refine take_ (i := 9) (N := some 165) (v := ?_) (a' := ?_) (bm 36 2077195263) rfl rfl (take_ofW HT_.out HW_.out (by kernel_rfl)) (fun _ _ _ h => h) (Or.inl ⟨by rfl, ?_⟩) hH ?_ ?_
                            rotate_left
                            ·
                             intro w' s0
                             go_simp
                             with_reducible rfl
                            rotate_left
                            ·
                             simp only [Act.put, aput]
                             rfl
                            refine pure_ (i := 10) (N := some 166) (v := ?_) (a' := ?_) (bm 36 2077196287) rfl rfl (any_of HT_.out (by kernel_rfl)) (fun _ _ _ h => h) (Or.inl ⟨by rfl, ?_⟩) ?_ ?_
                            rotate_left
                            ·
                             intro w'
                             go_simp
                             with_reducible rfl
                            rotate_left
                            ·
                             simp only [Act.put, aput]
                             rfl
                            refine pure_ (i := 34) (N := some 16) (v := ?_) (a' := ?_) (bm 36 19257065471) rfl rfl (any_of HT_.out (by kernel_rfl)) (fun _ _ _ h => h) (Or.inl ⟨by rfl, ?_⟩) ?_ ?_
                            rotate_left
                            ·
                             intro w'
                             go_simp
                             with_reducible rfl
                            rotate_left
                            ·
                             simp only [Act.put, aput]
                             rfl
                            refine take_ (i := 15) (N := some 171) (v := ?_) (a' := ?_) (bm 36 19257098239) rfl rfl (take_ofW HT_.out HW_.out (by kernel_rfl)) (fun _ _ _ h => h) (Or.inl ⟨by rfl, ?_⟩) hH ?_ ?_
                            rotate_left
                            ·
                             intro w' s0
                             go_simp
                             with_reducible rfl
                            rotate_left
                            ·
                             simp only [Act.put, aput]
                             rfl
                            refine take_ (i := 20) (N := some 176) (v := ?_) (a' := ?_) (bm 36 19258146815) rfl rfl (take_ofW HT_.out HW_.out (by kernel_rfl)) (fun _ _ _ h => h) (Or.inl ⟨by rfl, ?_⟩) hH ?_ ?_
                            rotate_left
                            ·
                             intro w' s0
                             go_simp
                             with_reducible rfl
                            rotate_left
                            ·
                             simp only [Act.put, aput]
                             rfl
                            refine pure_ (i := 21) (N := some 177) (v := ?_) (a' := ?_) (bm 36 19260243967) rfl rfl (any_of HT_.out (by kernel_rfl)) (fun _ _ _ h => h) (Or.inl ⟨by rfl, ?_⟩) ?_ ?_
                            rotate_left
                            ·
                             intro w'
                             go_simp
                             with_reducible rfl
                            rotate_left
                            ·
                             simp only [Act.put, aput]
                             rfl
                            refine take_ (i := 26) (N := some 182) (v := ?_) (a' := ?_) (bm 36 19327352831) rfl rfl (take_ofW HT_.out HW_.out (by kernel_rfl)) (fun _ _ _ h => h) (Or.inl ⟨by rfl, ?_⟩) hH ?_ ?_
                            rotate_left
                            ·
                             intro w' s0
                             go_simp
                             with_reducible rfl
                            rotate_left
                            ·
                             simp only [Act.put, aput]
                             rfl
                            refine take_ (i := 31) (N := some 187) (v := ?_) (a' := ?_) (bm 36 21474836479) rfl rfl (take_ofW HT_.out HW_.out (by kernel_rfl)) (fun _ _ _ h => h) (Or.inl ⟨by rfl, ?_⟩) hH ?_ ?_
                            rotate_left
                            ·
                             intro w' s0
                             go_simp
                             with_reducible rfl
                            rotate_left
                            ·
                             simp only [Act.put, aput]
                             rfl
                            refine pure_ (i := 32) (N := some 188) (v := ?_) (a' := ?_) (bm 36 25769803775) rfl rfl (any_of HT_.out (by kernel_rfl)) (fun _ _ _ h => h) (Or.inl ⟨by rfl, ?_⟩) ?_ ?_
                            rotate_left
                            ·
                             intro w'
                             go_simp
                             with_reducible rfl
                            rotate_left
                            ·
                             simp only [Act.put, aput]
                             rfl
                            refine pure_ (i := 33) (N := some 189) (v := ?_) (a' := ?_) (bm 36 34359738367) rfl rfl (any_of HT_.out (by kernel_rfl)) (fun _ _ _ h => h) (Or.inl ⟨by rfl, ?_⟩) ?_ ?_
                            rotate_left
                            ·
                             intro w'
                             go_simp
                             with_reducible rfl
                            rotate_left
                            ·
                             simp only [Act.put, aput]
                             rfl
                            refine pure_ (i := 35) (N := some 17) (v := ?_) (a' := ?_) (bm 36 68719476735) rfl rfl (any_of HT_.out (by kernel_rfl)) (fun _ _ _ h => h) (Or.inl ⟨by rfl, ?_⟩) ?_ ?_
                            rotate_left
                            ·
                             intro w'
                             go_simp
                             with_reducible rfl
                            rotate_left
                            ·
                             simp only [Act.put, aput]
                             rfl
                            refine done_ (done_of HT_.out (by kernel_rfl)) ?_
                            have hcz83_0 : w82.cell? ⟨gb193, 0, none⟩ = some (.int .u64 t190) := (blk_cell BK193.out 0).trans rfl
                            have hcz83_1 : w82.cell? ⟨gb193, 1, none⟩ = some (.int .u64 t191) := (blk_cell BK193.out 1).trans rfl
                            have hfz83_0 := blk_frozen BK193.out 0
                            have hfz83_1 := blk_frozen BK193.out 1
                            try go_wp2
                            go_roundg k5
                            case measure => have := HK1.out; have := HJ6.out; have := HK3.out; have := HK4.out; have := HK5.out; omega
                            case rel => exact ⟨(wrap64 (x13_5 + 1)), (by first|rfl|(simp; done)|(simp [*]; done)), H', ⟨by have := HK1.out; have := HJ6.out; have := HK3.out; have := HK4.out; have := HK5.out; omega⟩, ⟨by (with_reducible repeat (first|apply Kd.R_alloc|apply Kd.R_drewN|apply Kd.R_drew)); exact Kd.R_mono HO_3.out (fun _ hk => trivial)⟩, ⟨by repeat (first|(with_reducible first|exact HB.out|apply eA|apply eN|apply eD|refine below_set ?_ GE193.out)|exact HB.out)⟩⟩
                        ·
                         rw [if_neg c56] at H
                         exact absurd H (by simp)
                       ·
                        rw [if_neg c55] at H
                        exact absurd H (by simp)
                      ·
                       rw [if_neg c54] at H
                       exact absurd H (by simp)
                     ·
                      rw [if_neg c53] at H
                      have c53b0 : decide (x13_5 < (x3_1.length : Int)) = false := decide_eq_false c53
                      clear c53
                      have H' := aS H
                      clear H
                      go_wp2
                      go_roundg k5
                      case measure => have := HK1.out; have := HJ6.out; have := HK3.out; have := HK4.out; have := HK5.out; omega
                      case rel => exact ⟨(wrap64 (x12_4 + 1)), (by first|rfl|(simp; done)|(simp [*]; done)), H', ⟨by have := HK1.out; have := HJ6.out; have := HK3.out; have := HK4.out; have := HK5.out; omega⟩, ⟨by (with_reducible repeat (first|apply Kd.R_alloc|apply Kd.R_drewN|apply Kd.R_drew)); exact HO_3.out⟩, ⟨by repeat (first|(with_reducible first|exact HB.out|apply below_alloc|apply pw_below_drewN|apply below_drew1)|exact HB.out)⟩⟩
                 ·
                  rw [if_neg c52] at H
                  have c52b0 : decide (x12_4 < (x3_1.length : Int)) = false := decide_eq_false c52
                  clear c52
                  obtain rfl := Option.some.inj H
                  go_wp2
                  go_ret
                  exact ⟨by first|rfl|(simp [errW_none, errW_some] <;> rfl)|(simp [*, errW_none, errW_some] <;> rfl), by repeat (first|(with_reducible first|exact HB.out|apply below_alloc|apply pw_below_drewN|apply below_drew1)|exact HB.out)⟩
             ·
              rw [if_neg c49] at H
              have c49b0 : (x9_3 == (x4_1.length : Int)) = false := beq_eq_false_iff_ne.mpr c49
              have c49b1 : (x9_3 != (x4_1.length : Int)) = true := bne_iff_ne.mpr c49
              exact absurd ((Option.some.inj H).trans HRT.out) (by decide)
 ·
  replace c3 := Bool.eq_false_iff.mpr c3
  subst c3
  have H1 : (some false) = some r := by rw [if_neg (show ¬ (false = true) by decide)] at H; exact H
  clear H
  have H := H1
  clear H1
  exact absurd ((Option.some.inj H).trans HRT.out) (by decide)

theorem graverlaw02_SpanUnions.walk (P : graverlaw02_SpanUnions.Pure) (a0 : Option Addr) (cap0 : Nat) (l0 : List (S48)) (w : World) (hr0 : Kd.C k48 w a0 l0.length l0) (hc0 : l0.length ≤ cap0) (hw0 : ∀ x ∈ l0, (Lit.int .u16 x.f0).wf = true ∧ (Lit.int .u16 x.f1).wf = true) (y0 : l0.length * 4 ≤ 140737488351232) :
 Calls Try.prog 6 #[.slice a0 l0.length cap0] w fun e w' => e = .returned (.bool true) ∧ Below w.heap.size w w' := by
 obtain ⟨k, h⟩ := P l0 y0 hw0
 refine (graverlaw02_SpanUnions.calls k _ _ l0 true w rfl hr0 hc0 h).mono ?_
 rintro e w' ⟨rfl, hd⟩
 exact ⟨rfl, hd⟩

end Go.Proofs.Yteoeohkjomehoaa.Q
