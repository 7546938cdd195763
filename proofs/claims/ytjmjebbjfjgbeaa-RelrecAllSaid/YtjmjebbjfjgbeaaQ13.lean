/- What Go functions of the program compute, each as a Lean function with the proof that the call returns just that. No condition but those in the statements. -/
import Derived.Test.YtjmjebbjfjgbeaaQ0
import Derived.Test.YtjmjebbjfjgbeaaQ3
import Derived.Test.YtjmjebbjfjgbeaaQ6
import Derived.Test.YtjmjebbjfjgbeaaQ11
import Derived.Test.YtjmjebbjfjgbeaaQ12
namespace Go.Proofs.Ytjmjebbjfjgbeaa.Q
open Go.RowKit Go.Proofs.YtjmjebbjfjgbeaaW.PrintWords Go.Proofs.YtjmjebbjfjgbeaaW.PrintLast Go.Proofs.YtjmjebbjfjgbeaaW.PrintMore
attribute [local go_sem] max2_int min2_int max_two min_two max_three min_three max_four min_four   -- for this text's walks alone
set_option linter.unusedVariables false
set_option linter.unusedSimpArgs false

/-! ### relrec_Read: function 13 -/
def relrec_Read.f (k : Nat) (a0_0 : Bool) (a0_1 : Bool) (a1 : Bool) (a2 : ByteArray) : Option (Int × Int × Int × Int × Bool) := (relrec_Size.f a0_0 a0_1 a1).bind fun t200 => (if (a2.size : Int) < t200 then (some (0, 0, 0, 0, false)) else ((relrec_split.f a0_0 a0_1).bind fun bt201 => ((order_Order_Read.f a0_0 a2 0).bind fun bt203 => ((class_Form_Word.f a0_0 a0_1).bind fun t208 => ((order_Reader_Next.f k bt203.1 bt203.2.1 bt203.2.2.1 bt203.2.2.2 t208).bind fun bt209 => ((class_Form_Word.f a0_0 a0_1).bind fun t215 => ((order_Reader_Next.f k bt209.2.1 bt209.2.2.1 bt209.2.2.2.1 bt209.2.2.2.2 t215).bind fun bt216 => (if 0 ≤ bt201.1 then (if a1 = true then ((class_Form_Word.f a0_0 a0_1).bind fun t221 => ((order_Reader_Next.f k bt216.2.1 bt216.2.2.1 bt216.2.2.2.1 bt216.2.2.2.2 t221).bind fun bt222 => (some (bt209.1, shr .u64 bt216.1 bt201.1, Go.bits .and .u64 bt216.1 (IntKind.u64.wrap ((shl .u64 1 bt201.1) - 1)), bt222.1, true)))) else (some (bt209.1, shr .u64 bt216.1 bt201.1, Go.bits .and .u64 bt216.1 (IntKind.u64.wrap ((shl .u64 1 bt201.1) - 1)), 0, true))) else (none)))))))))
theorem relrec_Read.mono : ∀ a0 a1 a2 a3 k, LeO (relrec_Read.f k a0 a1 a2 a3) (relrec_Read.f (k + 1) a0 a1 a2 a3) := by
 intro a0 a1 a2 a3 k
 unfold relrec_Read.f
 repeat' first
   | (with_reducible exact order_Reader_Next.mono _ _ _ _ _ _)
   | (with_reducible exact LeO.refl _)
   | (with_reducible exact LeO.none _)
   | (with_reducible refine LeO.ite ?_ ?_)
   | (with_reducible refine LeO.bind ?_ (fun _ => ?_))
   | exact order_Reader_Next.mono _ _ _ _ _ _
   | exact LeO.none _
   | refine LeO.ite ?_ ?_
   | refine LeO.bind ?_ (fun _ => ?_)
def relrec_Read.T7 : Bool × List (List Nat × List Nat) := (true, [([], []), ([], []), ([0, 1], [0, 1]), ([], []), ([], []), ([4], [4]), ([5], [5]), ([3, 6], [3, 6]), ([0, 1, 2], []), ([8, 2, 0, 1, 2], [2, 8]), ([0, 1, 2, 3, 4, 5, 6, 7, 8, 9], []), ([10, 7, 9, 0, 1, 2, 3, 4, 5, 6, 7, 8, 9], [7, 10])])
def relrec_Read.B7 : List Nat := [0, 0, 3, 0, 0, 16, 48, 120, 7, 263, 1023, 2047]
theorem relrec_Read.tab7 : rtab .any (opsOf Try.f13 7) = relrec_Read.T7 := by kernel_rfl
theorem relrec_Read.bits7 : waitsOk relrec_Read.T7.2 relrec_Read.B7 = true := by kernel_rfl
set_option maxHeartbeats 8000000 in
set_option maxRecDepth 100000 in
theorem relrec_Read.calls (k : Nat) (a0_0 : Bool) (a0_1 : Bool) (a1 : Bool) (a2 : ByteArray) (r1 : Int) (r2 : Int) (r3 : Int) (r4 : Int) (r5 : Bool) (w : World) (h : relrec_Read.f k a0_0 a0_1 a1 a2 = some (r1, r2, r3, r4, r5)) :
  Calls Try.prog 13 #[.agg #[.bool a0_0, .bool a0_1], .bool a1, .string a2] w fun e w' => e = .returned (.tuple #[.agg #[.int .u64 r1, .int .u64 r2, .int .u64 r3, .int .u64 r4], .bool r5]) ∧ Below w.heap.size w w' := by
 have hu29 := Try.underlying29
 have hu33 := Try.underlying33
 have hu27 := Try.underlying27
 have HB := aS (Below.refl w.heap.size w)
 have H : ((relrec_Size.f a0_0 a0_1 a1).bind fun t200 => (if (a2.size : Int) < t200 then (some (0, 0, 0, 0, false)) else ((relrec_split.f a0_0 a0_1).bind fun bt201 => ((order_Order_Read.f a0_0 a2 0).bind fun bt203 => ((class_Form_Word.f a0_0 a0_1).bind fun t208 => ((order_Reader_Next.f k bt203.1 bt203.2.1 bt203.2.2.1 bt203.2.2.2 t208).bind fun bt209 => ((class_Form_Word.f a0_0 a0_1).bind fun t215 => ((order_Reader_Next.f k bt209.2.1 bt209.2.2.1 bt209.2.2.2.1 bt209.2.2.2.2 t215).bind fun bt216 => (if 0 ≤ bt201.1 then (if a1 = true then ((class_Form_Word.f a0_0 a0_1).bind fun t221 => ((order_Reader_Next.f k bt216.2.1 bt216.2.2.1 bt216.2.2.2.1 bt216.2.2.2.2 t221).bind fun bt222 => (some (bt209.1, shr .u64 bt216.1 bt201.1, Go.bits .and .u64 bt216.1 (IntKind.u64.wrap ((shl .u64 1 bt201.1) - 1)), bt222.1, true)))) else (some (bt209.1, shr .u64 bt216.1 bt201.1, Go.bits .and .u64 bt216.1 (IntKind.u64.wrap ((shl .u64 1 bt201.1) - 1)), 0, true))) else (none)))))))))) = some (r1, r2, r3, r4, r5) := h
 clear h
 replace H := Option.bind_eq_some_iff.mp H
 obtain ⟨t200, A40, H⟩ := H
 replace H : (if (a2.size : Int) < t200 then (some (0, 0, 0, 0, false)) else ((relrec_split.f a0_0 a0_1).bind fun bt201 => ((order_Order_Read.f a0_0 a2 0).bind fun bt203 => ((class_Form_Word.f a0_0 a0_1).bind fun t208 => ((order_Reader_Next.f k bt203.1 bt203.2.1 bt203.2.2.1 bt203.2.2.2 t208).bind fun bt209 => ((class_Form_Word.f a0_0 a0_1).bind fun t215 => ((order_Reader_Next.f k bt209.2.1 bt209.2.2.1 bt209.2.2.2.1 bt209.2.2.2.2 t215).bind fun bt216 => (if 0 ≤ bt201.1 then (if a1 = true then ((class_Form_Word.f a0_0 a0_1).bind fun t221 => ((order_Reader_Next.f k bt216.2.1 bt216.2.2.1 bt216.2.2.2.1 bt216.2.2.2.2 t221).bind fun bt222 => (some (bt209.1, shr .u64 bt216.1 bt201.1, Go.bits .and .u64 bt216.1 (IntKind.u64.wrap ((shl .u64 1 bt201.1) - 1)), bt222.1, true)))) else (some (bt209.1, shr .u64 bt216.1 bt201.1, Go.bits .and .u64 bt216.1 (IntKind.u64.wrap ((shl .u64 1 bt201.1) - 1)), 0, true))) else (none))))))))) = some (r1, r2, r3, r4, r5) := H
 have A4 := aS A40
 clear A40
 by_cases c5 : (a2.size : Int) < t200
 ·
  rw [if_pos c5] at H
  have c5b0 : decide ((a2.size : Int) < t200) = true := decide_eq_true c5
  clear c5
  simp only [Option.some.injEq, Prod.mk.injEq] at H
  obtain ⟨rfl, rfl, rfl, rfl, rfl⟩ := H
  go_enter Try.func13, Try.ntmps13
  go_wp2_with (first | ((with_reducible refine gate_dst (N := 3) rfl ?_); refine box_event ?hg (N := 3) ?hd (cs := #[.bool a0_0, .bool a0_1]) (t := 29) ?hr ?_; (case hd => rfl); (case hg => rfl); (case hr => (go_simp; try rfl)); intro gb198 hg w6 hbox hb; have n0_ := aS (below_step (by repeat (first | (with_reducible first | exact HB.out | apply below_alloc | apply pw_below_drewN | apply below_drew1) | exact HB.out)) hb); have n1_ := aS (hbox); have n2_ := aS ((by rw [hg]; exact (below_size (by repeat (first | (with_reducible first | exact HB.out | apply below_alloc | apply pw_below_drewN | apply below_drew1) | exact HB.out))) : w.heap.size ≤ gb198)); have n3_ := aS ((by rw [hg]; exact (below_size (by repeat (first | (with_reducible first | exact HB.out | apply below_alloc | apply pw_below_drewN | apply below_drew1) | exact HB.out))) : w.heap.size ≤ gb198)); clear HB; have HB := n0_; have BK198 := n1_; have GW198 := n2_; have GE198 := n3_; clear n0_ n1_ n2_ n3_; clear hb hbox hg) | ((with_reducible refine gate_dst (N := 6) rfl ?_); refine box_event ?hg (N := 6) ?hd (cs := #[.int .u64 0, .int .u64 0, .int .u64 0, .int .u64 0]) (t := 33) ?hr ?_; (case hd => rfl); (case hg => rfl); (case hr => (go_simp; try rfl)); intro gb199 hg w7 hbox hb; have n0_ := aS (blk_below (g := gb198) (o := .cells #[.bool a0_0, .bool a0_1] 29 (0, 0)) (by (with_reducible repeat (first | apply bN | apply bD | apply bA)); exact BK198.out) hb); have n1_ := aS (below_step (by repeat (first | (with_reducible first | exact HB.out | apply eA | apply eN | apply eD | refine below_set ?_ GE198.out) | exact HB.out)) hb); have n2_ := aS (hbox); have n3_ := aS ((by rw [hg]; exact (below_size (by repeat (first | (with_reducible first | exact HB.out | apply eA | apply eN | apply eD | refine below_set ?_ GE198.out) | exact HB.out))) : w.heap.size ≤ gb199)); have n4_ := aS ((by rw [hg]; exact (below_size (by repeat (first | (with_reducible first | exact HB.out | apply eA | apply eN | apply eD | refine below_set ?_ GE198.out) | exact HB.out))) : w.heap.size ≤ gb199)); have n5_ := aS ((by rw [hg]; exact Nat.ne_of_lt (blk_lt (g := gb198) (o := .cells #[.bool a0_0, .bool a0_1] 29 (0, 0)) (by (with_reducible repeat (first | apply bN | apply bD | apply bA)); exact BK198.out)) : gb198 ≠ gb199)); have n6_ := aS ((by rw [hg]; exact Nat.ne_of_gt (blk_lt (g := gb198) (o := .cells #[.bool a0_0, .bool a0_1] 29 (0, 0)) (by (with_reducible repeat (first | apply bN | apply bD | apply bA)); exact BK198.out)) : gb199 ≠ gb198)); clear BK198; clear HB; have BK198 := n0_; have HB := n1_; have BK199 := n2_; have GW199 := n3_; have GE199 := n4_; have NB198_199 := n5_; have NB199_198 := n6_; clear n0_ n1_ n2_ n3_ n4_ n5_ n6_; clear hb hbox hg; have hnb8 := NB198_199.out; have hnc8 := NB199_198.out; have hcz9_0 : w7.cell? ⟨gb198, 0, none⟩ = some (.bool a0_0) := (blk_cell BK198.out 0).trans rfl; have hcz9_1 : w7.cell? ⟨gb198, 1, none⟩ = some (.bool a0_1) := (blk_cell BK198.out 1).trans rfl; have hfz9_0 := blk_frozen BK198.out 0; have hfz9_1 := blk_frozen BK198.out 1) | ((with_reducible refine gate_callee (f := 14) rfl ?_); refine goesL_ (some 17) rfl rfl Try.func14 (by kernel_rfl) rfl #[.agg #[.bool a0_0, .bool a0_1], .bool a1] rfl (by (try simp only [List.map_toArray, List.map_cons, List.map_nil]); first | done | rfl | (simp only [List.length_drop, List.length_take]; rfl)) ?_; (with_reducible refine (relrec_Size.calls a0_0 a0_1 a1 t200 _ A4.out).mono ?_); rintro e w10 ⟨rfl, hb⟩; refine ⟨_, rfl, ?_⟩; have n0_ := aS (blk_below (g := gb198) (o := .cells #[.bool a0_0, .bool a0_1] 29 (0, 0)) (by (with_reducible repeat (first | apply bN | apply bD | apply bA)); exact BK198.out) hb); have n1_ := aS (blk_below (g := gb199) (o := .cells #[.int .u64 0, .int .u64 0, .int .u64 0, .int .u64 0] 33 (0, 0)) (by (with_reducible repeat (first | apply bN | apply bD | apply bA)); exact BK199.out) hb); have n2_ := aS (below_step (by repeat (first | (with_reducible first | exact HB.out | apply eA | apply eN | apply eD | refine below_set ?_ GE198.out | refine below_set ?_ GE199.out) | exact HB.out)) hb); clear BK198; clear BK199; clear HB; have BK198 := n0_; have BK199 := n1_; have HB := n2_; clear n0_ n1_ n2_; (try clear hb); (try clear hb2); (try clear hk); (try clear hi); have hcz11_0 : w10.cell? ⟨gb199, 0, none⟩ = some (.int .u64 0) := (blk_cell BK199.out 0).trans rfl; have hcz11_1 : w10.cell? ⟨gb199, 1, none⟩ = some (.int .u64 0) := (blk_cell BK199.out 1).trans rfl; have hcz11_2 : w10.cell? ⟨gb199, 2, none⟩ = some (.int .u64 0) := (blk_cell BK199.out 2).trans rfl; have hcz11_3 : w10.cell? ⟨gb199, 3, none⟩ = some (.int .u64 0) := (blk_cell BK199.out 3).trans rfl; have hfz11_0 := blk_frozen BK199.out 0; have hfz11_1 := blk_frozen BK199.out 1; have hfz11_2 := blk_frozen BK199.out 2; have hfz11_3 := blk_frozen BK199.out 3))
  refine bodyPost_ret (results_ct rfl _ _ gb199 33 #[.int .u64 0, .int .u64 0, .int .u64 0, .int .u64 0] (0, 0) _ rfl (by (with_reducible repeat (first | apply bN | apply bD | apply bA)); refine blk_put (cs := #[.int .u64 0, .int .u64 0, .int .u64 0, .int .u64 0]) ?_ 3 _ rfl; (with_reducible repeat (first | apply bN | apply bD | apply bA)); refine blk_put (cs := #[.int .u64 0, .int .u64 0, .int .u64 0, .int .u64 0]) ?_ 2 _ rfl; (with_reducible repeat (first | apply bN | apply bD | apply bA)); refine blk_put (cs := #[.int .u64 0, .int .u64 0, .int .u64 0, .int .u64 0]) ?_ 1 _ rfl; (with_reducible repeat (first | apply bN | apply bD | apply bA)); refine blk_put (cs := #[.int .u64 0, .int .u64 0, .int .u64 0, .int .u64 0]) ?_ 0 _ rfl; (with_reducible repeat (first | apply bN | apply bD | apply bA)); exact BK199.out) Try.underlying33 rfl (by kernel_rfl)) rfl ?_
  exact ⟨by first | rfl | (simp [errW_none, errW_some] <;> rfl) | (simp [*, errW_none, errW_some] <;> rfl), by repeat (first | (with_reducible first | exact HB.out | apply eA | apply eN | apply eD | refine below_set ?_ GE198.out | refine below_set ?_ GE199.out) | exact HB.out)⟩
 ·
  rw [if_neg c5] at H
  have c5b0 : decide ((a2.size : Int) < t200) = false := decide_eq_false c5
  clear c5
  replace H := Option.bind_eq_some_iff.mp H
  obtain ⟨⟨t201, t202⟩, A120, H⟩ := H
  replace H : ((order_Order_Read.f a0_0 a2 0).bind fun bt203 => ((class_Form_Word.f a0_0 a0_1).bind fun t208 => ((order_Reader_Next.f k bt203.1 bt203.2.1 bt203.2.2.1 bt203.2.2.2 t208).bind fun bt209 => ((class_Form_Word.f a0_0 a0_1).bind fun t215 => ((order_Reader_Next.f k bt209.2.1 bt209.2.2.1 bt209.2.2.2.1 bt209.2.2.2.2 t215).bind fun bt216 => (if 0 ≤ t201 then (if a1 = true then ((class_Form_Word.f a0_0 a0_1).bind fun t221 => ((order_Reader_Next.f k bt216.2.1 bt216.2.2.1 bt216.2.2.2.1 bt216.2.2.2.2 t221).bind fun bt222 => (some (bt209.1, shr .u64 bt216.1 t201, Go.bits .and .u64 bt216.1 (IntKind.u64.wrap ((shl .u64 1 t201) - 1)), bt222.1, true)))) else (some (bt209.1, shr .u64 bt216.1 t201, Go.bits .and .u64 bt216.1 (IntKind.u64.wrap ((shl .u64 1 t201) - 1)), 0, true))) else (none))))))) = some (r1, r2, r3, r4, r5) := H
  have A12 := aS A120
  clear A120
  replace H := Option.bind_eq_some_iff.mp H
  obtain ⟨⟨t203, t204, t205, t206⟩, A130, H⟩ := H
  replace H : ((class_Form_Word.f a0_0 a0_1).bind fun t208 => ((order_Reader_Next.f k t203 t204 t205 t206 t208).bind fun bt209 => ((class_Form_Word.f a0_0 a0_1).bind fun t215 => ((order_Reader_Next.f k bt209.2.1 bt209.2.2.1 bt209.2.2.2.1 bt209.2.2.2.2 t215).bind fun bt216 => (if 0 ≤ t201 then (if a1 = true then ((class_Form_Word.f a0_0 a0_1).bind fun t221 => ((order_Reader_Next.f k bt216.2.1 bt216.2.2.1 bt216.2.2.2.1 bt216.2.2.2.2 t221).bind fun bt222 => (some (bt209.1, shr .u64 bt216.1 t201, Go.bits .and .u64 bt216.1 (IntKind.u64.wrap ((shl .u64 1 t201) - 1)), bt222.1, true)))) else (some (bt209.1, shr .u64 bt216.1 t201, Go.bits .and .u64 bt216.1 (IntKind.u64.wrap ((shl .u64 1 t201) - 1)), 0, true))) else (none)))))) = some (r1, r2, r3, r4, r5) := H
  have A13 := aS A130
  clear A130
  replace H := Option.bind_eq_some_iff.mp H
  obtain ⟨t208, A140, H⟩ := H
  replace H : ((order_Reader_Next.f k t203 t204 t205 t206 t208).bind fun bt209 => ((class_Form_Word.f a0_0 a0_1).bind fun t215 => ((order_Reader_Next.f k bt209.2.1 bt209.2.2.1 bt209.2.2.2.1 bt209.2.2.2.2 t215).bind fun bt216 => (if 0 ≤ t201 then (if a1 = true then ((class_Form_Word.f a0_0 a0_1).bind fun t221 => ((order_Reader_Next.f k bt216.2.1 bt216.2.2.1 bt216.2.2.2.1 bt216.2.2.2.2 t221).bind fun bt222 => (some (bt209.1, shr .u64 bt216.1 t201, Go.bits .and .u64 bt216.1 (IntKind.u64.wrap ((shl .u64 1 t201) - 1)), bt222.1, true)))) else (some (bt209.1, shr .u64 bt216.1 t201, Go.bits .and .u64 bt216.1 (IntKind.u64.wrap ((shl .u64 1 t201) - 1)), 0, true))) else (none))))) = some (r1, r2, r3, r4, r5) := H
  have A14 := aS A140
  clear A140
  replace H := Option.bind_eq_some_iff.mp H
  obtain ⟨⟨t209, t210, t211, t212, t213⟩, A150, H⟩ := H
  replace H : ((class_Form_Word.f a0_0 a0_1).bind fun t215 => ((order_Reader_Next.f k t210 t211 t212 t213 t215).bind fun bt216 => (if 0 ≤ t201 then (if a1 = true then ((class_Form_Word.f a0_0 a0_1).bind fun t221 => ((order_Reader_Next.f k bt216.2.1 bt216.2.2.1 bt216.2.2.2.1 bt216.2.2.2.2 t221).bind fun bt222 => (some (t209, shr .u64 bt216.1 t201, Go.bits .and .u64 bt216.1 (IntKind.u64.wrap ((shl .u64 1 t201) - 1)), bt222.1, true)))) else (some (t209, shr .u64 bt216.1 t201, Go.bits .and .u64 bt216.1 (IntKind.u64.wrap ((shl .u64 1 t201) - 1)), 0, true))) else (none)))) = some (r1, r2, r3, r4, r5) := H
  have A15 := aS A150
  clear A150
  replace H := Option.bind_eq_some_iff.mp H
  obtain ⟨t215, A160, H⟩ := H
  replace H : ((order_Reader_Next.f k t210 t211 t212 t213 t215).bind fun bt216 => (if 0 ≤ t201 then (if a1 = true then ((class_Form_Word.f a0_0 a0_1).bind fun t221 => ((order_Reader_Next.f k bt216.2.1 bt216.2.2.1 bt216.2.2.2.1 bt216.2.2.2.2 t221).bind fun bt222 => (some (t209, shr .u64 bt216.1 t201, Go.bits .and .u64 bt216.1 (IntKind.u64.wrap ((shl .u64 1 t201) - 1)), bt222.1, true)))) else (some (t209, shr .u64 bt216.1 t201, Go.bits .and .u64 bt216.1 (IntKind.u64.wrap ((shl .u64 1 t201) - 1)), 0, true))) else (none))) = some (r1, r2, r3, r4, r5) := H
  have A16 := aS A160
  clear A160
  replace H := Option.bind_eq_some_iff.mp H
  obtain ⟨⟨t216, t217, t218, t219, t220⟩, A170, H⟩ := H
  replace H : (if 0 ≤ t201 then (if a1 = true then ((class_Form_Word.f a0_0 a0_1).bind fun t221 => ((order_Reader_Next.f k t217 t218 t219 t220 t221).bind fun bt222 => (some (t209, shr .u64 t216 t201, Go.bits .and .u64 t216 (IntKind.u64.wrap ((shl .u64 1 t201) - 1)), bt222.1, true)))) else (some (t209, shr .u64 t216 t201, Go.bits .and .u64 t216 (IntKind.u64.wrap ((shl .u64 1 t201) - 1)), 0, true))) else (none)) = some (r1, r2, r3, r4, r5) := H
  have A17 := aS A170
  clear A170
  by_cases c18 : 0 ≤ t201
  ·
   rw [if_pos c18] at H
   have c18b0 := eq_true c18
   have c18b1 : decide (0 ≤ t201) = true := decide_eq_true c18
   clear c18
   obtain ⟨ji19, hji19⟩ : ∃ j_ : Int, (shr .u64 t216 t201) = j_ := ⟨_, rfl⟩
   replace H : (if a1 = true then ((class_Form_Word.f a0_0 a0_1).bind fun t221 => ((order_Reader_Next.f k t217 t218 t219 t220 t221).bind fun bt222 => (some (t209, ji19, Go.bits .and .u64 t216 (IntKind.u64.wrap ((shl .u64 1 t201) - 1)), bt222.1, true)))) else (some (t209, ji19, Go.bits .and .u64 t216 (IntKind.u64.wrap ((shl .u64 1 t201) - 1)), 0, true))) = some (r1, r2, r3, r4, r5) := by first | (rw [hji19] at H; exact H) | (simp only [hji19] at H ⊢; exact H)
   (try rw [hji19] at A4)
   (try rw [hji19] at A12)
   (try rw [hji19] at A13)
   (try rw [hji19] at A14)
   (try rw [hji19] at A15)
   (try rw [hji19] at A16)
   (try rw [hji19] at A17)
   have hji19_ : (t216 / 2 ^ min t201.toNat 64) = ji19 := hji19
   have hji19z : t201 ≤ 64 → (t216 / 2 ^ t201.toNat) = ji19 := shr_small hji19
   have c20b0 := eq_true (of_decide_eq_true (by first | (with_reducible assumption) | assumption) : 0 ≤ t201)
   obtain ⟨ji21, hji21⟩ : ∃ j_ : Int, (shl .u64 1 t201) = j_ := ⟨_, rfl⟩
   replace H : (if a1 = true then ((class_Form_Word.f a0_0 a0_1).bind fun t221 => ((order_Reader_Next.f k t217 t218 t219 t220 t221).bind fun bt222 => (some (t209, ji19, Go.bits .and .u64 t216 (IntKind.u64.wrap ((ji21) - 1)), bt222.1, true)))) else (some (t209, ji19, Go.bits .and .u64 t216 (IntKind.u64.wrap ((ji21) - 1)), 0, true))) = some (r1, r2, r3, r4, r5) := by first | (rw [hji21] at H; exact H) | (simp only [hji21] at H ⊢; exact H)
   (try rw [hji21] at A4)
   (try rw [hji21] at A12)
   (try rw [hji21] at A13)
   (try rw [hji21] at A14)
   (try rw [hji21] at A15)
   (try rw [hji21] at A16)
   (try rw [hji21] at A17)
   have hji21_ : (IntKind.u64.wrap (1 * 2 ^ min t201.toNat 64)) = ji21 := hji21
   have hji21z : t201 ≤ 64 → (IntKind.u64.wrap (1 * 2 ^ t201.toNat)) = ji21 := shl_small hji21
   have hji21u : (IntKind.u64.wrap (2 ^ min t201.toNat 64)) = ji21 := by have h_ := hji21_; rw [Int.one_mul] at h_; exact h_
   have hji21v : t201 ≤ 64 → (IntKind.u64.wrap (2 ^ t201.toNat)) = ji21 := fun hle_ => by have h_ := hji21z hle_; rw [Int.one_mul] at h_; exact h_
   by_cases c22 : a1 = true
   ·
    subst c22
    have H1 : ((class_Form_Word.f a0_0 a0_1).bind fun t221 => ((order_Reader_Next.f k t217 t218 t219 t220 t221).bind fun bt222 => (some (t209, ji19, Go.bits .and .u64 t216 (IntKind.u64.wrap ((ji21) - 1)), bt222.1, true)))) = some (r1, r2, r3, r4, r5) := by rw [if_pos rfl] at H; exact H
    clear H
    have H := H1
    clear H1
    replace H := Option.bind_eq_some_iff.mp H
    obtain ⟨t221, A230, H⟩ := H
    replace H : ((order_Reader_Next.f k t217 t218 t219 t220 t221).bind fun bt222 => (some (t209, ji19, Go.bits .and .u64 t216 (IntKind.u64.wrap ((ji21) - 1)), bt222.1, true))) = some (r1, r2, r3, r4, r5) := H
    have A23 := aS A230
    clear A230
    replace H := Option.bind_eq_some_iff.mp H
    obtain ⟨⟨t222, t223, t224, t225, t226⟩, A240, H⟩ := H
    replace H : (some (t209, ji19, Go.bits .and .u64 t216 (IntKind.u64.wrap ((ji21) - 1)), t222, true)) = some (r1, r2, r3, r4, r5) := H
    have A24 := aS A240
    clear A240
    simp only [Option.some.injEq, Prod.mk.injEq] at H
    obtain ⟨rfl, rfl, rfl, rfl, rfl⟩ := H
    go_enter Try.func13, Try.ntmps13
    try go_wp2_with (first | ((with_reducible refine gate_dst (N := 3) rfl ?_); refine box_event ?hg (N := 3) ?hd (cs := #[.bool a0_0, .bool a0_1]) (t := 29) ?hr ?_; (case hd => rfl); (case hg => rfl); (case hr => (go_simp; try rfl)); intro gb198 hg w25 hbox hb; have n0_ := aS (below_step (by repeat (first | (with_reducible first | exact HB.out | apply below_alloc | apply pw_below_drewN | apply below_drew1) | exact HB.out)) hb); have n1_ := aS (hbox); have n2_ := aS ((by rw [hg]; exact (below_size (by repeat (first | (with_reducible first | exact HB.out | apply below_alloc | apply pw_below_drewN | apply below_drew1) | exact HB.out))) : w.heap.size ≤ gb198)); have n3_ := aS ((by rw [hg]; exact (below_size (by repeat (first | (with_reducible first | exact HB.out | apply below_alloc | apply pw_below_drewN | apply below_drew1) | exact HB.out))) : w.heap.size ≤ gb198)); clear HB; have HB := n0_; have BK198 := n1_; have GW198 := n2_; have GE198 := n3_; clear n0_ n1_ n2_ n3_; clear hb hbox hg) | ((with_reducible refine gate_dst (N := 6) rfl ?_); refine box_event ?hg (N := 6) ?hd (cs := #[.int .u64 0, .int .u64 0, .int .u64 0, .int .u64 0]) (t := 33) ?hr ?_; (case hd => rfl); (case hg => rfl); (case hr => (go_simp; try rfl)); intro gb199 hg w26 hbox hb; have n0_ := aS (blk_below (g := gb198) (o := .cells #[.bool a0_0, .bool a0_1] 29 (0, 0)) (by (with_reducible repeat (first | apply bN | apply bD | apply bA)); exact BK198.out) hb); have n1_ := aS (below_step (by repeat (first | (with_reducible first | exact HB.out | apply eA | apply eN | apply eD | refine below_set ?_ GE198.out) | exact HB.out)) hb); have n2_ := aS (hbox); have n3_ := aS ((by rw [hg]; exact (below_size (by repeat (first | (with_reducible first | exact HB.out | apply eA | apply eN | apply eD | refine below_set ?_ GE198.out) | exact HB.out))) : w.heap.size ≤ gb199)); have n4_ := aS ((by rw [hg]; exact (below_size (by repeat (first | (with_reducible first | exact HB.out | apply eA | apply eN | apply eD | refine below_set ?_ GE198.out) | exact HB.out))) : w.heap.size ≤ gb199)); have n5_ := aS ((by rw [hg]; exact Nat.ne_of_lt (blk_lt (g := gb198) (o := .cells #[.bool a0_0, .bool a0_1] 29 (0, 0)) (by (with_reducible repeat (first | apply bN | apply bD | apply bA)); exact BK198.out)) : gb198 ≠ gb199)); have n6_ := aS ((by rw [hg]; exact Nat.ne_of_gt (blk_lt (g := gb198) (o := .cells #[.bool a0_0, .bool a0_1] 29 (0, 0)) (by (with_reducible repeat (first | apply bN | apply bD | apply bA)); exact BK198.out)) : gb199 ≠ gb198)); clear BK198; clear HB; have BK198 := n0_; have HB := n1_; have BK199 := n2_; have GW199 := n3_; have GE199 := n4_; have NB198_199 := n5_; have NB199_198 := n6_; clear n0_ n1_ n2_ n3_ n4_ n5_ n6_; clear hb hbox hg; have hnb27 := NB198_199.out; have hnc27 := NB199_198.out; have hcz28_0 : w26.cell? ⟨gb198, 0, none⟩ = some (.bool a0_0) := (blk_cell BK198.out 0).trans rfl; have hcz28_1 : w26.cell? ⟨gb198, 1, none⟩ = some (.bool a0_1) := (blk_cell BK198.out 1).trans rfl; have hfz28_0 := blk_frozen BK198.out 0; have hfz28_1 := blk_frozen BK198.out 1) | ((with_reducible refine gate_callee (f := 14) rfl ?_); refine goesL_ (some 17) rfl rfl Try.func14 (by kernel_rfl) rfl #[.agg #[.bool a0_0, .bool a0_1], .bool true] rfl (by (try simp only [List.map_toArray, List.map_cons, List.map_nil]); first | done | rfl | (simp only [List.length_drop, List.length_take]; rfl)) ?_; (with_reducible refine (relrec_Size.calls a0_0 a0_1 true t200 _ A4.out).mono ?_); rintro e w29 ⟨rfl, hb⟩; refine ⟨_, rfl, ?_⟩; have n0_ := aS (blk_below (g := gb198) (o := .cells #[.bool a0_0, .bool a0_1] 29 (0, 0)) (by (with_reducible repeat (first | apply bN | apply bD | apply bA)); exact BK198.out) hb); have n1_ := aS (blk_below (g := gb199) (o := .cells #[.int .u64 0, .int .u64 0, .int .u64 0, .int .u64 0] 33 (0, 0)) (by (with_reducible repeat (first | apply bN | apply bD | apply bA)); exact BK199.out) hb); have n2_ := aS (below_step (by repeat (first | (with_reducible first | exact HB.out | apply eA | apply eN | apply eD | refine below_set ?_ GE198.out | refine below_set ?_ GE199.out) | exact HB.out)) hb); clear BK198; clear BK199; clear HB; have BK198 := n0_; have BK199 := n1_; have HB := n2_; clear n0_ n1_ n2_; (try clear hb); (try clear hb2); (try clear hk); (try clear hi); have hcz30_0 : w29.cell? ⟨gb198, 0, none⟩ = some (.bool a0_0) := (blk_cell BK198.out 0).trans rfl; have hcz30_1 : w29.cell? ⟨gb198, 1, none⟩ = some (.bool a0_1) := (blk_cell BK198.out 1).trans rfl; have hfz30_0 := blk_frozen BK198.out 0; have hfz30_1 := blk_frozen BK198.out 1) | ((with_reducible refine gate_callee (f := 21) rfl ?_); refine goesL_ (some 22) rfl rfl Try.func21 (by kernel_rfl) rfl #[.agg #[.bool a0_0, .bool a0_1]] rfl (by (try simp only [List.map_toArray, List.map_cons, List.map_nil]); first | done | rfl | (simp only [List.length_drop, List.length_take]; rfl)) ?_; (with_reducible refine (relrec_split.calls a0_0 a0_1 t201 t202 _ A12.out).mono ?_); rintro e w31 ⟨rfl, hb⟩; refine ⟨_, rfl, ?_⟩; have n0_ := aS (blk_below (g := gb198) (o := .cells #[.bool a0_0, .bool a0_1] 29 (0, 0)) (by (with_reducible repeat (first | apply bN | apply bD | apply bA)); exact BK198.out) hb); have n1_ := aS (blk_below (g := gb199) (o := .cells #[.int .u64 0, .int .u64 0, .int .u64 0, .int .u64 0] 33 (0, 0)) (by (with_reducible repeat (first | apply bN | apply bD | apply bA)); exact BK199.out) hb); have n2_ := aS (below_step (by repeat (first | (with_reducible first | exact HB.out | apply eA | apply eN | apply eD | refine below_set ?_ GE198.out | refine below_set ?_ GE199.out) | exact HB.out)) hb); clear BK198; clear BK199; clear HB; have BK198 := n0_; have BK199 := n1_; have HB := n2_; clear n0_ n1_ n2_; (try clear hb); (try clear hb2); (try clear hk); (try clear hi); have hcz32_0 : w31.cell? ⟨gb198, 0, none⟩ = some (.bool a0_0) := (blk_cell BK198.out 0).trans rfl; have hcz32_1 : w31.cell? ⟨gb198, 1, none⟩ = some (.bool a0_1) := (blk_cell BK198.out 1).trans rfl; have hfz32_0 := blk_frozen BK198.out 0; have hfz32_1 := blk_frozen BK198.out 1) | ((with_reducible refine gate_callee (f := 26) rfl ?_); refine goesL_ (some 28) rfl rfl Try.func26 (by kernel_rfl) rfl #[.agg #[.bool a0_0], .string a2, .int .u64 0] rfl (by (try simp only [List.map_toArray, List.map_cons, List.map_nil]); first | done | rfl | (simp only [List.length_drop, List.length_take]; rfl)) ?_; (with_reducible refine (order_Order_Read.calls a0_0 a2 0 t203 t204 t205 t206 w _ ?side1 A13.out).mono ?_); (case side1 => repeat (first | (with_reducible first | exact HB.out | apply eA | apply eN | apply eD | refine below_set ?_ GE198.out | refine below_set ?_ GE199.out) | exact HB.out)); rintro e w33 ⟨g207, rfl, hi, hb, hb2⟩; refine ⟨_, rfl, ?_⟩; have n0_ := aS (blk_below (g := gb198) (o := .cells #[.bool a0_0, .bool a0_1] 29 (0, 0)) (by (with_reducible repeat (first | apply bN | apply bD | apply bA)); exact BK198.out) hb2); have n1_ := aS (blk_below (g := gb199) (o := .cells #[.int .u64 0, .int .u64 0, .int .u64 0, .int .u64 0] 33 (0, 0)) (by (with_reducible repeat (first | apply bN | apply bD | apply bA)); exact BK199.out) hb2); have n2_ := aS (hb); have n3_ := aS (hi); have n4_ := aS (IsS90.ne_blk hi (blk_below (g := gb198) (o := .cells #[.bool a0_0, .bool a0_1] 29 (0, 0)) (by (with_reducible repeat (first | apply bN | apply bD | apply bA)); exact BK198.out) hb2) (by decide)); have n5_ := aS (Ne.symm (IsS90.ne_blk hi (blk_below (g := gb198) (o := .cells #[.bool a0_0, .bool a0_1] 29 (0, 0)) (by (with_reducible repeat (first | apply bN | apply bD | apply bA)); exact BK198.out) hb2) (by decide))); have n6_ := aS (IsS90.ne_blk hi (blk_below (g := gb199) (o := .cells #[.int .u64 0, .int .u64 0, .int .u64 0, .int .u64 0] 33 (0, 0)) (by (with_reducible repeat (first | apply bN | apply bD | apply bA)); exact BK199.out) hb2) (by decide)); have n7_ := aS (Ne.symm (IsS90.ne_blk hi (blk_below (g := gb199) (o := .cells #[.int .u64 0, .int .u64 0, .int .u64 0, .int .u64 0] 33 (0, 0)) (by (with_reducible repeat (first | apply bN | apply bD | apply bA)); exact BK199.out) hb2) (by decide))); clear BK198; clear BK199; clear HB; have BK198 := n0_; have BK199 := n1_; have HB := n2_; have HI207 := n3_; have NB207_198 := n4_; have NB198_207 := n5_; have NB207_199 := n6_; have NB199_207 := n7_; clear n0_ n1_ n2_ n3_ n4_ n5_ n6_ n7_; (try clear hb); (try clear hb2); (try clear hk); (try clear hi); have hnb34 := NB198_207.out; have hnc34 := NB207_198.out; have hcz35_0 : w33.cell? ⟨gb198, 0, none⟩ = some (.bool a0_0) := (blk_cell BK198.out 0).trans rfl; have hcz35_1 : w33.cell? ⟨gb198, 1, none⟩ = some (.bool a0_1) := (blk_cell BK198.out 1).trans rfl; have hfz35_0 := blk_frozen BK198.out 0; have hfz35_1 := blk_frozen BK198.out 1) | ((with_reducible refine gate_callee (f := 28) rfl ?_); refine goesL_ (some 31) rfl rfl Try.func28 (by kernel_rfl) rfl #[.agg #[.bool a0_0, .bool a0_1]] rfl (by (try simp only [List.map_toArray, List.map_cons, List.map_nil]); first | done | rfl | (simp only [List.length_drop, List.length_take]; rfl)) ?_; (with_reducible refine (class_Form_Word.calls a0_0 a0_1 t208 _ A14.out).mono ?_); rintro e w36 ⟨rfl, hb⟩; refine ⟨_, rfl, ?_⟩; have n0_ := aS (blk_below (g := gb198) (o := .cells #[.bool a0_0, .bool a0_1] 29 (0, 0)) (by (with_reducible repeat (first | apply bN | apply bD | apply bA)); exact BK198.out) hb); have n1_ := aS (blk_below (g := gb199) (o := .cells #[.int .u64 0, .int .u64 0, .int .u64 0, .int .u64 0] 33 (0, 0)) (by (with_reducible repeat (first | apply bN | apply bD | apply bA)); exact BK199.out) hb); have n2_ := aS (IsS90.below (by repeat (first | (with_reducible first | exact HI207.out | apply IsS90.alloc | apply IsS90.drewN | apply IsS90.drew | apply IsS90.set_0 | apply IsS90.set_1 | apply IsS90.set_2 | apply IsS90.set_3 | refine IsS90.far ?_ NB207_198.out _ | refine IsS90.far ?_ NB207_199.out _) | exact HI207.out)) hb); have n3_ := aS (below_step (by repeat (first | (with_reducible first | exact HB.out | apply eA | apply eN | apply eD | refine below_set ?_ (IsS90.ge HI207.out) | refine below_set ?_ GE198.out | refine below_set ?_ GE199.out) | exact HB.out)) hb); clear BK198; clear BK199; clear HI207; clear HB; have BK198 := n0_; have BK199 := n1_; have HI207 := n2_; have HB := n3_; clear n0_ n1_ n2_ n3_; (try clear hb); (try clear hb2); (try clear hk); (try clear hi)) | ((with_reducible refine gate_callee (f := 27) rfl ?_); refine goesL_ (some 32) rfl rfl Try.func27 (by kernel_rfl) rfl #[.pointer (some ⟨g207, 0, none⟩), .int .i64 t208] rfl (by (try simp only [List.map_toArray, List.map_cons, List.map_nil]); first | done | rfl | (simp only [List.length_drop, List.length_take]; rfl)) ?_; (with_reducible refine (order_Reader_Next.calls k g207 t203 t204 t205 t206 t208 t209 t210 t211 t212 t213 w _ ?side1 ?side2 A15.out).mono ?_); (case side1 => repeat (first | (with_reducible first | exact HI207.out | apply IsS90.alloc | apply IsS90.drewN | apply IsS90.drew | apply IsS90.set_0 | apply IsS90.set_1 | apply IsS90.set_2 | apply IsS90.set_3 | refine IsS90.far ?_ NB207_198.out _ | refine IsS90.far ?_ NB207_199.out _) | exact HI207.out)); (case side2 => repeat (first | (with_reducible first | exact HB.out | apply eA | apply eN | apply eD | refine below_set ?_ (IsS90.ge HI207.out) | refine below_set ?_ GE198.out | refine below_set ?_ GE199.out) | exact HB.out)); rintro e w37 ⟨rfl, hi, hb, hk⟩; refine ⟨_, rfl, ?_⟩; have n0_ := aS (KeepBut.blk hk (g' := gb198) (o := .cells #[.bool a0_0, .bool a0_1] 29 (0, 0)) (by (with_reducible repeat (first | apply bN | apply bD | apply bA)); exact BK198.out) NB198_207.out (by simp)); have n1_ := aS (KeepBut.blk hk (g' := gb199) (o := .cells #[.int .u64 0, .int .u64 0, .int .u64 0, .int .u64 0] 33 (0, 0)) (by (with_reducible repeat (first | apply bN | apply bD | apply bA)); exact BK199.out) NB199_207.out (by simp)); have n2_ := aS (hb); have n3_ := aS (hi); clear BK198; clear BK199; clear HB; clear HI207; have BK198 := n0_; have BK199 := n1_; have HB := n2_; have HI207 := n3_; clear n0_ n1_ n2_ n3_; (try clear hb); (try clear hb2); (try clear hk); (try clear hi)) | ((with_reducible refine gate_dst (N := 11) rfl ?_); refine box_event ?hg (N := 11) ?hd (cs := #[.int .u64 0, .int .u64 0, .int .u64 0, .int .u64 0]) (t := 33) ?hr ?_; (case hd => rfl); (case hg => rfl); (case hr => (go_simp; try rfl)); intro gb214 hg w38 hbox hb; have n0_ := aS (blk_below (g := gb198) (o := .cells #[.bool a0_0, .bool a0_1] 29 (0, 0)) (by (with_reducible repeat (first | apply bN | apply bD | apply bA)); exact BK198.out) hb); have n1_ := aS (blk_below (g := gb199) (o := .cells #[.int .u64 0, .int .u64 0, .int .u64 0, .int .u64 0] 33 (0, 0)) (by (with_reducible repeat (first | apply bN | apply bD | apply bA)); exact BK199.out) hb); have n2_ := aS (IsS90.below (by repeat (first | (with_reducible first | exact HI207.out | apply IsS90.alloc | apply IsS90.drewN | apply IsS90.drew | apply IsS90.set_0 | apply IsS90.set_1 | apply IsS90.set_2 | apply IsS90.set_3 | refine IsS90.far ?_ NB207_198.out _ | refine IsS90.far ?_ NB207_199.out _) | exact HI207.out)) hb); have n3_ := aS (below_step (by repeat (first | (with_reducible first | exact HB.out | apply eA | apply eN | apply eD | refine below_set ?_ (IsS90.ge HI207.out) | refine below_set ?_ GE198.out | refine below_set ?_ GE199.out) | exact HB.out)) hb); have n4_ := aS (hbox); have n5_ := aS ((by rw [hg]; exact (below_size (by repeat (first | (with_reducible first | exact HB.out | apply eA | apply eN | apply eD | refine below_set ?_ (IsS90.ge HI207.out) | refine below_set ?_ GE198.out | refine below_set ?_ GE199.out) | exact HB.out))) : w.heap.size ≤ gb214)); have n6_ := aS ((by rw [hg]; exact (below_size (by repeat (first | (with_reducible first | exact HB.out | apply eA | apply eN | apply eD | refine below_set ?_ (IsS90.ge HI207.out) | refine below_set ?_ GE198.out | refine below_set ?_ GE199.out) | exact HB.out))) : w.heap.size ≤ gb214)); have n7_ := aS ((by rw [hg]; exact Nat.ne_of_lt (blk_lt (g := gb198) (o := .cells #[.bool a0_0, .bool a0_1] 29 (0, 0)) (by (with_reducible repeat (first | apply bN | apply bD | apply bA)); exact BK198.out)) : gb198 ≠ gb214)); have n8_ := aS ((by rw [hg]; exact Nat.ne_of_gt (blk_lt (g := gb198) (o := .cells #[.bool a0_0, .bool a0_1] 29 (0, 0)) (by (with_reducible repeat (first | apply bN | apply bD | apply bA)); exact BK198.out)) : gb214 ≠ gb198)); have n9_ := aS ((by rw [hg]; exact Nat.ne_of_lt (blk_lt (g := gb199) (o := .cells #[.int .u64 0, .int .u64 0, .int .u64 0, .int .u64 0] 33 (0, 0)) (by (with_reducible repeat (first | apply bN | apply bD | apply bA)); exact BK199.out)) : gb199 ≠ gb214)); have n10_ := aS ((by rw [hg]; exact Nat.ne_of_gt (blk_lt (g := gb199) (o := .cells #[.int .u64 0, .int .u64 0, .int .u64 0, .int .u64 0] 33 (0, 0)) (by (with_reducible repeat (first | apply bN | apply bD | apply bA)); exact BK199.out)) : gb214 ≠ gb199)); have n11_ := aS ((by rw [hg]; exact Nat.ne_of_lt (IsS90.lt (show IsS90 w _ g207 t210 t211 t212 t213 from by repeat (first | (with_reducible first | exact HI207.out | apply IsS90.alloc | apply IsS90.drewN | apply IsS90.drew | apply IsS90.set_0 | apply IsS90.set_1 | apply IsS90.set_2 | apply IsS90.set_3 | refine IsS90.far ?_ NB207_198.out _ | refine IsS90.far ?_ NB207_199.out _) | exact HI207.out))) : g207 ≠ gb214)); have n12_ := aS ((by rw [hg]; exact Nat.ne_of_gt (IsS90.lt (show IsS90 w _ g207 t210 t211 t212 t213 from by repeat (first | (with_reducible first | exact HI207.out | apply IsS90.alloc | apply IsS90.drewN | apply IsS90.drew | apply IsS90.set_0 | apply IsS90.set_1 | apply IsS90.set_2 | apply IsS90.set_3 | refine IsS90.far ?_ NB207_198.out _ | refine IsS90.far ?_ NB207_199.out _) | exact HI207.out))) : gb214 ≠ g207)); clear BK198; clear BK199; clear HI207; clear HB; have BK198 := n0_; have BK199 := n1_; have HI207 := n2_; have HB := n3_; have BK214 := n4_; have GW214 := n5_; have GE214 := n6_; have NB198_214 := n7_; have NB214_198 := n8_; have NB199_214 := n9_; have NB214_199 := n10_; have NB207_214 := n11_; have NB214_207 := n12_; clear n0_ n1_ n2_ n3_ n4_ n5_ n6_ n7_ n8_ n9_ n10_ n11_ n12_; clear hb hbox hg; have hnb39 := NB214_198.out; have hnc39 := NB198_214.out; have hnb40 := NB214_199.out; have hnc40 := NB199_214.out; have hnb41 := NB214_207.out; have hnc41 := NB207_214.out; have hcz42_0 : w38.cell? ⟨gb214, 0, none⟩ = some (.int .u64 0) := (blk_cell BK214.out 0).trans rfl; have hcz42_1 : w38.cell? ⟨gb214, 1, none⟩ = some (.int .u64 0) := (blk_cell BK214.out 1).trans rfl; have hcz42_2 : w38.cell? ⟨gb214, 2, none⟩ = some (.int .u64 0) := (blk_cell BK214.out 2).trans rfl; have hcz42_3 : w38.cell? ⟨gb214, 3, none⟩ = some (.int .u64 0) := (blk_cell BK214.out 3).trans rfl; have hfz42_0 := blk_frozen BK214.out 0; have hfz42_1 := blk_frozen BK214.out 1; have hfz42_2 := blk_frozen BK214.out 2; have hfz42_3 := blk_frozen BK214.out 3; have hcz43_0 : w38.cell? ⟨gb198, 0, none⟩ = some (.bool a0_0) := (blk_cell BK198.out 0).trans rfl; have hcz43_1 : w38.cell? ⟨gb198, 1, none⟩ = some (.bool a0_1) := (blk_cell BK198.out 1).trans rfl; have hfz43_0 := blk_frozen BK198.out 0; have hfz43_1 := blk_frozen BK198.out 1) | ((with_reducible refine gate_callee (f := 28) rfl ?_); refine goesL_ (some 36) rfl rfl Try.func28 (by kernel_rfl) rfl #[.agg #[.bool a0_0, .bool a0_1]] rfl (by (try simp only [List.map_toArray, List.map_cons, List.map_nil]); first | done | rfl | (simp only [List.length_drop, List.length_take]; rfl)) ?_; (with_reducible refine (class_Form_Word.calls a0_0 a0_1 t215 _ A16.out).mono ?_); rintro e w44 ⟨rfl, hb⟩; refine ⟨_, rfl, ?_⟩; have n0_ := aS (blk_below (g := gb198) (o := .cells #[.bool a0_0, .bool a0_1] 29 (0, 0)) (by (with_reducible repeat (first | apply bN | apply bD | apply bA)); refine blk_far ?_ NB198_214.out _; (with_reducible repeat (first | apply bN | apply bD | apply bA)); refine blk_far ?_ NB198_214.out _; (with_reducible repeat (first | apply bN | apply bD | apply bA)); refine blk_far ?_ NB198_214.out _; (with_reducible repeat (first | apply bN | apply bD | apply bA)); refine blk_far ?_ NB198_214.out _; (with_reducible repeat (first | apply bN | apply bD | apply bA)); exact BK198.out) hb); have n1_ := aS (blk_below (g := gb199) (o := .cells #[.int .u64 0, .int .u64 0, .int .u64 0, .int .u64 0] 33 (0, 0)) (by (with_reducible repeat (first | apply bN | apply bD | apply bA)); refine blk_far ?_ NB199_214.out _; (with_reducible repeat (first | apply bN | apply bD | apply bA)); refine blk_far ?_ NB199_214.out _; (with_reducible repeat (first | apply bN | apply bD | apply bA)); refine blk_far ?_ NB199_214.out _; (with_reducible repeat (first | apply bN | apply bD | apply bA)); refine blk_far ?_ NB199_214.out _; (with_reducible repeat (first | apply bN | apply bD | apply bA)); exact BK199.out) hb); have n2_ := aS (IsS90.below (show IsS90 w ((((w38.setCell ⟨gb214, 0, none⟩ (.int .u64 t209)).setCell ⟨gb214, 1, none⟩ (.int .u64 0)).setCell ⟨gb214, 2, none⟩ (.int .u64 0)).setCell ⟨gb214, 3, none⟩ (.int .u64 0)) g207 t210 t211 t212 t213 from by repeat (first | (with_reducible first | exact HI207.out | apply IsS90.alloc | apply IsS90.drewN | apply IsS90.drew | apply IsS90.set_0 | apply IsS90.set_1 | apply IsS90.set_2 | apply IsS90.set_3 | refine IsS90.far ?_ NB207_198.out _ | refine IsS90.far ?_ NB207_199.out _ | refine IsS90.far ?_ NB207_214.out _) | exact HI207.out)) hb); have n3_ := aS (blk_below (g := gb214) (o := .cells #[.int .u64 t209, .int .u64 0, .int .u64 0, .int .u64 0] 33 (0, 0)) (by (with_reducible repeat (first | apply bN | apply bD | apply bA)); refine blk_put (cs := #[.int .u64 t209, .int .u64 0, .int .u64 0, .int .u64 0]) ?_ 3 _ rfl; (with_reducible repeat (first | apply bN | apply bD | apply bA)); refine blk_put (cs := #[.int .u64 t209, .int .u64 0, .int .u64 0, .int .u64 0]) ?_ 2 _ rfl; (with_reducible repeat (first | apply bN | apply bD | apply bA)); refine blk_put (cs := #[.int .u64 t209, .int .u64 0, .int .u64 0, .int .u64 0]) ?_ 1 _ rfl; (with_reducible repeat (first | apply bN | apply bD | apply bA)); refine blk_put (cs := #[.int .u64 0, .int .u64 0, .int .u64 0, .int .u64 0]) ?_ 0 _ rfl; (with_reducible repeat (first | apply bN | apply bD | apply bA)); exact BK214.out) hb); have n4_ := aS (below_step (by repeat (first | (with_reducible first | exact HB.out | apply eA | apply eN | apply eD | refine below_set ?_ (IsS90.ge HI207.out) | refine below_set ?_ GE198.out | refine below_set ?_ GE199.out | refine below_set ?_ GE214.out) | exact HB.out)) hb); clear BK198; clear BK199; clear HI207; clear BK214; clear HB; have BK198 := n0_; have BK199 := n1_; have HI207 := n2_; have BK214 := n3_; have HB := n4_; clear n0_ n1_ n2_ n3_ n4_; (try clear hb); (try clear hb2); (try clear hk); (try clear hi)) | ((with_reducible refine gate_callee (f := 27) rfl ?_); refine goesL_ (some 37) rfl rfl Try.func27 (by kernel_rfl) rfl #[.pointer (some ⟨g207, 0, none⟩), .int .i64 t215] rfl (by (try simp only [List.map_toArray, List.map_cons, List.map_nil]); first | done | rfl | (simp only [List.length_drop, List.length_take]; rfl)) ?_; (with_reducible refine (order_Reader_Next.calls k g207 t210 t211 t212 t213 t215 t216 t217 t218 t219 t220 w _ ?side1 ?side2 A17.out).mono ?_); (case side1 => repeat (first | (with_reducible first | exact HI207.out | apply IsS90.alloc | apply IsS90.drewN | apply IsS90.drew | apply IsS90.set_0 | apply IsS90.set_1 | apply IsS90.set_2 | apply IsS90.set_3 | refine IsS90.far ?_ NB207_198.out _ | refine IsS90.far ?_ NB207_199.out _ | refine IsS90.far ?_ NB207_214.out _) | exact HI207.out)); (case side2 => repeat (first | (with_reducible first | exact HB.out | apply eA | apply eN | apply eD | refine below_set ?_ (IsS90.ge HI207.out) | refine below_set ?_ GE198.out | refine below_set ?_ GE199.out | refine below_set ?_ GE214.out) | exact HB.out)); rintro e w45 ⟨rfl, hi, hb, hk⟩; refine ⟨_, rfl, ?_⟩; have n0_ := aS (KeepBut.blk hk (g' := gb198) (o := .cells #[.bool a0_0, .bool a0_1] 29 (0, 0)) (by (with_reducible repeat (first | apply bN | apply bD | apply bA)); exact BK198.out) NB198_207.out (by simp)); have n1_ := aS (KeepBut.blk hk (g' := gb199) (o := .cells #[.int .u64 0, .int .u64 0, .int .u64 0, .int .u64 0] 33 (0, 0)) (by (with_reducible repeat (first | apply bN | apply bD | apply bA)); exact BK199.out) NB199_207.out (by simp)); have n2_ := aS (KeepBut.blk hk (g' := gb214) (o := .cells #[.int .u64 t209, .int .u64 0, .int .u64 0, .int .u64 0] 33 (0, 0)) (by (with_reducible repeat (first | apply bN | apply bD | apply bA)); exact BK214.out) NB214_207.out (by simp)); have n3_ := aS (hb); have n4_ := aS (hi); clear BK198; clear BK199; clear BK214; clear HB; clear HI207; have BK198 := n0_; have BK199 := n1_; have BK214 := n2_; have HB := n3_; have HI207 := n4_; clear n0_ n1_ n2_ n3_ n4_; (try clear hb); (try clear hb2); (try clear hk); (try clear hi)))
    have n0_ := aS (blk_drew BK198.out)
    have n1_ := aS (blk_drew BK199.out)
    have n2_ := aS (blk_drew BK214.out)
    have n3_ := aS (IsS90.drew HI207.out)
    have n4_ := aS (below_drew1 HB.out)
    clear BK198
    clear BK199
    clear BK214
    clear HI207
    clear HB
    have BK198 := n0_
    have BK199 := n1_
    have BK214 := n2_
    have HI207 := n3_
    have HB := n4_
    clear n0_ n1_ n2_ n3_ n4_
    refine start_ (n := 12) (S := fun w' => True) (ds := []) #[false, false, false, false, false, false, false, false, false, false, false, false] (by kernel_rfl) rfl rfl trivial (fun hHeld => ?_); refine with_tabW relrec_Read.tab7 relrec_Read.bits7 (fun HT_ HW_ => ?_)
    generalize w45.drew = w46 at BK198 BK199 BK214 HI207 HB hHeld ⊢
    refine pure_ (i := 0) (N := some 38) (v := ?_) (a' := ?_) (bm 12 1) rfl rfl (any_of HT_.out (by kernel_rfl)) (fun _ _ _ h => h) (Or.inl ⟨by rfl, ?_⟩) ?_ ?_
    rotate_left
    ·
     intro w'
     go_simp
     with_reducible rfl
    rotate_left
    ·
     simp only [Act.put, aput]
     rfl
    refine pure_ (i := 1) (N := some 39) (v := ?_) (a' := ?_) (bm 12 3) rfl rfl (any_of HT_.out (by kernel_rfl)) (fun _ _ _ h => h) (Or.inl ⟨by rfl, ?_⟩) ?_ ?_
    rotate_left
    ·
     intro w'
     go_simp
     with_reducible rfl
    rotate_left
    ·
     simp only [Act.put, aput]
     rfl
    refine pure_ (i := 2) (N := some 40) (v := ?_) (a' := ?_) (bm 12 7) rfl rfl (any_of HT_.out (by kernel_rfl)) (fun _ _ _ h => h) (Or.inl ⟨by rfl, ?_⟩) ?_ ?_
    rotate_left
    ·
     intro w'
     go_simp
     with_reducible rfl
    rotate_left
    ·
     simp only [Act.put, aput]
     rfl
    refine pure_ (i := 3) (N := some 41) (v := ?_) (a' := ?_) (bm 12 15) rfl rfl (any_of HT_.out (by kernel_rfl)) (fun _ _ _ h => h) (Or.inl ⟨by rfl, ?_⟩) ?_ ?_
    rotate_left
    ·
     intro w'
     go_simp
     with_reducible rfl
    rotate_left
    ·
     simp only [Act.put, aput]
     rfl
    refine pure_ (i := 4) (N := some 42) (v := ?_) (a' := ?_) (bm 12 31) rfl rfl (any_of HT_.out (by kernel_rfl)) (fun _ _ _ h => h) (Or.inl ⟨by rfl, ?_⟩) ?_ ?_
    rotate_left
    ·
     intro w'
     go_simp
     with_reducible rfl
    rotate_left
    ·
     simp only [Act.put, aput]
     rfl
    refine pure_ (i := 5) (N := some 43) (v := ?_) (a' := ?_) (bm 12 63) rfl rfl (any_of HT_.out (by kernel_rfl)) (fun _ _ _ h => h) (Or.inl ⟨by rfl, ?_⟩) ?_ ?_
    rotate_left
    ·
     intro w'
     go_simp
     with_reducible rfl
    rotate_left
    ·
     simp only [Act.put, aput]
     rfl
    refine pure_ (i := 6) (N := some 44) (v := ?_) (a' := ?_) (bm 12 127) rfl rfl (any_of HT_.out (by kernel_rfl)) (fun _ _ _ h => h) (Or.inl ⟨by rfl, ?_⟩) ?_ ?_
    rotate_left
    ·
     intro w'
     go_simp
     with_reducible rfl
    rotate_left
    ·
     simp only [Act.put, aput]
     rfl
    refine pure_ (i := 7) (N := some 45) (v := ?_) (a' := ?_) (bm 12 255) rfl rfl (any_of HT_.out (by kernel_rfl)) (fun _ _ _ h => h) (Or.inl ⟨by rfl, ?_⟩) ?_ ?_
    rotate_left
    ·
     intro w'
     go_simp
     with_reducible rfl
    rotate_left
    ·
     simp only [Act.put, aput]
     rfl
    refine pure_ (i := 8) (N := some 46) (v := ?_) (a' := ?_) (bm 12 511) rfl rfl (any_of HT_.out (by kernel_rfl)) (fun _ _ _ h => h) (Or.inl ⟨by rfl, ?_⟩) ?_ ?_
    rotate_left
    ·
     intro w'
     go_simp
     with_reducible rfl
    rotate_left
    ·
     simp only [Act.put, aput]
     rfl
    refine one_ (i := 9) (N := none) (bm 12 1023) rfl rfl (one_of HT_.out (by kernel_rfl)) (by decide) (fun K hK => ?_)
    have hs47 : w46.cell? ⟨gb214, 1, none⟩ = some (.int .u64 0) := (blk_cell BK214.out 1).trans rfl
    have hfs47 := blk_frozen BK214.out 1
    have hns47_0 := NB198_214.out
    have hns47_1 := NB199_214.out
    have hms47_0 := NB214_198.out
    have hms47_1 := NB214_199.out
    refine skip_ (w1 := ?_) (by rfl) rfl ?_ ?_
    rotate_left
    ·
     go_simp
     rfl
    refine hK.out _ _ trivial (fun hHeld => ?_)
    clear hK K
    refine pure_ (i := 10) (N := some 47) (v := ?_) (a' := ?_) (bm 12 2047) rfl rfl (any_of HT_.out (by kernel_rfl)) (fun _ _ _ h => h) (Or.inl ⟨by rfl, ?_⟩) ?_ ?_
    rotate_left
    ·
     intro w'
     go_simp
     with_reducible rfl
    rotate_left
    ·
     simp only [Act.put, aput]
     rfl
    refine one_ (i := 11) (N := none) (bm 12 4095) rfl rfl (one_of HT_.out (by kernel_rfl)) (by decide) (fun K hK => ?_)
    have hs48 : w46.cell? ⟨gb214, 2, none⟩ = some (.int .u64 0) := (blk_cell BK214.out 2).trans rfl
    have hfs48 := blk_frozen BK214.out 2
    have hns48_0 := NB198_214.out
    have hns48_1 := NB199_214.out
    have hms48_0 := NB214_198.out
    have hms48_1 := NB214_199.out
    refine skip_ (w1 := ?_) (by rfl) rfl ?_ ?_
    rotate_left
    ·
     go_simp
     rfl
    refine hK.out _ _ trivial (fun hHeld => ?_)
    clear hK K
    refine done_ (done_of HT_.out (by kernel_rfl)) ?_
    have hcz49_0 : w46.cell? ⟨gb198, 0, none⟩ = some (.bool a0_0) := (blk_cell BK198.out 0).trans rfl
    have hcz49_1 : w46.cell? ⟨gb198, 1, none⟩ = some (.bool a0_1) := (blk_cell BK198.out 1).trans rfl
    have hfz49_0 := blk_frozen BK198.out 0
    have hfz49_1 := blk_frozen BK198.out 1
    try go_wp2_with (first | ((with_reducible refine gate_callee (f := 28) rfl ?_); refine goesL_ (some 51) rfl rfl Try.func28 (by kernel_rfl) rfl #[.agg #[.bool a0_0, .bool a0_1]] rfl (by (try simp only [List.map_toArray, List.map_cons, List.map_nil]); first | done | rfl | (simp only [List.length_drop, List.length_take]; rfl)) ?_; (with_reducible refine (class_Form_Word.calls a0_0 a0_1 t221 _ A23.out).mono ?_); rintro e w50 ⟨rfl, hb⟩; refine ⟨_, rfl, ?_⟩; have n0_ := aS (blk_below (g := gb198) (o := .cells #[.bool a0_0, .bool a0_1] 29 (0, 0)) (by (with_reducible repeat (first | apply bN | apply bD | apply bA)); refine blk_far ?_ NB198_214.out _; (with_reducible repeat (first | apply bN | apply bD | apply bA)); refine blk_far ?_ NB198_214.out _; (with_reducible repeat (first | apply bN | apply bD | apply bA)); exact BK198.out) hb); have n1_ := aS (blk_below (g := gb199) (o := .cells #[.int .u64 0, .int .u64 0, .int .u64 0, .int .u64 0] 33 (0, 0)) (by (with_reducible repeat (first | apply bN | apply bD | apply bA)); refine blk_far ?_ NB199_214.out _; (with_reducible repeat (first | apply bN | apply bD | apply bA)); refine blk_far ?_ NB199_214.out _; (with_reducible repeat (first | apply bN | apply bD | apply bA)); exact BK199.out) hb); have n2_ := aS (IsS90.below (show IsS90 w ((w46.setCell ⟨gb214, 1, none⟩ (.int .u64 ji19)).setCell ⟨gb214, 2, none⟩ (.int .u64 (Go.bits .and .u64 t216 (IntKind.u64.wrap ((ji21) - 1))))) g207 t217 t218 t219 t220 from by repeat (first | (with_reducible first | exact HI207.out | apply IsS90.alloc | apply IsS90.drewN | apply IsS90.drew | apply IsS90.set_0 | apply IsS90.set_1 | apply IsS90.set_2 | apply IsS90.set_3 | refine IsS90.far ?_ NB207_198.out _ | refine IsS90.far ?_ NB207_199.out _ | refine IsS90.far ?_ NB207_214.out _) | exact HI207.out)) hb); have n3_ := aS (blk_below (g := gb214) (o := .cells #[.int .u64 t209, .int .u64 ji19, .int .u64 (Go.bits .and .u64 t216 (IntKind.u64.wrap ((ji21) - 1))), .int .u64 0] 33 (0, 0)) (by (with_reducible repeat (first | apply bN | apply bD | apply bA)); refine blk_put (cs := #[.int .u64 t209, .int .u64 ji19, .int .u64 0, .int .u64 0]) ?_ 2 _ rfl; (with_reducible repeat (first | apply bN | apply bD | apply bA)); refine blk_put (cs := #[.int .u64 t209, .int .u64 0, .int .u64 0, .int .u64 0]) ?_ 1 _ rfl; (with_reducible repeat (first | apply bN | apply bD | apply bA)); exact BK214.out) hb); have n4_ := aS (below_step (by repeat (first | (with_reducible first | exact HB.out | apply eA | apply eN | apply eD | refine below_set ?_ (IsS90.ge HI207.out) | refine below_set ?_ GE198.out | refine below_set ?_ GE199.out | refine below_set ?_ GE214.out) | exact HB.out)) hb); clear BK198; clear BK199; clear HI207; clear BK214; clear HB; have BK198 := n0_; have BK199 := n1_; have HI207 := n2_; have BK214 := n3_; have HB := n4_; clear n0_ n1_ n2_ n3_ n4_; (try clear hb); (try clear hb2); (try clear hk); (try clear hi)) | ((with_reducible refine gate_callee (f := 27) rfl ?_); refine goesL_ (some 52) rfl rfl Try.func27 (by kernel_rfl) rfl #[.pointer (some ⟨g207, 0, none⟩), .int .i64 t221] rfl (by (try simp only [List.map_toArray, List.map_cons, List.map_nil]); first | done | rfl | (simp only [List.length_drop, List.length_take]; rfl)) ?_; (with_reducible refine (order_Reader_Next.calls k g207 t217 t218 t219 t220 t221 t222 t223 t224 t225 t226 w _ ?side1 ?side2 A24.out).mono ?_); (case side1 => repeat (first | (with_reducible first | exact HI207.out | apply IsS90.alloc | apply IsS90.drewN | apply IsS90.drew | apply IsS90.set_0 | apply IsS90.set_1 | apply IsS90.set_2 | apply IsS90.set_3 | refine IsS90.far ?_ NB207_198.out _ | refine IsS90.far ?_ NB207_199.out _ | refine IsS90.far ?_ NB207_214.out _) | exact HI207.out)); (case side2 => repeat (first | (with_reducible first | exact HB.out | apply eA | apply eN | apply eD | refine below_set ?_ (IsS90.ge HI207.out) | refine below_set ?_ GE198.out | refine below_set ?_ GE199.out | refine below_set ?_ GE214.out) | exact HB.out)); rintro e w51 ⟨rfl, hi, hb, hk⟩; refine ⟨_, rfl, ?_⟩; have n0_ := aS (KeepBut.blk hk (g' := gb198) (o := .cells #[.bool a0_0, .bool a0_1] 29 (0, 0)) (by (with_reducible repeat (first | apply bN | apply bD | apply bA)); exact BK198.out) NB198_207.out (by simp)); have n1_ := aS (KeepBut.blk hk (g' := gb199) (o := .cells #[.int .u64 0, .int .u64 0, .int .u64 0, .int .u64 0] 33 (0, 0)) (by (with_reducible repeat (first | apply bN | apply bD | apply bA)); exact BK199.out) NB199_207.out (by simp)); have n2_ := aS (KeepBut.blk hk (g' := gb214) (o := .cells #[.int .u64 t209, .int .u64 ji19, .int .u64 (Go.bits .and .u64 t216 (IntKind.u64.wrap ((ji21) - 1))), .int .u64 0] 33 (0, 0)) (by (with_reducible repeat (first | apply bN | apply bD | apply bA)); exact BK214.out) NB214_207.out (by simp)); have n3_ := aS (hb); have n4_ := aS (hi); clear BK198; clear BK199; clear BK214; clear HB; clear HI207; have BK198 := n0_; have BK199 := n1_; have BK214 := n2_; have HB := n3_; have HI207 := n4_; clear n0_ n1_ n2_ n3_ n4_; (try clear hb); (try clear hb2); (try clear hk); (try clear hi); have hcz52_0 : w51.cell? ⟨gb214, 0, none⟩ = some (.int .u64 t209) := (blk_cell BK214.out 0).trans rfl; have hcz52_1 : w51.cell? ⟨gb214, 1, none⟩ = some (.int .u64 ji19) := (blk_cell BK214.out 1).trans rfl; have hcz52_2 : w51.cell? ⟨gb214, 2, none⟩ = some (.int .u64 (Go.bits .and .u64 t216 (IntKind.u64.wrap ((ji21) - 1)))) := (blk_cell BK214.out 2).trans rfl; have hcz52_3 : w51.cell? ⟨gb214, 3, none⟩ = some (.int .u64 0) := (blk_cell BK214.out 3).trans rfl; have hfz52_0 := blk_frozen BK214.out 0; have hfz52_1 := blk_frozen BK214.out 1; have hfz52_2 := blk_frozen BK214.out 2; have hfz52_3 := blk_frozen BK214.out 3; have hnb53 := NB199_207.out; have hnc53 := NB207_199.out; have hcz54_0 : w51.cell? ⟨gb199, 0, none⟩ = some (.int .u64 0) := (blk_cell BK199.out 0).trans rfl; have hcz54_1 : w51.cell? ⟨gb199, 1, none⟩ = some (.int .u64 0) := (blk_cell BK199.out 1).trans rfl; have hcz54_2 : w51.cell? ⟨gb199, 2, none⟩ = some (.int .u64 0) := (blk_cell BK199.out 2).trans rfl; have hcz54_3 : w51.cell? ⟨gb199, 3, none⟩ = some (.int .u64 0) := (blk_cell BK199.out 3).trans rfl; have hfz54_0 := blk_frozen BK199.out 0; have hfz54_1 := blk_frozen BK199.out 1; have hfz54_2 := blk_frozen BK199.out 2; have hfz54_3 := blk_frozen BK199.out 3))
    refine bodyPost_ret (results_ct rfl _ _ gb199 33 #[.int .u64 t209, .int .u64 ji19, .int .u64 (Go.bits .and .u64 t216 (IntKind.u64.wrap ((ji21) - 1))), .int .u64 t222] (0, 0) _ rfl (by (with_reducible repeat (first | apply bN | apply bD | apply bA)); refine blk_put (cs := #[.int .u64 t209, .int .u64 ji19, .int .u64 (Go.bits .and .u64 t216 (IntKind.u64.wrap ((ji21) - 1))), .int .u64 0]) ?_ 3 _ rfl; (with_reducible repeat (first | apply bN | apply bD | apply bA)); refine blk_put (cs := #[.int .u64 t209, .int .u64 ji19, .int .u64 0, .int .u64 0]) ?_ 2 _ rfl; (with_reducible repeat (first | apply bN | apply bD | apply bA)); refine blk_put (cs := #[.int .u64 t209, .int .u64 0, .int .u64 0, .int .u64 0]) ?_ 1 _ rfl; (with_reducible repeat (first | apply bN | apply bD | apply bA)); refine blk_put (cs := #[.int .u64 0, .int .u64 0, .int .u64 0, .int .u64 0]) ?_ 0 _ rfl; (with_reducible repeat (first | apply bN | apply bD | apply bA)); refine blk_far ?_ NB199_214.out _; (with_reducible repeat (first | apply bN | apply bD | apply bA)); exact BK199.out) Try.underlying33 rfl (by kernel_rfl)) rfl ?_
    exact ⟨by first | rfl | (simp [errW_none, errW_some] <;> rfl) | (simp only [← hji19, ← hji21]; first | rfl | (simp [errW_none, errW_some] <;> rfl)) | (simp [*, errW_none, errW_some] <;> rfl), by repeat (first | (with_reducible first | exact HB.out | apply eA | apply eN | apply eD | refine below_set ?_ (IsS90.ge HI207.out) | refine below_set ?_ GE198.out | refine below_set ?_ GE199.out | refine below_set ?_ GE214.out) | exact HB.out)⟩
   ·
    replace c22 := Bool.eq_false_iff.mpr c22
    subst c22
    have H1 : (some (t209, ji19, Go.bits .and .u64 t216 (IntKind.u64.wrap ((ji21) - 1)), 0, true)) = some (r1, r2, r3, r4, r5) := by rw [if_neg (show ¬ (false = true) by decide)] at H; exact H
    clear H
    have H := H1
    clear H1
    simp only [Option.some.injEq, Prod.mk.injEq] at H
    obtain ⟨rfl, rfl, rfl, rfl, rfl⟩ := H
    go_enter Try.func13, Try.ntmps13
    try go_wp2_with (first | ((with_reducible refine gate_dst (N := 3) rfl ?_); refine box_event ?hg (N := 3) ?hd (cs := #[.bool a0_0, .bool a0_1]) (t := 29) ?hr ?_; (case hd => rfl); (case hg => rfl); (case hr => (go_simp; try rfl)); intro gb198 hg w55 hbox hb; have n0_ := aS (below_step (by repeat (first | (with_reducible first | exact HB.out | apply below_alloc | apply pw_below_drewN | apply below_drew1) | exact HB.out)) hb); have n1_ := aS (hbox); have n2_ := aS ((by rw [hg]; exact (below_size (by repeat (first | (with_reducible first | exact HB.out | apply below_alloc | apply pw_below_drewN | apply below_drew1) | exact HB.out))) : w.heap.size ≤ gb198)); have n3_ := aS ((by rw [hg]; exact (below_size (by repeat (first | (with_reducible first | exact HB.out | apply below_alloc | apply pw_below_drewN | apply below_drew1) | exact HB.out))) : w.heap.size ≤ gb198)); clear HB; have HB := n0_; have BK198 := n1_; have GW198 := n2_; have GE198 := n3_; clear n0_ n1_ n2_ n3_; clear hb hbox hg) | ((with_reducible refine gate_dst (N := 6) rfl ?_); refine box_event ?hg (N := 6) ?hd (cs := #[.int .u64 0, .int .u64 0, .int .u64 0, .int .u64 0]) (t := 33) ?hr ?_; (case hd => rfl); (case hg => rfl); (case hr => (go_simp; try rfl)); intro gb199 hg w56 hbox hb; have n0_ := aS (blk_below (g := gb198) (o := .cells #[.bool a0_0, .bool a0_1] 29 (0, 0)) (by (with_reducible repeat (first | apply bN | apply bD | apply bA)); exact BK198.out) hb); have n1_ := aS (below_step (by repeat (first | (with_reducible first | exact HB.out | apply eA | apply eN | apply eD | refine below_set ?_ GE198.out) | exact HB.out)) hb); have n2_ := aS (hbox); have n3_ := aS ((by rw [hg]; exact (below_size (by repeat (first | (with_reducible first | exact HB.out | apply eA | apply eN | apply eD | refine below_set ?_ GE198.out) | exact HB.out))) : w.heap.size ≤ gb199)); have n4_ := aS ((by rw [hg]; exact (below_size (by repeat (first | (with_reducible first | exact HB.out | apply eA | apply eN | apply eD | refine below_set ?_ GE198.out) | exact HB.out))) : w.heap.size ≤ gb199)); have n5_ := aS ((by rw [hg]; exact Nat.ne_of_lt (blk_lt (g := gb198) (o := .cells #[.bool a0_0, .bool a0_1] 29 (0, 0)) (by (with_reducible repeat (first | apply bN | apply bD | apply bA)); exact BK198.out)) : gb198 ≠ gb199)); have n6_ := aS ((by rw [hg]; exact Nat.ne_of_gt (blk_lt (g := gb198) (o := .cells #[.bool a0_0, .bool a0_1] 29 (0, 0)) (by (with_reducible repeat (first | apply bN | apply bD | apply bA)); exact BK198.out)) : gb199 ≠ gb198)); clear BK198; clear HB; have BK198 := n0_; have HB := n1_; have BK199 := n2_; have GW199 := n3_; have GE199 := n4_; have NB198_199 := n5_; have NB199_198 := n6_; clear n0_ n1_ n2_ n3_ n4_ n5_ n6_; clear hb hbox hg; have hnb57 := NB198_199.out; have hnc57 := NB199_198.out; have hcz58_0 : w56.cell? ⟨gb198, 0, none⟩ = some (.bool a0_0) := (blk_cell BK198.out 0).trans rfl; have hcz58_1 : w56.cell? ⟨gb198, 1, none⟩ = some (.bool a0_1) := (blk_cell BK198.out 1).trans rfl; have hfz58_0 := blk_frozen BK198.out 0; have hfz58_1 := blk_frozen BK198.out 1) | ((with_reducible refine gate_callee (f := 14) rfl ?_); refine goesL_ (some 17) rfl rfl Try.func14 (by kernel_rfl) rfl #[.agg #[.bool a0_0, .bool a0_1], .bool false] rfl (by (try simp only [List.map_toArray, List.map_cons, List.map_nil]); first | done | rfl | (simp only [List.length_drop, List.length_take]; rfl)) ?_; (with_reducible refine (relrec_Size.calls a0_0 a0_1 false t200 _ A4.out).mono ?_); rintro e w59 ⟨rfl, hb⟩; refine ⟨_, rfl, ?_⟩; have n0_ := aS (blk_below (g := gb198) (o := .cells #[.bool a0_0, .bool a0_1] 29 (0, 0)) (by (with_reducible repeat (first | apply bN | apply bD | apply bA)); exact BK198.out) hb); have n1_ := aS (blk_below (g := gb199) (o := .cells #[.int .u64 0, .int .u64 0, .int .u64 0, .int .u64 0] 33 (0, 0)) (by (with_reducible repeat (first | apply bN | apply bD | apply bA)); exact BK199.out) hb); have n2_ := aS (below_step (by repeat (first | (with_reducible first | exact HB.out | apply eA | apply eN | apply eD | refine below_set ?_ GE198.out | refine below_set ?_ GE199.out) | exact HB.out)) hb); clear BK198; clear BK199; clear HB; have BK198 := n0_; have BK199 := n1_; have HB := n2_; clear n0_ n1_ n2_; (try clear hb); (try clear hb2); (try clear hk); (try clear hi); have hcz60_0 : w59.cell? ⟨gb198, 0, none⟩ = some (.bool a0_0) := (blk_cell BK198.out 0).trans rfl; have hcz60_1 : w59.cell? ⟨gb198, 1, none⟩ = some (.bool a0_1) := (blk_cell BK198.out 1).trans rfl; have hfz60_0 := blk_frozen BK198.out 0; have hfz60_1 := blk_frozen BK198.out 1) | ((with_reducible refine gate_callee (f := 21) rfl ?_); refine goesL_ (some 22) rfl rfl Try.func21 (by kernel_rfl) rfl #[.agg #[.bool a0_0, .bool a0_1]] rfl (by (try simp only [List.map_toArray, List.map_cons, List.map_nil]); first | done | rfl | (simp only [List.length_drop, List.length_take]; rfl)) ?_; (with_reducible refine (relrec_split.calls a0_0 a0_1 t201 t202 _ A12.out).mono ?_); rintro e w61 ⟨rfl, hb⟩; refine ⟨_, rfl, ?_⟩; have n0_ := aS (blk_below (g := gb198) (o := .cells #[.bool a0_0, .bool a0_1] 29 (0, 0)) (by (with_reducible repeat (first | apply bN | apply bD | apply bA)); exact BK198.out) hb); have n1_ := aS (blk_below (g := gb199) (o := .cells #[.int .u64 0, .int .u64 0, .int .u64 0, .int .u64 0] 33 (0, 0)) (by (with_reducible repeat (first | apply bN | apply bD | apply bA)); exact BK199.out) hb); have n2_ := aS (below_step (by repeat (first | (with_reducible first | exact HB.out | apply eA | apply eN | apply eD | refine below_set ?_ GE198.out | refine below_set ?_ GE199.out) | exact HB.out)) hb); clear BK198; clear BK199; clear HB; have BK198 := n0_; have BK199 := n1_; have HB := n2_; clear n0_ n1_ n2_; (try clear hb); (try clear hb2); (try clear hk); (try clear hi); have hcz62_0 : w61.cell? ⟨gb198, 0, none⟩ = some (.bool a0_0) := (blk_cell BK198.out 0).trans rfl; have hcz62_1 : w61.cell? ⟨gb198, 1, none⟩ = some (.bool a0_1) := (blk_cell BK198.out 1).trans rfl; have hfz62_0 := blk_frozen BK198.out 0; have hfz62_1 := blk_frozen BK198.out 1) | ((with_reducible refine gate_callee (f := 26) rfl ?_); refine goesL_ (some 28) rfl rfl Try.func26 (by kernel_rfl) rfl #[.agg #[.bool a0_0], .string a2, .int .u64 0] rfl (by (try simp only [List.map_toArray, List.map_cons, List.map_nil]); first | done | rfl | (simp only [List.length_drop, List.length_take]; rfl)) ?_; (with_reducible refine (order_Order_Read.calls a0_0 a2 0 t203 t204 t205 t206 w _ ?side1 A13.out).mono ?_); (case side1 => repeat (first | (with_reducible first | exact HB.out | apply eA | apply eN | apply eD | refine below_set ?_ GE198.out | refine below_set ?_ GE199.out) | exact HB.out)); rintro e w63 ⟨g207, rfl, hi, hb, hb2⟩; refine ⟨_, rfl, ?_⟩; have n0_ := aS (blk_below (g := gb198) (o := .cells #[.bool a0_0, .bool a0_1] 29 (0, 0)) (by (with_reducible repeat (first | apply bN | apply bD | apply bA)); exact BK198.out) hb2); have n1_ := aS (blk_below (g := gb199) (o := .cells #[.int .u64 0, .int .u64 0, .int .u64 0, .int .u64 0] 33 (0, 0)) (by (with_reducible repeat (first | apply bN | apply bD | apply bA)); exact BK199.out) hb2); have n2_ := aS (hb); have n3_ := aS (hi); have n4_ := aS (IsS90.ne_blk hi (blk_below (g := gb198) (o := .cells #[.bool a0_0, .bool a0_1] 29 (0, 0)) (by (with_reducible repeat (first | apply bN | apply bD | apply bA)); exact BK198.out) hb2) (by decide)); have n5_ := aS (Ne.symm (IsS90.ne_blk hi (blk_below (g := gb198) (o := .cells #[.bool a0_0, .bool a0_1] 29 (0, 0)) (by (with_reducible repeat (first | apply bN | apply bD | apply bA)); exact BK198.out) hb2) (by decide))); have n6_ := aS (IsS90.ne_blk hi (blk_below (g := gb199) (o := .cells #[.int .u64 0, .int .u64 0, .int .u64 0, .int .u64 0] 33 (0, 0)) (by (with_reducible repeat (first | apply bN | apply bD | apply bA)); exact BK199.out) hb2) (by decide)); have n7_ := aS (Ne.symm (IsS90.ne_blk hi (blk_below (g := gb199) (o := .cells #[.int .u64 0, .int .u64 0, .int .u64 0, .int .u64 0] 33 (0, 0)) (by (with_reducible repeat (first | apply bN | apply bD | apply bA)); exact BK199.out) hb2) (by decide))); clear BK198; clear BK199; clear HB; have BK198 := n0_; have BK199 := n1_; have HB := n2_; have HI207 := n3_; have NB207_198 := n4_; have NB198_207 := n5_; have NB207_199 := n6_; have NB199_207 := n7_; clear n0_ n1_ n2_ n3_ n4_ n5_ n6_ n7_; (try clear hb); (try clear hb2); (try clear hk); (try clear hi); have hnb64 := NB198_207.out; have hnc64 := NB207_198.out; have hcz65_0 : w63.cell? ⟨gb198, 0, none⟩ = some (.bool a0_0) := (blk_cell BK198.out 0).trans rfl; have hcz65_1 : w63.cell? ⟨gb198, 1, none⟩ = some (.bool a0_1) := (blk_cell BK198.out 1).trans rfl; have hfz65_0 := blk_frozen BK198.out 0; have hfz65_1 := blk_frozen BK198.out 1) | ((with_reducible refine gate_callee (f := 28) rfl ?_); refine goesL_ (some 31) rfl rfl Try.func28 (by kernel_rfl) rfl #[.agg #[.bool a0_0, .bool a0_1]] rfl (by (try simp only [List.map_toArray, List.map_cons, List.map_nil]); first | done | rfl | (simp only [List.length_drop, List.length_take]; rfl)) ?_; (with_reducible refine (class_Form_Word.calls a0_0 a0_1 t208 _ A14.out).mono ?_); rintro e w66 ⟨rfl, hb⟩; refine ⟨_, rfl, ?_⟩; have n0_ := aS (blk_below (g := gb198) (o := .cells #[.bool a0_0, .bool a0_1] 29 (0, 0)) (by (with_reducible repeat (first | apply bN | apply bD | apply bA)); exact BK198.out) hb); have n1_ := aS (blk_below (g := gb199) (o := .cells #[.int .u64 0, .int .u64 0, .int .u64 0, .int .u64 0] 33 (0, 0)) (by (with_reducible repeat (first | apply bN | apply bD | apply bA)); exact BK199.out) hb); have n2_ := aS (IsS90.below (by repeat (first | (with_reducible first | exact HI207.out | apply IsS90.alloc | apply IsS90.drewN | apply IsS90.drew | apply IsS90.set_0 | apply IsS90.set_1 | apply IsS90.set_2 | apply IsS90.set_3 | refine IsS90.far ?_ NB207_198.out _ | refine IsS90.far ?_ NB207_199.out _) | exact HI207.out)) hb); have n3_ := aS (below_step (by repeat (first | (with_reducible first | exact HB.out | apply eA | apply eN | apply eD | refine below_set ?_ (IsS90.ge HI207.out) | refine below_set ?_ GE198.out | refine below_set ?_ GE199.out) | exact HB.out)) hb); clear BK198; clear BK199; clear HI207; clear HB; have BK198 := n0_; have BK199 := n1_; have HI207 := n2_; have HB := n3_; clear n0_ n1_ n2_ n3_; (try clear hb); (try clear hb2); (try clear hk); (try clear hi)) | ((with_reducible refine gate_callee (f := 27) rfl ?_); refine goesL_ (some 32) rfl rfl Try.func27 (by kernel_rfl) rfl #[.pointer (some ⟨g207, 0, none⟩), .int .i64 t208] rfl (by (try simp only [List.map_toArray, List.map_cons, List.map_nil]); first | done | rfl | (simp only [List.length_drop, List.length_take]; rfl)) ?_; (with_reducible refine (order_Reader_Next.calls k g207 t203 t204 t205 t206 t208 t209 t210 t211 t212 t213 w _ ?side1 ?side2 A15.out).mono ?_); (case side1 => repeat (first | (with_reducible first | exact HI207.out | apply IsS90.alloc | apply IsS90.drewN | apply IsS90.drew | apply IsS90.set_0 | apply IsS90.set_1 | apply IsS90.set_2 | apply IsS90.set_3 | refine IsS90.far ?_ NB207_198.out _ | refine IsS90.far ?_ NB207_199.out _) | exact HI207.out)); (case side2 => repeat (first | (with_reducible first | exact HB.out | apply eA | apply eN | apply eD | refine below_set ?_ (IsS90.ge HI207.out) | refine below_set ?_ GE198.out | refine below_set ?_ GE199.out) | exact HB.out)); rintro e w67 ⟨rfl, hi, hb, hk⟩; refine ⟨_, rfl, ?_⟩; have n0_ := aS (KeepBut.blk hk (g' := gb198) (o := .cells #[.bool a0_0, .bool a0_1] 29 (0, 0)) (by (with_reducible repeat (first | apply bN | apply bD | apply bA)); exact BK198.out) NB198_207.out (by simp)); have n1_ := aS (KeepBut.blk hk (g' := gb199) (o := .cells #[.int .u64 0, .int .u64 0, .int .u64 0, .int .u64 0] 33 (0, 0)) (by (with_reducible repeat (first | apply bN | apply bD | apply bA)); exact BK199.out) NB199_207.out (by simp)); have n2_ := aS (hb); have n3_ := aS (hi); clear BK198; clear BK199; clear HB; clear HI207; have BK198 := n0_; have BK199 := n1_; have HB := n2_; have HI207 := n3_; clear n0_ n1_ n2_ n3_; (try clear hb); (try clear hb2); (try clear hk); (try clear hi)) | ((with_reducible refine gate_dst (N := 11) rfl ?_); refine box_event ?hg (N := 11) ?hd (cs := #[.int .u64 0, .int .u64 0, .int .u64 0, .int .u64 0]) (t := 33) ?hr ?_; (case hd => rfl); (case hg => rfl); (case hr => (go_simp; try rfl)); intro gb214 hg w68 hbox hb; have n0_ := aS (blk_below (g := gb198) (o := .cells #[.bool a0_0, .bool a0_1] 29 (0, 0)) (by (with_reducible repeat (first | apply bN | apply bD | apply bA)); exact BK198.out) hb); have n1_ := aS (blk_below (g := gb199) (o := .cells #[.int .u64 0, .int .u64 0, .int .u64 0, .int .u64 0] 33 (0, 0)) (by (with_reducible repeat (first | apply bN | apply bD | apply bA)); exact BK199.out) hb); have n2_ := aS (IsS90.below (by repeat (first | (with_reducible first | exact HI207.out | apply IsS90.alloc | apply IsS90.drewN | apply IsS90.drew | apply IsS90.set_0 | apply IsS90.set_1 | apply IsS90.set_2 | apply IsS90.set_3 | refine IsS90.far ?_ NB207_198.out _ | refine IsS90.far ?_ NB207_199.out _) | exact HI207.out)) hb); have n3_ := aS (below_step (by repeat (first | (with_reducible first | exact HB.out | apply eA | apply eN | apply eD | refine below_set ?_ (IsS90.ge HI207.out) | refine below_set ?_ GE198.out | refine below_set ?_ GE199.out) | exact HB.out)) hb); have n4_ := aS (hbox); have n5_ := aS ((by rw [hg]; exact (below_size (by repeat (first | (with_reducible first | exact HB.out | apply eA | apply eN | apply eD | refine below_set ?_ (IsS90.ge HI207.out) | refine below_set ?_ GE198.out | refine below_set ?_ GE199.out) | exact HB.out))) : w.heap.size ≤ gb214)); have n6_ := aS ((by rw [hg]; exact (below_size (by repeat (first | (with_reducible first | exact HB.out | apply eA | apply eN | apply eD | refine below_set ?_ (IsS90.ge HI207.out) | refine below_set ?_ GE198.out | refine below_set ?_ GE199.out) | exact HB.out))) : w.heap.size ≤ gb214)); have n7_ := aS ((by rw [hg]; exact Nat.ne_of_lt (blk_lt (g := gb198) (o := .cells #[.bool a0_0, .bool a0_1] 29 (0, 0)) (by (with_reducible repeat (first | apply bN | apply bD | apply bA)); exact BK198.out)) : gb198 ≠ gb214)); have n8_ := aS ((by rw [hg]; exact Nat.ne_of_gt (blk_lt (g := gb198) (o := .cells #[.bool a0_0, .bool a0_1] 29 (0, 0)) (by (with_reducible repeat (first | apply bN | apply bD | apply bA)); exact BK198.out)) : gb214 ≠ gb198)); have n9_ := aS ((by rw [hg]; exact Nat.ne_of_lt (blk_lt (g := gb199) (o := .cells #[.int .u64 0, .int .u64 0, .int .u64 0, .int .u64 0] 33 (0, 0)) (by (with_reducible repeat (first | apply bN | apply bD | apply bA)); exact BK199.out)) : gb199 ≠ gb214)); have n10_ := aS ((by rw [hg]; exact Nat.ne_of_gt (blk_lt (g := gb199) (o := .cells #[.int .u64 0, .int .u64 0, .int .u64 0, .int .u64 0] 33 (0, 0)) (by (with_reducible repeat (first | apply bN | apply bD | apply bA)); exact BK199.out)) : gb214 ≠ gb199)); have n11_ := aS ((by rw [hg]; exact Nat.ne_of_lt (IsS90.lt (show IsS90 w _ g207 t210 t211 t212 t213 from by repeat (first | (with_reducible first | exact HI207.out | apply IsS90.alloc | apply IsS90.drewN | apply IsS90.drew | apply IsS90.set_0 | apply IsS90.set_1 | apply IsS90.set_2 | apply IsS90.set_3 | refine IsS90.far ?_ NB207_198.out _ | refine IsS90.far ?_ NB207_199.out _) | exact HI207.out))) : g207 ≠ gb214)); have n12_ := aS ((by rw [hg]; exact Nat.ne_of_gt (IsS90.lt (show IsS90 w _ g207 t210 t211 t212 t213 from by repeat (first | (with_reducible first | exact HI207.out | apply IsS90.alloc | apply IsS90.drewN | apply IsS90.drew | apply IsS90.set_0 | apply IsS90.set_1 | apply IsS90.set_2 | apply IsS90.set_3 | refine IsS90.far ?_ NB207_198.out _ | refine IsS90.far ?_ NB207_199.out _) | exact HI207.out))) : gb214 ≠ g207)); clear BK198; clear BK199; clear HI207; clear HB; have BK198 := n0_; have BK199 := n1_; have HI207 := n2_; have HB := n3_; have BK214 := n4_; have GW214 := n5_; have GE214 := n6_; have NB198_214 := n7_; have NB214_198 := n8_; have NB199_214 := n9_; have NB214_199 := n10_; have NB207_214 := n11_; have NB214_207 := n12_; clear n0_ n1_ n2_ n3_ n4_ n5_ n6_ n7_ n8_ n9_ n10_ n11_ n12_; clear hb hbox hg; have hnb69 := NB214_198.out; have hnc69 := NB198_214.out; have hnb70 := NB214_199.out; have hnc70 := NB199_214.out; have hnb71 := NB214_207.out; have hnc71 := NB207_214.out; have hcz72_0 : w68.cell? ⟨gb214, 0, none⟩ = some (.int .u64 0) := (blk_cell BK214.out 0).trans rfl; have hcz72_1 : w68.cell? ⟨gb214, 1, none⟩ = some (.int .u64 0) := (blk_cell BK214.out 1).trans rfl; have hcz72_2 : w68.cell? ⟨gb214, 2, none⟩ = some (.int .u64 0) := (blk_cell BK214.out 2).trans rfl; have hcz72_3 : w68.cell? ⟨gb214, 3, none⟩ = some (.int .u64 0) := (blk_cell BK214.out 3).trans rfl; have hfz72_0 := blk_frozen BK214.out 0; have hfz72_1 := blk_frozen BK214.out 1; have hfz72_2 := blk_frozen BK214.out 2; have hfz72_3 := blk_frozen BK214.out 3; have hcz73_0 : w68.cell? ⟨gb198, 0, none⟩ = some (.bool a0_0) := (blk_cell BK198.out 0).trans rfl; have hcz73_1 : w68.cell? ⟨gb198, 1, none⟩ = some (.bool a0_1) := (blk_cell BK198.out 1).trans rfl; have hfz73_0 := blk_frozen BK198.out 0; have hfz73_1 := blk_frozen BK198.out 1) | ((with_reducible refine gate_callee (f := 28) rfl ?_); refine goesL_ (some 36) rfl rfl Try.func28 (by kernel_rfl) rfl #[.agg #[.bool a0_0, .bool a0_1]] rfl (by (try simp only [List.map_toArray, List.map_cons, List.map_nil]); first | done | rfl | (simp only [List.length_drop, List.length_take]; rfl)) ?_; (with_reducible refine (class_Form_Word.calls a0_0 a0_1 t215 _ A16.out).mono ?_); rintro e w74 ⟨rfl, hb⟩; refine ⟨_, rfl, ?_⟩; have n0_ := aS (blk_below (g := gb198) (o := .cells #[.bool a0_0, .bool a0_1] 29 (0, 0)) (by (with_reducible repeat (first | apply bN | apply bD | apply bA)); refine blk_far ?_ NB198_214.out _; (with_reducible repeat (first | apply bN | apply bD | apply bA)); refine blk_far ?_ NB198_214.out _; (with_reducible repeat (first | apply bN | apply bD | apply bA)); refine blk_far ?_ NB198_214.out _; (with_reducible repeat (first | apply bN | apply bD | apply bA)); refine blk_far ?_ NB198_214.out _; (with_reducible repeat (first | apply bN | apply bD | apply bA)); exact BK198.out) hb); have n1_ := aS (blk_below (g := gb199) (o := .cells #[.int .u64 0, .int .u64 0, .int .u64 0, .int .u64 0] 33 (0, 0)) (by (with_reducible repeat (first | apply bN | apply bD | apply bA)); refine blk_far ?_ NB199_214.out _; (with_reducible repeat (first | apply bN | apply bD | apply bA)); refine blk_far ?_ NB199_214.out _; (with_reducible repeat (first | apply bN | apply bD | apply bA)); refine blk_far ?_ NB199_214.out _; (with_reducible repeat (first | apply bN | apply bD | apply bA)); refine blk_far ?_ NB199_214.out _; (with_reducible repeat (first | apply bN | apply bD | apply bA)); exact BK199.out) hb); have n2_ := aS (IsS90.below (show IsS90 w ((((w68.setCell ⟨gb214, 0, none⟩ (.int .u64 t209)).setCell ⟨gb214, 1, none⟩ (.int .u64 0)).setCell ⟨gb214, 2, none⟩ (.int .u64 0)).setCell ⟨gb214, 3, none⟩ (.int .u64 0)) g207 t210 t211 t212 t213 from by repeat (first | (with_reducible first | exact HI207.out | apply IsS90.alloc | apply IsS90.drewN | apply IsS90.drew | apply IsS90.set_0 | apply IsS90.set_1 | apply IsS90.set_2 | apply IsS90.set_3 | refine IsS90.far ?_ NB207_198.out _ | refine IsS90.far ?_ NB207_199.out _ | refine IsS90.far ?_ NB207_214.out _) | exact HI207.out)) hb); have n3_ := aS (blk_below (g := gb214) (o := .cells #[.int .u64 t209, .int .u64 0, .int .u64 0, .int .u64 0] 33 (0, 0)) (by (with_reducible repeat (first | apply bN | apply bD | apply bA)); refine blk_put (cs := #[.int .u64 t209, .int .u64 0, .int .u64 0, .int .u64 0]) ?_ 3 _ rfl; (with_reducible repeat (first | apply bN | apply bD | apply bA)); refine blk_put (cs := #[.int .u64 t209, .int .u64 0, .int .u64 0, .int .u64 0]) ?_ 2 _ rfl; (with_reducible repeat (first | apply bN | apply bD | apply bA)); refine blk_put (cs := #[.int .u64 t209, .int .u64 0, .int .u64 0, .int .u64 0]) ?_ 1 _ rfl; (with_reducible repeat (first | apply bN | apply bD | apply bA)); refine blk_put (cs := #[.int .u64 0, .int .u64 0, .int .u64 0, .int .u64 0]) ?_ 0 _ rfl; (with_reducible repeat (first | apply bN | apply bD | apply bA)); exact BK214.out) hb); have n4_ := aS (below_step (by repeat (first | (with_reducible first | exact HB.out | apply eA | apply eN | apply eD | refine below_set ?_ (IsS90.ge HI207.out) | refine below_set ?_ GE198.out | refine below_set ?_ GE199.out | refine below_set ?_ GE214.out) | exact HB.out)) hb); clear BK198; clear BK199; clear HI207; clear BK214; clear HB; have BK198 := n0_; have BK199 := n1_; have HI207 := n2_; have BK214 := n3_; have HB := n4_; clear n0_ n1_ n2_ n3_ n4_; (try clear hb); (try clear hb2); (try clear hk); (try clear hi)) | ((with_reducible refine gate_callee (f := 27) rfl ?_); refine goesL_ (some 37) rfl rfl Try.func27 (by kernel_rfl) rfl #[.pointer (some ⟨g207, 0, none⟩), .int .i64 t215] rfl (by (try simp only [List.map_toArray, List.map_cons, List.map_nil]); first | done | rfl | (simp only [List.length_drop, List.length_take]; rfl)) ?_; (with_reducible refine (order_Reader_Next.calls k g207 t210 t211 t212 t213 t215 t216 t217 t218 t219 t220 w _ ?side1 ?side2 A17.out).mono ?_); (case side1 => repeat (first | (with_reducible first | exact HI207.out | apply IsS90.alloc | apply IsS90.drewN | apply IsS90.drew | apply IsS90.set_0 | apply IsS90.set_1 | apply IsS90.set_2 | apply IsS90.set_3 | refine IsS90.far ?_ NB207_198.out _ | refine IsS90.far ?_ NB207_199.out _ | refine IsS90.far ?_ NB207_214.out _) | exact HI207.out)); (case side2 => repeat (first | (with_reducible first | exact HB.out | apply eA | apply eN | apply eD | refine below_set ?_ (IsS90.ge HI207.out) | refine below_set ?_ GE198.out | refine below_set ?_ GE199.out | refine below_set ?_ GE214.out) | exact HB.out)); rintro e w75 ⟨rfl, hi, hb, hk⟩; refine ⟨_, rfl, ?_⟩; have n0_ := aS (KeepBut.blk hk (g' := gb198) (o := .cells #[.bool a0_0, .bool a0_1] 29 (0, 0)) (by (with_reducible repeat (first | apply bN | apply bD | apply bA)); exact BK198.out) NB198_207.out (by simp)); have n1_ := aS (KeepBut.blk hk (g' := gb199) (o := .cells #[.int .u64 0, .int .u64 0, .int .u64 0, .int .u64 0] 33 (0, 0)) (by (with_reducible repeat (first | apply bN | apply bD | apply bA)); exact BK199.out) NB199_207.out (by simp)); have n2_ := aS (KeepBut.blk hk (g' := gb214) (o := .cells #[.int .u64 t209, .int .u64 0, .int .u64 0, .int .u64 0] 33 (0, 0)) (by (with_reducible repeat (first | apply bN | apply bD | apply bA)); exact BK214.out) NB214_207.out (by simp)); have n3_ := aS (hb); have n4_ := aS (hi); clear BK198; clear BK199; clear BK214; clear HB; clear HI207; have BK198 := n0_; have BK199 := n1_; have BK214 := n2_; have HB := n3_; have HI207 := n4_; clear n0_ n1_ n2_ n3_ n4_; (try clear hb); (try clear hb2); (try clear hk); (try clear hi)))
    have n0_ := aS (blk_drew BK198.out)
    have n1_ := aS (blk_drew BK199.out)
    have n2_ := aS (blk_drew BK214.out)
    have n3_ := aS (IsS90.drew HI207.out)
    have n4_ := aS (below_drew1 HB.out)
    clear BK198
    clear BK199
    clear BK214
    clear HI207
    clear HB
    have BK198 := n0_
    have BK199 := n1_
    have BK214 := n2_
    have HI207 := n3_
    have HB := n4_
    clear n0_ n1_ n2_ n3_ n4_
    refine start_ (n := 12) (S := fun w' => True) (ds := []) #[false, false, false, false, false, false, false, false, false, false, false, false] (by kernel_rfl) rfl rfl trivial (fun hHeld => ?_); refine with_tabW relrec_Read.tab7 relrec_Read.bits7 (fun HT_ HW_ => ?_)
    generalize w75.drew = w76 at BK198 BK199 BK214 HI207 HB hHeld ⊢
    refine pure_ (i := 0) (N := some 38) (v := ?_) (a' := ?_) (bm 12 1) rfl rfl (any_of HT_.out (by kernel_rfl)) (fun _ _ _ h => h) (Or.inl ⟨by rfl, ?_⟩) ?_ ?_
    rotate_left
    ·
     intro w'
     go_simp
     with_reducible rfl
    rotate_left
    ·
     simp only [Act.put, aput]
     rfl
    refine pure_ (i := 1) (N := some 39) (v := ?_) (a' := ?_) (bm 12 3) rfl rfl (any_of HT_.out (by kernel_rfl)) (fun _ _ _ h => h) (Or.inl ⟨by rfl, ?_⟩) ?_ ?_
    rotate_left
    ·
     intro w'
     go_simp
     with_reducible rfl
    rotate_left
    ·
     simp only [Act.put, aput]
     rfl
    refine pure_ (i := 2) (N := some 40) (v := ?_) (a' := ?_) (bm 12 7) rfl rfl (any_of HT_.out (by kernel_rfl)) (fun _ _ _ h => h) (Or.inl ⟨by rfl, ?_⟩) ?_ ?_
    rotate_left
    ·
     intro w'
     go_simp
     with_reducible rfl
    rotate_left
    ·
     simp only [Act.put, aput]
     rfl
    refine pure_ (i := 3) (N := some 41) (v := ?_) (a' := ?_) (bm 12 15) rfl rfl (any_of HT_.out (by kernel_rfl)) (fun _ _ _ h => h) (Or.inl ⟨by rfl, ?_⟩) ?_ ?_
    rotate_left
    ·
     intro w'
     go_simp
     with_reducible rfl
    rotate_left
    ·
     simp only [Act.put, aput]
     rfl
    refine pure_ (i := 4) (N := some 42) (v := ?_) (a' := ?_) (bm 12 31) rfl rfl (any_of HT_.out (by kernel_rfl)) (fun _ _ _ h => h) (Or.inl ⟨by rfl, ?_⟩) ?_ ?_
    rotate_left
    ·
     intro w'
     go_simp
     with_reducible rfl
    rotate_left
    ·
     simp only [Act.put, aput]
     rfl
    refine pure_ (i := 5) (N := some 43) (v := ?_) (a' := ?_) (bm 12 63) rfl rfl (any_of HT_.out (by kernel_rfl)) (fun _ _ _ h => h) (Or.inl ⟨by rfl, ?_⟩) ?_ ?_
    rotate_left
    ·
     intro w'
     go_simp
     with_reducible rfl
    rotate_left
    ·
     simp only [Act.put, aput]
     rfl
    refine pure_ (i := 6) (N := some 44) (v := ?_) (a' := ?_) (bm 12 127) rfl rfl (any_of HT_.out (by kernel_rfl)) (fun _ _ _ h => h) (Or.inl ⟨by rfl, ?_⟩) ?_ ?_
    rotate_left
    ·
     intro w'
     go_simp
     with_reducible rfl
    rotate_left
    ·
     simp only [Act.put, aput]
     rfl
    refine pure_ (i := 7) (N := some 45) (v := ?_) (a' := ?_) (bm 12 255) rfl rfl (any_of HT_.out (by kernel_rfl)) (fun _ _ _ h => h) (Or.inl ⟨by rfl, ?_⟩) ?_ ?_
    rotate_left
    ·
     intro w'
     go_simp
     with_reducible rfl
    rotate_left
    ·
     simp only [Act.put, aput]
     rfl
    refine pure_ (i := 8) (N := some 46) (v := ?_) (a' := ?_) (bm 12 511) rfl rfl (any_of HT_.out (by kernel_rfl)) (fun _ _ _ h => h) (Or.inl ⟨by rfl, ?_⟩) ?_ ?_
    rotate_left
    ·
     intro w'
     go_simp
     with_reducible rfl
    rotate_left
    ·
     simp only [Act.put, aput]
     rfl
    refine one_ (i := 9) (N := none) (bm 12 1023) rfl rfl (one_of HT_.out (by kernel_rfl)) (by decide) (fun K hK => ?_)
    have hs77 : w76.cell? ⟨gb214, 1, none⟩ = some (.int .u64 0) := (blk_cell BK214.out 1).trans rfl
    have hfs77 := blk_frozen BK214.out 1
    have hns77_0 := NB198_214.out
    have hns77_1 := NB199_214.out
    have hms77_0 := NB214_198.out
    have hms77_1 := NB214_199.out
    refine skip_ (w1 := ?_) (by rfl) rfl ?_ ?_
    rotate_left
    ·
     go_simp
     rfl
    refine hK.out _ _ trivial (fun hHeld => ?_)
    clear hK K
    refine pure_ (i := 10) (N := some 47) (v := ?_) (a' := ?_) (bm 12 2047) rfl rfl (any_of HT_.out (by kernel_rfl)) (fun _ _ _ h => h) (Or.inl ⟨by rfl, ?_⟩) ?_ ?_
    rotate_left
    ·
     intro w'
     go_simp
     with_reducible rfl
    rotate_left
    ·
     simp only [Act.put, aput]
     rfl
    refine one_ (i := 11) (N := none) (bm 12 4095) rfl rfl (one_of HT_.out (by kernel_rfl)) (by decide) (fun K hK => ?_)
    have hs78 : w76.cell? ⟨gb214, 2, none⟩ = some (.int .u64 0) := (blk_cell BK214.out 2).trans rfl
    have hfs78 := blk_frozen BK214.out 2
    have hns78_0 := NB198_214.out
    have hns78_1 := NB199_214.out
    have hms78_0 := NB214_198.out
    have hms78_1 := NB214_199.out
    refine skip_ (w1 := ?_) (by rfl) rfl ?_ ?_
    rotate_left
    ·
     go_simp
     rfl
    refine hK.out _ _ trivial (fun hHeld => ?_)
    clear hK K
    refine done_ (done_of HT_.out (by kernel_rfl)) ?_
    have hcz79_0 : w76.cell? ⟨gb214, 0, none⟩ = some (.int .u64 t209) := (blk_cell BK214.out 0).trans rfl
    have hcz79_1 : w76.cell? ⟨gb214, 1, none⟩ = some (.int .u64 0) := (blk_cell BK214.out 1).trans rfl
    have hcz79_2 : w76.cell? ⟨gb214, 2, none⟩ = some (.int .u64 0) := (blk_cell BK214.out 2).trans rfl
    have hcz79_3 : w76.cell? ⟨gb214, 3, none⟩ = some (.int .u64 0) := (blk_cell BK214.out 3).trans rfl
    have hfz79_0 := blk_frozen BK214.out 0
    have hfz79_1 := blk_frozen BK214.out 1
    have hfz79_2 := blk_frozen BK214.out 2
    have hfz79_3 := blk_frozen BK214.out 3
    have hnb80 := NB199_207.out
    have hnc80 := NB207_199.out
    have hcz81_0 : w76.cell? ⟨gb199, 0, none⟩ = some (.int .u64 0) := (blk_cell BK199.out 0).trans rfl
    have hcz81_1 : w76.cell? ⟨gb199, 1, none⟩ = some (.int .u64 0) := (blk_cell BK199.out 1).trans rfl
    have hcz81_2 : w76.cell? ⟨gb199, 2, none⟩ = some (.int .u64 0) := (blk_cell BK199.out 2).trans rfl
    have hcz81_3 : w76.cell? ⟨gb199, 3, none⟩ = some (.int .u64 0) := (blk_cell BK199.out 3).trans rfl
    have hfz81_0 := blk_frozen BK199.out 0
    have hfz81_1 := blk_frozen BK199.out 1
    have hfz81_2 := blk_frozen BK199.out 2
    have hfz81_3 := blk_frozen BK199.out 3
    try go_wp2
    refine bodyPost_ret (results_ct rfl _ _ gb199 33 #[.int .u64 t209, .int .u64 ji19, .int .u64 (Go.bits .and .u64 t216 (IntKind.u64.wrap ((ji21) - 1))), .int .u64 0] (0, 0) _ rfl (by (with_reducible repeat (first | apply bN | apply bD | apply bA)); refine blk_put (cs := #[.int .u64 t209, .int .u64 ji19, .int .u64 (Go.bits .and .u64 t216 (IntKind.u64.wrap ((ji21) - 1))), .int .u64 0]) ?_ 3 _ rfl; (with_reducible repeat (first | apply bN | apply bD | apply bA)); refine blk_put (cs := #[.int .u64 t209, .int .u64 ji19, .int .u64 0, .int .u64 0]) ?_ 2 _ rfl; (with_reducible repeat (first | apply bN | apply bD | apply bA)); refine blk_put (cs := #[.int .u64 t209, .int .u64 0, .int .u64 0, .int .u64 0]) ?_ 1 _ rfl; (with_reducible repeat (first | apply bN | apply bD | apply bA)); refine blk_put (cs := #[.int .u64 0, .int .u64 0, .int .u64 0, .int .u64 0]) ?_ 0 _ rfl; (with_reducible repeat (first | apply bN | apply bD | apply bA)); refine blk_far ?_ NB199_214.out _; (with_reducible repeat (first | apply bN | apply bD | apply bA)); refine blk_far ?_ NB199_214.out _; (with_reducible repeat (first | apply bN | apply bD | apply bA)); exact BK199.out) Try.underlying33 rfl (by kernel_rfl)) rfl ?_
    exact ⟨by first | rfl | (simp [errW_none, errW_some] <;> rfl) | (simp only [← hji19, ← hji21]; first | rfl | (simp [errW_none, errW_some] <;> rfl)) | (simp [*, errW_none, errW_some] <;> rfl), by repeat (first | (with_reducible first | exact HB.out | apply eA | apply eN | apply eD | refine below_set ?_ (IsS90.ge HI207.out) | refine below_set ?_ GE198.out | refine below_set ?_ GE199.out | refine below_set ?_ GE214.out) | exact HB.out)⟩
  ·
   rw [if_neg c18] at H
   exact absurd H (by simp)

end Go.Proofs.Ytjmjebbjfjgbeaa.Q
