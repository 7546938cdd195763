/- What Go functions of the program compute, each as a Lean function with the proof that the call returns just that. No condition but those in the statements. -/
import Derived.Test.YthbkjppaimjpmaaDoorQ0
import Derived.Test.YthbkjppaimjpmaaDoorQ1
import Derived.Test.YthbkjppaimjpmaaDoorQ3
import Derived.Test.YthbkjppaimjpmaaDoorQ7
import Derived.Test.YthbkjppaimjpmaaDoorQ9
import Derived.Test.YthbkjppaimjpmaaDoorQ12
namespace Go.Proofs.YthbkjppaimjpmaaDoor.Q
open Go.RowKit Go.Proofs.YthbkjppaimjpmaaDoorW.PrintWords Go.Proofs.YthbkjppaimjpmaaDoorW.PrintLast Go.Proofs.YthbkjppaimjpmaaDoorW.PrintMore
attribute [local go_sem] max2_int min2_int max_two min_two max_three min_three max_four min_four   -- for this text's walks alone
set_option linter.unusedVariables false
set_option linter.unusedSimpArgs false

attribute [local go_sem high] eqA44
/-! ### graverlaw06_ShdrPuts: function 5 -/
def graverlaw06_ShdrPuts.f (k : Nat) (a0 : Int) (a1_0 : Int) (a1_1 : Int) (a1_2 : Int) (a1_3 : Int) (a1_4 : Int) (a1_5 : Int) (a1_6 : Int) (a1_7 : Int) (a1_8 : Int) (a1_9 : Int) (a2 : ByteArray) : Option (Bool) := (graverlaw06_speaks.f k).bind fun t174 => (if t174 = true then ((graverlaw06_formOf.f a0).bind fun bt175 => ((shdr_Put.f k bt175.1 bt175.2 a1_0 a1_1 a1_2 a1_3 a1_4 a1_5 a1_6 a1_7 a1_8 a1_9).bind fun bt178 => ((graverref06_Put.f k bt175.2 bt175.1 a1_0 a1_1 a1_2 a1_3 a1_4 a1_5 a1_6 a1_7 a1_8 a1_9).bind fun bt180 => (if bt178.1.toList = bt180.1.toList then (if (bt178.2 != bt180.2) = true then (some false) else (if 0 ≤ (mn (a2.size : Int) 20) then (if (mn (a2.size : Int) 20) ≤ (a2.size : Int) then (if bt178.1.size + (a2.extract 0 ((mn (a2.size : Int) 20) : Int).toNat).size ≤ 9223372036854775807 then ((shdr_Read.f k bt175.1 bt175.2 (bt178.1 ++ (a2.extract 0 ((mn (a2.size : Int) 20) : Int).toNat))).bind fun bt182 => (if bt178.2 = true then (if bt182.2.2.2.2.2.2.2.2.2.2 = true then (some (bt182.1 == a1_0 && (bt182.2.1 == a1_1 && (bt182.2.2.1 == a1_2 && (bt182.2.2.2.1 == a1_3 && (bt182.2.2.2.2.1 == a1_4 && (bt182.2.2.2.2.2.1 == a1_5 && (bt182.2.2.2.2.2.2.1 == a1_6 && (bt182.2.2.2.2.2.2.2.1 == a1_7 && (bt182.2.2.2.2.2.2.2.2.1 == a1_8 && (bt182.2.2.2.2.2.2.2.2.2.1 == a1_9))))))))))) else (some false)) else (some true))) else (none)) else (none)) else (none))) else (some false))))) else (some false))
theorem graverlaw06_ShdrPuts.mono : ∀ a0 a1 a2 a3 a4 a5 a6 a7 a8 a9 a10 a11 k, LeO (graverlaw06_ShdrPuts.f k a0 a1 a2 a3 a4 a5 a6 a7 a8 a9 a10 a11) (graverlaw06_ShdrPuts.f (k + 1) a0 a1 a2 a3 a4 a5 a6 a7 a8 a9 a10 a11) := by
 intro a0 a1 a2 a3 a4 a5 a6 a7 a8 a9 a10 a11 k
 unfold graverlaw06_ShdrPuts.f
 repeat' first
   | (with_reducible exact graverlaw06_speaks.mono _)
   | (with_reducible exact graverref06_Put.mono _ _ _ _ _ _ _ _ _ _ _ _ _)
   | (with_reducible exact shdr_Put.mono _ _ _ _ _ _ _ _ _ _ _ _ _)
   | (with_reducible exact shdr_Read.mono _ _ _ _)
   | (with_reducible exact LeO.refl _)
   | (with_reducible exact LeO.none _)
   | (with_reducible refine LeO.ite ?_ ?_)
   | (with_reducible refine LeO.bind ?_ (fun _ => ?_))
   | exact graverlaw06_speaks.mono _
   | exact graverref06_Put.mono _ _ _ _ _ _ _ _ _ _ _ _ _
   | exact shdr_Put.mono _ _ _ _ _ _ _ _ _ _ _ _ _
   | exact shdr_Read.mono _ _ _ _
   | exact LeO.none _
   | refine LeO.ite ?_ ?_
   | refine LeO.bind ?_ (fun _ => ?_)
def graverlaw06_ShdrPuts.T8 : Bool × List (List Nat × List Nat) := (true, [([], []), ([], []), ([], []), ([], []), ([3], [3]), ([4], [4]), ([2, 5], [2, 5]), ([1, 6], [1, 6]), ([0, 7], [0, 7]), ([8], [8]), ([9], [9]), ([9], [9]), ([], []), ([12, 10, 8, 0, 1, 2, 3, 4, 5, 6, 7, 8, 9, 10, 12], [10, 12]), ([11, 13, 0, 1, 2, 3, 4, 5, 6, 7, 8, 9, 10, 11, 12, 13], [11])])
def graverlaw06_ShdrPuts.B8 : List Nat := [0, 0, 0, 0, 8, 24, 60, 126, 255, 511, 1023, 1023, 0, 6143, 16383]
theorem graverlaw06_ShdrPuts.tab8 : rtab .any (opsOf Tryd.f5 8) = graverlaw06_ShdrPuts.T8 := by kernel_rfl
theorem graverlaw06_ShdrPuts.bits8 : waitsOk graverlaw06_ShdrPuts.T8.2 graverlaw06_ShdrPuts.B8 = true := by kernel_rfl
set_option maxHeartbeats 8000000 in
set_option maxRecDepth 100000 in
theorem graverlaw06_ShdrPuts.calls (k : Nat) (a0 : Int) (a1_0 : Int) (a1_1 : Int) (a1_2 : Int) (a1_3 : Int) (a1_4 : Int) (a1_5 : Int) (a1_6 : Int) (a1_7 : Int) (a1_8 : Int) (a1_9 : Int) (a2 : ByteArray) (r : Bool) (w : World) (hlaid_shdr : Laid_shdr w) (h : graverlaw06_ShdrPuts.f k a0 a1_0 a1_1 a1_2 a1_3 a1_4 a1_5 a1_6 a1_7 a1_8 a1_9 a2 = some r) :
  Calls Tryd.prog 5 #[.int .i64 a0, .agg #[.int .u64 a1_0, .int .u64 a1_1, .int .u64 a1_2, .int .u64 a1_3, .int .u64 a1_4, .int .u64 a1_5, .int .u64 a1_6, .int .u64 a1_7, .int .u64 a1_8, .int .u64 a1_9], .string a2] w fun e w' => e = .returned (.bool r) ∧ Below w.heap.size w w' := by
 have hu42 := Tryd.underlying42
 have hu29 := Tryd.underlying29
 have hu44 := Tryd.underlying44
 have HB := Aside0.mk (Below.refl w.heap.size w)
 have HLD_shdr := Aside0.mk hlaid_shdr
 clear hlaid_shdr
 have H : ((graverlaw06_speaks.f k).bind fun t174 => (if t174 = true then ((graverlaw06_formOf.f a0).bind fun bt175 => ((shdr_Put.f k bt175.1 bt175.2 a1_0 a1_1 a1_2 a1_3 a1_4 a1_5 a1_6 a1_7 a1_8 a1_9).bind fun bt178 => ((graverref06_Put.f k bt175.2 bt175.1 a1_0 a1_1 a1_2 a1_3 a1_4 a1_5 a1_6 a1_7 a1_8 a1_9).bind fun bt180 => (if bt178.1.toList = bt180.1.toList then (if (bt178.2 != bt180.2) = true then (some false) else (if 0 ≤ (mn (a2.size : Int) 20) then (if (mn (a2.size : Int) 20) ≤ (a2.size : Int) then (if bt178.1.size + (a2.extract 0 ((mn (a2.size : Int) 20) : Int).toNat).size ≤ 9223372036854775807 then ((shdr_Read.f k bt175.1 bt175.2 (bt178.1 ++ (a2.extract 0 ((mn (a2.size : Int) 20) : Int).toNat))).bind fun bt182 => (if bt178.2 = true then (if bt182.2.2.2.2.2.2.2.2.2.2 = true then (some (bt182.1 == a1_0 && (bt182.2.1 == a1_1 && (bt182.2.2.1 == a1_2 && (bt182.2.2.2.1 == a1_3 && (bt182.2.2.2.2.1 == a1_4 && (bt182.2.2.2.2.2.1 == a1_5 && (bt182.2.2.2.2.2.2.1 == a1_6 && (bt182.2.2.2.2.2.2.2.1 == a1_7 && (bt182.2.2.2.2.2.2.2.2.1 == a1_8 && (bt182.2.2.2.2.2.2.2.2.2.1 == a1_9))))))))))) else (some false)) else (some true))) else (none)) else (none)) else (none))) else (some false))))) else (some false))) = some r := h
 clear h
 replace H := Option.bind_eq_some_iff.mp H
 obtain ⟨t174, A40, H⟩ := H
 replace H : (if t174 = true then ((graverlaw06_formOf.f a0).bind fun bt175 => ((shdr_Put.f k bt175.1 bt175.2 a1_0 a1_1 a1_2 a1_3 a1_4 a1_5 a1_6 a1_7 a1_8 a1_9).bind fun bt178 => ((graverref06_Put.f k bt175.2 bt175.1 a1_0 a1_1 a1_2 a1_3 a1_4 a1_5 a1_6 a1_7 a1_8 a1_9).bind fun bt180 => (if bt178.1.toList = bt180.1.toList then (if (bt178.2 != bt180.2) = true then (some false) else (if 0 ≤ (mn (a2.size : Int) 20) then (if (mn (a2.size : Int) 20) ≤ (a2.size : Int) then (if bt178.1.size + (a2.extract 0 ((mn (a2.size : Int) 20) : Int).toNat).size ≤ 9223372036854775807 then ((shdr_Read.f k bt175.1 bt175.2 (bt178.1 ++ (a2.extract 0 ((mn (a2.size : Int) 20) : Int).toNat))).bind fun bt182 => (if bt178.2 = true then (if bt182.2.2.2.2.2.2.2.2.2.2 = true then (some (bt182.1 == a1_0 && (bt182.2.1 == a1_1 && (bt182.2.2.1 == a1_2 && (bt182.2.2.2.1 == a1_3 && (bt182.2.2.2.2.1 == a1_4 && (bt182.2.2.2.2.2.1 == a1_5 && (bt182.2.2.2.2.2.2.1 == a1_6 && (bt182.2.2.2.2.2.2.2.1 == a1_7 && (bt182.2.2.2.2.2.2.2.2.1 == a1_8 && (bt182.2.2.2.2.2.2.2.2.2.1 == a1_9))))))))))) else (some false)) else (some true))) else (none)) else (none)) else (none))) else (some false))))) else (some false)) = some r := H
 have A4 := Aside0.mk A40
 clear A40
 by_cases c5 : t174 = true
 ·
  subst c5
  have H1 : ((graverlaw06_formOf.f a0).bind fun bt175 => ((shdr_Put.f k bt175.1 bt175.2 a1_0 a1_1 a1_2 a1_3 a1_4 a1_5 a1_6 a1_7 a1_8 a1_9).bind fun bt178 => ((graverref06_Put.f k bt175.2 bt175.1 a1_0 a1_1 a1_2 a1_3 a1_4 a1_5 a1_6 a1_7 a1_8 a1_9).bind fun bt180 => (if bt178.1.toList = bt180.1.toList then (if (bt178.2 != bt180.2) = true then (some false) else (if 0 ≤ (mn (a2.size : Int) 20) then (if (mn (a2.size : Int) 20) ≤ (a2.size : Int) then (if bt178.1.size + (a2.extract 0 ((mn (a2.size : Int) 20) : Int).toNat).size ≤ 9223372036854775807 then ((shdr_Read.f k bt175.1 bt175.2 (bt178.1 ++ (a2.extract 0 ((mn (a2.size : Int) 20) : Int).toNat))).bind fun bt182 => (if bt178.2 = true then (if bt182.2.2.2.2.2.2.2.2.2.2 = true then (some (bt182.1 == a1_0 && (bt182.2.1 == a1_1 && (bt182.2.2.1 == a1_2 && (bt182.2.2.2.1 == a1_3 && (bt182.2.2.2.2.1 == a1_4 && (bt182.2.2.2.2.2.1 == a1_5 && (bt182.2.2.2.2.2.2.1 == a1_6 && (bt182.2.2.2.2.2.2.2.1 == a1_7 && (bt182.2.2.2.2.2.2.2.2.1 == a1_8 && (bt182.2.2.2.2.2.2.2.2.2.1 == a1_9))))))))))) else (some false)) else (some true))) else (none)) else (none)) else (none))) else (some false))))) = some r := by rw [if_pos rfl] at H; exact H
  clear H
  have H := H1
  clear H1
  replace H := Option.bind_eq_some_iff.mp H
  obtain ⟨⟨t175, t176⟩, A60, H⟩ := H
  replace H : ((shdr_Put.f k t175 t176 a1_0 a1_1 a1_2 a1_3 a1_4 a1_5 a1_6 a1_7 a1_8 a1_9).bind fun bt178 => ((graverref06_Put.f k t176 t175 a1_0 a1_1 a1_2 a1_3 a1_4 a1_5 a1_6 a1_7 a1_8 a1_9).bind fun bt180 => (if bt178.1.toList = bt180.1.toList then (if (bt178.2 != bt180.2) = true then (some false) else (if 0 ≤ (mn (a2.size : Int) 20) then (if (mn (a2.size : Int) 20) ≤ (a2.size : Int) then (if bt178.1.size + (a2.extract 0 ((mn (a2.size : Int) 20) : Int).toNat).size ≤ 9223372036854775807 then ((shdr_Read.f k t175 t176 (bt178.1 ++ (a2.extract 0 ((mn (a2.size : Int) 20) : Int).toNat))).bind fun bt182 => (if bt178.2 = true then (if bt182.2.2.2.2.2.2.2.2.2.2 = true then (some (bt182.1 == a1_0 && (bt182.2.1 == a1_1 && (bt182.2.2.1 == a1_2 && (bt182.2.2.2.1 == a1_3 && (bt182.2.2.2.2.1 == a1_4 && (bt182.2.2.2.2.2.1 == a1_5 && (bt182.2.2.2.2.2.2.1 == a1_6 && (bt182.2.2.2.2.2.2.2.1 == a1_7 && (bt182.2.2.2.2.2.2.2.2.1 == a1_8 && (bt182.2.2.2.2.2.2.2.2.2.1 == a1_9))))))))))) else (some false)) else (some true))) else (none)) else (none)) else (none))) else (some false)))) = some r := H
  have A6 := Aside0.mk A60
  clear A60
  replace H := Option.bind_eq_some_iff.mp H
  obtain ⟨⟨t178, t179⟩, A70, H⟩ := H
  replace H : ((graverref06_Put.f k t176 t175 a1_0 a1_1 a1_2 a1_3 a1_4 a1_5 a1_6 a1_7 a1_8 a1_9).bind fun bt180 => (if t178.toList = bt180.1.toList then (if (t179 != bt180.2) = true then (some false) else (if 0 ≤ (mn (a2.size : Int) 20) then (if (mn (a2.size : Int) 20) ≤ (a2.size : Int) then (if t178.size + (a2.extract 0 ((mn (a2.size : Int) 20) : Int).toNat).size ≤ 9223372036854775807 then ((shdr_Read.f k t175 t176 (t178 ++ (a2.extract 0 ((mn (a2.size : Int) 20) : Int).toNat))).bind fun bt182 => (if t179 = true then (if bt182.2.2.2.2.2.2.2.2.2.2 = true then (some (bt182.1 == a1_0 && (bt182.2.1 == a1_1 && (bt182.2.2.1 == a1_2 && (bt182.2.2.2.1 == a1_3 && (bt182.2.2.2.2.1 == a1_4 && (bt182.2.2.2.2.2.1 == a1_5 && (bt182.2.2.2.2.2.2.1 == a1_6 && (bt182.2.2.2.2.2.2.2.1 == a1_7 && (bt182.2.2.2.2.2.2.2.2.1 == a1_8 && (bt182.2.2.2.2.2.2.2.2.2.1 == a1_9))))))))))) else (some false)) else (some true))) else (none)) else (none)) else (none))) else (some false))) = some r := H
  have A7 := Aside0.mk A70
  clear A70
  replace H := Option.bind_eq_some_iff.mp H
  obtain ⟨⟨t180, t181⟩, A80, H⟩ := H
  replace H : (if t178.toList = t180.toList then (if (t179 != t181) = true then (some false) else (if 0 ≤ (mn (a2.size : Int) 20) then (if (mn (a2.size : Int) 20) ≤ (a2.size : Int) then (if t178.size + (a2.extract 0 ((mn (a2.size : Int) 20) : Int).toNat).size ≤ 9223372036854775807 then ((shdr_Read.f k t175 t176 (t178 ++ (a2.extract 0 ((mn (a2.size : Int) 20) : Int).toNat))).bind fun bt182 => (if t179 = true then (if bt182.2.2.2.2.2.2.2.2.2.2 = true then (some (bt182.1 == a1_0 && (bt182.2.1 == a1_1 && (bt182.2.2.1 == a1_2 && (bt182.2.2.2.1 == a1_3 && (bt182.2.2.2.2.1 == a1_4 && (bt182.2.2.2.2.2.1 == a1_5 && (bt182.2.2.2.2.2.2.1 == a1_6 && (bt182.2.2.2.2.2.2.2.1 == a1_7 && (bt182.2.2.2.2.2.2.2.2.1 == a1_8 && (bt182.2.2.2.2.2.2.2.2.2.1 == a1_9))))))))))) else (some false)) else (some true))) else (none)) else (none)) else (none))) else (some false)) = some r := H
  have A8 := Aside0.mk A80
  clear A80
  by_cases c9 : t178.toList = t180.toList
  ·
   rw [if_pos c9] at H
   have c9b0 : (t178.toList == t180.toList) = true := beq_iff_eq.mpr c9
   have c9b1 : (t178.toList != t180.toList) = false := bne_eq_false_iff_eq.mpr c9
   clear c9
   by_cases c10 : (t179 != t181) = true
   ·
    rw [if_pos c10] at H
    have c10b0 : (t179 != t181) = true := c10
    (try (have c10b1 : decide (t179 = t181) = false := by simpa using c10))
    (try (have c10b2 : (t179 == t181) = false := by simpa using c10))
    (try (have c10b3 : ¬ (t179 = t181) := by simpa using c10))
    clear c10
    obtain rfl := Option.some.inj H
    go_enter Tryd.func5, Tryd.ntmps5
    go_wp2_with (first | ((with_reducible refine gate_dst (N := 4) rfl ?_); refine box_event ?hg (N := 4) ?hd (cs := #[.int .u64 a1_0, .int .u64 a1_1, .int .u64 a1_2, .int .u64 a1_3, .int .u64 a1_4, .int .u64 a1_5, .int .u64 a1_6, .int .u64 a1_7, .int .u64 a1_8, .int .u64 a1_9]) (t := 42) ?hr ?_; (case hd => rfl); (case hg => rfl); (case hr => first | (go_simp; done) | (go_simp; rfl)); intro gb173 hg w11 hbox hb; have n0_ := Aside0.mk (below_step (by repeat (first | (with_reducible first | exact HB.out | apply below_alloc | apply pw_below_drewN | apply below_drew1) | exact HB.out)) hb); have n1_ := Aside0.mk (hbox); have n2_ := Aside0.mk ((by rw [hg]; exact (below_size (by repeat (first | (with_reducible first | exact HB.out | apply below_alloc | apply pw_below_drewN | apply below_drew1) | exact HB.out))) : w.heap.size ≤ gb173)); have n3_ := Aside0.mk ((by rw [hg]; exact (below_size (by repeat (first | (with_reducible first | exact HB.out | apply below_alloc | apply pw_below_drewN | apply below_drew1) | exact HB.out))) : w.heap.size ≤ gb173)); clear HB; have HB := n0_; have BK173 := n1_; have GW173 := n2_; have GE173 := n3_; clear n0_ n1_ n2_ n3_; clear hb hbox hg) | ((with_reducible refine gate_callee (f := 15) rfl ?_); refine goesL_ (some 14) rfl rfl Tryd.func15 (by kernel_rfl) rfl #[] rfl (by (try simp only [List.map_toArray, List.map_cons, List.map_nil]); first | done | rfl | (simp only [List.length_drop, List.length_take]; rfl)) ?_; (with_reducible refine (graverlaw06_speaks.calls k  true _ ?side1 A4.out).mono ?_); (case side1 => exact Laid_shdr.below HLD_shdr.out (by repeat (first | (with_reducible first | exact HB.out | apply below_alloc | apply pw_below_drewN | apply below_drew1 | refine below_set ?_ GE173.out) | exact HB.out))); rintro e w12 ⟨rfl, hb⟩; refine ⟨_, rfl, ?_⟩; have n0_ := Aside0.mk (blk_below (g := gb173) (o := .cells #[.int .u64 a1_0, .int .u64 a1_1, .int .u64 a1_2, .int .u64 a1_3, .int .u64 a1_4, .int .u64 a1_5, .int .u64 a1_6, .int .u64 a1_7, .int .u64 a1_8, .int .u64 a1_9] 42 (0, 0)) (by (with_reducible repeat (first | refine blk_drewN ?_ _ | refine blk_drew ?_ | refine blk_alloc ?_ _)); exact BK173.out) hb); have n1_ := Aside0.mk (below_step (by repeat (first | (with_reducible first | exact HB.out | apply below_alloc | apply pw_below_drewN | apply below_drew1 | refine below_set ?_ GE173.out) | exact HB.out)) hb); clear BK173; clear HB; have BK173 := n0_; have HB := n1_; clear n0_ n1_; (try clear hb); (try clear hb2); (try clear hk); (try clear hi)) | ((with_reducible refine gate_callee (f := 16) rfl ?_); refine goesL_ (some 17) rfl rfl Tryd.func16 (by kernel_rfl) rfl #[.int .i64 a0] rfl (by (try simp only [List.map_toArray, List.map_cons, List.map_nil]); first | done | rfl | (simp only [List.length_drop, List.length_take]; rfl)) ?_; (with_reducible refine (graverlaw06_formOf.calls a0 t175 t176 _ A6.out).mono ?_); rintro e w13 ⟨rfl, hb⟩; refine ⟨_, rfl, ?_⟩; have n0_ := Aside0.mk (blk_below (g := gb173) (o := .cells #[.int .u64 a1_0, .int .u64 a1_1, .int .u64 a1_2, .int .u64 a1_3, .int .u64 a1_4, .int .u64 a1_5, .int .u64 a1_6, .int .u64 a1_7, .int .u64 a1_8, .int .u64 a1_9] 42 (0, 0)) (by (with_reducible repeat (first | refine blk_drewN ?_ _ | refine blk_drew ?_ | refine blk_alloc ?_ _)); exact BK173.out) hb); have n1_ := Aside0.mk (below_step (by repeat (first | (with_reducible first | exact HB.out | apply below_alloc | apply pw_below_drewN | apply below_drew1 | refine below_set ?_ GE173.out) | exact HB.out)) hb); clear BK173; clear HB; have BK173 := n0_; have HB := n1_; clear n0_ n1_; (try clear hb); (try clear hb2); (try clear hk); (try clear hi)) | ((with_reducible refine gate_dst (N := 7) rfl ?_); refine box_event ?hg (N := 7) ?hd (cs := #[.bool false, .bool false]) (t := 29) ?hr ?_; (case hd => rfl); (case hg => rfl); (case hr => first | (go_simp; done) | (go_simp; rfl)); intro gb177 hg w14 hbox hb; have n0_ := Aside0.mk (blk_below (g := gb173) (o := .cells #[.int .u64 a1_0, .int .u64 a1_1, .int .u64 a1_2, .int .u64 a1_3, .int .u64 a1_4, .int .u64 a1_5, .int .u64 a1_6, .int .u64 a1_7, .int .u64 a1_8, .int .u64 a1_9] 42 (0, 0)) (by (with_reducible repeat (first | refine blk_drewN ?_ _ | refine blk_drew ?_ | refine blk_alloc ?_ _)); exact BK173.out) hb); have n1_ := Aside0.mk (below_step (by repeat (first | (with_reducible first | exact HB.out | apply below_alloc | apply pw_below_drewN | apply below_drew1 | refine below_set ?_ GE173.out) | exact HB.out)) hb); have n2_ := Aside0.mk (hbox); have n3_ := Aside0.mk ((by rw [hg]; exact (below_size (by repeat (first | (with_reducible first | exact HB.out | apply below_alloc | apply pw_below_drewN | apply below_drew1 | refine below_set ?_ GE173.out) | exact HB.out))) : w.heap.size ≤ gb177)); have n4_ := Aside0.mk ((by rw [hg]; exact (below_size (by repeat (first | (with_reducible first | exact HB.out | apply below_alloc | apply pw_below_drewN | apply below_drew1 | refine below_set ?_ GE173.out) | exact HB.out))) : w.heap.size ≤ gb177)); have n5_ := Aside0.mk ((by rw [hg]; exact Nat.ne_of_lt (blk_lt (g := gb173) (o := .cells #[.int .u64 a1_0, .int .u64 a1_1, .int .u64 a1_2, .int .u64 a1_3, .int .u64 a1_4, .int .u64 a1_5, .int .u64 a1_6, .int .u64 a1_7, .int .u64 a1_8, .int .u64 a1_9] 42 (0, 0)) (by (with_reducible repeat (first | refine blk_drewN ?_ _ | refine blk_drew ?_ | refine blk_alloc ?_ _)); exact BK173.out)) : gb173 ≠ gb177)); have n6_ := Aside0.mk ((by rw [hg]; exact Nat.ne_of_gt (blk_lt (g := gb173) (o := .cells #[.int .u64 a1_0, .int .u64 a1_1, .int .u64 a1_2, .int .u64 a1_3, .int .u64 a1_4, .int .u64 a1_5, .int .u64 a1_6, .int .u64 a1_7, .int .u64 a1_8, .int .u64 a1_9] 42 (0, 0)) (by (with_reducible repeat (first | refine blk_drewN ?_ _ | refine blk_drew ?_ | refine blk_alloc ?_ _)); exact BK173.out)) : gb177 ≠ gb173)); clear BK173; clear HB; have BK173 := n0_; have HB := n1_; have BK177 := n2_; have GW177 := n3_; have GE177 := n4_; have NB173_177 := n5_; have NB177_173 := n6_; clear n0_ n1_ n2_ n3_ n4_ n5_ n6_; clear hb hbox hg; have hnb15 := NB177_173.out; have hnc15 := NB173_177.out; have hcz16_0 : w14.cell? ⟨gb177, 0, none⟩ = some (.bool false) := (blk_cell BK177.out 0).trans rfl; have hcz16_1 : w14.cell? ⟨gb177, 1, none⟩ = some (.bool false) := (blk_cell BK177.out 1).trans rfl; have hfz16_0 := blk_frozen BK177.out 0; have hfz16_1 := blk_frozen BK177.out 1; have hcz17_0 : w14.cell? ⟨gb173, 0, none⟩ = some (.int .u64 a1_0) := (blk_cell BK173.out 0).trans rfl; have hcz17_1 : w14.cell? ⟨gb173, 1, none⟩ = some (.int .u64 a1_1) := (blk_cell BK173.out 1).trans rfl; have hcz17_2 : w14.cell? ⟨gb173, 2, none⟩ = some (.int .u64 a1_2) := (blk_cell BK173.out 2).trans rfl; have hcz17_3 : w14.cell? ⟨gb173, 3, none⟩ = some (.int .u64 a1_3) := (blk_cell BK173.out 3).trans rfl; have hcz17_4 : w14.cell? ⟨gb173, 4, none⟩ = some (.int .u64 a1_4) := (blk_cell BK173.out 4).trans rfl; have hcz17_5 : w14.cell? ⟨gb173, 5, none⟩ = some (.int .u64 a1_5) := (blk_cell BK173.out 5).trans rfl; have hcz17_6 : w14.cell? ⟨gb173, 6, none⟩ = some (.int .u64 a1_6) := (blk_cell BK173.out 6).trans rfl; have hcz17_7 : w14.cell? ⟨gb173, 7, none⟩ = some (.int .u64 a1_7) := (blk_cell BK173.out 7).trans rfl; have hcz17_8 : w14.cell? ⟨gb173, 8, none⟩ = some (.int .u64 a1_8) := (blk_cell BK173.out 8).trans rfl; have hcz17_9 : w14.cell? ⟨gb173, 9, none⟩ = some (.int .u64 a1_9) := (blk_cell BK173.out 9).trans rfl; have hfz17_0 := blk_frozen BK173.out 0; have hfz17_1 := blk_frozen BK173.out 1; have hfz17_2 := blk_frozen BK173.out 2; have hfz17_3 := blk_frozen BK173.out 3; have hfz17_4 := blk_frozen BK173.out 4; have hfz17_5 := blk_frozen BK173.out 5; have hfz17_6 := blk_frozen BK173.out 6; have hfz17_7 := blk_frozen BK173.out 7; have hfz17_8 := blk_frozen BK173.out 8; have hfz17_9 := blk_frozen BK173.out 9) | ((with_reducible refine gate_callee (f := 17) rfl ?_); refine goesL_ (some 21) rfl rfl Tryd.func17 (by kernel_rfl) rfl #[.agg #[.bool t175, .bool t176], .agg #[.int .u64 a1_0, .int .u64 a1_1, .int .u64 a1_2, .int .u64 a1_3, .int .u64 a1_4, .int .u64 a1_5, .int .u64 a1_6, .int .u64 a1_7, .int .u64 a1_8, .int .u64 a1_9]] rfl (by (try simp only [List.map_toArray, List.map_cons, List.map_nil]); first | done | rfl | (simp only [List.length_drop, List.length_take]; rfl)) ?_; (with_reducible refine (shdr_Put.calls k t175 t176 a1_0 a1_1 a1_2 a1_3 a1_4 a1_5 a1_6 a1_7 a1_8 a1_9 t178 t179 _ ?side1 A7.out).mono ?_); (case side1 => exact Laid_shdr.below HLD_shdr.out (by repeat (first | (with_reducible first | exact HB.out | apply below_alloc | apply pw_below_drewN | apply below_drew1 | refine below_set ?_ GE173.out | refine below_set ?_ GE177.out) | exact HB.out))); rintro e w18 ⟨rfl, hb⟩; refine ⟨_, rfl, ?_⟩; have n0_ := Aside0.mk (blk_below (g := gb173) (o := .cells #[.int .u64 a1_0, .int .u64 a1_1, .int .u64 a1_2, .int .u64 a1_3, .int .u64 a1_4, .int .u64 a1_5, .int .u64 a1_6, .int .u64 a1_7, .int .u64 a1_8, .int .u64 a1_9] 42 (0, 0)) (by (with_reducible repeat (first | refine blk_drewN ?_ _ | refine blk_drew ?_ | refine blk_alloc ?_ _)); refine blk_far ?_ NB173_177.out _; (with_reducible repeat (first | refine blk_drewN ?_ _ | refine blk_drew ?_ | refine blk_alloc ?_ _)); refine blk_far ?_ NB173_177.out _; (with_reducible repeat (first | refine blk_drewN ?_ _ | refine blk_drew ?_ | refine blk_alloc ?_ _)); exact BK173.out) hb); have n1_ := Aside0.mk (blk_below (g := gb177) (o := .cells #[.bool t175, .bool t176] 29 (0, 0)) (by (with_reducible repeat (first | refine blk_drewN ?_ _ | refine blk_drew ?_ | refine blk_alloc ?_ _)); refine blk_put (cs := #[.bool t175, .bool false]) ?_ 1 _ rfl; (with_reducible repeat (first | refine blk_drewN ?_ _ | refine blk_drew ?_ | refine blk_alloc ?_ _)); refine blk_put (cs := #[.bool false, .bool false]) ?_ 0 _ rfl; (with_reducible repeat (first | refine blk_drewN ?_ _ | refine blk_drew ?_ | refine blk_alloc ?_ _)); exact BK177.out) hb); have n2_ := Aside0.mk (below_step (by repeat (first | (with_reducible first | exact HB.out | apply below_alloc | apply pw_below_drewN | apply below_drew1 | refine below_set ?_ GE173.out | refine below_set ?_ GE177.out) | exact HB.out)) hb); clear BK173; clear BK177; clear HB; have BK173 := n0_; have BK177 := n1_; have HB := n2_; clear n0_ n1_ n2_; (try clear hb); (try clear hb2); (try clear hk); (try clear hi); have hcz19_0 : w18.cell? ⟨gb177, 0, none⟩ = some (.bool t175) := (blk_cell BK177.out 0).trans rfl; have hcz19_1 : w18.cell? ⟨gb177, 1, none⟩ = some (.bool t176) := (blk_cell BK177.out 1).trans rfl; have hfz19_0 := blk_frozen BK177.out 0; have hfz19_1 := blk_frozen BK177.out 1; have hcz20_0 : w18.cell? ⟨gb173, 0, none⟩ = some (.int .u64 a1_0) := (blk_cell BK173.out 0).trans rfl; have hcz20_1 : w18.cell? ⟨gb173, 1, none⟩ = some (.int .u64 a1_1) := (blk_cell BK173.out 1).trans rfl; have hcz20_2 : w18.cell? ⟨gb173, 2, none⟩ = some (.int .u64 a1_2) := (blk_cell BK173.out 2).trans rfl; have hcz20_3 : w18.cell? ⟨gb173, 3, none⟩ = some (.int .u64 a1_3) := (blk_cell BK173.out 3).trans rfl; have hcz20_4 : w18.cell? ⟨gb173, 4, none⟩ = some (.int .u64 a1_4) := (blk_cell BK173.out 4).trans rfl; have hcz20_5 : w18.cell? ⟨gb173, 5, none⟩ = some (.int .u64 a1_5) := (blk_cell BK173.out 5).trans rfl; have hcz20_6 : w18.cell? ⟨gb173, 6, none⟩ = some (.int .u64 a1_6) := (blk_cell BK173.out 6).trans rfl; have hcz20_7 : w18.cell? ⟨gb173, 7, none⟩ = some (.int .u64 a1_7) := (blk_cell BK173.out 7).trans rfl; have hcz20_8 : w18.cell? ⟨gb173, 8, none⟩ = some (.int .u64 a1_8) := (blk_cell BK173.out 8).trans rfl; have hcz20_9 : w18.cell? ⟨gb173, 9, none⟩ = some (.int .u64 a1_9) := (blk_cell BK173.out 9).trans rfl; have hfz20_0 := blk_frozen BK173.out 0; have hfz20_1 := blk_frozen BK173.out 1; have hfz20_2 := blk_frozen BK173.out 2; have hfz20_3 := blk_frozen BK173.out 3; have hfz20_4 := blk_frozen BK173.out 4; have hfz20_5 := blk_frozen BK173.out 5; have hfz20_6 := blk_frozen BK173.out 6; have hfz20_7 := blk_frozen BK173.out 7; have hfz20_8 := blk_frozen BK173.out 8; have hfz20_9 := blk_frozen BK173.out 9) | ((with_reducible refine gate_callee (f := 18) rfl ?_); refine goesL_ (some 31) rfl rfl Tryd.func18 (by kernel_rfl) rfl #[.bool t176, .bool t175, .agg #[.int .u64 a1_0, .int .u64 a1_1, .int .u64 a1_2, .int .u64 a1_3, .int .u64 a1_4, .int .u64 a1_5, .int .u64 a1_6, .int .u64 a1_7, .int .u64 a1_8, .int .u64 a1_9]] rfl (by (try simp only [List.map_toArray, List.map_cons, List.map_nil]); first | done | rfl | (simp only [List.length_drop, List.length_take]; rfl)) ?_; (with_reducible refine (graverref06_Put.calls k t176 t175 a1_0 a1_1 a1_2 a1_3 a1_4 a1_5 a1_6 a1_7 a1_8 a1_9 t180 t181 _ A8.out).mono ?_); rintro e w21 ⟨rfl, hb⟩; refine ⟨_, rfl, ?_⟩; have n0_ := Aside0.mk (blk_below (g := gb173) (o := .cells #[.int .u64 a1_0, .int .u64 a1_1, .int .u64 a1_2, .int .u64 a1_3, .int .u64 a1_4, .int .u64 a1_5, .int .u64 a1_6, .int .u64 a1_7, .int .u64 a1_8, .int .u64 a1_9] 42 (0, 0)) (by (with_reducible repeat (first | refine blk_drewN ?_ _ | refine blk_drew ?_ | refine blk_alloc ?_ _)); exact BK173.out) hb); have n1_ := Aside0.mk (blk_below (g := gb177) (o := .cells #[.bool t175, .bool t176] 29 (0, 0)) (by (with_reducible repeat (first | refine blk_drewN ?_ _ | refine blk_drew ?_ | refine blk_alloc ?_ _)); exact BK177.out) hb); have n2_ := Aside0.mk (below_step (by repeat (first | (with_reducible first | exact HB.out | apply below_alloc | apply pw_below_drewN | apply below_drew1 | refine below_set ?_ GE173.out | refine below_set ?_ GE177.out) | exact HB.out)) hb); clear BK173; clear BK177; clear HB; have BK173 := n0_; have BK177 := n1_; have HB := n2_; clear n0_ n1_ n2_; (try clear hb); (try clear hb2); (try clear hk); (try clear hi)))
    go_ret
    exact ⟨by first | rfl | (simp [errW_none, errW_some] <;> rfl) | (simp [*, errW_none, errW_some] <;> rfl), by repeat (first | (with_reducible first | exact HB.out | apply below_alloc | apply pw_below_drewN | apply below_drew1 | refine below_set ?_ GE173.out | refine below_set ?_ GE177.out) | exact HB.out)⟩
   ·
    rw [if_neg c10] at H
    have c10b0 : (t179 != t181) = false := by simpa using c10
    (try (have c10b1 : decide (t179 = t181) = true := by simpa using c10))
    (try (have c10b2 : (t179 == t181) = true := by simpa using c10))
    clear c10
    obtain ⟨ji22, hji22⟩ : ∃ j_ : Int, (mn (a2.size : Int) 20) = j_ := ⟨_, rfl⟩
    replace H : (if 0 ≤ (ji22) then (if (ji22) ≤ (a2.size : Int) then (if t178.size + (a2.extract 0 ((ji22) : Int).toNat).size ≤ 9223372036854775807 then ((shdr_Read.f k t175 t176 (t178 ++ (a2.extract 0 ((ji22) : Int).toNat))).bind fun bt182 => (if t179 = true then (if bt182.2.2.2.2.2.2.2.2.2.2 = true then (some (bt182.1 == a1_0 && (bt182.2.1 == a1_1 && (bt182.2.2.1 == a1_2 && (bt182.2.2.2.1 == a1_3 && (bt182.2.2.2.2.1 == a1_4 && (bt182.2.2.2.2.2.1 == a1_5 && (bt182.2.2.2.2.2.2.1 == a1_6 && (bt182.2.2.2.2.2.2.2.1 == a1_7 && (bt182.2.2.2.2.2.2.2.2.1 == a1_8 && (bt182.2.2.2.2.2.2.2.2.2.1 == a1_9))))))))))) else (some false)) else (some true))) else (none)) else (none)) else (none)) = some r := by first | (rw [hji22] at H; exact H) | (simp only [hji22] at H ⊢; exact H)
    (try rw [hji22] at A4)
    (try rw [hji22] at A6)
    (try rw [hji22] at A7)
    (try rw [hji22] at A8)
    (try (have hji22h : ji22 ≤ 20 := by (rw [← hji22]; unfold mn; (repeat' split) <;> omega)))
    (try (have hji22g : ji22 ≤ 64 := by omega))
    (try (have hji22l : 0 ≤ ji22 := by (rw [← hji22]; unfold mn; (repeat' split) <;> omega)))
    (try (have hji22m : 0 ≤ ji22 := by omega))
    have hji22_ : (if 20 < (a2.size : Int) then 20 else (a2.size : Int)) = ji22 := hji22
    by_cases c23 : 0 ≤ (ji22)
    ·
     rw [if_pos c23] at H
     have c23b0 := eq_true c23
     have c23b1 : decide (0 ≤ (ji22)) = true := decide_eq_true c23
     clear c23
     by_cases c24 : (ji22) ≤ (a2.size : Int)
     ·
      rw [if_pos c24] at H
      have c24b0 := eq_true c24
      have c24b1 : decide ((ji22) ≤ (a2.size : Int)) = true := decide_eq_true c24
      clear c24
      obtain ⟨sc25, hsc25⟩ : ∃ s_ : ByteArray, (a2.extract 0 ((ji22) : Int).toNat) = s_ := ⟨_, rfl⟩
      replace H : (if t178.size + sc25.size ≤ 9223372036854775807 then ((shdr_Read.f k t175 t176 (t178 ++ sc25)).bind fun bt182 => (if t179 = true then (if bt182.2.2.2.2.2.2.2.2.2.2 = true then (some (bt182.1 == a1_0 && (bt182.2.1 == a1_1 && (bt182.2.2.1 == a1_2 && (bt182.2.2.2.1 == a1_3 && (bt182.2.2.2.2.1 == a1_4 && (bt182.2.2.2.2.2.1 == a1_5 && (bt182.2.2.2.2.2.2.1 == a1_6 && (bt182.2.2.2.2.2.2.2.1 == a1_7 && (bt182.2.2.2.2.2.2.2.2.1 == a1_8 && (bt182.2.2.2.2.2.2.2.2.2.1 == a1_9))))))))))) else (some false)) else (some true))) else (none)) = some r := by first | (rw [hsc25] at H; exact H) | (simp only [hsc25] at H ⊢; exact H) | exact H
      (try (have hsc25n := hsc25; simp only [Int.toNat_natCast] at hsc25n))
      by_cases c26 : t178.size + sc25.size ≤ 9223372036854775807
      ·
       rw [if_pos c26] at H
       have c26b0 := eq_true c26
       have c26b1 : decide (t178.size + sc25.size ≤ 9223372036854775807) = true := decide_eq_true c26
       try have c26b2 : (9223372036854775807 < t178.size + sc25.size) = False := eq_false (Nat.not_lt.2 c26)
       replace H := Option.bind_eq_some_iff.mp H
       obtain ⟨⟨t182, t183, t184, t185, t186, t187, t188, t189, t190, t191, t192⟩, A270, H⟩ := H
       replace H : (if t179 = true then (if t192 = true then (some (t182 == a1_0 && (t183 == a1_1 && (t184 == a1_2 && (t185 == a1_3 && (t186 == a1_4 && (t187 == a1_5 && (t188 == a1_6 && (t189 == a1_7 && (t190 == a1_8 && (t191 == a1_9))))))))))) else (some false)) else (some true)) = some r := H
       have A27 := Aside0.mk A270
       clear A270
       by_cases c28 : t179 = true
       ·
        subst c28
        have H1 : (if t192 = true then (some (t182 == a1_0 && (t183 == a1_1 && (t184 == a1_2 && (t185 == a1_3 && (t186 == a1_4 && (t187 == a1_5 && (t188 == a1_6 && (t189 == a1_7 && (t190 == a1_8 && (t191 == a1_9))))))))))) else (some false)) = some r := by rw [if_pos rfl] at H; exact H
        clear H
        have H := H1
        clear H1
        by_cases c29 : t192 = true
        ·
         subst c29
         have H1 : (some (t182 == a1_0 && (t183 == a1_1 && (t184 == a1_2 && (t185 == a1_3 && (t186 == a1_4 && (t187 == a1_5 && (t188 == a1_6 && (t189 == a1_7 && (t190 == a1_8 && (t191 == a1_9))))))))))) = some r := by rw [if_pos rfl] at H; exact H
         clear H
         have H := H1
         clear H1
         obtain rfl := Option.some.inj H
         go_enter Tryd.func5, Tryd.ntmps5
         try go_wp2_with (first | ((with_reducible refine gate_dst (N := 4) rfl ?_); refine box_event ?hg (N := 4) ?hd (cs := #[.int .u64 a1_0, .int .u64 a1_1, .int .u64 a1_2, .int .u64 a1_3, .int .u64 a1_4, .int .u64 a1_5, .int .u64 a1_6, .int .u64 a1_7, .int .u64 a1_8, .int .u64 a1_9]) (t := 42) ?hr ?_; (case hd => rfl); (case hg => rfl); (case hr => first | (go_simp; done) | (go_simp; rfl)); intro gb173 hg w30 hbox hb; have n0_ := Aside0.mk (below_step (by repeat (first | (with_reducible first | exact HB.out | apply below_alloc | apply pw_below_drewN | apply below_drew1) | exact HB.out)) hb); have n1_ := Aside0.mk (hbox); have n2_ := Aside0.mk ((by rw [hg]; exact (below_size (by repeat (first | (with_reducible first | exact HB.out | apply below_alloc | apply pw_below_drewN | apply below_drew1) | exact HB.out))) : w.heap.size ≤ gb173)); have n3_ := Aside0.mk ((by rw [hg]; exact (below_size (by repeat (first | (with_reducible first | exact HB.out | apply below_alloc | apply pw_below_drewN | apply below_drew1) | exact HB.out))) : w.heap.size ≤ gb173)); clear HB; have HB := n0_; have BK173 := n1_; have GW173 := n2_; have GE173 := n3_; clear n0_ n1_ n2_ n3_; clear hb hbox hg) | ((with_reducible refine gate_callee (f := 15) rfl ?_); refine goesL_ (some 14) rfl rfl Tryd.func15 (by kernel_rfl) rfl #[] rfl (by (try simp only [List.map_toArray, List.map_cons, List.map_nil]); first | done | rfl | (simp only [List.length_drop, List.length_take]; rfl)) ?_; (with_reducible refine (graverlaw06_speaks.calls k  true _ ?side1 A4.out).mono ?_); (case side1 => exact Laid_shdr.below HLD_shdr.out (by repeat (first | (with_reducible first | exact HB.out | apply below_alloc | apply pw_below_drewN | apply below_drew1 | refine below_set ?_ GE173.out) | exact HB.out))); rintro e w31 ⟨rfl, hb⟩; refine ⟨_, rfl, ?_⟩; have n0_ := Aside0.mk (blk_below (g := gb173) (o := .cells #[.int .u64 a1_0, .int .u64 a1_1, .int .u64 a1_2, .int .u64 a1_3, .int .u64 a1_4, .int .u64 a1_5, .int .u64 a1_6, .int .u64 a1_7, .int .u64 a1_8, .int .u64 a1_9] 42 (0, 0)) (by (with_reducible repeat (first | refine blk_drewN ?_ _ | refine blk_drew ?_ | refine blk_alloc ?_ _)); exact BK173.out) hb); have n1_ := Aside0.mk (below_step (by repeat (first | (with_reducible first | exact HB.out | apply below_alloc | apply pw_below_drewN | apply below_drew1 | refine below_set ?_ GE173.out) | exact HB.out)) hb); clear BK173; clear HB; have BK173 := n0_; have HB := n1_; clear n0_ n1_; (try clear hb); (try clear hb2); (try clear hk); (try clear hi)) | ((with_reducible refine gate_callee (f := 16) rfl ?_); refine goesL_ (some 17) rfl rfl Tryd.func16 (by kernel_rfl) rfl #[.int .i64 a0] rfl (by (try simp only [List.map_toArray, List.map_cons, List.map_nil]); first | done | rfl | (simp only [List.length_drop, List.length_take]; rfl)) ?_; (with_reducible refine (graverlaw06_formOf.calls a0 t175 t176 _ A6.out).mono ?_); rintro e w32 ⟨rfl, hb⟩; refine ⟨_, rfl, ?_⟩; have n0_ := Aside0.mk (blk_below (g := gb173) (o := .cells #[.int .u64 a1_0, .int .u64 a1_1, .int .u64 a1_2, .int .u64 a1_3, .int .u64 a1_4, .int .u64 a1_5, .int .u64 a1_6, .int .u64 a1_7, .int .u64 a1_8, .int .u64 a1_9] 42 (0, 0)) (by (with_reducible repeat (first | refine blk_drewN ?_ _ | refine blk_drew ?_ | refine blk_alloc ?_ _)); exact BK173.out) hb); have n1_ := Aside0.mk (below_step (by repeat (first | (with_reducible first | exact HB.out | apply below_alloc | apply pw_below_drewN | apply below_drew1 | refine below_set ?_ GE173.out) | exact HB.out)) hb); clear BK173; clear HB; have BK173 := n0_; have HB := n1_; clear n0_ n1_; (try clear hb); (try clear hb2); (try clear hk); (try clear hi)) | ((with_reducible refine gate_dst (N := 7) rfl ?_); refine box_event ?hg (N := 7) ?hd (cs := #[.bool false, .bool false]) (t := 29) ?hr ?_; (case hd => rfl); (case hg => rfl); (case hr => first | (go_simp; done) | (go_simp; rfl)); intro gb177 hg w33 hbox hb; have n0_ := Aside0.mk (blk_below (g := gb173) (o := .cells #[.int .u64 a1_0, .int .u64 a1_1, .int .u64 a1_2, .int .u64 a1_3, .int .u64 a1_4, .int .u64 a1_5, .int .u64 a1_6, .int .u64 a1_7, .int .u64 a1_8, .int .u64 a1_9] 42 (0, 0)) (by (with_reducible repeat (first | refine blk_drewN ?_ _ | refine blk_drew ?_ | refine blk_alloc ?_ _)); exact BK173.out) hb); have n1_ := Aside0.mk (below_step (by repeat (first | (with_reducible first | exact HB.out | apply below_alloc | apply pw_below_drewN | apply below_drew1 | refine below_set ?_ GE173.out) | exact HB.out)) hb); have n2_ := Aside0.mk (hbox); have n3_ := Aside0.mk ((by rw [hg]; exact (below_size (by repeat (first | (with_reducible first | exact HB.out | apply below_alloc | apply pw_below_drewN | apply below_drew1 | refine below_set ?_ GE173.out) | exact HB.out))) : w.heap.size ≤ gb177)); have n4_ := Aside0.mk ((by rw [hg]; exact (below_size (by repeat (first | (with_reducible first | exact HB.out | apply below_alloc | apply pw_below_drewN | apply below_drew1 | refine below_set ?_ GE173.out) | exact HB.out))) : w.heap.size ≤ gb177)); have n5_ := Aside0.mk ((by rw [hg]; exact Nat.ne_of_lt (blk_lt (g := gb173) (o := .cells #[.int .u64 a1_0, .int .u64 a1_1, .int .u64 a1_2, .int .u64 a1_3, .int .u64 a1_4, .int .u64 a1_5, .int .u64 a1_6, .int .u64 a1_7, .int .u64 a1_8, .int .u64 a1_9] 42 (0, 0)) (by (with_reducible repeat (first | refine blk_drewN ?_ _ | refine blk_drew ?_ | refine blk_alloc ?_ _)); exact BK173.out)) : gb173 ≠ gb177)); have n6_ := Aside0.mk ((by rw [hg]; exact Nat.ne_of_gt (blk_lt (g := gb173) (o := .cells #[.int .u64 a1_0, .int .u64 a1_1, .int .u64 a1_2, .int .u64 a1_3, .int .u64 a1_4, .int .u64 a1_5, .int .u64 a1_6, .int .u64 a1_7, .int .u64 a1_8, .int .u64 a1_9] 42 (0, 0)) (by (with_reducible repeat (first | refine blk_drewN ?_ _ | refine blk_drew ?_ | refine blk_alloc ?_ _)); exact BK173.out)) : gb177 ≠ gb173)); clear BK173; clear HB; have BK173 := n0_; have HB := n1_; have BK177 := n2_; have GW177 := n3_; have GE177 := n4_; have NB173_177 := n5_; have NB177_173 := n6_; clear n0_ n1_ n2_ n3_ n4_ n5_ n6_; clear hb hbox hg; have hnb34 := NB177_173.out; have hnc34 := NB173_177.out; have hcz35_0 : w33.cell? ⟨gb177, 0, none⟩ = some (.bool false) := (blk_cell BK177.out 0).trans rfl; have hcz35_1 : w33.cell? ⟨gb177, 1, none⟩ = some (.bool false) := (blk_cell BK177.out 1).trans rfl; have hfz35_0 := blk_frozen BK177.out 0; have hfz35_1 := blk_frozen BK177.out 1; have hcz36_0 : w33.cell? ⟨gb173, 0, none⟩ = some (.int .u64 a1_0) := (blk_cell BK173.out 0).trans rfl; have hcz36_1 : w33.cell? ⟨gb173, 1, none⟩ = some (.int .u64 a1_1) := (blk_cell BK173.out 1).trans rfl; have hcz36_2 : w33.cell? ⟨gb173, 2, none⟩ = some (.int .u64 a1_2) := (blk_cell BK173.out 2).trans rfl; have hcz36_3 : w33.cell? ⟨gb173, 3, none⟩ = some (.int .u64 a1_3) := (blk_cell BK173.out 3).trans rfl; have hcz36_4 : w33.cell? ⟨gb173, 4, none⟩ = some (.int .u64 a1_4) := (blk_cell BK173.out 4).trans rfl; have hcz36_5 : w33.cell? ⟨gb173, 5, none⟩ = some (.int .u64 a1_5) := (blk_cell BK173.out 5).trans rfl; have hcz36_6 : w33.cell? ⟨gb173, 6, none⟩ = some (.int .u64 a1_6) := (blk_cell BK173.out 6).trans rfl; have hcz36_7 : w33.cell? ⟨gb173, 7, none⟩ = some (.int .u64 a1_7) := (blk_cell BK173.out 7).trans rfl; have hcz36_8 : w33.cell? ⟨gb173, 8, none⟩ = some (.int .u64 a1_8) := (blk_cell BK173.out 8).trans rfl; have hcz36_9 : w33.cell? ⟨gb173, 9, none⟩ = some (.int .u64 a1_9) := (blk_cell BK173.out 9).trans rfl; have hfz36_0 := blk_frozen BK173.out 0; have hfz36_1 := blk_frozen BK173.out 1; have hfz36_2 := blk_frozen BK173.out 2; have hfz36_3 := blk_frozen BK173.out 3; have hfz36_4 := blk_frozen BK173.out 4; have hfz36_5 := blk_frozen BK173.out 5; have hfz36_6 := blk_frozen BK173.out 6; have hfz36_7 := blk_frozen BK173.out 7; have hfz36_8 := blk_frozen BK173.out 8; have hfz36_9 := blk_frozen BK173.out 9) | ((with_reducible refine gate_callee (f := 17) rfl ?_); refine goesL_ (some 21) rfl rfl Tryd.func17 (by kernel_rfl) rfl #[.agg #[.bool t175, .bool t176], .agg #[.int .u64 a1_0, .int .u64 a1_1, .int .u64 a1_2, .int .u64 a1_3, .int .u64 a1_4, .int .u64 a1_5, .int .u64 a1_6, .int .u64 a1_7, .int .u64 a1_8, .int .u64 a1_9]] rfl (by (try simp only [List.map_toArray, List.map_cons, List.map_nil]); first | done | rfl | (simp only [List.length_drop, List.length_take]; rfl)) ?_; (with_reducible refine (shdr_Put.calls k t175 t176 a1_0 a1_1 a1_2 a1_3 a1_4 a1_5 a1_6 a1_7 a1_8 a1_9 t178 true _ ?side1 A7.out).mono ?_); (case side1 => exact Laid_shdr.below HLD_shdr.out (by repeat (first | (with_reducible first | exact HB.out | apply below_alloc | apply pw_below_drewN | apply below_drew1 | refine below_set ?_ GE173.out | refine below_set ?_ GE177.out) | exact HB.out))); rintro e w37 ⟨rfl, hb⟩; refine ⟨_, rfl, ?_⟩; have n0_ := Aside0.mk (blk_below (g := gb173) (o := .cells #[.int .u64 a1_0, .int .u64 a1_1, .int .u64 a1_2, .int .u64 a1_3, .int .u64 a1_4, .int .u64 a1_5, .int .u64 a1_6, .int .u64 a1_7, .int .u64 a1_8, .int .u64 a1_9] 42 (0, 0)) (by (with_reducible repeat (first | refine blk_drewN ?_ _ | refine blk_drew ?_ | refine blk_alloc ?_ _)); refine blk_far ?_ NB173_177.out _; (with_reducible repeat (first | refine blk_drewN ?_ _ | refine blk_drew ?_ | refine blk_alloc ?_ _)); refine blk_far ?_ NB173_177.out _; (with_reducible repeat (first | refine blk_drewN ?_ _ | refine blk_drew ?_ | refine blk_alloc ?_ _)); exact BK173.out) hb); have n1_ := Aside0.mk (blk_below (g := gb177) (o := .cells #[.bool t175, .bool t176] 29 (0, 0)) (by (with_reducible repeat (first | refine blk_drewN ?_ _ | refine blk_drew ?_ | refine blk_alloc ?_ _)); refine blk_put (cs := #[.bool t175, .bool false]) ?_ 1 _ rfl; (with_reducible repeat (first | refine blk_drewN ?_ _ | refine blk_drew ?_ | refine blk_alloc ?_ _)); refine blk_put (cs := #[.bool false, .bool false]) ?_ 0 _ rfl; (with_reducible repeat (first | refine blk_drewN ?_ _ | refine blk_drew ?_ | refine blk_alloc ?_ _)); exact BK177.out) hb); have n2_ := Aside0.mk (below_step (by repeat (first | (with_reducible first | exact HB.out | apply below_alloc | apply pw_below_drewN | apply below_drew1 | refine below_set ?_ GE173.out | refine below_set ?_ GE177.out) | exact HB.out)) hb); clear BK173; clear BK177; clear HB; have BK173 := n0_; have BK177 := n1_; have HB := n2_; clear n0_ n1_ n2_; (try clear hb); (try clear hb2); (try clear hk); (try clear hi); have hcz38_0 : w37.cell? ⟨gb177, 0, none⟩ = some (.bool t175) := (blk_cell BK177.out 0).trans rfl; have hcz38_1 : w37.cell? ⟨gb177, 1, none⟩ = some (.bool t176) := (blk_cell BK177.out 1).trans rfl; have hfz38_0 := blk_frozen BK177.out 0; have hfz38_1 := blk_frozen BK177.out 1; have hcz39_0 : w37.cell? ⟨gb173, 0, none⟩ = some (.int .u64 a1_0) := (blk_cell BK173.out 0).trans rfl; have hcz39_1 : w37.cell? ⟨gb173, 1, none⟩ = some (.int .u64 a1_1) := (blk_cell BK173.out 1).trans rfl; have hcz39_2 : w37.cell? ⟨gb173, 2, none⟩ = some (.int .u64 a1_2) := (blk_cell BK173.out 2).trans rfl; have hcz39_3 : w37.cell? ⟨gb173, 3, none⟩ = some (.int .u64 a1_3) := (blk_cell BK173.out 3).trans rfl; have hcz39_4 : w37.cell? ⟨gb173, 4, none⟩ = some (.int .u64 a1_4) := (blk_cell BK173.out 4).trans rfl; have hcz39_5 : w37.cell? ⟨gb173, 5, none⟩ = some (.int .u64 a1_5) := (blk_cell BK173.out 5).trans rfl; have hcz39_6 : w37.cell? ⟨gb173, 6, none⟩ = some (.int .u64 a1_6) := (blk_cell BK173.out 6).trans rfl; have hcz39_7 : w37.cell? ⟨gb173, 7, none⟩ = some (.int .u64 a1_7) := (blk_cell BK173.out 7).trans rfl; have hcz39_8 : w37.cell? ⟨gb173, 8, none⟩ = some (.int .u64 a1_8) := (blk_cell BK173.out 8).trans rfl; have hcz39_9 : w37.cell? ⟨gb173, 9, none⟩ = some (.int .u64 a1_9) := (blk_cell BK173.out 9).trans rfl; have hfz39_0 := blk_frozen BK173.out 0; have hfz39_1 := blk_frozen BK173.out 1; have hfz39_2 := blk_frozen BK173.out 2; have hfz39_3 := blk_frozen BK173.out 3; have hfz39_4 := blk_frozen BK173.out 4; have hfz39_5 := blk_frozen BK173.out 5; have hfz39_6 := blk_frozen BK173.out 6; have hfz39_7 := blk_frozen BK173.out 7; have hfz39_8 := blk_frozen BK173.out 8; have hfz39_9 := blk_frozen BK173.out 9) | ((with_reducible refine gate_callee (f := 18) rfl ?_); refine goesL_ (some 31) rfl rfl Tryd.func18 (by kernel_rfl) rfl #[.bool t176, .bool t175, .agg #[.int .u64 a1_0, .int .u64 a1_1, .int .u64 a1_2, .int .u64 a1_3, .int .u64 a1_4, .int .u64 a1_5, .int .u64 a1_6, .int .u64 a1_7, .int .u64 a1_8, .int .u64 a1_9]] rfl (by (try simp only [List.map_toArray, List.map_cons, List.map_nil]); first | done | rfl | (simp only [List.length_drop, List.length_take]; rfl)) ?_; (with_reducible refine (graverref06_Put.calls k t176 t175 a1_0 a1_1 a1_2 a1_3 a1_4 a1_5 a1_6 a1_7 a1_8 a1_9 t180 t181 _ A8.out).mono ?_); rintro e w40 ⟨rfl, hb⟩; refine ⟨_, rfl, ?_⟩; have n0_ := Aside0.mk (blk_below (g := gb173) (o := .cells #[.int .u64 a1_0, .int .u64 a1_1, .int .u64 a1_2, .int .u64 a1_3, .int .u64 a1_4, .int .u64 a1_5, .int .u64 a1_6, .int .u64 a1_7, .int .u64 a1_8, .int .u64 a1_9] 42 (0, 0)) (by (with_reducible repeat (first | refine blk_drewN ?_ _ | refine blk_drew ?_ | refine blk_alloc ?_ _)); exact BK173.out) hb); have n1_ := Aside0.mk (blk_below (g := gb177) (o := .cells #[.bool t175, .bool t176] 29 (0, 0)) (by (with_reducible repeat (first | refine blk_drewN ?_ _ | refine blk_drew ?_ | refine blk_alloc ?_ _)); exact BK177.out) hb); have n2_ := Aside0.mk (below_step (by repeat (first | (with_reducible first | exact HB.out | apply below_alloc | apply pw_below_drewN | apply below_drew1 | refine below_set ?_ GE173.out | refine below_set ?_ GE177.out) | exact HB.out)) hb); clear BK173; clear BK177; clear HB; have BK173 := n0_; have BK177 := n1_; have HB := n2_; clear n0_ n1_ n2_; (try clear hb); (try clear hb2); (try clear hk); (try clear hi)))
         have n0_ := Aside0.mk (blk_drew BK173.out)
         have n1_ := Aside0.mk (blk_drew BK177.out)
         have n2_ := Aside0.mk (below_drew1 HB.out)
         clear BK173
         clear BK177
         clear HB
         have BK173 := n0_
         have BK177 := n1_
         have HB := n2_
         clear n0_ n1_ n2_
         refine start_ (n := 15) (S := fun w' => w'.cell? ⟨gb177, 0, none⟩ = some (.bool t175) ∧ w'.cell? ⟨gb177, 1, none⟩ = some (.bool t176)) (ds := []) #[false, false, false, false, false, false, false, false, false, false, false, false, false, false, false] (by kernel_rfl) rfl rfl ⟨(blk_cell BK177.out 0).trans rfl, (blk_cell BK177.out 1).trans rfl⟩ (fun hHeld => ?_); refine with_tabW graverlaw06_ShdrPuts.tab8 graverlaw06_ShdrPuts.bits8 (fun HT_ HW_ => ?_)
         generalize w40.drew = w41 at BK173 BK177 HB hHeld ⊢
         refine pure_ (i := 1) (N := some 44) (v := ?_) (a' := ?_) (bm 15 2) rfl rfl (any_of HT_.out (by kernel_rfl)) (fun _ _ _ h => h) (Or.inl ⟨by rfl, ?_⟩) ?_ ?_
         rotate_left
         ·
          intro w'
          go_simp
          with_reducible rfl
         rotate_left
         ·
          simp only [Act.put, List.setIfInBounds_toArray, List.set_cons_zero, List.set_cons_succ, i64_w, i32_w]
          rfl
         refine pure_ (i := 2) (N := some 45) (v := ?_) (a' := ?_) (bm 15 6) rfl rfl (any_of HT_.out (by kernel_rfl)) (fun _ _ _ h => h) (Or.inl ⟨by rfl, ?_⟩) ?_ ?_
         rotate_left
         ·
          intro w'
          go_simp
          with_reducible rfl
         rotate_left
         ·
          simp only [Act.put, List.setIfInBounds_toArray, List.set_cons_zero, List.set_cons_succ, i64_w, i32_w]
          rfl
         refine pure_ (i := 3) (N := some 46) (v := ?_) (a' := ?_) (bm 15 14) rfl rfl (any_of HT_.out (by kernel_rfl)) (fun _ _ _ h => h) (Or.inl ⟨by rfl, ?_⟩) ?_ ?_
         rotate_left
         ·
          intro w'
          go_simp
          with_reducible rfl
         rotate_left
         ·
          simp only [Act.put, List.setIfInBounds_toArray, List.set_cons_zero, List.set_cons_succ, i64_w, i32_w]
          rfl
         refine pure_ (i := 4) (N := some 47) (v := ?_) (a' := ?_) (bm 15 30) rfl rfl (any_of HT_.out (by kernel_rfl)) (fun _ _ _ h => h) (Or.inl ⟨by rfl, ?_⟩) ?_ ?_
         rotate_left
         ·
          intro w'
          go_simp
          with_reducible rfl
         rotate_left
         ·
          simp only [Act.put, List.setIfInBounds_toArray, List.set_cons_zero, List.set_cons_succ, i64_w, i32_w]
          rfl
         refine pure_ (i := 5) (N := some 48) (v := ?_) (a' := ?_) (bm 15 62) rfl rfl (any_of HT_.out (by kernel_rfl)) (fun _ _ _ h => h) (Or.inl ⟨by rfl, ?_⟩) ?_ ?_
         rotate_left
         ·
          intro w'
          go_simp
          with_reducible rfl
         rotate_left
         ·
          simp only [Act.put, List.setIfInBounds_toArray, List.set_cons_zero, List.set_cons_succ, i64_w, i32_w]
          rfl
         refine pure_ (i := 6) (N := some 49) (v := ?_) (a' := ?_) (bm 15 126) rfl rfl (any_of HT_.out (by kernel_rfl)) (fun _ _ _ h => h) (Or.inl ⟨by rfl, ?_⟩) ?_ ?_
         rotate_left
         ·
          intro w'
          go_simp
          with_reducible rfl
         rotate_left
         ·
          simp only [Act.put, List.setIfInBounds_toArray, List.set_cons_zero, List.set_cons_succ, i64_w, i32_w]
          rfl
         refine pure_ (i := 7) (N := some 50) (v := ?_) (a' := ?_) (bm 15 254) rfl rfl (any_of HT_.out (by kernel_rfl)) (fun _ _ _ h => h) (Or.inl ⟨by rfl, ?_⟩) ?_ ?_
         rotate_left
         ·
          intro w'
          go_simp
          with_reducible rfl
         rotate_left
         ·
          simp only [Act.put, List.setIfInBounds_toArray, List.set_cons_zero, List.set_cons_succ, i64_w, i32_w]
          rfl
         refine take_ (i := 0) (N := some 43) (v := ?_) (a' := ?_) (bm 15 255) rfl rfl (take_ofW HT_.out HW_.out (by kernel_rfl)) (fun _ _ _ h => h) (Or.inl ⟨by rfl, ?_⟩) hHeld ?_ ?_
         rotate_left
         ·
          rintro w' ⟨s0, s1⟩
          go_simp
          with_reducible rfl
         rotate_left
         ·
          simp only [Act.put, List.setIfInBounds_toArray, List.set_cons_zero, List.set_cons_succ, i64_w, i32_w]
          rfl
         refine join_ (σ := Nat) 2 (bm 15 8191) (fun s_ => [(51, .tuple #[.agg #[.int .u64 t182, .int .u64 t183, .int .u64 t184, .int .u64 t185, .int .u64 t186, .int .u64 t187, .int .u64 t188, .int .u64 t189, .int .u64 t190, .int .u64 t191], .bool true]), (12, .pointer (some ⟨s_, 0, none⟩)), (42, .tuple #[.agg #[.int .u64 t182, .int .u64 t183, .int .u64 t184, .int .u64 t185, .int .u64 t186, .int .u64 t187, .int .u64 t188, .int .u64 t189, .int .u64 t190, .int .u64 t191], .bool true]), (52, .agg #[.int .u64 t182, .int .u64 t183, .int .u64 t184, .int .u64 t185, .int .u64 t186, .int .u64 t187, .int .u64 t188, .int .u64 t189, .int .u64 t190, .int .u64 t191]), (53, .bool true)]) (fun s_ w' => (w'.cell? ⟨gb177, 0, none⟩ = some (.bool t175) ∧ w'.cell? ⟨gb177, 1, none⟩ = some (.bool t176)) ∧ (w'.heap[gb173]? = some (.cells #[.int .u64 a1_0, .int .u64 a1_1, .int .u64 a1_2, .int .u64 a1_3, .int .u64 a1_4, .int .u64 a1_5, .int .u64 a1_6, .int .u64 a1_7, .int .u64 a1_8, .int .u64 a1_9] 42 (0, 0))) ∧ (w'.heap[gb177]? = some (.cells #[.bool t175, .bool t176] 29 (0, 0))) ∧ (w'.heap[s_]? = some (.cells #[.int .u64 0, .int .u64 0, .int .u64 0, .int .u64 0, .int .u64 0, .int .u64 0, .int .u64 0, .int .u64 0, .int .u64 0, .int .u64 0] 44 (0, 0))) ∧ (w.heap.size ≤ s_) ∧ (w.heap.size ≤ s_) ∧ (gb173 ≠ s_) ∧ (s_ ≠ gb173) ∧ (gb177 ≠ s_) ∧ (s_ ≠ gb177) ∧ (Below w.heap.size w w')) ?_ ?_
         rotate_left
         ·
          intro hCont
          refine two_ (i := 8) (j := 12) (Ni := some 51) (Nj := some 12) (bm 15 511) (bm 15 4351) rfl rfl rfl rfl (two_of HT_.out (by kernel_rfl)) (by decide) (by decide) (fun K hK => ?_) (fun K hK => ?_)
          ·
           skip
           refine goes_ Tryd.func19 (by kernel_rfl) rfl #[.agg #[.bool t175, .bool t176], .string (t178 ++ sc25)] (by rfl) rfl rfl (by (try simp only [List.map_toArray, List.map_cons, List.map_nil]); first | done | rfl | (simp only [List.length_drop, List.length_take]; rfl)) ?_
           with_reducible refine (shdr_Read.calls k t175 t176 (t178 ++ sc25) t182 t183 t184 t185 t186 t187 t188 t189 t190 t191 true _ ?side1 A27.out).mono ?_
           (case side1 => exact Laid_shdr.below HLD_shdr.out (by repeat (first | (with_reducible first | exact HB.out | apply below_alloc | apply pw_below_drewN | apply below_drew1 | refine below_set ?_ GE173.out | refine below_set ?_ GE177.out) | exact HB.out)))
           rintro e w42 ⟨rfl, hb⟩
           refine ⟨_, rfl, ?_⟩
           have n0_ := Aside0.mk (blk_below (g := gb173) (o := .cells #[.int .u64 a1_0, .int .u64 a1_1, .int .u64 a1_2, .int .u64 a1_3, .int .u64 a1_4, .int .u64 a1_5, .int .u64 a1_6, .int .u64 a1_7, .int .u64 a1_8, .int .u64 a1_9] 42 (0, 0)) (by (with_reducible repeat (first | refine blk_drewN ?_ _ | refine blk_drew ?_ | refine blk_alloc ?_ _)); exact BK173.out) hb)
           have n1_ := Aside0.mk (blk_below (g := gb177) (o := .cells #[.bool t175, .bool t176] 29 (0, 0)) (by (with_reducible repeat (first | refine blk_drewN ?_ _ | refine blk_drew ?_ | refine blk_alloc ?_ _)); exact BK177.out) hb)
           have n2_ := Aside0.mk (below_step (by repeat (first | (with_reducible first | exact HB.out | apply below_alloc | apply pw_below_drewN | apply below_drew1 | refine below_set ?_ GE173.out | refine below_set ?_ GE177.out) | exact HB.out)) hb)
           clear BK173
           clear BK177
           clear HB
           have BK173 := n0_
           have BK177 := n1_
           have HB := n2_
           clear n0_ n1_ n2_
           (try clear hb)
           (try clear hb2)
           (try clear hk)
           (try clear hi)
           refine hK.out _ _ ⟨(blk_cell BK177.out 0).trans rfl, (blk_cell BK177.out 1).trans rfl⟩ (fun hHeld => ?_)
           clear hK K
           refine norm_ (a' := ?_) ?_ ?_
           rotate_left
           ·
            show Act.put _ (some 51) _ = _
            simp only [Act.put, List.setIfInBounds_toArray, List.set_cons_zero, List.set_cons_succ, i64_w, i32_w]
            rfl
           refine pure_ (i := 9) (N := some 42) (v := ?_) (a' := ?_) (bm 15 1023) rfl rfl (any_of HT_.out (by kernel_rfl)) (fun _ _ _ h => h) (Or.inl ⟨by rfl, ?_⟩) ?_ ?_
           rotate_left
           ·
            intro w'
            go_simp
            with_reducible rfl
           rotate_left
           ·
            simp only [Act.put, List.setIfInBounds_toArray, List.set_cons_zero, List.set_cons_succ, i64_w, i32_w]
            rfl
           refine pure_ (i := 10) (N := some 52) (v := ?_) (a' := ?_) (bm 15 2047) rfl rfl (any_of HT_.out (by kernel_rfl)) (fun _ _ _ h => h) (Or.inl ⟨by rfl, ?_⟩) ?_ ?_
           rotate_left
           ·
            intro w'
            go_simp
            with_reducible rfl
           rotate_left
           ·
            simp only [Act.put, List.setIfInBounds_toArray, List.set_cons_zero, List.set_cons_succ, i64_w, i32_w]
            rfl
           refine pure_ (i := 11) (N := some 53) (v := ?_) (a' := ?_) (bm 15 4095) rfl rfl (any_of HT_.out (by kernel_rfl)) (fun _ _ _ h => h) (Or.inl ⟨by rfl, ?_⟩) ?_ ?_
           rotate_left
           ·
            intro w'
            go_simp
            with_reducible rfl
           rotate_left
           ·
            simp only [Act.put, List.setIfInBounds_toArray, List.set_cons_zero, List.set_cons_succ, i64_w, i32_w]
            rfl
           refine one_ (i := 12) (N := some 12) (bm 15 8191) rfl rfl (one_of HT_.out (by kernel_rfl)) (by decide) (fun K hK => ?_)
           refine box_step ?hg (N := 12) ?hd (cs := #[.int .u64 0, .int .u64 0, .int .u64 0, .int .u64 0, .int .u64 0, .int .u64 0, .int .u64 0, .int .u64 0, .int .u64 0, .int .u64 0]) (t := 44) ?hr ?_; (case hd => rfl); (case hg => rfl); (case hr => first | (go_simp; done) | (go_simp; rfl))
           intro gb193 hg w43 hbox hb
           have n0_ := Aside0.mk (blk_below (g := gb173) (o := .cells #[.int .u64 a1_0, .int .u64 a1_1, .int .u64 a1_2, .int .u64 a1_3, .int .u64 a1_4, .int .u64 a1_5, .int .u64 a1_6, .int .u64 a1_7, .int .u64 a1_8, .int .u64 a1_9] 42 (0, 0)) (by (with_reducible repeat (first | refine blk_drewN ?_ _ | refine blk_drew ?_ | refine blk_alloc ?_ _)); exact BK173.out) hb)
           have n1_ := Aside0.mk (blk_below (g := gb177) (o := .cells #[.bool t175, .bool t176] 29 (0, 0)) (by (with_reducible repeat (first | refine blk_drewN ?_ _ | refine blk_drew ?_ | refine blk_alloc ?_ _)); exact BK177.out) hb)
           have n2_ := Aside0.mk (below_step (by repeat (first | (with_reducible first | exact HB.out | apply below_alloc | apply pw_below_drewN | apply below_drew1 | refine below_set ?_ GE173.out | refine below_set ?_ GE177.out) | exact HB.out)) hb)
           have n3_ := Aside0.mk (hbox)
           have n4_ := Aside0.mk ((by rw [hg]; exact (below_size (by repeat (first | (with_reducible first | exact HB.out | apply below_alloc | apply pw_below_drewN | apply below_drew1 | refine below_set ?_ GE173.out | refine below_set ?_ GE177.out) | exact HB.out))) : w.heap.size ≤ gb193))
           have n5_ := Aside0.mk ((by rw [hg]; exact (below_size (by repeat (first | (with_reducible first | exact HB.out | apply below_alloc | apply pw_below_drewN | apply below_drew1 | refine below_set ?_ GE173.out | refine below_set ?_ GE177.out) | exact HB.out))) : w.heap.size ≤ gb193))
           have n6_ := Aside0.mk ((by rw [hg]; exact Nat.ne_of_lt (blk_lt (g := gb173) (o := .cells #[.int .u64 a1_0, .int .u64 a1_1, .int .u64 a1_2, .int .u64 a1_3, .int .u64 a1_4, .int .u64 a1_5, .int .u64 a1_6, .int .u64 a1_7, .int .u64 a1_8, .int .u64 a1_9] 42 (0, 0)) (by (with_reducible repeat (first | refine blk_drewN ?_ _ | refine blk_drew ?_ | refine blk_alloc ?_ _)); exact BK173.out)) : gb173 ≠ gb193))
           have n7_ := Aside0.mk ((by rw [hg]; exact Nat.ne_of_gt (blk_lt (g := gb173) (o := .cells #[.int .u64 a1_0, .int .u64 a1_1, .int .u64 a1_2, .int .u64 a1_3, .int .u64 a1_4, .int .u64 a1_5, .int .u64 a1_6, .int .u64 a1_7, .int .u64 a1_8, .int .u64 a1_9] 42 (0, 0)) (by (with_reducible repeat (first | refine blk_drewN ?_ _ | refine blk_drew ?_ | refine blk_alloc ?_ _)); exact BK173.out)) : gb193 ≠ gb173))
           have n8_ := Aside0.mk ((by rw [hg]; exact Nat.ne_of_lt (blk_lt (g := gb177) (o := .cells #[.bool t175, .bool t176] 29 (0, 0)) (by (with_reducible repeat (first | refine blk_drewN ?_ _ | refine blk_drew ?_ | refine blk_alloc ?_ _)); exact BK177.out)) : gb177 ≠ gb193))
           have n9_ := Aside0.mk ((by rw [hg]; exact Nat.ne_of_gt (blk_lt (g := gb177) (o := .cells #[.bool t175, .bool t176] 29 (0, 0)) (by (with_reducible repeat (first | refine blk_drewN ?_ _ | refine blk_drew ?_ | refine blk_alloc ?_ _)); exact BK177.out)) : gb193 ≠ gb177))
           clear BK173
           clear BK177
           clear HB
           have BK173 := n0_
           have BK177 := n1_
           have HB := n2_
           have BK193 := n3_
           have GW193 := n4_
           have GE193 := n5_
           have NB173_193 := n6_
           have NB193_173 := n7_
           have NB177_193 := n8_
           have NB193_177 := n9_
           clear n0_ n1_ n2_ n3_ n4_ n5_ n6_ n7_ n8_ n9_
           clear hb hbox hg
           refine hK.out _ _ ⟨(blk_cell BK177.out 0).trans rfl, (blk_cell BK177.out 1).trans rfl⟩ (fun hHeld => ?_)
           clear hK K
           refine norm_ (a' := ?_) ?_ ?_
           rotate_left
           ·
            show Act.put _ (some 12) _ = _
            simp only [Act.put, List.setIfInBounds_toArray, List.set_cons_zero, List.set_cons_succ, i64_w, i32_w]
            rfl
           exact norm_ (by simp only [putAll, Act.put, List.setIfInBounds_toArray, List.set_cons_zero, List.set_cons_succ]) (hCont (gb193) _ ⟨hHeld, (by (with_reducible repeat (first | refine blk_drewN ?_ _ | refine blk_drew ?_ | refine blk_alloc ?_ _)); exact BK173.out), (by (with_reducible repeat (first | refine blk_drewN ?_ _ | refine blk_drew ?_ | refine blk_alloc ?_ _)); exact BK177.out), (by (with_reducible repeat (first | refine blk_drewN ?_ _ | refine blk_drew ?_ | refine blk_alloc ?_ _)); exact BK193.out), GW193.out, GE193.out, NB173_193.out, NB193_173.out, NB177_193.out, NB193_177.out, (by repeat (first | (with_reducible first | exact HB.out | apply below_alloc | apply pw_below_drewN | apply below_drew1 | refine below_set ?_ GE173.out | refine below_set ?_ GE177.out | refine below_set ?_ GE193.out) | exact HB.out))⟩)
          ·
           skip
           refine box_step ?hg (N := 12) ?hd (cs := #[.int .u64 0, .int .u64 0, .int .u64 0, .int .u64 0, .int .u64 0, .int .u64 0, .int .u64 0, .int .u64 0, .int .u64 0, .int .u64 0]) (t := 44) ?hr ?_; (case hd => rfl); (case hg => rfl); (case hr => first | (go_simp; done) | (go_simp; rfl))
           intro gb193 hg w42 hbox hb
           have n0_ := Aside0.mk (blk_below (g := gb173) (o := .cells #[.int .u64 a1_0, .int .u64 a1_1, .int .u64 a1_2, .int .u64 a1_3, .int .u64 a1_4, .int .u64 a1_5, .int .u64 a1_6, .int .u64 a1_7, .int .u64 a1_8, .int .u64 a1_9] 42 (0, 0)) (by (with_reducible repeat (first | refine blk_drewN ?_ _ | refine blk_drew ?_ | refine blk_alloc ?_ _)); exact BK173.out) hb)
           have n1_ := Aside0.mk (blk_below (g := gb177) (o := .cells #[.bool t175, .bool t176] 29 (0, 0)) (by (with_reducible repeat (first | refine blk_drewN ?_ _ | refine blk_drew ?_ | refine blk_alloc ?_ _)); exact BK177.out) hb)
           have n2_ := Aside0.mk (below_step (by repeat (first | (with_reducible first | exact HB.out | apply below_alloc | apply pw_below_drewN | apply below_drew1 | refine below_set ?_ GE173.out | refine below_set ?_ GE177.out) | exact HB.out)) hb)
           have n3_ := Aside0.mk (hbox)
           have n4_ := Aside0.mk ((by rw [hg]; exact (below_size (by repeat (first | (with_reducible first | exact HB.out | apply below_alloc | apply pw_below_drewN | apply below_drew1 | refine below_set ?_ GE173.out | refine below_set ?_ GE177.out) | exact HB.out))) : w.heap.size ≤ gb193))
           have n5_ := Aside0.mk ((by rw [hg]; exact (below_size (by repeat (first | (with_reducible first | exact HB.out | apply below_alloc | apply pw_below_drewN | apply below_drew1 | refine below_set ?_ GE173.out | refine below_set ?_ GE177.out) | exact HB.out))) : w.heap.size ≤ gb193))
           have n6_ := Aside0.mk ((by rw [hg]; exact Nat.ne_of_lt (blk_lt (g := gb173) (o := .cells #[.int .u64 a1_0, .int .u64 a1_1, .int .u64 a1_2, .int .u64 a1_3, .int .u64 a1_4, .int .u64 a1_5, .int .u64 a1_6, .int .u64 a1_7, .int .u64 a1_8, .int .u64 a1_9] 42 (0, 0)) (by (with_reducible repeat (first | refine blk_drewN ?_ _ | refine blk_drew ?_ | refine blk_alloc ?_ _)); exact BK173.out)) : gb173 ≠ gb193))
           have n7_ := Aside0.mk ((by rw [hg]; exact Nat.ne_of_gt (blk_lt (g := gb173) (o := .cells #[.int .u64 a1_0, .int .u64 a1_1, .int .u64 a1_2, .int .u64 a1_3, .int .u64 a1_4, .int .u64 a1_5, .int .u64 a1_6, .int .u64 a1_7, .int .u64 a1_8, .int .u64 a1_9] 42 (0, 0)) (by (with_reducible repeat (first | refine blk_drewN ?_ _ | refine blk_drew ?_ | refine blk_alloc ?_ _)); exact BK173.out)) : gb193 ≠ gb173))
           have n8_ := Aside0.mk ((by rw [hg]; exact Nat.ne_of_lt (blk_lt (g := gb177) (o := .cells #[.bool t175, .bool t176] 29 (0, 0)) (by (with_reducible repeat (first | refine blk_drewN ?_ _ | refine blk_drew ?_ | refine blk_alloc ?_ _)); exact BK177.out)) : gb177 ≠ gb193))
           have n9_ := Aside0.mk ((by rw [hg]; exact Nat.ne_of_gt (blk_lt (g := gb177) (o := .cells #[.bool t175, .bool t176] 29 (0, 0)) (by (with_reducible repeat (first | refine blk_drewN ?_ _ | refine blk_drew ?_ | refine blk_alloc ?_ _)); exact BK177.out)) : gb193 ≠ gb177))
           clear BK173
           clear BK177
           clear HB
           have BK173 := n0_
           have BK177 := n1_
           have HB := n2_
           have BK193 := n3_
           have GW193 := n4_
           have GE193 := n5_
           have NB173_193 := n6_
           have NB193_173 := n7_
           have NB177_193 := n8_
           have NB193_177 := n9_
           clear n0_ n1_ n2_ n3_ n4_ n5_ n6_ n7_ n8_ n9_
           clear hb hbox hg
           refine hK.out _ _ ⟨(blk_cell BK177.out 0).trans rfl, (blk_cell BK177.out 1).trans rfl⟩ (fun hHeld => ?_)
           clear hK K
           refine norm_ (a' := ?_) ?_ ?_
           rotate_left
           ·
            show Act.put _ (some 12) _ = _
            simp only [Act.put, List.setIfInBounds_toArray, List.set_cons_zero, List.set_cons_succ, i64_w, i32_w]
            rfl
           refine one_ (i := 8) (N := some 51) (bm 15 4607) rfl rfl (one_of HT_.out (by kernel_rfl)) (by decide) (fun K hK => ?_)
           refine goes_ Tryd.func19 (by kernel_rfl) rfl #[.agg #[.bool t175, .bool t176], .string (t178 ++ sc25)] (by rfl) rfl rfl (by (try simp only [List.map_toArray, List.map_cons, List.map_nil]); first | done | rfl | (simp only [List.length_drop, List.length_take]; rfl)) ?_
           with_reducible refine (shdr_Read.calls k t175 t176 (t178 ++ sc25) t182 t183 t184 t185 t186 t187 t188 t189 t190 t191 true _ ?side1 A27.out).mono ?_
           (case side1 => exact Laid_shdr.below HLD_shdr.out (by repeat (first | (with_reducible first | exact HB.out | apply below_alloc | apply pw_below_drewN | apply below_drew1 | refine below_set ?_ GE173.out | refine below_set ?_ GE177.out | refine below_set ?_ GE193.out) | exact HB.out)))
           rintro e w43 ⟨rfl, hb⟩
           refine ⟨_, rfl, ?_⟩
           have n0_ := Aside0.mk (blk_below (g := gb173) (o := .cells #[.int .u64 a1_0, .int .u64 a1_1, .int .u64 a1_2, .int .u64 a1_3, .int .u64 a1_4, .int .u64 a1_5, .int .u64 a1_6, .int .u64 a1_7, .int .u64 a1_8, .int .u64 a1_9] 42 (0, 0)) (by (with_reducible repeat (first | refine blk_drewN ?_ _ | refine blk_drew ?_ | refine blk_alloc ?_ _)); exact BK173.out) hb)
           have n1_ := Aside0.mk (blk_below (g := gb177) (o := .cells #[.bool t175, .bool t176] 29 (0, 0)) (by (with_reducible repeat (first | refine blk_drewN ?_ _ | refine blk_drew ?_ | refine blk_alloc ?_ _)); exact BK177.out) hb)
           have n2_ := Aside0.mk (blk_below (g := gb193) (o := .cells #[.int .u64 0, .int .u64 0, .int .u64 0, .int .u64 0, .int .u64 0, .int .u64 0, .int .u64 0, .int .u64 0, .int .u64 0, .int .u64 0] 44 (0, 0)) (by (with_reducible repeat (first | refine blk_drewN ?_ _ | refine blk_drew ?_ | refine blk_alloc ?_ _)); exact BK193.out) hb)
           have n3_ := Aside0.mk (below_step (by repeat (first | (with_reducible first | exact HB.out | apply below_alloc | apply pw_below_drewN | apply below_drew1 | refine below_set ?_ GE173.out | refine below_set ?_ GE177.out | refine below_set ?_ GE193.out) | exact HB.out)) hb)
           clear BK173
           clear BK177
           clear BK193
           clear HB
           have BK173 := n0_
           have BK177 := n1_
           have BK193 := n2_
           have HB := n3_
           clear n0_ n1_ n2_ n3_
           (try clear hb)
           (try clear hb2)
           (try clear hk)
           (try clear hi)
           refine hK.out _ _ ⟨(blk_cell BK177.out 0).trans rfl, (blk_cell BK177.out 1).trans rfl⟩ (fun hHeld => ?_)
           clear hK K
           refine norm_ (a' := ?_) ?_ ?_
           rotate_left
           ·
            show Act.put _ (some 51) _ = _
            simp only [Act.put, List.setIfInBounds_toArray, List.set_cons_zero, List.set_cons_succ, i64_w, i32_w]
            rfl
           refine pure_ (i := 9) (N := some 42) (v := ?_) (a' := ?_) (bm 15 5119) rfl rfl (any_of HT_.out (by kernel_rfl)) (fun _ _ _ h => h) (Or.inl ⟨by rfl, ?_⟩) ?_ ?_
           rotate_left
           ·
            intro w'
            go_simp
            with_reducible rfl
           rotate_left
           ·
            simp only [Act.put, List.setIfInBounds_toArray, List.set_cons_zero, List.set_cons_succ, i64_w, i32_w]
            rfl
           refine pure_ (i := 10) (N := some 52) (v := ?_) (a' := ?_) (bm 15 6143) rfl rfl (any_of HT_.out (by kernel_rfl)) (fun _ _ _ h => h) (Or.inl ⟨by rfl, ?_⟩) ?_ ?_
           rotate_left
           ·
            intro w'
            go_simp
            with_reducible rfl
           rotate_left
           ·
            simp only [Act.put, List.setIfInBounds_toArray, List.set_cons_zero, List.set_cons_succ, i64_w, i32_w]
            rfl
           refine pure_ (i := 11) (N := some 53) (v := ?_) (a' := ?_) (bm 15 8191) rfl rfl (any_of HT_.out (by kernel_rfl)) (fun _ _ _ h => h) (Or.inl ⟨by rfl, ?_⟩) ?_ ?_
           rotate_left
           ·
            intro w'
            go_simp
            with_reducible rfl
           rotate_left
           ·
            simp only [Act.put, List.setIfInBounds_toArray, List.set_cons_zero, List.set_cons_succ, i64_w, i32_w]
            rfl
           exact norm_ (by simp only [putAll, Act.put, List.setIfInBounds_toArray, List.set_cons_zero, List.set_cons_succ]) (hCont (gb193) _ ⟨hHeld, (by (with_reducible repeat (first | refine blk_drewN ?_ _ | refine blk_drew ?_ | refine blk_alloc ?_ _)); exact BK173.out), (by (with_reducible repeat (first | refine blk_drewN ?_ _ | refine blk_drew ?_ | refine blk_alloc ?_ _)); exact BK177.out), (by (with_reducible repeat (first | refine blk_drewN ?_ _ | refine blk_drew ?_ | refine blk_alloc ?_ _)); exact BK193.out), GW193.out, GE193.out, NB173_193.out, NB193_173.out, NB177_193.out, NB193_177.out, (by repeat (first | (with_reducible first | exact HB.out | apply below_alloc | apply pw_below_drewN | apply below_drew1 | refine below_set ?_ GE173.out | refine below_set ?_ GE177.out | refine below_set ?_ GE193.out) | exact HB.out))⟩)
         rintro gb193 w44 ⟨hS_, h0_, h1_, h2_, h3_, h4_, h5_, h6_, h7_, h8_, h9_⟩
         have n0_ : Aside0 (w44.heap[gb173]? = some (.cells #[.int .u64 a1_0, .int .u64 a1_1, .int .u64 a1_2, .int .u64 a1_3, .int .u64 a1_4, .int .u64 a1_5, .int .u64 a1_6, .int .u64 a1_7, .int .u64 a1_8, .int .u64 a1_9] 42 (0, 0))) := ⟨h0_⟩
         have n1_ : Aside0 (w44.heap[gb177]? = some (.cells #[.bool t175, .bool t176] 29 (0, 0))) := ⟨h1_⟩
         have n2_ : Aside0 (w44.heap[gb193]? = some (.cells #[.int .u64 0, .int .u64 0, .int .u64 0, .int .u64 0, .int .u64 0, .int .u64 0, .int .u64 0, .int .u64 0, .int .u64 0, .int .u64 0] 44 (0, 0))) := ⟨h2_⟩
         have n3_ : Aside0 (w.heap.size ≤ gb193) := ⟨h3_⟩
         have n4_ : Aside0 (w.heap.size ≤ gb193) := ⟨h4_⟩
         have n5_ : Aside0 (gb173 ≠ gb193) := ⟨h5_⟩
         have n6_ : Aside0 (gb193 ≠ gb173) := ⟨h6_⟩
         have n7_ : Aside0 (gb177 ≠ gb193) := ⟨h7_⟩
         have n8_ : Aside0 (gb193 ≠ gb177) := ⟨h8_⟩
         have n9_ : Aside0 (Below w.heap.size w w44) := ⟨h9_⟩
         clear BK173
         clear BK177
         clear HB
         clear h0_ h1_ h2_ h3_ h4_ h5_ h6_ h7_ h8_ h9_
         have BK173 := n0_
         have BK177 := n1_
         have BK193 := n2_
         have GW193 := n3_
         have GE193 := n4_
         have NB173_193 := n5_
         have NB193_173 := n6_
         have NB177_193 := n7_
         have NB193_177 := n8_
         have HB := n9_
         clear n0_ n1_ n2_ n3_ n4_ n5_ n6_ n7_ n8_ n9_
         have hHeld : w44.cell? ⟨gb177, 0, none⟩ = some (.bool t175) ∧ w44.cell? ⟨gb177, 1, none⟩ = some (.bool t176) := hS_
         refine norm_ (a' := ?_) ?_ ?_
         rotate_left
         ·
          simp only [putAll, Act.put, List.setIfInBounds_toArray, List.set_cons_zero, List.set_cons_succ]
          rfl
         refine one_ (i := 13) (N := none) (bm 15 16383) rfl rfl (one_of HT_.out (by kernel_rfl)) (by decide) (fun K hK => ?_)
         have hs45 : w44.cell? ⟨gb193, 0, none⟩ = some (.int .u64 0) := (blk_cell BK193.out 0).trans rfl
         have hfs45 := blk_frozen BK193.out 0
         have hns45_0 := NB173_193.out
         have hns45_1 := NB177_193.out
         have hms45_0 := NB193_173.out
         have hms45_1 := NB193_177.out
         have hs46 : w44.cell? ⟨gb193, 1, none⟩ = some (.int .u64 0) := (blk_cell BK193.out 1).trans rfl
         have hfs46 := blk_frozen BK193.out 1
         have hns46_0 := NB173_193.out
         have hns46_1 := NB177_193.out
         have hms46_0 := NB193_173.out
         have hms46_1 := NB193_177.out
         have hs47 : w44.cell? ⟨gb193, 2, none⟩ = some (.int .u64 0) := (blk_cell BK193.out 2).trans rfl
         have hfs47 := blk_frozen BK193.out 2
         have hns47_0 := NB173_193.out
         have hns47_1 := NB177_193.out
         have hms47_0 := NB193_173.out
         have hms47_1 := NB193_177.out
         have hs48 : w44.cell? ⟨gb193, 3, none⟩ = some (.int .u64 0) := (blk_cell BK193.out 3).trans rfl
         have hfs48 := blk_frozen BK193.out 3
         have hns48_0 := NB173_193.out
         have hns48_1 := NB177_193.out
         have hms48_0 := NB193_173.out
         have hms48_1 := NB193_177.out
         have hs49 : w44.cell? ⟨gb193, 4, none⟩ = some (.int .u64 0) := (blk_cell BK193.out 4).trans rfl
         have hfs49 := blk_frozen BK193.out 4
         have hns49_0 := NB173_193.out
         have hns49_1 := NB177_193.out
         have hms49_0 := NB193_173.out
         have hms49_1 := NB193_177.out
         have hs50 : w44.cell? ⟨gb193, 5, none⟩ = some (.int .u64 0) := (blk_cell BK193.out 5).trans rfl
         have hfs50 := blk_frozen BK193.out 5
         have hns50_0 := NB173_193.out
         have hns50_1 := NB177_193.out
         have hms50_0 := NB193_173.out
         have hms50_1 := NB193_177.out
         have hs51 : w44.cell? ⟨gb193, 6, none⟩ = some (.int .u64 0) := (blk_cell BK193.out 6).trans rfl
         have hfs51 := blk_frozen BK193.out 6
         have hns51_0 := NB173_193.out
         have hns51_1 := NB177_193.out
         have hms51_0 := NB193_173.out
         have hms51_1 := NB193_177.out
         have hs52 : w44.cell? ⟨gb193, 7, none⟩ = some (.int .u64 0) := (blk_cell BK193.out 7).trans rfl
         have hfs52 := blk_frozen BK193.out 7
         have hns52_0 := NB173_193.out
         have hns52_1 := NB177_193.out
         have hms52_0 := NB193_173.out
         have hms52_1 := NB193_177.out
         have hs53 : w44.cell? ⟨gb193, 8, none⟩ = some (.int .u64 0) := (blk_cell BK193.out 8).trans rfl
         have hfs53 := blk_frozen BK193.out 8
         have hns53_0 := NB173_193.out
         have hns53_1 := NB177_193.out
         have hms53_0 := NB193_173.out
         have hms53_1 := NB193_177.out
         have hs54 : w44.cell? ⟨gb193, 9, none⟩ = some (.int .u64 0) := (blk_cell BK193.out 9).trans rfl
         have hfs54 := blk_frozen BK193.out 9
         have hns54_0 := NB173_193.out
         have hns54_1 := NB177_193.out
         have hms54_0 := NB193_173.out
         have hms54_1 := NB193_177.out
         refine skip_ (w1 := ?_) (by rfl) rfl ?_ ?_
         rotate_left
         ·
          go_simp
          rfl
         refine hK.out _ _ ⟨((cell_far (p := ⟨gb193, _, none⟩) NB177_193.out _).trans (((cell_far (p := ⟨gb193, _, none⟩) NB177_193.out _).trans (((cell_far (p := ⟨gb193, _, none⟩) NB177_193.out _).trans (((cell_far (p := ⟨gb193, _, none⟩) NB177_193.out _).trans (((cell_far (p := ⟨gb193, _, none⟩) NB177_193.out _).trans (((cell_far (p := ⟨gb193, _, none⟩) NB177_193.out _).trans (((cell_far (p := ⟨gb193, _, none⟩) NB177_193.out _).trans (((cell_far (p := ⟨gb193, _, none⟩) NB177_193.out _).trans (((cell_far (p := ⟨gb193, _, none⟩) NB177_193.out _).trans (((cell_far (p := ⟨gb193, _, none⟩) NB177_193.out _).trans (hHeld.1)))))))))))))))))))), ((cell_far (p := ⟨gb193, _, none⟩) NB177_193.out _).trans (((cell_far (p := ⟨gb193, _, none⟩) NB177_193.out _).trans (((cell_far (p := ⟨gb193, _, none⟩) NB177_193.out _).trans (((cell_far (p := ⟨gb193, _, none⟩) NB177_193.out _).trans (((cell_far (p := ⟨gb193, _, none⟩) NB177_193.out _).trans (((cell_far (p := ⟨gb193, _, none⟩) NB177_193.out _).trans (((cell_far (p := ⟨gb193, _, none⟩) NB177_193.out _).trans (((cell_far (p := ⟨gb193, _, none⟩) NB177_193.out _).trans (((cell_far (p := ⟨gb193, _, none⟩) NB177_193.out _).trans (((cell_far (p := ⟨gb193, _, none⟩) NB177_193.out _).trans (hHeld.2))))))))))))))))))))⟩ (fun hHeld => ?_)
         clear hK K
         refine pure_ (i := 14) (N := some 13) (v := ?_) (a' := ?_) (bm 15 32767) rfl rfl (any_of HT_.out (by kernel_rfl)) (fun _ _ _ h => h) (Or.inl ⟨by rfl, ?_⟩) ?_ ?_
         rotate_left
         ·
          intro w'
          go_simp
          with_reducible rfl
         rotate_left
         ·
          simp only [Act.put, List.setIfInBounds_toArray, List.set_cons_zero, List.set_cons_succ, i64_w, i32_w]
          rfl
         refine done_ (done_of HT_.out (by kernel_rfl)) ?_
         have hnb55 := NB193_173.out
         have hnc55 := NB173_193.out
         have hnb56 := NB193_177.out
         have hnc56 := NB177_193.out
         have hcz57_0 : w44.cell? ⟨gb193, 0, none⟩ = some (.int .u64 0) := (blk_cell BK193.out 0).trans rfl
         have hcz57_1 : w44.cell? ⟨gb193, 1, none⟩ = some (.int .u64 0) := (blk_cell BK193.out 1).trans rfl
         have hcz57_2 : w44.cell? ⟨gb193, 2, none⟩ = some (.int .u64 0) := (blk_cell BK193.out 2).trans rfl
         have hcz57_3 : w44.cell? ⟨gb193, 3, none⟩ = some (.int .u64 0) := (blk_cell BK193.out 3).trans rfl
         have hcz57_4 : w44.cell? ⟨gb193, 4, none⟩ = some (.int .u64 0) := (blk_cell BK193.out 4).trans rfl
         have hcz57_5 : w44.cell? ⟨gb193, 5, none⟩ = some (.int .u64 0) := (blk_cell BK193.out 5).trans rfl
         have hcz57_6 : w44.cell? ⟨gb193, 6, none⟩ = some (.int .u64 0) := (blk_cell BK193.out 6).trans rfl
         have hcz57_7 : w44.cell? ⟨gb193, 7, none⟩ = some (.int .u64 0) := (blk_cell BK193.out 7).trans rfl
         have hcz57_8 : w44.cell? ⟨gb193, 8, none⟩ = some (.int .u64 0) := (blk_cell BK193.out 8).trans rfl
         have hcz57_9 : w44.cell? ⟨gb193, 9, none⟩ = some (.int .u64 0) := (blk_cell BK193.out 9).trans rfl
         have hfz57_0 := blk_frozen BK193.out 0
         have hfz57_1 := blk_frozen BK193.out 1
         have hfz57_2 := blk_frozen BK193.out 2
         have hfz57_3 := blk_frozen BK193.out 3
         have hfz57_4 := blk_frozen BK193.out 4
         have hfz57_5 := blk_frozen BK193.out 5
         have hfz57_6 := blk_frozen BK193.out 6
         have hfz57_7 := blk_frozen BK193.out 7
         have hfz57_8 := blk_frozen BK193.out 8
         have hfz57_9 := blk_frozen BK193.out 9
         have hcz58_0 : w44.cell? ⟨gb173, 0, none⟩ = some (.int .u64 a1_0) := (blk_cell BK173.out 0).trans rfl
         have hcz58_1 : w44.cell? ⟨gb173, 1, none⟩ = some (.int .u64 a1_1) := (blk_cell BK173.out 1).trans rfl
         have hcz58_2 : w44.cell? ⟨gb173, 2, none⟩ = some (.int .u64 a1_2) := (blk_cell BK173.out 2).trans rfl
         have hcz58_3 : w44.cell? ⟨gb173, 3, none⟩ = some (.int .u64 a1_3) := (blk_cell BK173.out 3).trans rfl
         have hcz58_4 : w44.cell? ⟨gb173, 4, none⟩ = some (.int .u64 a1_4) := (blk_cell BK173.out 4).trans rfl
         have hcz58_5 : w44.cell? ⟨gb173, 5, none⟩ = some (.int .u64 a1_5) := (blk_cell BK173.out 5).trans rfl
         have hcz58_6 : w44.cell? ⟨gb173, 6, none⟩ = some (.int .u64 a1_6) := (blk_cell BK173.out 6).trans rfl
         have hcz58_7 : w44.cell? ⟨gb173, 7, none⟩ = some (.int .u64 a1_7) := (blk_cell BK173.out 7).trans rfl
         have hcz58_8 : w44.cell? ⟨gb173, 8, none⟩ = some (.int .u64 a1_8) := (blk_cell BK173.out 8).trans rfl
         have hcz58_9 : w44.cell? ⟨gb173, 9, none⟩ = some (.int .u64 a1_9) := (blk_cell BK173.out 9).trans rfl
         have hfz58_0 := blk_frozen BK173.out 0
         have hfz58_1 := blk_frozen BK173.out 1
         have hfz58_2 := blk_frozen BK173.out 2
         have hfz58_3 := blk_frozen BK173.out 3
         have hfz58_4 := blk_frozen BK173.out 4
         have hfz58_5 := blk_frozen BK173.out 5
         have hfz58_6 := blk_frozen BK173.out 6
         have hfz58_7 := blk_frozen BK173.out 7
         have hfz58_8 := blk_frozen BK173.out 8
         have hfz58_9 := blk_frozen BK173.out 9
         try go_wp2
         go_ret
         exact ⟨by first | rfl | (simp [errW_none, errW_some] <;> rfl) | (simp only [← hji22]; first | rfl | (simp [errW_none, errW_some] <;> rfl)) | (simp [*, errW_none, errW_some] <;> rfl), by repeat (first | (with_reducible first | exact HB.out | apply below_alloc | apply pw_below_drewN | apply below_drew1 | refine below_set ?_ GE173.out | refine below_set ?_ GE177.out | refine below_set ?_ GE193.out) | exact HB.out)⟩
        ·
         replace c29 := Bool.eq_false_iff.mpr c29
         subst c29
         have H1 : (some false) = some r := by rw [if_neg (show ¬ (false = true) by decide)] at H; exact H
         clear H
         have H := H1
         clear H1
         obtain rfl := Option.some.inj H
         go_enter Tryd.func5, Tryd.ntmps5
         try go_wp2_with (first | ((with_reducible refine gate_dst (N := 4) rfl ?_); refine box_event ?hg (N := 4) ?hd (cs := #[.int .u64 a1_0, .int .u64 a1_1, .int .u64 a1_2, .int .u64 a1_3, .int .u64 a1_4, .int .u64 a1_5, .int .u64 a1_6, .int .u64 a1_7, .int .u64 a1_8, .int .u64 a1_9]) (t := 42) ?hr ?_; (case hd => rfl); (case hg => rfl); (case hr => first | (go_simp; done) | (go_simp; rfl)); intro gb173 hg w59 hbox hb; have n0_ := Aside0.mk (below_step (by repeat (first | (with_reducible first | exact HB.out | apply below_alloc | apply pw_below_drewN | apply below_drew1) | exact HB.out)) hb); have n1_ := Aside0.mk (hbox); have n2_ := Aside0.mk ((by rw [hg]; exact (below_size (by repeat (first | (with_reducible first | exact HB.out | apply below_alloc | apply pw_below_drewN | apply below_drew1) | exact HB.out))) : w.heap.size ≤ gb173)); have n3_ := Aside0.mk ((by rw [hg]; exact (below_size (by repeat (first | (with_reducible first | exact HB.out | apply below_alloc | apply pw_below_drewN | apply below_drew1) | exact HB.out))) : w.heap.size ≤ gb173)); clear HB; have HB := n0_; have BK173 := n1_; have GW173 := n2_; have GE173 := n3_; clear n0_ n1_ n2_ n3_; clear hb hbox hg) | ((with_reducible refine gate_callee (f := 15) rfl ?_); refine goesL_ (some 14) rfl rfl Tryd.func15 (by kernel_rfl) rfl #[] rfl (by (try simp only [List.map_toArray, List.map_cons, List.map_nil]); first | done | rfl | (simp only [List.length_drop, List.length_take]; rfl)) ?_; (with_reducible refine (graverlaw06_speaks.calls k  true _ ?side1 A4.out).mono ?_); (case side1 => exact Laid_shdr.below HLD_shdr.out (by repeat (first | (with_reducible first | exact HB.out | apply below_alloc | apply pw_below_drewN | apply below_drew1 | refine below_set ?_ GE173.out) | exact HB.out))); rintro e w60 ⟨rfl, hb⟩; refine ⟨_, rfl, ?_⟩; have n0_ := Aside0.mk (blk_below (g := gb173) (o := .cells #[.int .u64 a1_0, .int .u64 a1_1, .int .u64 a1_2, .int .u64 a1_3, .int .u64 a1_4, .int .u64 a1_5, .int .u64 a1_6, .int .u64 a1_7, .int .u64 a1_8, .int .u64 a1_9] 42 (0, 0)) (by (with_reducible repeat (first | refine blk_drewN ?_ _ | refine blk_drew ?_ | refine blk_alloc ?_ _)); exact BK173.out) hb); have n1_ := Aside0.mk (below_step (by repeat (first | (with_reducible first | exact HB.out | apply below_alloc | apply pw_below_drewN | apply below_drew1 | refine below_set ?_ GE173.out) | exact HB.out)) hb); clear BK173; clear HB; have BK173 := n0_; have HB := n1_; clear n0_ n1_; (try clear hb); (try clear hb2); (try clear hk); (try clear hi)) | ((with_reducible refine gate_callee (f := 16) rfl ?_); refine goesL_ (some 17) rfl rfl Tryd.func16 (by kernel_rfl) rfl #[.int .i64 a0] rfl (by (try simp only [List.map_toArray, List.map_cons, List.map_nil]); first | done | rfl | (simp only [List.length_drop, List.length_take]; rfl)) ?_; (with_reducible refine (graverlaw06_formOf.calls a0 t175 t176 _ A6.out).mono ?_); rintro e w61 ⟨rfl, hb⟩; refine ⟨_, rfl, ?_⟩; have n0_ := Aside0.mk (blk_below (g := gb173) (o := .cells #[.int .u64 a1_0, .int .u64 a1_1, .int .u64 a1_2, .int .u64 a1_3, .int .u64 a1_4, .int .u64 a1_5, .int .u64 a1_6, .int .u64 a1_7, .int .u64 a1_8, .int .u64 a1_9] 42 (0, 0)) (by (with_reducible repeat (first | refine blk_drewN ?_ _ | refine blk_drew ?_ | refine blk_alloc ?_ _)); exact BK173.out) hb); have n1_ := Aside0.mk (below_step (by repeat (first | (with_reducible first | exact HB.out | apply below_alloc | apply pw_below_drewN | apply below_drew1 | refine below_set ?_ GE173.out) | exact HB.out)) hb); clear BK173; clear HB; have BK173 := n0_; have HB := n1_; clear n0_ n1_; (try clear hb); (try clear hb2); (try clear hk); (try clear hi)) | ((with_reducible refine gate_dst (N := 7) rfl ?_); refine box_event ?hg (N := 7) ?hd (cs := #[.bool false, .bool false]) (t := 29) ?hr ?_; (case hd => rfl); (case hg => rfl); (case hr => first | (go_simp; done) | (go_simp; rfl)); intro gb177 hg w62 hbox hb; have n0_ := Aside0.mk (blk_below (g := gb173) (o := .cells #[.int .u64 a1_0, .int .u64 a1_1, .int .u64 a1_2, .int .u64 a1_3, .int .u64 a1_4, .int .u64 a1_5, .int .u64 a1_6, .int .u64 a1_7, .int .u64 a1_8, .int .u64 a1_9] 42 (0, 0)) (by (with_reducible repeat (first | refine blk_drewN ?_ _ | refine blk_drew ?_ | refine blk_alloc ?_ _)); exact BK173.out) hb); have n1_ := Aside0.mk (below_step (by repeat (first | (with_reducible first | exact HB.out | apply below_alloc | apply pw_below_drewN | apply below_drew1 | refine below_set ?_ GE173.out) | exact HB.out)) hb); have n2_ := Aside0.mk (hbox); have n3_ := Aside0.mk ((by rw [hg]; exact (below_size (by repeat (first | (with_reducible first | exact HB.out | apply below_alloc | apply pw_below_drewN | apply below_drew1 | refine below_set ?_ GE173.out) | exact HB.out))) : w.heap.size ≤ gb177)); have n4_ := Aside0.mk ((by rw [hg]; exact (below_size (by repeat (first | (with_reducible first | exact HB.out | apply below_alloc | apply pw_below_drewN | apply below_drew1 | refine below_set ?_ GE173.out) | exact HB.out))) : w.heap.size ≤ gb177)); have n5_ := Aside0.mk ((by rw [hg]; exact Nat.ne_of_lt (blk_lt (g := gb173) (o := .cells #[.int .u64 a1_0, .int .u64 a1_1, .int .u64 a1_2, .int .u64 a1_3, .int .u64 a1_4, .int .u64 a1_5, .int .u64 a1_6, .int .u64 a1_7, .int .u64 a1_8, .int .u64 a1_9] 42 (0, 0)) (by (with_reducible repeat (first | refine blk_drewN ?_ _ | refine blk_drew ?_ | refine blk_alloc ?_ _)); exact BK173.out)) : gb173 ≠ gb177)); have n6_ := Aside0.mk ((by rw [hg]; exact Nat.ne_of_gt (blk_lt (g := gb173) (o := .cells #[.int .u64 a1_0, .int .u64 a1_1, .int .u64 a1_2, .int .u64 a1_3, .int .u64 a1_4, .int .u64 a1_5, .int .u64 a1_6, .int .u64 a1_7, .int .u64 a1_8, .int .u64 a1_9] 42 (0, 0)) (by (with_reducible repeat (first | refine blk_drewN ?_ _ | refine blk_drew ?_ | refine blk_alloc ?_ _)); exact BK173.out)) : gb177 ≠ gb173)); clear BK173; clear HB; have BK173 := n0_; have HB := n1_; have BK177 := n2_; have GW177 := n3_; have GE177 := n4_; have NB173_177 := n5_; have NB177_173 := n6_; clear n0_ n1_ n2_ n3_ n4_ n5_ n6_; clear hb hbox hg; have hnb63 := NB177_173.out; have hnc63 := NB173_177.out; have hcz64_0 : w62.cell? ⟨gb177, 0, none⟩ = some (.bool false) := (blk_cell BK177.out 0).trans rfl; have hcz64_1 : w62.cell? ⟨gb177, 1, none⟩ = some (.bool false) := (blk_cell BK177.out 1).trans rfl; have hfz64_0 := blk_frozen BK177.out 0; have hfz64_1 := blk_frozen BK177.out 1; have hcz65_0 : w62.cell? ⟨gb173, 0, none⟩ = some (.int .u64 a1_0) := (blk_cell BK173.out 0).trans rfl; have hcz65_1 : w62.cell? ⟨gb173, 1, none⟩ = some (.int .u64 a1_1) := (blk_cell BK173.out 1).trans rfl; have hcz65_2 : w62.cell? ⟨gb173, 2, none⟩ = some (.int .u64 a1_2) := (blk_cell BK173.out 2).trans rfl; have hcz65_3 : w62.cell? ⟨gb173, 3, none⟩ = some (.int .u64 a1_3) := (blk_cell BK173.out 3).trans rfl; have hcz65_4 : w62.cell? ⟨gb173, 4, none⟩ = some (.int .u64 a1_4) := (blk_cell BK173.out 4).trans rfl; have hcz65_5 : w62.cell? ⟨gb173, 5, none⟩ = some (.int .u64 a1_5) := (blk_cell BK173.out 5).trans rfl; have hcz65_6 : w62.cell? ⟨gb173, 6, none⟩ = some (.int .u64 a1_6) := (blk_cell BK173.out 6).trans rfl; have hcz65_7 : w62.cell? ⟨gb173, 7, none⟩ = some (.int .u64 a1_7) := (blk_cell BK173.out 7).trans rfl; have hcz65_8 : w62.cell? ⟨gb173, 8, none⟩ = some (.int .u64 a1_8) := (blk_cell BK173.out 8).trans rfl; have hcz65_9 : w62.cell? ⟨gb173, 9, none⟩ = some (.int .u64 a1_9) := (blk_cell BK173.out 9).trans rfl; have hfz65_0 := blk_frozen BK173.out 0; have hfz65_1 := blk_frozen BK173.out 1; have hfz65_2 := blk_frozen BK173.out 2; have hfz65_3 := blk_frozen BK173.out 3; have hfz65_4 := blk_frozen BK173.out 4; have hfz65_5 := blk_frozen BK173.out 5; have hfz65_6 := blk_frozen BK173.out 6; have hfz65_7 := blk_frozen BK173.out 7; have hfz65_8 := blk_frozen BK173.out 8; have hfz65_9 := blk_frozen BK173.out 9) | ((with_reducible refine gate_callee (f := 17) rfl ?_); refine goesL_ (some 21) rfl rfl Tryd.func17 (by kernel_rfl) rfl #[.agg #[.bool t175, .bool t176], .agg #[.int .u64 a1_0, .int .u64 a1_1, .int .u64 a1_2, .int .u64 a1_3, .int .u64 a1_4, .int .u64 a1_5, .int .u64 a1_6, .int .u64 a1_7, .int .u64 a1_8, .int .u64 a1_9]] rfl (by (try simp only [List.map_toArray, List.map_cons, List.map_nil]); first | done | rfl | (simp only [List.length_drop, List.length_take]; rfl)) ?_; (with_reducible refine (shdr_Put.calls k t175 t176 a1_0 a1_1 a1_2 a1_3 a1_4 a1_5 a1_6 a1_7 a1_8 a1_9 t178 true _ ?side1 A7.out).mono ?_); (case side1 => exact Laid_shdr.below HLD_shdr.out (by repeat (first | (with_reducible first | exact HB.out | apply below_alloc | apply pw_below_drewN | apply below_drew1 | refine below_set ?_ GE173.out | refine below_set ?_ GE177.out) | exact HB.out))); rintro e w66 ⟨rfl, hb⟩; refine ⟨_, rfl, ?_⟩; have n0_ := Aside0.mk (blk_below (g := gb173) (o := .cells #[.int .u64 a1_0, .int .u64 a1_1, .int .u64 a1_2, .int .u64 a1_3, .int .u64 a1_4, .int .u64 a1_5, .int .u64 a1_6, .int .u64 a1_7, .int .u64 a1_8, .int .u64 a1_9] 42 (0, 0)) (by (with_reducible repeat (first | refine blk_drewN ?_ _ | refine blk_drew ?_ | refine blk_alloc ?_ _)); refine blk_far ?_ NB173_177.out _; (with_reducible repeat (first | refine blk_drewN ?_ _ | refine blk_drew ?_ | refine blk_alloc ?_ _)); refine blk_far ?_ NB173_177.out _; (with_reducible repeat (first | refine blk_drewN ?_ _ | refine blk_drew ?_ | refine blk_alloc ?_ _)); exact BK173.out) hb); have n1_ := Aside0.mk (blk_below (g := gb177) (o := .cells #[.bool t175, .bool t176] 29 (0, 0)) (by (with_reducible repeat (first | refine blk_drewN ?_ _ | refine blk_drew ?_ | refine blk_alloc ?_ _)); refine blk_put (cs := #[.bool t175, .bool false]) ?_ 1 _ rfl; (with_reducible repeat (first | refine blk_drewN ?_ _ | refine blk_drew ?_ | refine blk_alloc ?_ _)); refine blk_put (cs := #[.bool false, .bool false]) ?_ 0 _ rfl; (with_reducible repeat (first | refine blk_drewN ?_ _ | refine blk_drew ?_ | refine blk_alloc ?_ _)); exact BK177.out) hb); have n2_ := Aside0.mk (below_step (by repeat (first | (with_reducible first | exact HB.out | apply below_alloc | apply pw_below_drewN | apply below_drew1 | refine below_set ?_ GE173.out | refine below_set ?_ GE177.out) | exact HB.out)) hb); clear BK173; clear BK177; clear HB; have BK173 := n0_; have BK177 := n1_; have HB := n2_; clear n0_ n1_ n2_; (try clear hb); (try clear hb2); (try clear hk); (try clear hi); have hcz67_0 : w66.cell? ⟨gb177, 0, none⟩ = some (.bool t175) := (blk_cell BK177.out 0).trans rfl; have hcz67_1 : w66.cell? ⟨gb177, 1, none⟩ = some (.bool t176) := (blk_cell BK177.out 1).trans rfl; have hfz67_0 := blk_frozen BK177.out 0; have hfz67_1 := blk_frozen BK177.out 1; have hcz68_0 : w66.cell? ⟨gb173, 0, none⟩ = some (.int .u64 a1_0) := (blk_cell BK173.out 0).trans rfl; have hcz68_1 : w66.cell? ⟨gb173, 1, none⟩ = some (.int .u64 a1_1) := (blk_cell BK173.out 1).trans rfl; have hcz68_2 : w66.cell? ⟨gb173, 2, none⟩ = some (.int .u64 a1_2) := (blk_cell BK173.out 2).trans rfl; have hcz68_3 : w66.cell? ⟨gb173, 3, none⟩ = some (.int .u64 a1_3) := (blk_cell BK173.out 3).trans rfl; have hcz68_4 : w66.cell? ⟨gb173, 4, none⟩ = some (.int .u64 a1_4) := (blk_cell BK173.out 4).trans rfl; have hcz68_5 : w66.cell? ⟨gb173, 5, none⟩ = some (.int .u64 a1_5) := (blk_cell BK173.out 5).trans rfl; have hcz68_6 : w66.cell? ⟨gb173, 6, none⟩ = some (.int .u64 a1_6) := (blk_cell BK173.out 6).trans rfl; have hcz68_7 : w66.cell? ⟨gb173, 7, none⟩ = some (.int .u64 a1_7) := (blk_cell BK173.out 7).trans rfl; have hcz68_8 : w66.cell? ⟨gb173, 8, none⟩ = some (.int .u64 a1_8) := (blk_cell BK173.out 8).trans rfl; have hcz68_9 : w66.cell? ⟨gb173, 9, none⟩ = some (.int .u64 a1_9) := (blk_cell BK173.out 9).trans rfl; have hfz68_0 := blk_frozen BK173.out 0; have hfz68_1 := blk_frozen BK173.out 1; have hfz68_2 := blk_frozen BK173.out 2; have hfz68_3 := blk_frozen BK173.out 3; have hfz68_4 := blk_frozen BK173.out 4; have hfz68_5 := blk_frozen BK173.out 5; have hfz68_6 := blk_frozen BK173.out 6; have hfz68_7 := blk_frozen BK173.out 7; have hfz68_8 := blk_frozen BK173.out 8; have hfz68_9 := blk_frozen BK173.out 9) | ((with_reducible refine gate_callee (f := 18) rfl ?_); refine goesL_ (some 31) rfl rfl Tryd.func18 (by kernel_rfl) rfl #[.bool t176, .bool t175, .agg #[.int .u64 a1_0, .int .u64 a1_1, .int .u64 a1_2, .int .u64 a1_3, .int .u64 a1_4, .int .u64 a1_5, .int .u64 a1_6, .int .u64 a1_7, .int .u64 a1_8, .int .u64 a1_9]] rfl (by (try simp only [List.map_toArray, List.map_cons, List.map_nil]); first | done | rfl | (simp only [List.length_drop, List.length_take]; rfl)) ?_; (with_reducible refine (graverref06_Put.calls k t176 t175 a1_0 a1_1 a1_2 a1_3 a1_4 a1_5 a1_6 a1_7 a1_8 a1_9 t180 t181 _ A8.out).mono ?_); rintro e w69 ⟨rfl, hb⟩; refine ⟨_, rfl, ?_⟩; have n0_ := Aside0.mk (blk_below (g := gb173) (o := .cells #[.int .u64 a1_0, .int .u64 a1_1, .int .u64 a1_2, .int .u64 a1_3, .int .u64 a1_4, .int .u64 a1_5, .int .u64 a1_6, .int .u64 a1_7, .int .u64 a1_8, .int .u64 a1_9] 42 (0, 0)) (by (with_reducible repeat (first | refine blk_drewN ?_ _ | refine blk_drew ?_ | refine blk_alloc ?_ _)); exact BK173.out) hb); have n1_ := Aside0.mk (blk_below (g := gb177) (o := .cells #[.bool t175, .bool t176] 29 (0, 0)) (by (with_reducible repeat (first | refine blk_drewN ?_ _ | refine blk_drew ?_ | refine blk_alloc ?_ _)); exact BK177.out) hb); have n2_ := Aside0.mk (below_step (by repeat (first | (with_reducible first | exact HB.out | apply below_alloc | apply pw_below_drewN | apply below_drew1 | refine below_set ?_ GE173.out | refine below_set ?_ GE177.out) | exact HB.out)) hb); clear BK173; clear BK177; clear HB; have BK173 := n0_; have BK177 := n1_; have HB := n2_; clear n0_ n1_ n2_; (try clear hb); (try clear hb2); (try clear hk); (try clear hi)))
         have n0_ := Aside0.mk (blk_drew BK173.out)
         have n1_ := Aside0.mk (blk_drew BK177.out)
         have n2_ := Aside0.mk (below_drew1 HB.out)
         clear BK173
         clear BK177
         clear HB
         have BK173 := n0_
         have BK177 := n1_
         have HB := n2_
         clear n0_ n1_ n2_
         refine start_ (n := 15) (S := fun w' => w'.cell? ⟨gb177, 0, none⟩ = some (.bool t175) ∧ w'.cell? ⟨gb177, 1, none⟩ = some (.bool t176)) (ds := []) #[false, false, false, false, false, false, false, false, false, false, false, false, false, false, false] (by kernel_rfl) rfl rfl ⟨(blk_cell BK177.out 0).trans rfl, (blk_cell BK177.out 1).trans rfl⟩ (fun hHeld => ?_); refine with_tabW graverlaw06_ShdrPuts.tab8 graverlaw06_ShdrPuts.bits8 (fun HT_ HW_ => ?_)
         generalize w69.drew = w70 at BK173 BK177 HB hHeld ⊢
         refine pure_ (i := 1) (N := some 44) (v := ?_) (a' := ?_) (bm 15 2) rfl rfl (any_of HT_.out (by kernel_rfl)) (fun _ _ _ h => h) (Or.inl ⟨by rfl, ?_⟩) ?_ ?_
         rotate_left
         ·
          intro w'
          go_simp
          with_reducible rfl
         rotate_left
         ·
          simp only [Act.put, List.setIfInBounds_toArray, List.set_cons_zero, List.set_cons_succ, i64_w, i32_w]
          rfl
         refine pure_ (i := 2) (N := some 45) (v := ?_) (a' := ?_) (bm 15 6) rfl rfl (any_of HT_.out (by kernel_rfl)) (fun _ _ _ h => h) (Or.inl ⟨by rfl, ?_⟩) ?_ ?_
         rotate_left
         ·
          intro w'
          go_simp
          with_reducible rfl
         rotate_left
         ·
          simp only [Act.put, List.setIfInBounds_toArray, List.set_cons_zero, List.set_cons_succ, i64_w, i32_w]
          rfl
         refine pure_ (i := 3) (N := some 46) (v := ?_) (a' := ?_) (bm 15 14) rfl rfl (any_of HT_.out (by kernel_rfl)) (fun _ _ _ h => h) (Or.inl ⟨by rfl, ?_⟩) ?_ ?_
         rotate_left
         ·
          intro w'
          go_simp
          with_reducible rfl
         rotate_left
         ·
          simp only [Act.put, List.setIfInBounds_toArray, List.set_cons_zero, List.set_cons_succ, i64_w, i32_w]
          rfl
         refine pure_ (i := 4) (N := some 47) (v := ?_) (a' := ?_) (bm 15 30) rfl rfl (any_of HT_.out (by kernel_rfl)) (fun _ _ _ h => h) (Or.inl ⟨by rfl, ?_⟩) ?_ ?_
         rotate_left
         ·
          intro w'
          go_simp
          with_reducible rfl
         rotate_left
         ·
          simp only [Act.put, List.setIfInBounds_toArray, List.set_cons_zero, List.set_cons_succ, i64_w, i32_w]
          rfl
         refine pure_ (i := 5) (N := some 48) (v := ?_) (a' := ?_) (bm 15 62) rfl rfl (any_of HT_.out (by kernel_rfl)) (fun _ _ _ h => h) (Or.inl ⟨by rfl, ?_⟩) ?_ ?_
         rotate_left
         ·
          intro w'
          go_simp
          with_reducible rfl
         rotate_left
         ·
          simp only [Act.put, List.setIfInBounds_toArray, List.set_cons_zero, List.set_cons_succ, i64_w, i32_w]
          rfl
         refine pure_ (i := 6) (N := some 49) (v := ?_) (a' := ?_) (bm 15 126) rfl rfl (any_of HT_.out (by kernel_rfl)) (fun _ _ _ h => h) (Or.inl ⟨by rfl, ?_⟩) ?_ ?_
         rotate_left
         ·
          intro w'
          go_simp
          with_reducible rfl
         rotate_left
         ·
          simp only [Act.put, List.setIfInBounds_toArray, List.set_cons_zero, List.set_cons_succ, i64_w, i32_w]
          rfl
         refine pure_ (i := 7) (N := some 50) (v := ?_) (a' := ?_) (bm 15 254) rfl rfl (any_of HT_.out (by kernel_rfl)) (fun _ _ _ h => h) (Or.inl ⟨by rfl, ?_⟩) ?_ ?_
         rotate_left
         ·
          intro w'
          go_simp
          with_reducible rfl
         rotate_left
         ·
          simp only [Act.put, List.setIfInBounds_toArray, List.set_cons_zero, List.set_cons_succ, i64_w, i32_w]
          rfl
         refine take_ (i := 0) (N := some 43) (v := ?_) (a' := ?_) (bm 15 255) rfl rfl (take_ofW HT_.out HW_.out (by kernel_rfl)) (fun _ _ _ h => h) (Or.inl ⟨by rfl, ?_⟩) hHeld ?_ ?_
         rotate_left
         ·
          rintro w' ⟨s0, s1⟩
          go_simp
          with_reducible rfl
         rotate_left
         ·
          simp only [Act.put, List.setIfInBounds_toArray, List.set_cons_zero, List.set_cons_succ, i64_w, i32_w]
          rfl
         refine join_ (σ := Nat) 2 (bm 15 8191) (fun s_ => [(51, .tuple #[.agg #[.int .u64 t182, .int .u64 t183, .int .u64 t184, .int .u64 t185, .int .u64 t186, .int .u64 t187, .int .u64 t188, .int .u64 t189, .int .u64 t190, .int .u64 t191], .bool false]), (12, .pointer (some ⟨s_, 0, none⟩)), (42, .tuple #[.agg #[.int .u64 t182, .int .u64 t183, .int .u64 t184, .int .u64 t185, .int .u64 t186, .int .u64 t187, .int .u64 t188, .int .u64 t189, .int .u64 t190, .int .u64 t191], .bool false]), (52, .agg #[.int .u64 t182, .int .u64 t183, .int .u64 t184, .int .u64 t185, .int .u64 t186, .int .u64 t187, .int .u64 t188, .int .u64 t189, .int .u64 t190, .int .u64 t191]), (53, .bool false)]) (fun s_ w' => (w'.cell? ⟨gb177, 0, none⟩ = some (.bool t175) ∧ w'.cell? ⟨gb177, 1, none⟩ = some (.bool t176)) ∧ (w'.heap[gb173]? = some (.cells #[.int .u64 a1_0, .int .u64 a1_1, .int .u64 a1_2, .int .u64 a1_3, .int .u64 a1_4, .int .u64 a1_5, .int .u64 a1_6, .int .u64 a1_7, .int .u64 a1_8, .int .u64 a1_9] 42 (0, 0))) ∧ (w'.heap[gb177]? = some (.cells #[.bool t175, .bool t176] 29 (0, 0))) ∧ (w'.heap[s_]? = some (.cells #[.int .u64 0, .int .u64 0, .int .u64 0, .int .u64 0, .int .u64 0, .int .u64 0, .int .u64 0, .int .u64 0, .int .u64 0, .int .u64 0] 44 (0, 0))) ∧ (w.heap.size ≤ s_) ∧ (w.heap.size ≤ s_) ∧ (gb173 ≠ s_) ∧ (s_ ≠ gb173) ∧ (gb177 ≠ s_) ∧ (s_ ≠ gb177) ∧ (Below w.heap.size w w')) ?_ ?_
         rotate_left
         ·
          intro hCont
          refine two_ (i := 8) (j := 12) (Ni := some 51) (Nj := some 12) (bm 15 511) (bm 15 4351) rfl rfl rfl rfl (two_of HT_.out (by kernel_rfl)) (by decide) (by decide) (fun K hK => ?_) (fun K hK => ?_)
          ·
           skip
           refine goes_ Tryd.func19 (by kernel_rfl) rfl #[.agg #[.bool t175, .bool t176], .string (t178 ++ sc25)] (by rfl) rfl rfl (by (try simp only [List.map_toArray, List.map_cons, List.map_nil]); first | done | rfl | (simp only [List.length_drop, List.length_take]; rfl)) ?_
           with_reducible refine (shdr_Read.calls k t175 t176 (t178 ++ sc25) t182 t183 t184 t185 t186 t187 t188 t189 t190 t191 false _ ?side1 A27.out).mono ?_
           (case side1 => exact Laid_shdr.below HLD_shdr.out (by repeat (first | (with_reducible first | exact HB.out | apply below_alloc | apply pw_below_drewN | apply below_drew1 | refine below_set ?_ GE173.out | refine below_set ?_ GE177.out) | exact HB.out)))
           rintro e w71 ⟨rfl, hb⟩
           refine ⟨_, rfl, ?_⟩
           have n0_ := Aside0.mk (blk_below (g := gb173) (o := .cells #[.int .u64 a1_0, .int .u64 a1_1, .int .u64 a1_2, .int .u64 a1_3, .int .u64 a1_4, .int .u64 a1_5, .int .u64 a1_6, .int .u64 a1_7, .int .u64 a1_8, .int .u64 a1_9] 42 (0, 0)) (by (with_reducible repeat (first | refine blk_drewN ?_ _ | refine blk_drew ?_ | refine blk_alloc ?_ _)); exact BK173.out) hb)
           have n1_ := Aside0.mk (blk_below (g := gb177) (o := .cells #[.bool t175, .bool t176] 29 (0, 0)) (by (with_reducible repeat (first | refine blk_drewN ?_ _ | refine blk_drew ?_ | refine blk_alloc ?_ _)); exact BK177.out) hb)
           have n2_ := Aside0.mk (below_step (by repeat (first | (with_reducible first | exact HB.out | apply below_alloc | apply pw_below_drewN | apply below_drew1 | refine below_set ?_ GE173.out | refine below_set ?_ GE177.out) | exact HB.out)) hb)
           clear BK173
           clear BK177
           clear HB
           have BK173 := n0_
           have BK177 := n1_
           have HB := n2_
           clear n0_ n1_ n2_
           (try clear hb)
           (try clear hb2)
           (try clear hk)
           (try clear hi)
           refine hK.out _ _ ⟨(blk_cell BK177.out 0).trans rfl, (blk_cell BK177.out 1).trans rfl⟩ (fun hHeld => ?_)
           clear hK K
           refine norm_ (a' := ?_) ?_ ?_
           rotate_left
           ·
            show Act.put _ (some 51) _ = _
            simp only [Act.put, List.setIfInBounds_toArray, List.set_cons_zero, List.set_cons_succ, i64_w, i32_w]
            rfl
           refine pure_ (i := 9) (N := some 42) (v := ?_) (a' := ?_) (bm 15 1023) rfl rfl (any_of HT_.out (by kernel_rfl)) (fun _ _ _ h => h) (Or.inl ⟨by rfl, ?_⟩) ?_ ?_
           rotate_left
           ·
            intro w'
            go_simp
            with_reducible rfl
           rotate_left
           ·
            simp only [Act.put, List.setIfInBounds_toArray, List.set_cons_zero, List.set_cons_succ, i64_w, i32_w]
            rfl
           refine pure_ (i := 10) (N := some 52) (v := ?_) (a' := ?_) (bm 15 2047) rfl rfl (any_of HT_.out (by kernel_rfl)) (fun _ _ _ h => h) (Or.inl ⟨by rfl, ?_⟩) ?_ ?_
           rotate_left
           ·
            intro w'
            go_simp
            with_reducible rfl
           rotate_left
           ·
            simp only [Act.put, List.setIfInBounds_toArray, List.set_cons_zero, List.set_cons_succ, i64_w, i32_w]
            rfl
           refine pure_ (i := 11) (N := some 53) (v := ?_) (a' := ?_) (bm 15 4095) rfl rfl (any_of HT_.out (by kernel_rfl)) (fun _ _ _ h => h) (Or.inl ⟨by rfl, ?_⟩) ?_ ?_
           rotate_left
           ·
            intro w'
            go_simp
            with_reducible rfl
           rotate_left
           ·
            simp only [Act.put, List.setIfInBounds_toArray, List.set_cons_zero, List.set_cons_succ, i64_w, i32_w]
            rfl
           refine one_ (i := 12) (N := some 12) (bm 15 8191) rfl rfl (one_of HT_.out (by kernel_rfl)) (by decide) (fun K hK => ?_)
           refine box_step ?hg (N := 12) ?hd (cs := #[.int .u64 0, .int .u64 0, .int .u64 0, .int .u64 0, .int .u64 0, .int .u64 0, .int .u64 0, .int .u64 0, .int .u64 0, .int .u64 0]) (t := 44) ?hr ?_; (case hd => rfl); (case hg => rfl); (case hr => first | (go_simp; done) | (go_simp; rfl))
           intro gb193 hg w72 hbox hb
           have n0_ := Aside0.mk (blk_below (g := gb173) (o := .cells #[.int .u64 a1_0, .int .u64 a1_1, .int .u64 a1_2, .int .u64 a1_3, .int .u64 a1_4, .int .u64 a1_5, .int .u64 a1_6, .int .u64 a1_7, .int .u64 a1_8, .int .u64 a1_9] 42 (0, 0)) (by (with_reducible repeat (first | refine blk_drewN ?_ _ | refine blk_drew ?_ | refine blk_alloc ?_ _)); exact BK173.out) hb)
           have n1_ := Aside0.mk (blk_below (g := gb177) (o := .cells #[.bool t175, .bool t176] 29 (0, 0)) (by (with_reducible repeat (first | refine blk_drewN ?_ _ | refine blk_drew ?_ | refine blk_alloc ?_ _)); exact BK177.out) hb)
           have n2_ := Aside0.mk (below_step (by repeat (first | (with_reducible first | exact HB.out | apply below_alloc | apply pw_below_drewN | apply below_drew1 | refine below_set ?_ GE173.out | refine below_set ?_ GE177.out) | exact HB.out)) hb)
           have n3_ := Aside0.mk (hbox)
           have n4_ := Aside0.mk ((by rw [hg]; exact (below_size (by repeat (first | (with_reducible first | exact HB.out | apply below_alloc | apply pw_below_drewN | apply below_drew1 | refine below_set ?_ GE173.out | refine below_set ?_ GE177.out) | exact HB.out))) : w.heap.size ≤ gb193))
           have n5_ := Aside0.mk ((by rw [hg]; exact (below_size (by repeat (first | (with_reducible first | exact HB.out | apply below_alloc | apply pw_below_drewN | apply below_drew1 | refine below_set ?_ GE173.out | refine below_set ?_ GE177.out) | exact HB.out))) : w.heap.size ≤ gb193))
           have n6_ := Aside0.mk ((by rw [hg]; exact Nat.ne_of_lt (blk_lt (g := gb173) (o := .cells #[.int .u64 a1_0, .int .u64 a1_1, .int .u64 a1_2, .int .u64 a1_3, .int .u64 a1_4, .int .u64 a1_5, .int .u64 a1_6, .int .u64 a1_7, .int .u64 a1_8, .int .u64 a1_9] 42 (0, 0)) (by (with_reducible repeat (first | refine blk_drewN ?_ _ | refine blk_drew ?_ | refine blk_alloc ?_ _)); exact BK173.out)) : gb173 ≠ gb193))
           have n7_ := Aside0.mk ((by rw [hg]; exact Nat.ne_of_gt (blk_lt (g := gb173) (o := .cells #[.int .u64 a1_0, .int .u64 a1_1, .int .u64 a1_2, .int .u64 a1_3, .int .u64 a1_4, .int .u64 a1_5, .int .u64 a1_6, .int .u64 a1_7, .int .u64 a1_8, .int .u64 a1_9] 42 (0, 0)) (by (with_reducible repeat (first | refine blk_drewN ?_ _ | refine blk_drew ?_ | refine blk_alloc ?_ _)); exact BK173.out)) : gb193 ≠ gb173))
           have n8_ := Aside0.mk ((by rw [hg]; exact Nat.ne_of_lt (blk_lt (g := gb177) (o := .cells #[.bool t175, .bool t176] 29 (0, 0)) (by (with_reducible repeat (first | refine blk_drewN ?_ _ | refine blk_drew ?_ | refine blk_alloc ?_ _)); exact BK177.out)) : gb177 ≠ gb193))
           have n9_ := Aside0.mk ((by rw [hg]; exact Nat.ne_of_gt (blk_lt (g := gb177) (o := .cells #[.bool t175, .bool t176] 29 (0, 0)) (by (with_reducible repeat (first | refine blk_drewN ?_ _ | refine blk_drew ?_ | refine blk_alloc ?_ _)); exact BK177.out)) : gb193 ≠ gb177))
           clear BK173
           clear BK177
           clear HB
           have BK173 := n0_
           have BK177 := n1_
           have HB := n2_
           have BK193 := n3_
           have GW193 := n4_
           have GE193 := n5_
           have NB173_193 := n6_
           have NB193_173 := n7_
           have NB177_193 := n8_
           have NB193_177 := n9_
           clear n0_ n1_ n2_ n3_ n4_ n5_ n6_ n7_ n8_ n9_
           clear hb hbox hg
           refine hK.out _ _ ⟨(blk_cell BK177.out 0).trans rfl, (blk_cell BK177.out 1).trans rfl⟩ (fun hHeld => ?_)
           clear hK K
           refine norm_ (a' := ?_) ?_ ?_
           rotate_left
           ·
            show Act.put _ (some 12) _ = _
            simp only [Act.put, List.setIfInBounds_toArray, List.set_cons_zero, List.set_cons_succ, i64_w, i32_w]
            rfl
           exact norm_ (by simp only [putAll, Act.put, List.setIfInBounds_toArray, List.set_cons_zero, List.set_cons_succ]) (hCont (gb193) _ ⟨hHeld, (by (with_reducible repeat (first | refine blk_drewN ?_ _ | refine blk_drew ?_ | refine blk_alloc ?_ _)); exact BK173.out), (by (with_reducible repeat (first | refine blk_drewN ?_ _ | refine blk_drew ?_ | refine blk_alloc ?_ _)); exact BK177.out), (by (with_reducible repeat (first | refine blk_drewN ?_ _ | refine blk_drew ?_ | refine blk_alloc ?_ _)); exact BK193.out), GW193.out, GE193.out, NB173_193.out, NB193_173.out, NB177_193.out, NB193_177.out, (by repeat (first | (with_reducible first | exact HB.out | apply below_alloc | apply pw_below_drewN | apply below_drew1 | refine below_set ?_ GE173.out | refine below_set ?_ GE177.out | refine below_set ?_ GE193.out) | exact HB.out))⟩)
          ·
           skip
           refine box_step ?hg (N := 12) ?hd (cs := #[.int .u64 0, .int .u64 0, .int .u64 0, .int .u64 0, .int .u64 0, .int .u64 0, .int .u64 0, .int .u64 0, .int .u64 0, .int .u64 0]) (t := 44) ?hr ?_; (case hd => rfl); (case hg => rfl); (case hr => first | (go_simp; done) | (go_simp; rfl))
           intro gb193 hg w71 hbox hb
           have n0_ := Aside0.mk (blk_below (g := gb173) (o := .cells #[.int .u64 a1_0, .int .u64 a1_1, .int .u64 a1_2, .int .u64 a1_3, .int .u64 a1_4, .int .u64 a1_5, .int .u64 a1_6, .int .u64 a1_7, .int .u64 a1_8, .int .u64 a1_9] 42 (0, 0)) (by (with_reducible repeat (first | refine blk_drewN ?_ _ | refine blk_drew ?_ | refine blk_alloc ?_ _)); exact BK173.out) hb)
           have n1_ := Aside0.mk (blk_below (g := gb177) (o := .cells #[.bool t175, .bool t176] 29 (0, 0)) (by (with_reducible repeat (first | refine blk_drewN ?_ _ | refine blk_drew ?_ | refine blk_alloc ?_ _)); exact BK177.out) hb)
           have n2_ := Aside0.mk (below_step (by repeat (first | (with_reducible first | exact HB.out | apply below_alloc | apply pw_below_drewN | apply below_drew1 | refine below_set ?_ GE173.out | refine below_set ?_ GE177.out) | exact HB.out)) hb)
           have n3_ := Aside0.mk (hbox)
           have n4_ := Aside0.mk ((by rw [hg]; exact (below_size (by repeat (first | (with_reducible first | exact HB.out | apply below_alloc | apply pw_below_drewN | apply below_drew1 | refine below_set ?_ GE173.out | refine below_set ?_ GE177.out) | exact HB.out))) : w.heap.size ≤ gb193))
           have n5_ := Aside0.mk ((by rw [hg]; exact (below_size (by repeat (first | (with_reducible first | exact HB.out | apply below_alloc | apply pw_below_drewN | apply below_drew1 | refine below_set ?_ GE173.out | refine below_set ?_ GE177.out) | exact HB.out))) : w.heap.size ≤ gb193))
           have n6_ := Aside0.mk ((by rw [hg]; exact Nat.ne_of_lt (blk_lt (g := gb173) (o := .cells #[.int .u64 a1_0, .int .u64 a1_1, .int .u64 a1_2, .int .u64 a1_3, .int .u64 a1_4, .int .u64 a1_5, .int .u64 a1_6, .int .u64 a1_7, .int .u64 a1_8, .int .u64 a1_9] 42 (0, 0)) (by (with_reducible repeat (first | refine blk_drewN ?_ _ | refine blk_drew ?_ | refine blk_alloc ?_ _)); exact BK173.out)) : gb173 ≠ gb193))
           have n7_ := Aside0.mk ((by rw [hg]; exact Nat.ne_of_gt (blk_lt (g := gb173) (o := .cells #[.int .u64 a1_0, .int .u64 a1_1, .int .u64 a1_2, .int .u64 a1_3, .int .u64 a1_4, .int .u64 a1_5, .int .u64 a1_6, .int .u64 a1_7, .int .u64 a1_8, .int .u64 a1_9] 42 (0, 0)) (by (with_reducible repeat (first | refine blk_drewN ?_ _ | refine blk_drew ?_ | refine blk_alloc ?_ _)); exact BK173.out)) : gb193 ≠ gb173))
           have n8_ := Aside0.mk ((by rw [hg]; exact Nat.ne_of_lt (blk_lt (g := gb177) (o := .cells #[.bool t175, .bool t176] 29 (0, 0)) (by (with_reducible repeat (first | refine blk_drewN ?_ _ | refine blk_drew ?_ | refine blk_alloc ?_ _)); exact BK177.out)) : gb177 ≠ gb193))
           have n9_ := Aside0.mk ((by rw [hg]; exact Nat.ne_of_gt (blk_lt (g := gb177) (o := .cells #[.bool t175, .bool t176] 29 (0, 0)) (by (with_reducible repeat (first | refine blk_drewN ?_ _ | refine blk_drew ?_ | refine blk_alloc ?_ _)); exact BK177.out)) : gb193 ≠ gb177))
           clear BK173
           clear BK177
           clear HB
           have BK173 := n0_
           have BK177 := n1_
           have HB := n2_
           have BK193 := n3_
           have GW193 := n4_
           have GE193 := n5_
           have NB173_193 := n6_
           have NB193_173 := n7_
           have NB177_193 := n8_
           have NB193_177 := n9_
           clear n0_ n1_ n2_ n3_ n4_ n5_ n6_ n7_ n8_ n9_
           clear hb hbox hg
           refine hK.out _ _ ⟨(blk_cell BK177.out 0).trans rfl, (blk_cell BK177.out 1).trans rfl⟩ (fun hHeld => ?_)
           clear hK K
           refine norm_ (a' := ?_) ?_ ?_
           rotate_left
           ·
            show Act.put _ (some 12) _ = _
            simp only [Act.put, List.setIfInBounds_toArray, List.set_cons_zero, List.set_cons_succ, i64_w, i32_w]
            rfl
           refine one_ (i := 8) (N := some 51) (bm 15 4607) rfl rfl (one_of HT_.out (by kernel_rfl)) (by decide) (fun K hK => ?_)
           refine goes_ Tryd.func19 (by kernel_rfl) rfl #[.agg #[.bool t175, .bool t176], .string (t178 ++ sc25)] (by rfl) rfl rfl (by (try simp only [List.map_toArray, List.map_cons, List.map_nil]); first | done | rfl | (simp only [List.length_drop, List.length_take]; rfl)) ?_
           with_reducible refine (shdr_Read.calls k t175 t176 (t178 ++ sc25) t182 t183 t184 t185 t186 t187 t188 t189 t190 t191 false _ ?side1 A27.out).mono ?_
           (case side1 => exact Laid_shdr.below HLD_shdr.out (by repeat (first | (with_reducible first | exact HB.out | apply below_alloc | apply pw_below_drewN | apply below_drew1 | refine below_set ?_ GE173.out | refine below_set ?_ GE177.out | refine below_set ?_ GE193.out) | exact HB.out)))
           rintro e w72 ⟨rfl, hb⟩
           refine ⟨_, rfl, ?_⟩
           have n0_ := Aside0.mk (blk_below (g := gb173) (o := .cells #[.int .u64 a1_0, .int .u64 a1_1, .int .u64 a1_2, .int .u64 a1_3, .int .u64 a1_4, .int .u64 a1_5, .int .u64 a1_6, .int .u64 a1_7, .int .u64 a1_8, .int .u64 a1_9] 42 (0, 0)) (by (with_reducible repeat (first | refine blk_drewN ?_ _ | refine blk_drew ?_ | refine blk_alloc ?_ _)); exact BK173.out) hb)
           have n1_ := Aside0.mk (blk_below (g := gb177) (o := .cells #[.bool t175, .bool t176] 29 (0, 0)) (by (with_reducible repeat (first | refine blk_drewN ?_ _ | refine blk_drew ?_ | refine blk_alloc ?_ _)); exact BK177.out) hb)
           have n2_ := Aside0.mk (blk_below (g := gb193) (o := .cells #[.int .u64 0, .int .u64 0, .int .u64 0, .int .u64 0, .int .u64 0, .int .u64 0, .int .u64 0, .int .u64 0, .int .u64 0, .int .u64 0] 44 (0, 0)) (by (with_reducible repeat (first | refine blk_drewN ?_ _ | refine blk_drew ?_ | refine blk_alloc ?_ _)); exact BK193.out) hb)
           have n3_ := Aside0.mk (below_step (by repeat (first | (with_reducible first | exact HB.out | apply below_alloc | apply pw_below_drewN | apply below_drew1 | refine below_set ?_ GE173.out | refine below_set ?_ GE177.out | refine below_set ?_ GE193.out) | exact HB.out)) hb)
           clear BK173
           clear BK177
           clear BK193
           clear HB
           have BK173 := n0_
           have BK177 := n1_
           have BK193 := n2_
           have HB := n3_
           clear n0_ n1_ n2_ n3_
           (try clear hb)
           (try clear hb2)
           (try clear hk)
           (try clear hi)
           refine hK.out _ _ ⟨(blk_cell BK177.out 0).trans rfl, (blk_cell BK177.out 1).trans rfl⟩ (fun hHeld => ?_)
           clear hK K
           refine norm_ (a' := ?_) ?_ ?_
           rotate_left
           ·
            show Act.put _ (some 51) _ = _
            simp only [Act.put, List.setIfInBounds_toArray, List.set_cons_zero, List.set_cons_succ, i64_w, i32_w]
            rfl
           refine pure_ (i := 9) (N := some 42) (v := ?_) (a' := ?_) (bm 15 5119) rfl rfl (any_of HT_.out (by kernel_rfl)) (fun _ _ _ h => h) (Or.inl ⟨by rfl, ?_⟩) ?_ ?_
           rotate_left
           ·
            intro w'
            go_simp
            with_reducible rfl
           rotate_left
           ·
            simp only [Act.put, List.setIfInBounds_toArray, List.set_cons_zero, List.set_cons_succ, i64_w, i32_w]
            rfl
           refine pure_ (i := 10) (N := some 52) (v := ?_) (a' := ?_) (bm 15 6143) rfl rfl (any_of HT_.out (by kernel_rfl)) (fun _ _ _ h => h) (Or.inl ⟨by rfl, ?_⟩) ?_ ?_
           rotate_left
           ·
            intro w'
            go_simp
            with_reducible rfl
           rotate_left
           ·
            simp only [Act.put, List.setIfInBounds_toArray, List.set_cons_zero, List.set_cons_succ, i64_w, i32_w]
            rfl
           refine pure_ (i := 11) (N := some 53) (v := ?_) (a' := ?_) (bm 15 8191) rfl rfl (any_of HT_.out (by kernel_rfl)) (fun _ _ _ h => h) (Or.inl ⟨by rfl, ?_⟩) ?_ ?_
           rotate_left
           ·
            intro w'
            go_simp
            with_reducible rfl
           rotate_left
           ·
            simp only [Act.put, List.setIfInBounds_toArray, List.set_cons_zero, List.set_cons_succ, i64_w, i32_w]
            rfl
           exact norm_ (by simp only [putAll, Act.put, List.setIfInBounds_toArray, List.set_cons_zero, List.set_cons_succ]) (hCont (gb193) _ ⟨hHeld, (by (with_reducible repeat (first | refine blk_drewN ?_ _ | refine blk_drew ?_ | refine blk_alloc ?_ _)); exact BK173.out), (by (with_reducible repeat (first | refine blk_drewN ?_ _ | refine blk_drew ?_ | refine blk_alloc ?_ _)); exact BK177.out), (by (with_reducible repeat (first | refine blk_drewN ?_ _ | refine blk_drew ?_ | refine blk_alloc ?_ _)); exact BK193.out), GW193.out, GE193.out, NB173_193.out, NB193_173.out, NB177_193.out, NB193_177.out, (by repeat (first | (with_reducible first | exact HB.out | apply below_alloc | apply pw_below_drewN | apply below_drew1 | refine below_set ?_ GE173.out | refine below_set ?_ GE177.out | refine below_set ?_ GE193.out) | exact HB.out))⟩)
         rintro gb193 w73 ⟨hS_, h0_, h1_, h2_, h3_, h4_, h5_, h6_, h7_, h8_, h9_⟩
         have n0_ : Aside0 (w73.heap[gb173]? = some (.cells #[.int .u64 a1_0, .int .u64 a1_1, .int .u64 a1_2, .int .u64 a1_3, .int .u64 a1_4, .int .u64 a1_5, .int .u64 a1_6, .int .u64 a1_7, .int .u64 a1_8, .int .u64 a1_9] 42 (0, 0))) := ⟨h0_⟩
         have n1_ : Aside0 (w73.heap[gb177]? = some (.cells #[.bool t175, .bool t176] 29 (0, 0))) := ⟨h1_⟩
         have n2_ : Aside0 (w73.heap[gb193]? = some (.cells #[.int .u64 0, .int .u64 0, .int .u64 0, .int .u64 0, .int .u64 0, .int .u64 0, .int .u64 0, .int .u64 0, .int .u64 0, .int .u64 0] 44 (0, 0))) := ⟨h2_⟩
         have n3_ : Aside0 (w.heap.size ≤ gb193) := ⟨h3_⟩
         have n4_ : Aside0 (w.heap.size ≤ gb193) := ⟨h4_⟩
         have n5_ : Aside0 (gb173 ≠ gb193) := ⟨h5_⟩
         have n6_ : Aside0 (gb193 ≠ gb173) := ⟨h6_⟩
         have n7_ : Aside0 (gb177 ≠ gb193) := ⟨h7_⟩
         have n8_ : Aside0 (gb193 ≠ gb177) := ⟨h8_⟩
         have n9_ : Aside0 (Below w.heap.size w w73) := ⟨h9_⟩
         clear BK173
         clear BK177
         clear HB
         clear h0_ h1_ h2_ h3_ h4_ h5_ h6_ h7_ h8_ h9_
         have BK173 := n0_
         have BK177 := n1_
         have BK193 := n2_
         have GW193 := n3_
         have GE193 := n4_
         have NB173_193 := n5_
         have NB193_173 := n6_
         have NB177_193 := n7_
         have NB193_177 := n8_
         have HB := n9_
         clear n0_ n1_ n2_ n3_ n4_ n5_ n6_ n7_ n8_ n9_
         have hHeld : w73.cell? ⟨gb177, 0, none⟩ = some (.bool t175) ∧ w73.cell? ⟨gb177, 1, none⟩ = some (.bool t176) := hS_
         refine norm_ (a' := ?_) ?_ ?_
         rotate_left
         ·
          simp only [putAll, Act.put, List.setIfInBounds_toArray, List.set_cons_zero, List.set_cons_succ]
          rfl
         refine one_ (i := 13) (N := none) (bm 15 16383) rfl rfl (one_of HT_.out (by kernel_rfl)) (by decide) (fun K hK => ?_)
         have hs74 : w73.cell? ⟨gb193, 0, none⟩ = some (.int .u64 0) := (blk_cell BK193.out 0).trans rfl
         have hfs74 := blk_frozen BK193.out 0
         have hns74_0 := NB173_193.out
         have hns74_1 := NB177_193.out
         have hms74_0 := NB193_173.out
         have hms74_1 := NB193_177.out
         have hs75 : w73.cell? ⟨gb193, 1, none⟩ = some (.int .u64 0) := (blk_cell BK193.out 1).trans rfl
         have hfs75 := blk_frozen BK193.out 1
         have hns75_0 := NB173_193.out
         have hns75_1 := NB177_193.out
         have hms75_0 := NB193_173.out
         have hms75_1 := NB193_177.out
         have hs76 : w73.cell? ⟨gb193, 2, none⟩ = some (.int .u64 0) := (blk_cell BK193.out 2).trans rfl
         have hfs76 := blk_frozen BK193.out 2
         have hns76_0 := NB173_193.out
         have hns76_1 := NB177_193.out
         have hms76_0 := NB193_173.out
         have hms76_1 := NB193_177.out
         have hs77 : w73.cell? ⟨gb193, 3, none⟩ = some (.int .u64 0) := (blk_cell BK193.out 3).trans rfl
         have hfs77 := blk_frozen BK193.out 3
         have hns77_0 := NB173_193.out
         have hns77_1 := NB177_193.out
         have hms77_0 := NB193_173.out
         have hms77_1 := NB193_177.out
         have hs78 : w73.cell? ⟨gb193, 4, none⟩ = some (.int .u64 0) := (blk_cell BK193.out 4).trans rfl
         have hfs78 := blk_frozen BK193.out 4
         have hns78_0 := NB173_193.out
         have hns78_1 := NB177_193.out
         have hms78_0 := NB193_173.out
         have hms78_1 := NB193_177.out
         have hs79 : w73.cell? ⟨gb193, 5, none⟩ = some (.int .u64 0) := (blk_cell BK193.out 5).trans rfl
         have hfs79 := blk_frozen BK193.out 5
         have hns79_0 := NB173_193.out
         have hns79_1 := NB177_193.out
         have hms79_0 := NB193_173.out
         have hms79_1 := NB193_177.out
         have hs80 : w73.cell? ⟨gb193, 6, none⟩ = some (.int .u64 0) := (blk_cell BK193.out 6).trans rfl
         have hfs80 := blk_frozen BK193.out 6
         have hns80_0 := NB173_193.out
         have hns80_1 := NB177_193.out
         have hms80_0 := NB193_173.out
         have hms80_1 := NB193_177.out
         have hs81 : w73.cell? ⟨gb193, 7, none⟩ = some (.int .u64 0) := (blk_cell BK193.out 7).trans rfl
         have hfs81 := blk_frozen BK193.out 7
         have hns81_0 := NB173_193.out
         have hns81_1 := NB177_193.out
         have hms81_0 := NB193_173.out
         have hms81_1 := NB193_177.out
         have hs82 : w73.cell? ⟨gb193, 8, none⟩ = some (.int .u64 0) := (blk_cell BK193.out 8).trans rfl
         have hfs82 := blk_frozen BK193.out 8
         have hns82_0 := NB173_193.out
         have hns82_1 := NB177_193.out
         have hms82_0 := NB193_173.out
         have hms82_1 := NB193_177.out
         have hs83 : w73.cell? ⟨gb193, 9, none⟩ = some (.int .u64 0) := (blk_cell BK193.out 9).trans rfl
         have hfs83 := blk_frozen BK193.out 9
         have hns83_0 := NB173_193.out
         have hns83_1 := NB177_193.out
         have hms83_0 := NB193_173.out
         have hms83_1 := NB193_177.out
         refine skip_ (w1 := ?_) (by rfl) rfl ?_ ?_
         rotate_left
         ·
          go_simp
          rfl
         refine hK.out _ _ ⟨((cell_far (p := ⟨gb193, _, none⟩) NB177_193.out _).trans (((cell_far (p := ⟨gb193, _, none⟩) NB177_193.out _).trans (((cell_far (p := ⟨gb193, _, none⟩) NB177_193.out _).trans (((cell_far (p := ⟨gb193, _, none⟩) NB177_193.out _).trans (((cell_far (p := ⟨gb193, _, none⟩) NB177_193.out _).trans (((cell_far (p := ⟨gb193, _, none⟩) NB177_193.out _).trans (((cell_far (p := ⟨gb193, _, none⟩) NB177_193.out _).trans (((cell_far (p := ⟨gb193, _, none⟩) NB177_193.out _).trans (((cell_far (p := ⟨gb193, _, none⟩) NB177_193.out _).trans (((cell_far (p := ⟨gb193, _, none⟩) NB177_193.out _).trans (hHeld.1)))))))))))))))))))), ((cell_far (p := ⟨gb193, _, none⟩) NB177_193.out _).trans (((cell_far (p := ⟨gb193, _, none⟩) NB177_193.out _).trans (((cell_far (p := ⟨gb193, _, none⟩) NB177_193.out _).trans (((cell_far (p := ⟨gb193, _, none⟩) NB177_193.out _).trans (((cell_far (p := ⟨gb193, _, none⟩) NB177_193.out _).trans (((cell_far (p := ⟨gb193, _, none⟩) NB177_193.out _).trans (((cell_far (p := ⟨gb193, _, none⟩) NB177_193.out _).trans (((cell_far (p := ⟨gb193, _, none⟩) NB177_193.out _).trans (((cell_far (p := ⟨gb193, _, none⟩) NB177_193.out _).trans (((cell_far (p := ⟨gb193, _, none⟩) NB177_193.out _).trans (hHeld.2))))))))))))))))))))⟩ (fun hHeld => ?_)
         clear hK K
         refine pure_ (i := 14) (N := some 13) (v := ?_) (a' := ?_) (bm 15 32767) rfl rfl (any_of HT_.out (by kernel_rfl)) (fun _ _ _ h => h) (Or.inl ⟨by rfl, ?_⟩) ?_ ?_
         rotate_left
         ·
          intro w'
          go_simp
          with_reducible rfl
         rotate_left
         ·
          simp only [Act.put, List.setIfInBounds_toArray, List.set_cons_zero, List.set_cons_succ, i64_w, i32_w]
          rfl
         refine done_ (done_of HT_.out (by kernel_rfl)) ?_
         try go_wp2
         go_ret
         exact ⟨by first | rfl | (simp [errW_none, errW_some] <;> rfl) | (simp only [← hji22]; first | rfl | (simp [errW_none, errW_some] <;> rfl)) | (simp [*, errW_none, errW_some] <;> rfl), by repeat (first | (with_reducible first | exact HB.out | apply below_alloc | apply pw_below_drewN | apply below_drew1 | refine below_set ?_ GE173.out | refine below_set ?_ GE177.out | refine below_set ?_ GE193.out) | exact HB.out)⟩
       ·
        replace c28 := Bool.eq_false_iff.mpr c28
        subst c28
        have H1 : (some true) = some r := by rw [if_neg (show ¬ (false = true) by decide)] at H; exact H
        clear H
        have H := H1
        clear H1
        obtain rfl := Option.some.inj H
        go_enter Tryd.func5, Tryd.ntmps5
        try go_wp2_with (first | ((with_reducible refine gate_dst (N := 4) rfl ?_); refine box_event ?hg (N := 4) ?hd (cs := #[.int .u64 a1_0, .int .u64 a1_1, .int .u64 a1_2, .int .u64 a1_3, .int .u64 a1_4, .int .u64 a1_5, .int .u64 a1_6, .int .u64 a1_7, .int .u64 a1_8, .int .u64 a1_9]) (t := 42) ?hr ?_; (case hd => rfl); (case hg => rfl); (case hr => first | (go_simp; done) | (go_simp; rfl)); intro gb173 hg w84 hbox hb; have n0_ := Aside0.mk (below_step (by repeat (first | (with_reducible first | exact HB.out | apply below_alloc | apply pw_below_drewN | apply below_drew1) | exact HB.out)) hb); have n1_ := Aside0.mk (hbox); have n2_ := Aside0.mk ((by rw [hg]; exact (below_size (by repeat (first | (with_reducible first | exact HB.out | apply below_alloc | apply pw_below_drewN | apply below_drew1) | exact HB.out))) : w.heap.size ≤ gb173)); have n3_ := Aside0.mk ((by rw [hg]; exact (below_size (by repeat (first | (with_reducible first | exact HB.out | apply below_alloc | apply pw_below_drewN | apply below_drew1) | exact HB.out))) : w.heap.size ≤ gb173)); clear HB; have HB := n0_; have BK173 := n1_; have GW173 := n2_; have GE173 := n3_; clear n0_ n1_ n2_ n3_; clear hb hbox hg) | ((with_reducible refine gate_callee (f := 15) rfl ?_); refine goesL_ (some 14) rfl rfl Tryd.func15 (by kernel_rfl) rfl #[] rfl (by (try simp only [List.map_toArray, List.map_cons, List.map_nil]); first | done | rfl | (simp only [List.length_drop, List.length_take]; rfl)) ?_; (with_reducible refine (graverlaw06_speaks.calls k  true _ ?side1 A4.out).mono ?_); (case side1 => exact Laid_shdr.below HLD_shdr.out (by repeat (first | (with_reducible first | exact HB.out | apply below_alloc | apply pw_below_drewN | apply below_drew1 | refine below_set ?_ GE173.out) | exact HB.out))); rintro e w85 ⟨rfl, hb⟩; refine ⟨_, rfl, ?_⟩; have n0_ := Aside0.mk (blk_below (g := gb173) (o := .cells #[.int .u64 a1_0, .int .u64 a1_1, .int .u64 a1_2, .int .u64 a1_3, .int .u64 a1_4, .int .u64 a1_5, .int .u64 a1_6, .int .u64 a1_7, .int .u64 a1_8, .int .u64 a1_9] 42 (0, 0)) (by (with_reducible repeat (first | refine blk_drewN ?_ _ | refine blk_drew ?_ | refine blk_alloc ?_ _)); exact BK173.out) hb); have n1_ := Aside0.mk (below_step (by repeat (first | (with_reducible first | exact HB.out | apply below_alloc | apply pw_below_drewN | apply below_drew1 | refine below_set ?_ GE173.out) | exact HB.out)) hb); clear BK173; clear HB; have BK173 := n0_; have HB := n1_; clear n0_ n1_; (try clear hb); (try clear hb2); (try clear hk); (try clear hi)) | ((with_reducible refine gate_callee (f := 16) rfl ?_); refine goesL_ (some 17) rfl rfl Tryd.func16 (by kernel_rfl) rfl #[.int .i64 a0] rfl (by (try simp only [List.map_toArray, List.map_cons, List.map_nil]); first | done | rfl | (simp only [List.length_drop, List.length_take]; rfl)) ?_; (with_reducible refine (graverlaw06_formOf.calls a0 t175 t176 _ A6.out).mono ?_); rintro e w86 ⟨rfl, hb⟩; refine ⟨_, rfl, ?_⟩; have n0_ := Aside0.mk (blk_below (g := gb173) (o := .cells #[.int .u64 a1_0, .int .u64 a1_1, .int .u64 a1_2, .int .u64 a1_3, .int .u64 a1_4, .int .u64 a1_5, .int .u64 a1_6, .int .u64 a1_7, .int .u64 a1_8, .int .u64 a1_9] 42 (0, 0)) (by (with_reducible repeat (first | refine blk_drewN ?_ _ | refine blk_drew ?_ | refine blk_alloc ?_ _)); exact BK173.out) hb); have n1_ := Aside0.mk (below_step (by repeat (first | (with_reducible first | exact HB.out | apply below_alloc | apply pw_below_drewN | apply below_drew1 | refine below_set ?_ GE173.out) | exact HB.out)) hb); clear BK173; clear HB; have BK173 := n0_; have HB := n1_; clear n0_ n1_; (try clear hb); (try clear hb2); (try clear hk); (try clear hi)) | ((with_reducible refine gate_dst (N := 7) rfl ?_); refine box_event ?hg (N := 7) ?hd (cs := #[.bool false, .bool false]) (t := 29) ?hr ?_; (case hd => rfl); (case hg => rfl); (case hr => first | (go_simp; done) | (go_simp; rfl)); intro gb177 hg w87 hbox hb; have n0_ := Aside0.mk (blk_below (g := gb173) (o := .cells #[.int .u64 a1_0, .int .u64 a1_1, .int .u64 a1_2, .int .u64 a1_3, .int .u64 a1_4, .int .u64 a1_5, .int .u64 a1_6, .int .u64 a1_7, .int .u64 a1_8, .int .u64 a1_9] 42 (0, 0)) (by (with_reducible repeat (first | refine blk_drewN ?_ _ | refine blk_drew ?_ | refine blk_alloc ?_ _)); exact BK173.out) hb); have n1_ := Aside0.mk (below_step (by repeat (first | (with_reducible first | exact HB.out | apply below_alloc | apply pw_below_drewN | apply below_drew1 | refine below_set ?_ GE173.out) | exact HB.out)) hb); have n2_ := Aside0.mk (hbox); have n3_ := Aside0.mk ((by rw [hg]; exact (below_size (by repeat (first | (with_reducible first | exact HB.out | apply below_alloc | apply pw_below_drewN | apply below_drew1 | refine below_set ?_ GE173.out) | exact HB.out))) : w.heap.size ≤ gb177)); have n4_ := Aside0.mk ((by rw [hg]; exact (below_size (by repeat (first | (with_reducible first | exact HB.out | apply below_alloc | apply pw_below_drewN | apply below_drew1 | refine below_set ?_ GE173.out) | exact HB.out))) : w.heap.size ≤ gb177)); have n5_ := Aside0.mk ((by rw [hg]; exact Nat.ne_of_lt (blk_lt (g := gb173) (o := .cells #[.int .u64 a1_0, .int .u64 a1_1, .int .u64 a1_2, .int .u64 a1_3, .int .u64 a1_4, .int .u64 a1_5, .int .u64 a1_6, .int .u64 a1_7, .int .u64 a1_8, .int .u64 a1_9] 42 (0, 0)) (by (with_reducible repeat (first | refine blk_drewN ?_ _ | refine blk_drew ?_ | refine blk_alloc ?_ _)); exact BK173.out)) : gb173 ≠ gb177)); have n6_ := Aside0.mk ((by rw [hg]; exact Nat.ne_of_gt (blk_lt (g := gb173) (o := .cells #[.int .u64 a1_0, .int .u64 a1_1, .int .u64 a1_2, .int .u64 a1_3, .int .u64 a1_4, .int .u64 a1_5, .int .u64 a1_6, .int .u64 a1_7, .int .u64 a1_8, .int .u64 a1_9] 42 (0, 0)) (by (with_reducible repeat (first | refine blk_drewN ?_ _ | refine blk_drew ?_ | refine blk_alloc ?_ _)); exact BK173.out)) : gb177 ≠ gb173)); clear BK173; clear HB; have BK173 := n0_; have HB := n1_; have BK177 := n2_; have GW177 := n3_; have GE177 := n4_; have NB173_177 := n5_; have NB177_173 := n6_; clear n0_ n1_ n2_ n3_ n4_ n5_ n6_; clear hb hbox hg; have hnb88 := NB177_173.out; have hnc88 := NB173_177.out; have hcz89_0 : w87.cell? ⟨gb177, 0, none⟩ = some (.bool false) := (blk_cell BK177.out 0).trans rfl; have hcz89_1 : w87.cell? ⟨gb177, 1, none⟩ = some (.bool false) := (blk_cell BK177.out 1).trans rfl; have hfz89_0 := blk_frozen BK177.out 0; have hfz89_1 := blk_frozen BK177.out 1; have hcz90_0 : w87.cell? ⟨gb173, 0, none⟩ = some (.int .u64 a1_0) := (blk_cell BK173.out 0).trans rfl; have hcz90_1 : w87.cell? ⟨gb173, 1, none⟩ = some (.int .u64 a1_1) := (blk_cell BK173.out 1).trans rfl; have hcz90_2 : w87.cell? ⟨gb173, 2, none⟩ = some (.int .u64 a1_2) := (blk_cell BK173.out 2).trans rfl; have hcz90_3 : w87.cell? ⟨gb173, 3, none⟩ = some (.int .u64 a1_3) := (blk_cell BK173.out 3).trans rfl; have hcz90_4 : w87.cell? ⟨gb173, 4, none⟩ = some (.int .u64 a1_4) := (blk_cell BK173.out 4).trans rfl; have hcz90_5 : w87.cell? ⟨gb173, 5, none⟩ = some (.int .u64 a1_5) := (blk_cell BK173.out 5).trans rfl; have hcz90_6 : w87.cell? ⟨gb173, 6, none⟩ = some (.int .u64 a1_6) := (blk_cell BK173.out 6).trans rfl; have hcz90_7 : w87.cell? ⟨gb173, 7, none⟩ = some (.int .u64 a1_7) := (blk_cell BK173.out 7).trans rfl; have hcz90_8 : w87.cell? ⟨gb173, 8, none⟩ = some (.int .u64 a1_8) := (blk_cell BK173.out 8).trans rfl; have hcz90_9 : w87.cell? ⟨gb173, 9, none⟩ = some (.int .u64 a1_9) := (blk_cell BK173.out 9).trans rfl; have hfz90_0 := blk_frozen BK173.out 0; have hfz90_1 := blk_frozen BK173.out 1; have hfz90_2 := blk_frozen BK173.out 2; have hfz90_3 := blk_frozen BK173.out 3; have hfz90_4 := blk_frozen BK173.out 4; have hfz90_5 := blk_frozen BK173.out 5; have hfz90_6 := blk_frozen BK173.out 6; have hfz90_7 := blk_frozen BK173.out 7; have hfz90_8 := blk_frozen BK173.out 8; have hfz90_9 := blk_frozen BK173.out 9) | ((with_reducible refine gate_callee (f := 17) rfl ?_); refine goesL_ (some 21) rfl rfl Tryd.func17 (by kernel_rfl) rfl #[.agg #[.bool t175, .bool t176], .agg #[.int .u64 a1_0, .int .u64 a1_1, .int .u64 a1_2, .int .u64 a1_3, .int .u64 a1_4, .int .u64 a1_5, .int .u64 a1_6, .int .u64 a1_7, .int .u64 a1_8, .int .u64 a1_9]] rfl (by (try simp only [List.map_toArray, List.map_cons, List.map_nil]); first | done | rfl | (simp only [List.length_drop, List.length_take]; rfl)) ?_; (with_reducible refine (shdr_Put.calls k t175 t176 a1_0 a1_1 a1_2 a1_3 a1_4 a1_5 a1_6 a1_7 a1_8 a1_9 t178 false _ ?side1 A7.out).mono ?_); (case side1 => exact Laid_shdr.below HLD_shdr.out (by repeat (first | (with_reducible first | exact HB.out | apply below_alloc | apply pw_below_drewN | apply below_drew1 | refine below_set ?_ GE173.out | refine below_set ?_ GE177.out) | exact HB.out))); rintro e w91 ⟨rfl, hb⟩; refine ⟨_, rfl, ?_⟩; have n0_ := Aside0.mk (blk_below (g := gb173) (o := .cells #[.int .u64 a1_0, .int .u64 a1_1, .int .u64 a1_2, .int .u64 a1_3, .int .u64 a1_4, .int .u64 a1_5, .int .u64 a1_6, .int .u64 a1_7, .int .u64 a1_8, .int .u64 a1_9] 42 (0, 0)) (by (with_reducible repeat (first | refine blk_drewN ?_ _ | refine blk_drew ?_ | refine blk_alloc ?_ _)); refine blk_far ?_ NB173_177.out _; (with_reducible repeat (first | refine blk_drewN ?_ _ | refine blk_drew ?_ | refine blk_alloc ?_ _)); refine blk_far ?_ NB173_177.out _; (with_reducible repeat (first | refine blk_drewN ?_ _ | refine blk_drew ?_ | refine blk_alloc ?_ _)); exact BK173.out) hb); have n1_ := Aside0.mk (blk_below (g := gb177) (o := .cells #[.bool t175, .bool t176] 29 (0, 0)) (by (with_reducible repeat (first | refine blk_drewN ?_ _ | refine blk_drew ?_ | refine blk_alloc ?_ _)); refine blk_put (cs := #[.bool t175, .bool false]) ?_ 1 _ rfl; (with_reducible repeat (first | refine blk_drewN ?_ _ | refine blk_drew ?_ | refine blk_alloc ?_ _)); refine blk_put (cs := #[.bool false, .bool false]) ?_ 0 _ rfl; (with_reducible repeat (first | refine blk_drewN ?_ _ | refine blk_drew ?_ | refine blk_alloc ?_ _)); exact BK177.out) hb); have n2_ := Aside0.mk (below_step (by repeat (first | (with_reducible first | exact HB.out | apply below_alloc | apply pw_below_drewN | apply below_drew1 | refine below_set ?_ GE173.out | refine below_set ?_ GE177.out) | exact HB.out)) hb); clear BK173; clear BK177; clear HB; have BK173 := n0_; have BK177 := n1_; have HB := n2_; clear n0_ n1_ n2_; (try clear hb); (try clear hb2); (try clear hk); (try clear hi); have hcz92_0 : w91.cell? ⟨gb177, 0, none⟩ = some (.bool t175) := (blk_cell BK177.out 0).trans rfl; have hcz92_1 : w91.cell? ⟨gb177, 1, none⟩ = some (.bool t176) := (blk_cell BK177.out 1).trans rfl; have hfz92_0 := blk_frozen BK177.out 0; have hfz92_1 := blk_frozen BK177.out 1; have hcz93_0 : w91.cell? ⟨gb173, 0, none⟩ = some (.int .u64 a1_0) := (blk_cell BK173.out 0).trans rfl; have hcz93_1 : w91.cell? ⟨gb173, 1, none⟩ = some (.int .u64 a1_1) := (blk_cell BK173.out 1).trans rfl; have hcz93_2 : w91.cell? ⟨gb173, 2, none⟩ = some (.int .u64 a1_2) := (blk_cell BK173.out 2).trans rfl; have hcz93_3 : w91.cell? ⟨gb173, 3, none⟩ = some (.int .u64 a1_3) := (blk_cell BK173.out 3).trans rfl; have hcz93_4 : w91.cell? ⟨gb173, 4, none⟩ = some (.int .u64 a1_4) := (blk_cell BK173.out 4).trans rfl; have hcz93_5 : w91.cell? ⟨gb173, 5, none⟩ = some (.int .u64 a1_5) := (blk_cell BK173.out 5).trans rfl; have hcz93_6 : w91.cell? ⟨gb173, 6, none⟩ = some (.int .u64 a1_6) := (blk_cell BK173.out 6).trans rfl; have hcz93_7 : w91.cell? ⟨gb173, 7, none⟩ = some (.int .u64 a1_7) := (blk_cell BK173.out 7).trans rfl; have hcz93_8 : w91.cell? ⟨gb173, 8, none⟩ = some (.int .u64 a1_8) := (blk_cell BK173.out 8).trans rfl; have hcz93_9 : w91.cell? ⟨gb173, 9, none⟩ = some (.int .u64 a1_9) := (blk_cell BK173.out 9).trans rfl; have hfz93_0 := blk_frozen BK173.out 0; have hfz93_1 := blk_frozen BK173.out 1; have hfz93_2 := blk_frozen BK173.out 2; have hfz93_3 := blk_frozen BK173.out 3; have hfz93_4 := blk_frozen BK173.out 4; have hfz93_5 := blk_frozen BK173.out 5; have hfz93_6 := blk_frozen BK173.out 6; have hfz93_7 := blk_frozen BK173.out 7; have hfz93_8 := blk_frozen BK173.out 8; have hfz93_9 := blk_frozen BK173.out 9) | ((with_reducible refine gate_callee (f := 18) rfl ?_); refine goesL_ (some 31) rfl rfl Tryd.func18 (by kernel_rfl) rfl #[.bool t176, .bool t175, .agg #[.int .u64 a1_0, .int .u64 a1_1, .int .u64 a1_2, .int .u64 a1_3, .int .u64 a1_4, .int .u64 a1_5, .int .u64 a1_6, .int .u64 a1_7, .int .u64 a1_8, .int .u64 a1_9]] rfl (by (try simp only [List.map_toArray, List.map_cons, List.map_nil]); first | done | rfl | (simp only [List.length_drop, List.length_take]; rfl)) ?_; (with_reducible refine (graverref06_Put.calls k t176 t175 a1_0 a1_1 a1_2 a1_3 a1_4 a1_5 a1_6 a1_7 a1_8 a1_9 t180 t181 _ A8.out).mono ?_); rintro e w94 ⟨rfl, hb⟩; refine ⟨_, rfl, ?_⟩; have n0_ := Aside0.mk (blk_below (g := gb173) (o := .cells #[.int .u64 a1_0, .int .u64 a1_1, .int .u64 a1_2, .int .u64 a1_3, .int .u64 a1_4, .int .u64 a1_5, .int .u64 a1_6, .int .u64 a1_7, .int .u64 a1_8, .int .u64 a1_9] 42 (0, 0)) (by (with_reducible repeat (first | refine blk_drewN ?_ _ | refine blk_drew ?_ | refine blk_alloc ?_ _)); exact BK173.out) hb); have n1_ := Aside0.mk (blk_below (g := gb177) (o := .cells #[.bool t175, .bool t176] 29 (0, 0)) (by (with_reducible repeat (first | refine blk_drewN ?_ _ | refine blk_drew ?_ | refine blk_alloc ?_ _)); exact BK177.out) hb); have n2_ := Aside0.mk (below_step (by repeat (first | (with_reducible first | exact HB.out | apply below_alloc | apply pw_below_drewN | apply below_drew1 | refine below_set ?_ GE173.out | refine below_set ?_ GE177.out) | exact HB.out)) hb); clear BK173; clear BK177; clear HB; have BK173 := n0_; have BK177 := n1_; have HB := n2_; clear n0_ n1_ n2_; (try clear hb); (try clear hb2); (try clear hk); (try clear hi)))
        have n0_ := Aside0.mk (blk_drew BK173.out)
        have n1_ := Aside0.mk (blk_drew BK177.out)
        have n2_ := Aside0.mk (below_drew1 HB.out)
        clear BK173
        clear BK177
        clear HB
        have BK173 := n0_
        have BK177 := n1_
        have HB := n2_
        clear n0_ n1_ n2_
        refine start_ (n := 15) (S := fun w' => w'.cell? ⟨gb177, 0, none⟩ = some (.bool t175) ∧ w'.cell? ⟨gb177, 1, none⟩ = some (.bool t176)) (ds := []) #[false, false, false, false, false, false, false, false, false, false, false, false, false, false, false] (by kernel_rfl) rfl rfl ⟨(blk_cell BK177.out 0).trans rfl, (blk_cell BK177.out 1).trans rfl⟩ (fun hHeld => ?_); refine with_tabW graverlaw06_ShdrPuts.tab8 graverlaw06_ShdrPuts.bits8 (fun HT_ HW_ => ?_)
        generalize w94.drew = w95 at BK173 BK177 HB hHeld ⊢
        refine pure_ (i := 1) (N := some 44) (v := ?_) (a' := ?_) (bm 15 2) rfl rfl (any_of HT_.out (by kernel_rfl)) (fun _ _ _ h => h) (Or.inl ⟨by rfl, ?_⟩) ?_ ?_
        rotate_left
        ·
         intro w'
         go_simp
         with_reducible rfl
        rotate_left
        ·
         simp only [Act.put, List.setIfInBounds_toArray, List.set_cons_zero, List.set_cons_succ, i64_w, i32_w]
         rfl
        refine pure_ (i := 2) (N := some 45) (v := ?_) (a' := ?_) (bm 15 6) rfl rfl (any_of HT_.out (by kernel_rfl)) (fun _ _ _ h => h) (Or.inl ⟨by rfl, ?_⟩) ?_ ?_
        rotate_left
        ·
         intro w'
         go_simp
         with_reducible rfl
        rotate_left
        ·
         simp only [Act.put, List.setIfInBounds_toArray, List.set_cons_zero, List.set_cons_succ, i64_w, i32_w]
         rfl
        refine pure_ (i := 3) (N := some 46) (v := ?_) (a' := ?_) (bm 15 14) rfl rfl (any_of HT_.out (by kernel_rfl)) (fun _ _ _ h => h) (Or.inl ⟨by rfl, ?_⟩) ?_ ?_
        rotate_left
        ·
         intro w'
         go_simp
         with_reducible rfl
        rotate_left
        ·
         simp only [Act.put, List.setIfInBounds_toArray, List.set_cons_zero, List.set_cons_succ, i64_w, i32_w]
         rfl
        refine pure_ (i := 4) (N := some 47) (v := ?_) (a' := ?_) (bm 15 30) rfl rfl (any_of HT_.out (by kernel_rfl)) (fun _ _ _ h => h) (Or.inl ⟨by rfl, ?_⟩) ?_ ?_
        rotate_left
        ·
         intro w'
         go_simp
         with_reducible rfl
        rotate_left
        ·
         simp only [Act.put, List.setIfInBounds_toArray, List.set_cons_zero, List.set_cons_succ, i64_w, i32_w]
         rfl
        refine pure_ (i := 5) (N := some 48) (v := ?_) (a' := ?_) (bm 15 62) rfl rfl (any_of HT_.out (by kernel_rfl)) (fun _ _ _ h => h) (Or.inl ⟨by rfl, ?_⟩) ?_ ?_
        rotate_left
        ·
         intro w'
         go_simp
         with_reducible rfl
        rotate_left
        ·
         simp only [Act.put, List.setIfInBounds_toArray, List.set_cons_zero, List.set_cons_succ, i64_w, i32_w]
         rfl
        refine pure_ (i := 6) (N := some 49) (v := ?_) (a' := ?_) (bm 15 126) rfl rfl (any_of HT_.out (by kernel_rfl)) (fun _ _ _ h => h) (Or.inl ⟨by rfl, ?_⟩) ?_ ?_
        rotate_left
        ·
         intro w'
         go_simp
         with_reducible rfl
        rotate_left
        ·
         simp only [Act.put, List.setIfInBounds_toArray, List.set_cons_zero, List.set_cons_succ, i64_w, i32_w]
         rfl
        refine pure_ (i := 7) (N := some 50) (v := ?_) (a' := ?_) (bm 15 254) rfl rfl (any_of HT_.out (by kernel_rfl)) (fun _ _ _ h => h) (Or.inl ⟨by rfl, ?_⟩) ?_ ?_
        rotate_left
        ·
         intro w'
         go_simp
         with_reducible rfl
        rotate_left
        ·
         simp only [Act.put, List.setIfInBounds_toArray, List.set_cons_zero, List.set_cons_succ, i64_w, i32_w]
         rfl
        refine take_ (i := 0) (N := some 43) (v := ?_) (a' := ?_) (bm 15 255) rfl rfl (take_ofW HT_.out HW_.out (by kernel_rfl)) (fun _ _ _ h => h) (Or.inl ⟨by rfl, ?_⟩) hHeld ?_ ?_
        rotate_left
        ·
         rintro w' ⟨s0, s1⟩
         go_simp
         with_reducible rfl
        rotate_left
        ·
         simp only [Act.put, List.setIfInBounds_toArray, List.set_cons_zero, List.set_cons_succ, i64_w, i32_w]
         rfl
        refine join_ (σ := Nat) 2 (bm 15 8191) (fun s_ => [(51, .tuple #[.agg #[.int .u64 t182, .int .u64 t183, .int .u64 t184, .int .u64 t185, .int .u64 t186, .int .u64 t187, .int .u64 t188, .int .u64 t189, .int .u64 t190, .int .u64 t191], .bool t192]), (12, .pointer (some ⟨s_, 0, none⟩)), (42, .tuple #[.agg #[.int .u64 t182, .int .u64 t183, .int .u64 t184, .int .u64 t185, .int .u64 t186, .int .u64 t187, .int .u64 t188, .int .u64 t189, .int .u64 t190, .int .u64 t191], .bool t192]), (52, .agg #[.int .u64 t182, .int .u64 t183, .int .u64 t184, .int .u64 t185, .int .u64 t186, .int .u64 t187, .int .u64 t188, .int .u64 t189, .int .u64 t190, .int .u64 t191]), (53, .bool t192)]) (fun s_ w' => (w'.cell? ⟨gb177, 0, none⟩ = some (.bool t175) ∧ w'.cell? ⟨gb177, 1, none⟩ = some (.bool t176)) ∧ (w'.heap[gb173]? = some (.cells #[.int .u64 a1_0, .int .u64 a1_1, .int .u64 a1_2, .int .u64 a1_3, .int .u64 a1_4, .int .u64 a1_5, .int .u64 a1_6, .int .u64 a1_7, .int .u64 a1_8, .int .u64 a1_9] 42 (0, 0))) ∧ (w'.heap[gb177]? = some (.cells #[.bool t175, .bool t176] 29 (0, 0))) ∧ (w'.heap[s_]? = some (.cells #[.int .u64 0, .int .u64 0, .int .u64 0, .int .u64 0, .int .u64 0, .int .u64 0, .int .u64 0, .int .u64 0, .int .u64 0, .int .u64 0] 44 (0, 0))) ∧ (w.heap.size ≤ s_) ∧ (w.heap.size ≤ s_) ∧ (gb173 ≠ s_) ∧ (s_ ≠ gb173) ∧ (gb177 ≠ s_) ∧ (s_ ≠ gb177) ∧ (Below w.heap.size w w')) ?_ ?_
        rotate_left
        ·
         intro hCont
         refine two_ (i := 8) (j := 12) (Ni := some 51) (Nj := some 12) (bm 15 511) (bm 15 4351) rfl rfl rfl rfl (two_of HT_.out (by kernel_rfl)) (by decide) (by decide) (fun K hK => ?_) (fun K hK => ?_)
         ·
          skip
          refine goes_ Tryd.func19 (by kernel_rfl) rfl #[.agg #[.bool t175, .bool t176], .string (t178 ++ sc25)] (by rfl) rfl rfl (by (try simp only [List.map_toArray, List.map_cons, List.map_nil]); first | done | rfl | (simp only [List.length_drop, List.length_take]; rfl)) ?_
          with_reducible refine (shdr_Read.calls k t175 t176 (t178 ++ sc25) t182 t183 t184 t185 t186 t187 t188 t189 t190 t191 t192 _ ?side1 A27.out).mono ?_
          (case side1 => exact Laid_shdr.below HLD_shdr.out (by repeat (first | (with_reducible first | exact HB.out | apply below_alloc | apply pw_below_drewN | apply below_drew1 | refine below_set ?_ GE173.out | refine below_set ?_ GE177.out) | exact HB.out)))
          rintro e w96 ⟨rfl, hb⟩
          refine ⟨_, rfl, ?_⟩
          have n0_ := Aside0.mk (blk_below (g := gb173) (o := .cells #[.int .u64 a1_0, .int .u64 a1_1, .int .u64 a1_2, .int .u64 a1_3, .int .u64 a1_4, .int .u64 a1_5, .int .u64 a1_6, .int .u64 a1_7, .int .u64 a1_8, .int .u64 a1_9] 42 (0, 0)) (by (with_reducible repeat (first | refine blk_drewN ?_ _ | refine blk_drew ?_ | refine blk_alloc ?_ _)); exact BK173.out) hb)
          have n1_ := Aside0.mk (blk_below (g := gb177) (o := .cells #[.bool t175, .bool t176] 29 (0, 0)) (by (with_reducible repeat (first | refine blk_drewN ?_ _ | refine blk_drew ?_ | refine blk_alloc ?_ _)); exact BK177.out) hb)
          have n2_ := Aside0.mk (below_step (by repeat (first | (with_reducible first | exact HB.out | apply below_alloc | apply pw_below_drewN | apply below_drew1 | refine below_set ?_ GE173.out | refine below_set ?_ GE177.out) | exact HB.out)) hb)
          clear BK173
          clear BK177
          clear HB
          have BK173 := n0_
          have BK177 := n1_
          have HB := n2_
          clear n0_ n1_ n2_
          (try clear hb)
          (try clear hb2)
          (try clear hk)
          (try clear hi)
          refine hK.out _ _ ⟨(blk_cell BK177.out 0).trans rfl, (blk_cell BK177.out 1).trans rfl⟩ (fun hHeld => ?_)
          clear hK K
          refine norm_ (a' := ?_) ?_ ?_
          rotate_left
          ·
           show Act.put _ (some 51) _ = _
           simp only [Act.put, List.setIfInBounds_toArray, List.set_cons_zero, List.set_cons_succ, i64_w, i32_w]
           rfl
          refine pure_ (i := 9) (N := some 42) (v := ?_) (a' := ?_) (bm 15 1023) rfl rfl (any_of HT_.out (by kernel_rfl)) (fun _ _ _ h => h) (Or.inl ⟨by rfl, ?_⟩) ?_ ?_
          rotate_left
          ·
           intro w'
           go_simp
           with_reducible rfl
          rotate_left
          ·
           simp only [Act.put, List.setIfInBounds_toArray, List.set_cons_zero, List.set_cons_succ, i64_w, i32_w]
           rfl
          refine pure_ (i := 10) (N := some 52) (v := ?_) (a' := ?_) (bm 15 2047) rfl rfl (any_of HT_.out (by kernel_rfl)) (fun _ _ _ h => h) (Or.inl ⟨by rfl, ?_⟩) ?_ ?_
          rotate_left
          ·
           intro w'
           go_simp
           with_reducible rfl
          rotate_left
          ·
           simp only [Act.put, List.setIfInBounds_toArray, List.set_cons_zero, List.set_cons_succ, i64_w, i32_w]
           rfl
          refine pure_ (i := 11) (N := some 53) (v := ?_) (a' := ?_) (bm 15 4095) rfl rfl (any_of HT_.out (by kernel_rfl)) (fun _ _ _ h => h) (Or.inl ⟨by rfl, ?_⟩) ?_ ?_
          rotate_left
          ·
           intro w'
           go_simp
           with_reducible rfl
          rotate_left
          ·
           simp only [Act.put, List.setIfInBounds_toArray, List.set_cons_zero, List.set_cons_succ, i64_w, i32_w]
           rfl
          refine one_ (i := 12) (N := some 12) (bm 15 8191) rfl rfl (one_of HT_.out (by kernel_rfl)) (by decide) (fun K hK => ?_)
          refine box_step ?hg (N := 12) ?hd (cs := #[.int .u64 0, .int .u64 0, .int .u64 0, .int .u64 0, .int .u64 0, .int .u64 0, .int .u64 0, .int .u64 0, .int .u64 0, .int .u64 0]) (t := 44) ?hr ?_; (case hd => rfl); (case hg => rfl); (case hr => first | (go_simp; done) | (go_simp; rfl))
          intro gb193 hg w97 hbox hb
          have n0_ := Aside0.mk (blk_below (g := gb173) (o := .cells #[.int .u64 a1_0, .int .u64 a1_1, .int .u64 a1_2, .int .u64 a1_3, .int .u64 a1_4, .int .u64 a1_5, .int .u64 a1_6, .int .u64 a1_7, .int .u64 a1_8, .int .u64 a1_9] 42 (0, 0)) (by (with_reducible repeat (first | refine blk_drewN ?_ _ | refine blk_drew ?_ | refine blk_alloc ?_ _)); exact BK173.out) hb)
          have n1_ := Aside0.mk (blk_below (g := gb177) (o := .cells #[.bool t175, .bool t176] 29 (0, 0)) (by (with_reducible repeat (first | refine blk_drewN ?_ _ | refine blk_drew ?_ | refine blk_alloc ?_ _)); exact BK177.out) hb)
          have n2_ := Aside0.mk (below_step (by repeat (first | (with_reducible first | exact HB.out | apply below_alloc | apply pw_below_drewN | apply below_drew1 | refine below_set ?_ GE173.out | refine below_set ?_ GE177.out) | exact HB.out)) hb)
          have n3_ := Aside0.mk (hbox)
          have n4_ := Aside0.mk ((by rw [hg]; exact (below_size (by repeat (first | (with_reducible first | exact HB.out | apply below_alloc | apply pw_below_drewN | apply below_drew1 | refine below_set ?_ GE173.out | refine below_set ?_ GE177.out) | exact HB.out))) : w.heap.size ≤ gb193))
          have n5_ := Aside0.mk ((by rw [hg]; exact (below_size (by repeat (first | (with_reducible first | exact HB.out | apply below_alloc | apply pw_below_drewN | apply below_drew1 | refine below_set ?_ GE173.out | refine below_set ?_ GE177.out) | exact HB.out))) : w.heap.size ≤ gb193))
          have n6_ := Aside0.mk ((by rw [hg]; exact Nat.ne_of_lt (blk_lt (g := gb173) (o := .cells #[.int .u64 a1_0, .int .u64 a1_1, .int .u64 a1_2, .int .u64 a1_3, .int .u64 a1_4, .int .u64 a1_5, .int .u64 a1_6, .int .u64 a1_7, .int .u64 a1_8, .int .u64 a1_9] 42 (0, 0)) (by (with_reducible repeat (first | refine blk_drewN ?_ _ | refine blk_drew ?_ | refine blk_alloc ?_ _)); exact BK173.out)) : gb173 ≠ gb193))
          have n7_ := Aside0.mk ((by rw [hg]; exact Nat.ne_of_gt (blk_lt (g := gb173) (o := .cells #[.int .u64 a1_0, .int .u64 a1_1, .int .u64 a1_2, .int .u64 a1_3, .int .u64 a1_4, .int .u64 a1_5, .int .u64 a1_6, .int .u64 a1_7, .int .u64 a1_8, .int .u64 a1_9] 42 (0, 0)) (by (with_reducible repeat (first | refine blk_drewN ?_ _ | refine blk_drew ?_ | refine blk_alloc ?_ _)); exact BK173.out)) : gb193 ≠ gb173))
          have n8_ := Aside0.mk ((by rw [hg]; exact Nat.ne_of_lt (blk_lt (g := gb177) (o := .cells #[.bool t175, .bool t176] 29 (0, 0)) (by (with_reducible repeat (first | refine blk_drewN ?_ _ | refine blk_drew ?_ | refine blk_alloc ?_ _)); exact BK177.out)) : gb177 ≠ gb193))
          have n9_ := Aside0.mk ((by rw [hg]; exact Nat.ne_of_gt (blk_lt (g := gb177) (o := .cells #[.bool t175, .bool t176] 29 (0, 0)) (by (with_reducible repeat (first | refine blk_drewN ?_ _ | refine blk_drew ?_ | refine blk_alloc ?_ _)); exact BK177.out)) : gb193 ≠ gb177))
          clear BK173
          clear BK177
          clear HB
          have BK173 := n0_
          have BK177 := n1_
          have HB := n2_
          have BK193 := n3_
          have GW193 := n4_
          have GE193 := n5_
          have NB173_193 := n6_
          have NB193_173 := n7_
          have NB177_193 := n8_
          have NB193_177 := n9_
          clear n0_ n1_ n2_ n3_ n4_ n5_ n6_ n7_ n8_ n9_
          clear hb hbox hg
          refine hK.out _ _ ⟨(blk_cell BK177.out 0).trans rfl, (blk_cell BK177.out 1).trans rfl⟩ (fun hHeld => ?_)
          clear hK K
          refine norm_ (a' := ?_) ?_ ?_
          rotate_left
          ·
           show Act.put _ (some 12) _ = _
           simp only [Act.put, List.setIfInBounds_toArray, List.set_cons_zero, List.set_cons_succ, i64_w, i32_w]
           rfl
          exact norm_ (by simp only [putAll, Act.put, List.setIfInBounds_toArray, List.set_cons_zero, List.set_cons_succ]) (hCont (gb193) _ ⟨hHeld, (by (with_reducible repeat (first | refine blk_drewN ?_ _ | refine blk_drew ?_ | refine blk_alloc ?_ _)); exact BK173.out), (by (with_reducible repeat (first | refine blk_drewN ?_ _ | refine blk_drew ?_ | refine blk_alloc ?_ _)); exact BK177.out), (by (with_reducible repeat (first | refine blk_drewN ?_ _ | refine blk_drew ?_ | refine blk_alloc ?_ _)); exact BK193.out), GW193.out, GE193.out, NB173_193.out, NB193_173.out, NB177_193.out, NB193_177.out, (by repeat (first | (with_reducible first | exact HB.out | apply below_alloc | apply pw_below_drewN | apply below_drew1 | refine below_set ?_ GE173.out | refine below_set ?_ GE177.out | refine below_set ?_ GE193.out) | exact HB.out))⟩)
         ·
          skip
          refine box_step ?hg (N := 12) ?hd (cs := #[.int .u64 0, .int .u64 0, .int .u64 0, .int .u64 0, .int .u64 0, .int .u64 0, .int .u64 0, .int .u64 0, .int .u64 0, .int .u64 0]) (t := 44) ?hr ?_; (case hd => rfl); (case hg => rfl); (case hr => first | (go_simp; done) | (go_simp; rfl))
          intro gb193 hg w96 hbox hb
          have n0_ := Aside0.mk (blk_below (g := gb173) (o := .cells #[.int .u64 a1_0, .int .u64 a1_1, .int .u64 a1_2, .int .u64 a1_3, .int .u64 a1_4, .int .u64 a1_5, .int .u64 a1_6, .int .u64 a1_7, .int .u64 a1_8, .int .u64 a1_9] 42 (0, 0)) (by (with_reducible repeat (first | refine blk_drewN ?_ _ | refine blk_drew ?_ | refine blk_alloc ?_ _)); exact BK173.out) hb)
          have n1_ := Aside0.mk (blk_below (g := gb177) (o := .cells #[.bool t175, .bool t176] 29 (0, 0)) (by (with_reducible repeat (first | refine blk_drewN ?_ _ | refine blk_drew ?_ | refine blk_alloc ?_ _)); exact BK177.out) hb)
          have n2_ := Aside0.mk (below_step (by repeat (first | (with_reducible first | exact HB.out | apply below_alloc | apply pw_below_drewN | apply below_drew1 | refine below_set ?_ GE173.out | refine below_set ?_ GE177.out) | exact HB.out)) hb)
          have n3_ := Aside0.mk (hbox)
          have n4_ := Aside0.mk ((by rw [hg]; exact (below_size (by repeat (first | (with_reducible first | exact HB.out | apply below_alloc | apply pw_below_drewN | apply below_drew1 | refine below_set ?_ GE173.out | refine below_set ?_ GE177.out) | exact HB.out))) : w.heap.size ≤ gb193))
          have n5_ := Aside0.mk ((by rw [hg]; exact (below_size (by repeat (first | (with_reducible first | exact HB.out | apply below_alloc | apply pw_below_drewN | apply below_drew1 | refine below_set ?_ GE173.out | refine below_set ?_ GE177.out) | exact HB.out))) : w.heap.size ≤ gb193))
          have n6_ := Aside0.mk ((by rw [hg]; exact Nat.ne_of_lt (blk_lt (g := gb173) (o := .cells #[.int .u64 a1_0, .int .u64 a1_1, .int .u64 a1_2, .int .u64 a1_3, .int .u64 a1_4, .int .u64 a1_5, .int .u64 a1_6, .int .u64 a1_7, .int .u64 a1_8, .int .u64 a1_9] 42 (0, 0)) (by (with_reducible repeat (first | refine blk_drewN ?_ _ | refine blk_drew ?_ | refine blk_alloc ?_ _)); exact BK173.out)) : gb173 ≠ gb193))
          have n7_ := Aside0.mk ((by rw [hg]; exact Nat.ne_of_gt (blk_lt (g := gb173) (o := .cells #[.int .u64 a1_0, .int .u64 a1_1, .int .u64 a1_2, .int .u64 a1_3, .int .u64 a1_4, .int .u64 a1_5, .int .u64 a1_6, .int .u64 a1_7, .int .u64 a1_8, .int .u64 a1_9] 42 (0, 0)) (by (with_reducible repeat (first | refine blk_drewN ?_ _ | refine blk_drew ?_ | refine blk_alloc ?_ _)); exact BK173.out)) : gb193 ≠ gb173))
          have n8_ := Aside0.mk ((by rw [hg]; exact Nat.ne_of_lt (blk_lt (g := gb177) (o := .cells #[.bool t175, .bool t176] 29 (0, 0)) (by (with_reducible repeat (first | refine blk_drewN ?_ _ | refine blk_drew ?_ | refine blk_alloc ?_ _)); exact BK177.out)) : gb177 ≠ gb193))
          have n9_ := Aside0.mk ((by rw [hg]; exact Nat.ne_of_gt (blk_lt (g := gb177) (o := .cells #[.bool t175, .bool t176] 29 (0, 0)) (by (with_reducible repeat (first | refine blk_drewN ?_ _ | refine blk_drew ?_ | refine blk_alloc ?_ _)); exact BK177.out)) : gb193 ≠ gb177))
          clear BK173
          clear BK177
          clear HB
          have BK173 := n0_
          have BK177 := n1_
          have HB := n2_
          have BK193 := n3_
          have GW193 := n4_
          have GE193 := n5_
          have NB173_193 := n6_
          have NB193_173 := n7_
          have NB177_193 := n8_
          have NB193_177 := n9_
          clear n0_ n1_ n2_ n3_ n4_ n5_ n6_ n7_ n8_ n9_
          clear hb hbox hg
          refine hK.out _ _ ⟨(blk_cell BK177.out 0).trans rfl, (blk_cell BK177.out 1).trans rfl⟩ (fun hHeld => ?_)
          clear hK K
          refine norm_ (a' := ?_) ?_ ?_
          rotate_left
          ·
           show Act.put _ (some 12) _ = _
           simp only [Act.put, List.setIfInBounds_toArray, List.set_cons_zero, List.set_cons_succ, i64_w, i32_w]
           rfl
          refine one_ (i := 8) (N := some 51) (bm 15 4607) rfl rfl (one_of HT_.out (by kernel_rfl)) (by decide) (fun K hK => ?_)
          refine goes_ Tryd.func19 (by kernel_rfl) rfl #[.agg #[.bool t175, .bool t176], .string (t178 ++ sc25)] (by rfl) rfl rfl (by (try simp only [List.map_toArray, List.map_cons, List.map_nil]); first | done | rfl | (simp only [List.length_drop, List.length_take]; rfl)) ?_
          with_reducible refine (shdr_Read.calls k t175 t176 (t178 ++ sc25) t182 t183 t184 t185 t186 t187 t188 t189 t190 t191 t192 _ ?side1 A27.out).mono ?_
          (case side1 => exact Laid_shdr.below HLD_shdr.out (by repeat (first | (with_reducible first | exact HB.out | apply below_alloc | apply pw_below_drewN | apply below_drew1 | refine below_set ?_ GE173.out | refine below_set ?_ GE177.out | refine below_set ?_ GE193.out) | exact HB.out)))
          rintro e w97 ⟨rfl, hb⟩
          refine ⟨_, rfl, ?_⟩
          have n0_ := Aside0.mk (blk_below (g := gb173) (o := .cells #[.int .u64 a1_0, .int .u64 a1_1, .int .u64 a1_2, .int .u64 a1_3, .int .u64 a1_4, .int .u64 a1_5, .int .u64 a1_6, .int .u64 a1_7, .int .u64 a1_8, .int .u64 a1_9] 42 (0, 0)) (by (with_reducible repeat (first | refine blk_drewN ?_ _ | refine blk_drew ?_ | refine blk_alloc ?_ _)); exact BK173.out) hb)
          have n1_ := Aside0.mk (blk_below (g := gb177) (o := .cells #[.bool t175, .bool t176] 29 (0, 0)) (by (with_reducible repeat (first | refine blk_drewN ?_ _ | refine blk_drew ?_ | refine blk_alloc ?_ _)); exact BK177.out) hb)
          have n2_ := Aside0.mk (blk_below (g := gb193) (o := .cells #[.int .u64 0, .int .u64 0, .int .u64 0, .int .u64 0, .int .u64 0, .int .u64 0, .int .u64 0, .int .u64 0, .int .u64 0, .int .u64 0] 44 (0, 0)) (by (with_reducible repeat (first | refine blk_drewN ?_ _ | refine blk_drew ?_ | refine blk_alloc ?_ _)); exact BK193.out) hb)
          have n3_ := Aside0.mk (below_step (by repeat (first | (with_reducible first | exact HB.out | apply below_alloc | apply pw_below_drewN | apply below_drew1 | refine below_set ?_ GE173.out | refine below_set ?_ GE177.out | refine below_set ?_ GE193.out) | exact HB.out)) hb)
          clear BK173
          clear BK177
          clear BK193
          clear HB
          have BK173 := n0_
          have BK177 := n1_
          have BK193 := n2_
          have HB := n3_
          clear n0_ n1_ n2_ n3_
          (try clear hb)
          (try clear hb2)
          (try clear hk)
          (try clear hi)
          refine hK.out _ _ ⟨(blk_cell BK177.out 0).trans rfl, (blk_cell BK177.out 1).trans rfl⟩ (fun hHeld => ?_)
          clear hK K
          refine norm_ (a' := ?_) ?_ ?_
          rotate_left
          ·
           show Act.put _ (some 51) _ = _
           simp only [Act.put, List.setIfInBounds_toArray, List.set_cons_zero, List.set_cons_succ, i64_w, i32_w]
           rfl
          refine pure_ (i := 9) (N := some 42) (v := ?_) (a' := ?_) (bm 15 5119) rfl rfl (any_of HT_.out (by kernel_rfl)) (fun _ _ _ h => h) (Or.inl ⟨by rfl, ?_⟩) ?_ ?_
          rotate_left
          ·
           intro w'
           go_simp
           with_reducible rfl
          rotate_left
          ·
           simp only [Act.put, List.setIfInBounds_toArray, List.set_cons_zero, List.set_cons_succ, i64_w, i32_w]
           rfl
          refine pure_ (i := 10) (N := some 52) (v := ?_) (a' := ?_) (bm 15 6143) rfl rfl (any_of HT_.out (by kernel_rfl)) (fun _ _ _ h => h) (Or.inl ⟨by rfl, ?_⟩) ?_ ?_
          rotate_left
          ·
           intro w'
           go_simp
           with_reducible rfl
          rotate_left
          ·
           simp only [Act.put, List.setIfInBounds_toArray, List.set_cons_zero, List.set_cons_succ, i64_w, i32_w]
           rfl
          refine pure_ (i := 11) (N := some 53) (v := ?_) (a' := ?_) (bm 15 8191) rfl rfl (any_of HT_.out (by kernel_rfl)) (fun _ _ _ h => h) (Or.inl ⟨by rfl, ?_⟩) ?_ ?_
          rotate_left
          ·
           intro w'
           go_simp
           with_reducible rfl
          rotate_left
          ·
           simp only [Act.put, List.setIfInBounds_toArray, List.set_cons_zero, List.set_cons_succ, i64_w, i32_w]
           rfl
          exact norm_ (by simp only [putAll, Act.put, List.setIfInBounds_toArray, List.set_cons_zero, List.set_cons_succ]) (hCont (gb193) _ ⟨hHeld, (by (with_reducible repeat (first | refine blk_drewN ?_ _ | refine blk_drew ?_ | refine blk_alloc ?_ _)); exact BK173.out), (by (with_reducible repeat (first | refine blk_drewN ?_ _ | refine blk_drew ?_ | refine blk_alloc ?_ _)); exact BK177.out), (by (with_reducible repeat (first | refine blk_drewN ?_ _ | refine blk_drew ?_ | refine blk_alloc ?_ _)); exact BK193.out), GW193.out, GE193.out, NB173_193.out, NB193_173.out, NB177_193.out, NB193_177.out, (by repeat (first | (with_reducible first | exact HB.out | apply below_alloc | apply pw_below_drewN | apply below_drew1 | refine below_set ?_ GE173.out | refine below_set ?_ GE177.out | refine below_set ?_ GE193.out) | exact HB.out))⟩)
        rintro gb193 w98 ⟨hS_, h0_, h1_, h2_, h3_, h4_, h5_, h6_, h7_, h8_, h9_⟩
        have n0_ : Aside0 (w98.heap[gb173]? = some (.cells #[.int .u64 a1_0, .int .u64 a1_1, .int .u64 a1_2, .int .u64 a1_3, .int .u64 a1_4, .int .u64 a1_5, .int .u64 a1_6, .int .u64 a1_7, .int .u64 a1_8, .int .u64 a1_9] 42 (0, 0))) := ⟨h0_⟩
        have n1_ : Aside0 (w98.heap[gb177]? = some (.cells #[.bool t175, .bool t176] 29 (0, 0))) := ⟨h1_⟩
        have n2_ : Aside0 (w98.heap[gb193]? = some (.cells #[.int .u64 0, .int .u64 0, .int .u64 0, .int .u64 0, .int .u64 0, .int .u64 0, .int .u64 0, .int .u64 0, .int .u64 0, .int .u64 0] 44 (0, 0))) := ⟨h2_⟩
        have n3_ : Aside0 (w.heap.size ≤ gb193) := ⟨h3_⟩
        have n4_ : Aside0 (w.heap.size ≤ gb193) := ⟨h4_⟩
        have n5_ : Aside0 (gb173 ≠ gb193) := ⟨h5_⟩
        have n6_ : Aside0 (gb193 ≠ gb173) := ⟨h6_⟩
        have n7_ : Aside0 (gb177 ≠ gb193) := ⟨h7_⟩
        have n8_ : Aside0 (gb193 ≠ gb177) := ⟨h8_⟩
        have n9_ : Aside0 (Below w.heap.size w w98) := ⟨h9_⟩
        clear BK173
        clear BK177
        clear HB
        clear h0_ h1_ h2_ h3_ h4_ h5_ h6_ h7_ h8_ h9_
        have BK173 := n0_
        have BK177 := n1_
        have BK193 := n2_
        have GW193 := n3_
        have GE193 := n4_
        have NB173_193 := n5_
        have NB193_173 := n6_
        have NB177_193 := n7_
        have NB193_177 := n8_
        have HB := n9_
        clear n0_ n1_ n2_ n3_ n4_ n5_ n6_ n7_ n8_ n9_
        have hHeld : w98.cell? ⟨gb177, 0, none⟩ = some (.bool t175) ∧ w98.cell? ⟨gb177, 1, none⟩ = some (.bool t176) := hS_
        refine norm_ (a' := ?_) ?_ ?_
        rotate_left
        ·
         simp only [putAll, Act.put, List.setIfInBounds_toArray, List.set_cons_zero, List.set_cons_succ]
         rfl
        refine one_ (i := 13) (N := none) (bm 15 16383) rfl rfl (one_of HT_.out (by kernel_rfl)) (by decide) (fun K hK => ?_)
        have hs99 : w98.cell? ⟨gb193, 0, none⟩ = some (.int .u64 0) := (blk_cell BK193.out 0).trans rfl
        have hfs99 := blk_frozen BK193.out 0
        have hns99_0 := NB173_193.out
        have hns99_1 := NB177_193.out
        have hms99_0 := NB193_173.out
        have hms99_1 := NB193_177.out
        have hs100 : w98.cell? ⟨gb193, 1, none⟩ = some (.int .u64 0) := (blk_cell BK193.out 1).trans rfl
        have hfs100 := blk_frozen BK193.out 1
        have hns100_0 := NB173_193.out
        have hns100_1 := NB177_193.out
        have hms100_0 := NB193_173.out
        have hms100_1 := NB193_177.out
        have hs101 : w98.cell? ⟨gb193, 2, none⟩ = some (.int .u64 0) := (blk_cell BK193.out 2).trans rfl
        have hfs101 := blk_frozen BK193.out 2
        have hns101_0 := NB173_193.out
        have hns101_1 := NB177_193.out
        have hms101_0 := NB193_173.out
        have hms101_1 := NB193_177.out
        have hs102 : w98.cell? ⟨gb193, 3, none⟩ = some (.int .u64 0) := (blk_cell BK193.out 3).trans rfl
        have hfs102 := blk_frozen BK193.out 3
        have hns102_0 := NB173_193.out
        have hns102_1 := NB177_193.out
        have hms102_0 := NB193_173.out
        have hms102_1 := NB193_177.out
        have hs103 : w98.cell? ⟨gb193, 4, none⟩ = some (.int .u64 0) := (blk_cell BK193.out 4).trans rfl
        have hfs103 := blk_frozen BK193.out 4
        have hns103_0 := NB173_193.out
        have hns103_1 := NB177_193.out
        have hms103_0 := NB193_173.out
        have hms103_1 := NB193_177.out
        have hs104 : w98.cell? ⟨gb193, 5, none⟩ = some (.int .u64 0) := (blk_cell BK193.out 5).trans rfl
        have hfs104 := blk_frozen BK193.out 5
        have hns104_0 := NB173_193.out
        have hns104_1 := NB177_193.out
        have hms104_0 := NB193_173.out
        have hms104_1 := NB193_177.out
        have hs105 : w98.cell? ⟨gb193, 6, none⟩ = some (.int .u64 0) := (blk_cell BK193.out 6).trans rfl
        have hfs105 := blk_frozen BK193.out 6
        have hns105_0 := NB173_193.out
        have hns105_1 := NB177_193.out
        have hms105_0 := NB193_173.out
        have hms105_1 := NB193_177.out
        have hs106 : w98.cell? ⟨gb193, 7, none⟩ = some (.int .u64 0) := (blk_cell BK193.out 7).trans rfl
        have hfs106 := blk_frozen BK193.out 7
        have hns106_0 := NB173_193.out
        have hns106_1 := NB177_193.out
        have hms106_0 := NB193_173.out
        have hms106_1 := NB193_177.out
        have hs107 : w98.cell? ⟨gb193, 8, none⟩ = some (.int .u64 0) := (blk_cell BK193.out 8).trans rfl
        have hfs107 := blk_frozen BK193.out 8
        have hns107_0 := NB173_193.out
        have hns107_1 := NB177_193.out
        have hms107_0 := NB193_173.out
        have hms107_1 := NB193_177.out
        have hs108 : w98.cell? ⟨gb193, 9, none⟩ = some (.int .u64 0) := (blk_cell BK193.out 9).trans rfl
        have hfs108 := blk_frozen BK193.out 9
        have hns108_0 := NB173_193.out
        have hns108_1 := NB177_193.out
        have hms108_0 := NB193_173.out
        have hms108_1 := NB193_177.out
        refine skip_ (w1 := ?_) (by rfl) rfl ?_ ?_
        rotate_left
        ·
         go_simp
         rfl
        refine hK.out _ _ ⟨((cell_far (p := ⟨gb193, _, none⟩) NB177_193.out _).trans (((cell_far (p := ⟨gb193, _, none⟩) NB177_193.out _).trans (((cell_far (p := ⟨gb193, _, none⟩) NB177_193.out _).trans (((cell_far (p := ⟨gb193, _, none⟩) NB177_193.out _).trans (((cell_far (p := ⟨gb193, _, none⟩) NB177_193.out _).trans (((cell_far (p := ⟨gb193, _, none⟩) NB177_193.out _).trans (((cell_far (p := ⟨gb193, _, none⟩) NB177_193.out _).trans (((cell_far (p := ⟨gb193, _, none⟩) NB177_193.out _).trans (((cell_far (p := ⟨gb193, _, none⟩) NB177_193.out _).trans (((cell_far (p := ⟨gb193, _, none⟩) NB177_193.out _).trans (hHeld.1)))))))))))))))))))), ((cell_far (p := ⟨gb193, _, none⟩) NB177_193.out _).trans (((cell_far (p := ⟨gb193, _, none⟩) NB177_193.out _).trans (((cell_far (p := ⟨gb193, _, none⟩) NB177_193.out _).trans (((cell_far (p := ⟨gb193, _, none⟩) NB177_193.out _).trans (((cell_far (p := ⟨gb193, _, none⟩) NB177_193.out _).trans (((cell_far (p := ⟨gb193, _, none⟩) NB177_193.out _).trans (((cell_far (p := ⟨gb193, _, none⟩) NB177_193.out _).trans (((cell_far (p := ⟨gb193, _, none⟩) NB177_193.out _).trans (((cell_far (p := ⟨gb193, _, none⟩) NB177_193.out _).trans (((cell_far (p := ⟨gb193, _, none⟩) NB177_193.out _).trans (hHeld.2))))))))))))))))))))⟩ (fun hHeld => ?_)
        clear hK K
        refine pure_ (i := 14) (N := some 13) (v := ?_) (a' := ?_) (bm 15 32767) rfl rfl (any_of HT_.out (by kernel_rfl)) (fun _ _ _ h => h) (Or.inl ⟨by rfl, ?_⟩) ?_ ?_
        rotate_left
        ·
         intro w'
         go_simp
         with_reducible rfl
        rotate_left
        ·
         simp only [Act.put, List.setIfInBounds_toArray, List.set_cons_zero, List.set_cons_succ, i64_w, i32_w]
         rfl
        refine done_ (done_of HT_.out (by kernel_rfl)) ?_
        try go_wp2
        go_ret
        exact ⟨by first | rfl | (simp [errW_none, errW_some] <;> rfl) | (simp only [← hji22]; first | rfl | (simp [errW_none, errW_some] <;> rfl)) | (simp [*, errW_none, errW_some] <;> rfl), by repeat (first | (with_reducible first | exact HB.out | apply below_alloc | apply pw_below_drewN | apply below_drew1 | refine below_set ?_ GE173.out | refine below_set ?_ GE177.out | refine below_set ?_ GE193.out) | exact HB.out)⟩
      ·
       rw [if_neg c26] at H
       exact absurd H (by simp)
     ·
      rw [if_neg c24] at H
      exact absurd H (by simp)
    ·
     rw [if_neg c23] at H
     exact absurd H (by simp)
  ·
   rw [if_neg c9] at H
   have c9b0 : (t178.toList == t180.toList) = false := beq_eq_false_iff_ne.mpr c9
   have c9b1 : (t178.toList != t180.toList) = true := bne_iff_ne.mpr c9
   obtain rfl := Option.some.inj H
   go_enter Tryd.func5, Tryd.ntmps5
   go_wp2_with (first | ((with_reducible refine gate_dst (N := 4) rfl ?_); refine box_event ?hg (N := 4) ?hd (cs := #[.int .u64 a1_0, .int .u64 a1_1, .int .u64 a1_2, .int .u64 a1_3, .int .u64 a1_4, .int .u64 a1_5, .int .u64 a1_6, .int .u64 a1_7, .int .u64 a1_8, .int .u64 a1_9]) (t := 42) ?hr ?_; (case hd => rfl); (case hg => rfl); (case hr => first | (go_simp; done) | (go_simp; rfl)); intro gb173 hg w109 hbox hb; have n0_ := Aside0.mk (below_step (by repeat (first | (with_reducible first | exact HB.out | apply below_alloc | apply pw_below_drewN | apply below_drew1) | exact HB.out)) hb); have n1_ := Aside0.mk (hbox); have n2_ := Aside0.mk ((by rw [hg]; exact (below_size (by repeat (first | (with_reducible first | exact HB.out | apply below_alloc | apply pw_below_drewN | apply below_drew1) | exact HB.out))) : w.heap.size ≤ gb173)); have n3_ := Aside0.mk ((by rw [hg]; exact (below_size (by repeat (first | (with_reducible first | exact HB.out | apply below_alloc | apply pw_below_drewN | apply below_drew1) | exact HB.out))) : w.heap.size ≤ gb173)); clear HB; have HB := n0_; have BK173 := n1_; have GW173 := n2_; have GE173 := n3_; clear n0_ n1_ n2_ n3_; clear hb hbox hg) | ((with_reducible refine gate_callee (f := 15) rfl ?_); refine goesL_ (some 14) rfl rfl Tryd.func15 (by kernel_rfl) rfl #[] rfl (by (try simp only [List.map_toArray, List.map_cons, List.map_nil]); first | done | rfl | (simp only [List.length_drop, List.length_take]; rfl)) ?_; (with_reducible refine (graverlaw06_speaks.calls k  true _ ?side1 A4.out).mono ?_); (case side1 => exact Laid_shdr.below HLD_shdr.out (by repeat (first | (with_reducible first | exact HB.out | apply below_alloc | apply pw_below_drewN | apply below_drew1 | refine below_set ?_ GE173.out) | exact HB.out))); rintro e w110 ⟨rfl, hb⟩; refine ⟨_, rfl, ?_⟩; have n0_ := Aside0.mk (blk_below (g := gb173) (o := .cells #[.int .u64 a1_0, .int .u64 a1_1, .int .u64 a1_2, .int .u64 a1_3, .int .u64 a1_4, .int .u64 a1_5, .int .u64 a1_6, .int .u64 a1_7, .int .u64 a1_8, .int .u64 a1_9] 42 (0, 0)) (by (with_reducible repeat (first | refine blk_drewN ?_ _ | refine blk_drew ?_ | refine blk_alloc ?_ _)); exact BK173.out) hb); have n1_ := Aside0.mk (below_step (by repeat (first | (with_reducible first | exact HB.out | apply below_alloc | apply pw_below_drewN | apply below_drew1 | refine below_set ?_ GE173.out) | exact HB.out)) hb); clear BK173; clear HB; have BK173 := n0_; have HB := n1_; clear n0_ n1_; (try clear hb); (try clear hb2); (try clear hk); (try clear hi)) | ((with_reducible refine gate_callee (f := 16) rfl ?_); refine goesL_ (some 17) rfl rfl Tryd.func16 (by kernel_rfl) rfl #[.int .i64 a0] rfl (by (try simp only [List.map_toArray, List.map_cons, List.map_nil]); first | done | rfl | (simp only [List.length_drop, List.length_take]; rfl)) ?_; (with_reducible refine (graverlaw06_formOf.calls a0 t175 t176 _ A6.out).mono ?_); rintro e w111 ⟨rfl, hb⟩; refine ⟨_, rfl, ?_⟩; have n0_ := Aside0.mk (blk_below (g := gb173) (o := .cells #[.int .u64 a1_0, .int .u64 a1_1, .int .u64 a1_2, .int .u64 a1_3, .int .u64 a1_4, .int .u64 a1_5, .int .u64 a1_6, .int .u64 a1_7, .int .u64 a1_8, .int .u64 a1_9] 42 (0, 0)) (by (with_reducible repeat (first | refine blk_drewN ?_ _ | refine blk_drew ?_ | refine blk_alloc ?_ _)); exact BK173.out) hb); have n1_ := Aside0.mk (below_step (by repeat (first | (with_reducible first | exact HB.out | apply below_alloc | apply pw_below_drewN | apply below_drew1 | refine below_set ?_ GE173.out) | exact HB.out)) hb); clear BK173; clear HB; have BK173 := n0_; have HB := n1_; clear n0_ n1_; (try clear hb); (try clear hb2); (try clear hk); (try clear hi)) | ((with_reducible refine gate_dst (N := 7) rfl ?_); refine box_event ?hg (N := 7) ?hd (cs := #[.bool false, .bool false]) (t := 29) ?hr ?_; (case hd => rfl); (case hg => rfl); (case hr => first | (go_simp; done) | (go_simp; rfl)); intro gb177 hg w112 hbox hb; have n0_ := Aside0.mk (blk_below (g := gb173) (o := .cells #[.int .u64 a1_0, .int .u64 a1_1, .int .u64 a1_2, .int .u64 a1_3, .int .u64 a1_4, .int .u64 a1_5, .int .u64 a1_6, .int .u64 a1_7, .int .u64 a1_8, .int .u64 a1_9] 42 (0, 0)) (by (with_reducible repeat (first | refine blk_drewN ?_ _ | refine blk_drew ?_ | refine blk_alloc ?_ _)); exact BK173.out) hb); have n1_ := Aside0.mk (below_step (by repeat (first | (with_reducible first | exact HB.out | apply below_alloc | apply pw_below_drewN | apply below_drew1 | refine below_set ?_ GE173.out) | exact HB.out)) hb); have n2_ := Aside0.mk (hbox); have n3_ := Aside0.mk ((by rw [hg]; exact (below_size (by repeat (first | (with_reducible first | exact HB.out | apply below_alloc | apply pw_below_drewN | apply below_drew1 | refine below_set ?_ GE173.out) | exact HB.out))) : w.heap.size ≤ gb177)); have n4_ := Aside0.mk ((by rw [hg]; exact (below_size (by repeat (first | (with_reducible first | exact HB.out | apply below_alloc | apply pw_below_drewN | apply below_drew1 | refine below_set ?_ GE173.out) | exact HB.out))) : w.heap.size ≤ gb177)); have n5_ := Aside0.mk ((by rw [hg]; exact Nat.ne_of_lt (blk_lt (g := gb173) (o := .cells #[.int .u64 a1_0, .int .u64 a1_1, .int .u64 a1_2, .int .u64 a1_3, .int .u64 a1_4, .int .u64 a1_5, .int .u64 a1_6, .int .u64 a1_7, .int .u64 a1_8, .int .u64 a1_9] 42 (0, 0)) (by (with_reducible repeat (first | refine blk_drewN ?_ _ | refine blk_drew ?_ | refine blk_alloc ?_ _)); exact BK173.out)) : gb173 ≠ gb177)); have n6_ := Aside0.mk ((by rw [hg]; exact Nat.ne_of_gt (blk_lt (g := gb173) (o := .cells #[.int .u64 a1_0, .int .u64 a1_1, .int .u64 a1_2, .int .u64 a1_3, .int .u64 a1_4, .int .u64 a1_5, .int .u64 a1_6, .int .u64 a1_7, .int .u64 a1_8, .int .u64 a1_9] 42 (0, 0)) (by (with_reducible repeat (first | refine blk_drewN ?_ _ | refine blk_drew ?_ | refine blk_alloc ?_ _)); exact BK173.out)) : gb177 ≠ gb173)); clear BK173; clear HB; have BK173 := n0_; have HB := n1_; have BK177 := n2_; have GW177 := n3_; have GE177 := n4_; have NB173_177 := n5_; have NB177_173 := n6_; clear n0_ n1_ n2_ n3_ n4_ n5_ n6_; clear hb hbox hg; have hnb113 := NB177_173.out; have hnc113 := NB173_177.out; have hcz114_0 : w112.cell? ⟨gb177, 0, none⟩ = some (.bool false) := (blk_cell BK177.out 0).trans rfl; have hcz114_1 : w112.cell? ⟨gb177, 1, none⟩ = some (.bool false) := (blk_cell BK177.out 1).trans rfl; have hfz114_0 := blk_frozen BK177.out 0; have hfz114_1 := blk_frozen BK177.out 1; have hcz115_0 : w112.cell? ⟨gb173, 0, none⟩ = some (.int .u64 a1_0) := (blk_cell BK173.out 0).trans rfl; have hcz115_1 : w112.cell? ⟨gb173, 1, none⟩ = some (.int .u64 a1_1) := (blk_cell BK173.out 1).trans rfl; have hcz115_2 : w112.cell? ⟨gb173, 2, none⟩ = some (.int .u64 a1_2) := (blk_cell BK173.out 2).trans rfl; have hcz115_3 : w112.cell? ⟨gb173, 3, none⟩ = some (.int .u64 a1_3) := (blk_cell BK173.out 3).trans rfl; have hcz115_4 : w112.cell? ⟨gb173, 4, none⟩ = some (.int .u64 a1_4) := (blk_cell BK173.out 4).trans rfl; have hcz115_5 : w112.cell? ⟨gb173, 5, none⟩ = some (.int .u64 a1_5) := (blk_cell BK173.out 5).trans rfl; have hcz115_6 : w112.cell? ⟨gb173, 6, none⟩ = some (.int .u64 a1_6) := (blk_cell BK173.out 6).trans rfl; have hcz115_7 : w112.cell? ⟨gb173, 7, none⟩ = some (.int .u64 a1_7) := (blk_cell BK173.out 7).trans rfl; have hcz115_8 : w112.cell? ⟨gb173, 8, none⟩ = some (.int .u64 a1_8) := (blk_cell BK173.out 8).trans rfl; have hcz115_9 : w112.cell? ⟨gb173, 9, none⟩ = some (.int .u64 a1_9) := (blk_cell BK173.out 9).trans rfl; have hfz115_0 := blk_frozen BK173.out 0; have hfz115_1 := blk_frozen BK173.out 1; have hfz115_2 := blk_frozen BK173.out 2; have hfz115_3 := blk_frozen BK173.out 3; have hfz115_4 := blk_frozen BK173.out 4; have hfz115_5 := blk_frozen BK173.out 5; have hfz115_6 := blk_frozen BK173.out 6; have hfz115_7 := blk_frozen BK173.out 7; have hfz115_8 := blk_frozen BK173.out 8; have hfz115_9 := blk_frozen BK173.out 9) | ((with_reducible refine gate_callee (f := 17) rfl ?_); refine goesL_ (some 21) rfl rfl Tryd.func17 (by kernel_rfl) rfl #[.agg #[.bool t175, .bool t176], .agg #[.int .u64 a1_0, .int .u64 a1_1, .int .u64 a1_2, .int .u64 a1_3, .int .u64 a1_4, .int .u64 a1_5, .int .u64 a1_6, .int .u64 a1_7, .int .u64 a1_8, .int .u64 a1_9]] rfl (by (try simp only [List.map_toArray, List.map_cons, List.map_nil]); first | done | rfl | (simp only [List.length_drop, List.length_take]; rfl)) ?_; (with_reducible refine (shdr_Put.calls k t175 t176 a1_0 a1_1 a1_2 a1_3 a1_4 a1_5 a1_6 a1_7 a1_8 a1_9 t178 t179 _ ?side1 A7.out).mono ?_); (case side1 => exact Laid_shdr.below HLD_shdr.out (by repeat (first | (with_reducible first | exact HB.out | apply below_alloc | apply pw_below_drewN | apply below_drew1 | refine below_set ?_ GE173.out | refine below_set ?_ GE177.out) | exact HB.out))); rintro e w116 ⟨rfl, hb⟩; refine ⟨_, rfl, ?_⟩; have n0_ := Aside0.mk (blk_below (g := gb173) (o := .cells #[.int .u64 a1_0, .int .u64 a1_1, .int .u64 a1_2, .int .u64 a1_3, .int .u64 a1_4, .int .u64 a1_5, .int .u64 a1_6, .int .u64 a1_7, .int .u64 a1_8, .int .u64 a1_9] 42 (0, 0)) (by (with_reducible repeat (first | refine blk_drewN ?_ _ | refine blk_drew ?_ | refine blk_alloc ?_ _)); refine blk_far ?_ NB173_177.out _; (with_reducible repeat (first | refine blk_drewN ?_ _ | refine blk_drew ?_ | refine blk_alloc ?_ _)); refine blk_far ?_ NB173_177.out _; (with_reducible repeat (first | refine blk_drewN ?_ _ | refine blk_drew ?_ | refine blk_alloc ?_ _)); exact BK173.out) hb); have n1_ := Aside0.mk (blk_below (g := gb177) (o := .cells #[.bool t175, .bool t176] 29 (0, 0)) (by (with_reducible repeat (first | refine blk_drewN ?_ _ | refine blk_drew ?_ | refine blk_alloc ?_ _)); refine blk_put (cs := #[.bool t175, .bool false]) ?_ 1 _ rfl; (with_reducible repeat (first | refine blk_drewN ?_ _ | refine blk_drew ?_ | refine blk_alloc ?_ _)); refine blk_put (cs := #[.bool false, .bool false]) ?_ 0 _ rfl; (with_reducible repeat (first | refine blk_drewN ?_ _ | refine blk_drew ?_ | refine blk_alloc ?_ _)); exact BK177.out) hb); have n2_ := Aside0.mk (below_step (by repeat (first | (with_reducible first | exact HB.out | apply below_alloc | apply pw_below_drewN | apply below_drew1 | refine below_set ?_ GE173.out | refine below_set ?_ GE177.out) | exact HB.out)) hb); clear BK173; clear BK177; clear HB; have BK173 := n0_; have BK177 := n1_; have HB := n2_; clear n0_ n1_ n2_; (try clear hb); (try clear hb2); (try clear hk); (try clear hi); have hcz117_0 : w116.cell? ⟨gb177, 0, none⟩ = some (.bool t175) := (blk_cell BK177.out 0).trans rfl; have hcz117_1 : w116.cell? ⟨gb177, 1, none⟩ = some (.bool t176) := (blk_cell BK177.out 1).trans rfl; have hfz117_0 := blk_frozen BK177.out 0; have hfz117_1 := blk_frozen BK177.out 1; have hcz118_0 : w116.cell? ⟨gb173, 0, none⟩ = some (.int .u64 a1_0) := (blk_cell BK173.out 0).trans rfl; have hcz118_1 : w116.cell? ⟨gb173, 1, none⟩ = some (.int .u64 a1_1) := (blk_cell BK173.out 1).trans rfl; have hcz118_2 : w116.cell? ⟨gb173, 2, none⟩ = some (.int .u64 a1_2) := (blk_cell BK173.out 2).trans rfl; have hcz118_3 : w116.cell? ⟨gb173, 3, none⟩ = some (.int .u64 a1_3) := (blk_cell BK173.out 3).trans rfl; have hcz118_4 : w116.cell? ⟨gb173, 4, none⟩ = some (.int .u64 a1_4) := (blk_cell BK173.out 4).trans rfl; have hcz118_5 : w116.cell? ⟨gb173, 5, none⟩ = some (.int .u64 a1_5) := (blk_cell BK173.out 5).trans rfl; have hcz118_6 : w116.cell? ⟨gb173, 6, none⟩ = some (.int .u64 a1_6) := (blk_cell BK173.out 6).trans rfl; have hcz118_7 : w116.cell? ⟨gb173, 7, none⟩ = some (.int .u64 a1_7) := (blk_cell BK173.out 7).trans rfl; have hcz118_8 : w116.cell? ⟨gb173, 8, none⟩ = some (.int .u64 a1_8) := (blk_cell BK173.out 8).trans rfl; have hcz118_9 : w116.cell? ⟨gb173, 9, none⟩ = some (.int .u64 a1_9) := (blk_cell BK173.out 9).trans rfl; have hfz118_0 := blk_frozen BK173.out 0; have hfz118_1 := blk_frozen BK173.out 1; have hfz118_2 := blk_frozen BK173.out 2; have hfz118_3 := blk_frozen BK173.out 3; have hfz118_4 := blk_frozen BK173.out 4; have hfz118_5 := blk_frozen BK173.out 5; have hfz118_6 := blk_frozen BK173.out 6; have hfz118_7 := blk_frozen BK173.out 7; have hfz118_8 := blk_frozen BK173.out 8; have hfz118_9 := blk_frozen BK173.out 9) | ((with_reducible refine gate_callee (f := 18) rfl ?_); refine goesL_ (some 31) rfl rfl Tryd.func18 (by kernel_rfl) rfl #[.bool t176, .bool t175, .agg #[.int .u64 a1_0, .int .u64 a1_1, .int .u64 a1_2, .int .u64 a1_3, .int .u64 a1_4, .int .u64 a1_5, .int .u64 a1_6, .int .u64 a1_7, .int .u64 a1_8, .int .u64 a1_9]] rfl (by (try simp only [List.map_toArray, List.map_cons, List.map_nil]); first | done | rfl | (simp only [List.length_drop, List.length_take]; rfl)) ?_; (with_reducible refine (graverref06_Put.calls k t176 t175 a1_0 a1_1 a1_2 a1_3 a1_4 a1_5 a1_6 a1_7 a1_8 a1_9 t180 t181 _ A8.out).mono ?_); rintro e w119 ⟨rfl, hb⟩; refine ⟨_, rfl, ?_⟩; have n0_ := Aside0.mk (blk_below (g := gb173) (o := .cells #[.int .u64 a1_0, .int .u64 a1_1, .int .u64 a1_2, .int .u64 a1_3, .int .u64 a1_4, .int .u64 a1_5, .int .u64 a1_6, .int .u64 a1_7, .int .u64 a1_8, .int .u64 a1_9] 42 (0, 0)) (by (with_reducible repeat (first | refine blk_drewN ?_ _ | refine blk_drew ?_ | refine blk_alloc ?_ _)); exact BK173.out) hb); have n1_ := Aside0.mk (blk_below (g := gb177) (o := .cells #[.bool t175, .bool t176] 29 (0, 0)) (by (with_reducible repeat (first | refine blk_drewN ?_ _ | refine blk_drew ?_ | refine blk_alloc ?_ _)); exact BK177.out) hb); have n2_ := Aside0.mk (below_step (by repeat (first | (with_reducible first | exact HB.out | apply below_alloc | apply pw_below_drewN | apply below_drew1 | refine below_set ?_ GE173.out | refine below_set ?_ GE177.out) | exact HB.out)) hb); clear BK173; clear BK177; clear HB; have BK173 := n0_; have BK177 := n1_; have HB := n2_; clear n0_ n1_ n2_; (try clear hb); (try clear hb2); (try clear hk); (try clear hi)))
   go_ret
   exact ⟨by first | rfl | (simp [errW_none, errW_some] <;> rfl) | (simp [*, errW_none, errW_some] <;> rfl), by repeat (first | (with_reducible first | exact HB.out | apply below_alloc | apply pw_below_drewN | apply below_drew1 | refine below_set ?_ GE173.out | refine below_set ?_ GE177.out) | exact HB.out)⟩
 ·
  replace c5 := Bool.eq_false_iff.mpr c5
  subst c5
  have H1 : (some false) = some r := by rw [if_neg (show ¬ (false = true) by decide)] at H; exact H
  clear H
  have H := H1
  clear H1
  obtain rfl := Option.some.inj H
  go_enter Tryd.func5, Tryd.ntmps5
  go_wp2_with (first | ((with_reducible refine gate_dst (N := 4) rfl ?_); refine box_event ?hg (N := 4) ?hd (cs := #[.int .u64 a1_0, .int .u64 a1_1, .int .u64 a1_2, .int .u64 a1_3, .int .u64 a1_4, .int .u64 a1_5, .int .u64 a1_6, .int .u64 a1_7, .int .u64 a1_8, .int .u64 a1_9]) (t := 42) ?hr ?_; (case hd => rfl); (case hg => rfl); (case hr => first | (go_simp; done) | (go_simp; rfl)); intro gb173 hg w120 hbox hb; have n0_ := Aside0.mk (below_step (by repeat (first | (with_reducible first | exact HB.out | apply below_alloc | apply pw_below_drewN | apply below_drew1) | exact HB.out)) hb); have n1_ := Aside0.mk (hbox); have n2_ := Aside0.mk ((by rw [hg]; exact (below_size (by repeat (first | (with_reducible first | exact HB.out | apply below_alloc | apply pw_below_drewN | apply below_drew1) | exact HB.out))) : w.heap.size ≤ gb173)); have n3_ := Aside0.mk ((by rw [hg]; exact (below_size (by repeat (first | (with_reducible first | exact HB.out | apply below_alloc | apply pw_below_drewN | apply below_drew1) | exact HB.out))) : w.heap.size ≤ gb173)); clear HB; have HB := n0_; have BK173 := n1_; have GW173 := n2_; have GE173 := n3_; clear n0_ n1_ n2_ n3_; clear hb hbox hg) | ((with_reducible refine gate_callee (f := 15) rfl ?_); refine goesL_ (some 14) rfl rfl Tryd.func15 (by kernel_rfl) rfl #[] rfl (by (try simp only [List.map_toArray, List.map_cons, List.map_nil]); first | done | rfl | (simp only [List.length_drop, List.length_take]; rfl)) ?_; (with_reducible refine (graverlaw06_speaks.calls k  false _ ?side1 A4.out).mono ?_); (case side1 => exact Laid_shdr.below HLD_shdr.out (by repeat (first | (with_reducible first | exact HB.out | apply below_alloc | apply pw_below_drewN | apply below_drew1 | refine below_set ?_ GE173.out) | exact HB.out))); rintro e w121 ⟨rfl, hb⟩; refine ⟨_, rfl, ?_⟩; have n0_ := Aside0.mk (blk_below (g := gb173) (o := .cells #[.int .u64 a1_0, .int .u64 a1_1, .int .u64 a1_2, .int .u64 a1_3, .int .u64 a1_4, .int .u64 a1_5, .int .u64 a1_6, .int .u64 a1_7, .int .u64 a1_8, .int .u64 a1_9] 42 (0, 0)) (by (with_reducible repeat (first | refine blk_drewN ?_ _ | refine blk_drew ?_ | refine blk_alloc ?_ _)); exact BK173.out) hb); have n1_ := Aside0.mk (below_step (by repeat (first | (with_reducible first | exact HB.out | apply below_alloc | apply pw_below_drewN | apply below_drew1 | refine below_set ?_ GE173.out) | exact HB.out)) hb); clear BK173; clear HB; have BK173 := n0_; have HB := n1_; clear n0_ n1_; (try clear hb); (try clear hb2); (try clear hk); (try clear hi)))
  go_ret
  exact ⟨by first | rfl | (simp [errW_none, errW_some] <;> rfl) | (simp [*, errW_none, errW_some] <;> rfl), by repeat (first | (with_reducible first | exact HB.out | apply below_alloc | apply pw_below_drewN | apply below_drew1 | refine below_set ?_ GE173.out) | exact HB.out)⟩

/-- THE ONE PURE STATEMENT of graverlaw06_ShdrPuts: yours. -/
def graverlaw06_ShdrPuts.Pure : Prop := ∀ (a0 : Int) (a1_0 : Int) (a1_1 : Int) (a1_2 : Int) (a1_3 : Int) (a1_4 : Int) (a1_5 : Int) (a1_6 : Int) (a1_7 : Int) (a1_8 : Int) (a1_9 : Int) (a2 : ByteArray), (Lit.int .i64 a0).wf = true → (Lit.int .u64 a1_0).wf = true → (Lit.int .u64 a1_1).wf = true → (Lit.int .u64 a1_2).wf = true → (Lit.int .u64 a1_3).wf = true → (Lit.int .u64 a1_4).wf = true → (Lit.int .u64 a1_5).wf = true → (Lit.int .u64 a1_6).wf = true → (Lit.int .u64 a1_7).wf = true → (Lit.int .u64 a1_8).wf = true → (Lit.int .u64 a1_9).wf = true → a2.size ≤ 140737488351232 → ∃ k, graverlaw06_ShdrPuts.f k a0 a1_0 a1_1 a1_2 a1_3 a1_4 a1_5 a1_6 a1_7 a1_8 a1_9 a2 = some true
theorem graverlaw06_ShdrPuts.walk (P : graverlaw06_ShdrPuts.Pure) (a0 : Int) (a1_0 : Int) (a1_1 : Int) (a1_2 : Int) (a1_3 : Int) (a1_4 : Int) (a1_5 : Int) (a1_6 : Int) (a1_7 : Int) (a1_8 : Int) (a1_9 : Int) (a2 : ByteArray) (w : World) (hlaid_shdr : Laid_shdr w) (w0 : (Lit.int .i64 a0).wf = true) (w1_0 : (Lit.int .u64 a1_0).wf = true) (w1_1 : (Lit.int .u64 a1_1).wf = true) (w1_2 : (Lit.int .u64 a1_2).wf = true) (w1_3 : (Lit.int .u64 a1_3).wf = true) (w1_4 : (Lit.int .u64 a1_4).wf = true) (w1_5 : (Lit.int .u64 a1_5).wf = true) (w1_6 : (Lit.int .u64 a1_6).wf = true) (w1_7 : (Lit.int .u64 a1_7).wf = true) (w1_8 : (Lit.int .u64 a1_8).wf = true) (w1_9 : (Lit.int .u64 a1_9).wf = true) (w2 : a2.size ≤ 140737488351232) :
  Calls Tryd.prog 5 #[.int .i64 a0, .agg #[.int .u64 a1_0, .int .u64 a1_1, .int .u64 a1_2, .int .u64 a1_3, .int .u64 a1_4, .int .u64 a1_5, .int .u64 a1_6, .int .u64 a1_7, .int .u64 a1_8, .int .u64 a1_9], .string a2] w fun e w' => e = .returned (.bool true) ∧ Below w.heap.size w w' := by
 obtain ⟨k, h⟩ := P a0 a1_0 a1_1 a1_2 a1_3 a1_4 a1_5 a1_6 a1_7 a1_8 a1_9 a2 w0 w1_0 w1_1 w1_2 w1_3 w1_4 w1_5 w1_6 w1_7 w1_8 w1_9 w2
 refine (graverlaw06_ShdrPuts.calls k a0 a1_0 a1_1 a1_2 a1_3 a1_4 a1_5 a1_6 a1_7 a1_8 a1_9 a2 true w hlaid_shdr h).mono ?_
 rintro e w' ⟨rfl, hd⟩
 exact ⟨rfl, hd⟩

end Go.Proofs.YthbkjppaimjpmaaDoor.Q
