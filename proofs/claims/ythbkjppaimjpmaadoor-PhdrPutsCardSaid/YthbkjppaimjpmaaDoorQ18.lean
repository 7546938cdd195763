/- What Go functions of the program compute, each as a Lean function with the proof that the call returns just that. No condition but those in the statements. -/
import Derived.Test.YthbkjppaimjpmaaDoorQ0
import Derived.Test.YthbkjppaimjpmaaDoorQ2
import Derived.Test.YthbkjppaimjpmaaDoorQ15
import Derived.Test.YthbkjppaimjpmaaDoorQ17
namespace Go.Proofs.YthbkjppaimjpmaaDoor.Q
open Go.RowKit Go.Proofs.YthbkjppaimjpmaaDoorW.PrintWords Go.Proofs.YthbkjppaimjpmaaDoorW.PrintLast Go.Proofs.YthbkjppaimjpmaaDoorW.PrintMore
attribute [local go_sem] max2_int min2_int max_two min_two max_three min_three max_four min_four   -- for this text's walks alone
set_option linter.unusedVariables false
set_option linter.unusedSimpArgs false

attribute [local go_sem high] eqA53
/-! ### graverlaw07_PhdrPuts: function 7 -/
def graverlaw07_PhdrPuts.f (k : Nat) (a0 : Int) (a1_0 : Int) (a1_1 : Int) (a1_2 : Int) (a1_3 : Int) (a1_4 : Int) (a1_5 : Int) (a1_6 : Int) (a1_7 : Int) (a2 : ByteArray) : Option (Bool) := (graverlaw07_speaks.f k).bind fun t255 => (if t255 = true then ((graverlaw07_formOf.f a0).bind fun bt256 => ((phdr_Put.f k bt256.1 bt256.2 a1_0 a1_1 a1_2 a1_3 a1_4 a1_5 a1_6 a1_7).bind fun bt259 => ((graverref07_Put.f k bt256.2 bt256.1 a1_0 a1_1 a1_2 a1_3 a1_4 a1_5 a1_6 a1_7).bind fun bt261 => (if bt259.1.toList = bt261.1.toList then (if (bt259.2 != bt261.2) = true then (some false) else (if 0 ≤ (mn (a2.size : Int) 20) then (if (mn (a2.size : Int) 20) ≤ (a2.size : Int) then (if bt259.1.size + (a2.extract 0 ((mn (a2.size : Int) 20) : Int).toNat).size ≤ 9223372036854775807 then ((phdr_Read.f k bt256.1 bt256.2 (bt259.1 ++ (a2.extract 0 ((mn (a2.size : Int) 20) : Int).toNat))).bind fun bt263 => (if bt259.2 = true then (if bt263.2.2.2.2.2.2.2.2 = true then (some (bt263.1 == a1_0 && (bt263.2.1 == a1_1 && (bt263.2.2.1 == a1_2 && (bt263.2.2.2.1 == a1_3 && (bt263.2.2.2.2.1 == a1_4 && (bt263.2.2.2.2.2.1 == a1_5 && (bt263.2.2.2.2.2.2.1 == a1_6 && (bt263.2.2.2.2.2.2.2.1 == a1_7))))))))) else (some false)) else (some true))) else (none)) else (none)) else (none))) else (some false))))) else (some false))
theorem graverlaw07_PhdrPuts.mono : ∀ a0 a1 a2 a3 a4 a5 a6 a7 a8 a9 k, LeO (graverlaw07_PhdrPuts.f k a0 a1 a2 a3 a4 a5 a6 a7 a8 a9) (graverlaw07_PhdrPuts.f (k + 1) a0 a1 a2 a3 a4 a5 a6 a7 a8 a9) := by
 intro a0 a1 a2 a3 a4 a5 a6 a7 a8 a9 k
 unfold graverlaw07_PhdrPuts.f
 repeat' first
   | (with_reducible exact graverlaw07_speaks.mono _)
   | (with_reducible exact graverref07_Put.mono _ _ _ _ _ _ _ _ _ _ _)
   | (with_reducible exact phdr_Put.mono _ _ _ _ _ _ _ _ _ _ _)
   | (with_reducible exact phdr_Read.mono _ _ _ _)
   | (with_reducible exact LeO.refl _)
   | (with_reducible exact LeO.none _)
   | (with_reducible refine LeO.ite ?_ ?_)
   | (with_reducible refine LeO.bind ?_ (fun _ => ?_))
   | exact graverlaw07_speaks.mono _
   | exact graverref07_Put.mono _ _ _ _ _ _ _ _ _ _ _
   | exact phdr_Put.mono _ _ _ _ _ _ _ _ _ _ _
   | exact phdr_Read.mono _ _ _ _
   | exact LeO.none _
   | refine LeO.ite ?_ ?_
   | refine LeO.bind ?_ (fun _ => ?_)
def graverlaw07_PhdrPuts.T8 : Bool × List (List Nat × List Nat) := (true, [([], []), ([], []), ([], []), ([], []), ([3], [3]), ([4], [4]), ([2, 5], [2, 5]), ([1, 6], [1, 6]), ([0, 7], [0, 7]), ([8], [8]), ([9], [9]), ([9], [9]), ([], []), ([12, 10, 8, 0, 1, 2, 3, 4, 5, 6, 7, 8, 9, 10, 12], [10, 12]), ([11, 13, 0, 1, 2, 3, 4, 5, 6, 7, 8, 9, 10, 11, 12, 13], [11])])
def graverlaw07_PhdrPuts.B8 : List Nat := [0, 0, 0, 0, 8, 24, 60, 126, 255, 511, 1023, 1023, 0, 6143, 16383]
theorem graverlaw07_PhdrPuts.tab8 : rtab .any (opsOf Tryd.f7 8) = graverlaw07_PhdrPuts.T8 := by kernel_rfl
theorem graverlaw07_PhdrPuts.bits8 : waitsOk graverlaw07_PhdrPuts.T8.2 graverlaw07_PhdrPuts.B8 = true := by kernel_rfl
set_option maxHeartbeats 8000000 in
set_option maxRecDepth 100000 in
theorem graverlaw07_PhdrPuts.calls (k : Nat) (a0 : Int) (a1_0 : Int) (a1_1 : Int) (a1_2 : Int) (a1_3 : Int) (a1_4 : Int) (a1_5 : Int) (a1_6 : Int) (a1_7 : Int) (a2 : ByteArray) (r : Bool) (w : World) (hlaid_phdr : Laid_phdr w) (h : graverlaw07_PhdrPuts.f k a0 a1_0 a1_1 a1_2 a1_3 a1_4 a1_5 a1_6 a1_7 a2 = some r) :
  Calls Tryd.prog 7 #[.int .i64 a0, .agg #[.int .u64 a1_0, .int .u64 a1_1, .int .u64 a1_2, .int .u64 a1_3, .int .u64 a1_4, .int .u64 a1_5, .int .u64 a1_6, .int .u64 a1_7], .string a2] w fun e w' => e = .returned (.bool r) ∧ Below w.heap.size w w' := by
 have hu51 := Tryd.underlying51
 have hu29 := Tryd.underlying29
 have hu53 := Tryd.underlying53
 have HB := Aside0.mk (Below.refl w.heap.size w)
 have HLD_phdr := Aside0.mk hlaid_phdr
 clear hlaid_phdr
 have H : ((graverlaw07_speaks.f k).bind fun t255 => (if t255 = true then ((graverlaw07_formOf.f a0).bind fun bt256 => ((phdr_Put.f k bt256.1 bt256.2 a1_0 a1_1 a1_2 a1_3 a1_4 a1_5 a1_6 a1_7).bind fun bt259 => ((graverref07_Put.f k bt256.2 bt256.1 a1_0 a1_1 a1_2 a1_3 a1_4 a1_5 a1_6 a1_7).bind fun bt261 => (if bt259.1.toList = bt261.1.toList then (if (bt259.2 != bt261.2) = true then (some false) else (if 0 ≤ (mn (a2.size : Int) 20) then (if (mn (a2.size : Int) 20) ≤ (a2.size : Int) then (if bt259.1.size + (a2.extract 0 ((mn (a2.size : Int) 20) : Int).toNat).size ≤ 9223372036854775807 then ((phdr_Read.f k bt256.1 bt256.2 (bt259.1 ++ (a2.extract 0 ((mn (a2.size : Int) 20) : Int).toNat))).bind fun bt263 => (if bt259.2 = true then (if bt263.2.2.2.2.2.2.2.2 = true then (some (bt263.1 == a1_0 && (bt263.2.1 == a1_1 && (bt263.2.2.1 == a1_2 && (bt263.2.2.2.1 == a1_3 && (bt263.2.2.2.2.1 == a1_4 && (bt263.2.2.2.2.2.1 == a1_5 && (bt263.2.2.2.2.2.2.1 == a1_6 && (bt263.2.2.2.2.2.2.2.1 == a1_7))))))))) else (some false)) else (some true))) else (none)) else (none)) else (none))) else (some false))))) else (some false))) = some r := h
 clear h
 replace H := Option.bind_eq_some_iff.mp H
 obtain ⟨t255, A40, H⟩ := H
 replace H : (if t255 = true then ((graverlaw07_formOf.f a0).bind fun bt256 => ((phdr_Put.f k bt256.1 bt256.2 a1_0 a1_1 a1_2 a1_3 a1_4 a1_5 a1_6 a1_7).bind fun bt259 => ((graverref07_Put.f k bt256.2 bt256.1 a1_0 a1_1 a1_2 a1_3 a1_4 a1_5 a1_6 a1_7).bind fun bt261 => (if bt259.1.toList = bt261.1.toList then (if (bt259.2 != bt261.2) = true then (some false) else (if 0 ≤ (mn (a2.size : Int) 20) then (if (mn (a2.size : Int) 20) ≤ (a2.size : Int) then (if bt259.1.size + (a2.extract 0 ((mn (a2.size : Int) 20) : Int).toNat).size ≤ 9223372036854775807 then ((phdr_Read.f k bt256.1 bt256.2 (bt259.1 ++ (a2.extract 0 ((mn (a2.size : Int) 20) : Int).toNat))).bind fun bt263 => (if bt259.2 = true then (if bt263.2.2.2.2.2.2.2.2 = true then (some (bt263.1 == a1_0 && (bt263.2.1 == a1_1 && (bt263.2.2.1 == a1_2 && (bt263.2.2.2.1 == a1_3 && (bt263.2.2.2.2.1 == a1_4 && (bt263.2.2.2.2.2.1 == a1_5 && (bt263.2.2.2.2.2.2.1 == a1_6 && (bt263.2.2.2.2.2.2.2.1 == a1_7))))))))) else (some false)) else (some true))) else (none)) else (none)) else (none))) else (some false))))) else (some false)) = some r := H
 have A4 := Aside0.mk A40
 clear A40
 by_cases c5 : t255 = true
 ·
  subst c5
  have H1 : ((graverlaw07_formOf.f a0).bind fun bt256 => ((phdr_Put.f k bt256.1 bt256.2 a1_0 a1_1 a1_2 a1_3 a1_4 a1_5 a1_6 a1_7).bind fun bt259 => ((graverref07_Put.f k bt256.2 bt256.1 a1_0 a1_1 a1_2 a1_3 a1_4 a1_5 a1_6 a1_7).bind fun bt261 => (if bt259.1.toList = bt261.1.toList then (if (bt259.2 != bt261.2) = true then (some false) else (if 0 ≤ (mn (a2.size : Int) 20) then (if (mn (a2.size : Int) 20) ≤ (a2.size : Int) then (if bt259.1.size + (a2.extract 0 ((mn (a2.size : Int) 20) : Int).toNat).size ≤ 9223372036854775807 then ((phdr_Read.f k bt256.1 bt256.2 (bt259.1 ++ (a2.extract 0 ((mn (a2.size : Int) 20) : Int).toNat))).bind fun bt263 => (if bt259.2 = true then (if bt263.2.2.2.2.2.2.2.2 = true then (some (bt263.1 == a1_0 && (bt263.2.1 == a1_1 && (bt263.2.2.1 == a1_2 && (bt263.2.2.2.1 == a1_3 && (bt263.2.2.2.2.1 == a1_4 && (bt263.2.2.2.2.2.1 == a1_5 && (bt263.2.2.2.2.2.2.1 == a1_6 && (bt263.2.2.2.2.2.2.2.1 == a1_7))))))))) else (some false)) else (some true))) else (none)) else (none)) else (none))) else (some false))))) = some r := by rw [if_pos rfl] at H; exact H
  clear H
  have H := H1
  clear H1
  replace H := Option.bind_eq_some_iff.mp H
  obtain ⟨⟨t256, t257⟩, A60, H⟩ := H
  replace H : ((phdr_Put.f k t256 t257 a1_0 a1_1 a1_2 a1_3 a1_4 a1_5 a1_6 a1_7).bind fun bt259 => ((graverref07_Put.f k t257 t256 a1_0 a1_1 a1_2 a1_3 a1_4 a1_5 a1_6 a1_7).bind fun bt261 => (if bt259.1.toList = bt261.1.toList then (if (bt259.2 != bt261.2) = true then (some false) else (if 0 ≤ (mn (a2.size : Int) 20) then (if (mn (a2.size : Int) 20) ≤ (a2.size : Int) then (if bt259.1.size + (a2.extract 0 ((mn (a2.size : Int) 20) : Int).toNat).size ≤ 9223372036854775807 then ((phdr_Read.f k t256 t257 (bt259.1 ++ (a2.extract 0 ((mn (a2.size : Int) 20) : Int).toNat))).bind fun bt263 => (if bt259.2 = true then (if bt263.2.2.2.2.2.2.2.2 = true then (some (bt263.1 == a1_0 && (bt263.2.1 == a1_1 && (bt263.2.2.1 == a1_2 && (bt263.2.2.2.1 == a1_3 && (bt263.2.2.2.2.1 == a1_4 && (bt263.2.2.2.2.2.1 == a1_5 && (bt263.2.2.2.2.2.2.1 == a1_6 && (bt263.2.2.2.2.2.2.2.1 == a1_7))))))))) else (some false)) else (some true))) else (none)) else (none)) else (none))) else (some false)))) = some r := H
  have A6 := Aside0.mk A60
  clear A60
  replace H := Option.bind_eq_some_iff.mp H
  obtain ⟨⟨t259, t260⟩, A70, H⟩ := H
  replace H : ((graverref07_Put.f k t257 t256 a1_0 a1_1 a1_2 a1_3 a1_4 a1_5 a1_6 a1_7).bind fun bt261 => (if t259.toList = bt261.1.toList then (if (t260 != bt261.2) = true then (some false) else (if 0 ≤ (mn (a2.size : Int) 20) then (if (mn (a2.size : Int) 20) ≤ (a2.size : Int) then (if t259.size + (a2.extract 0 ((mn (a2.size : Int) 20) : Int).toNat).size ≤ 9223372036854775807 then ((phdr_Read.f k t256 t257 (t259 ++ (a2.extract 0 ((mn (a2.size : Int) 20) : Int).toNat))).bind fun bt263 => (if t260 = true then (if bt263.2.2.2.2.2.2.2.2 = true then (some (bt263.1 == a1_0 && (bt263.2.1 == a1_1 && (bt263.2.2.1 == a1_2 && (bt263.2.2.2.1 == a1_3 && (bt263.2.2.2.2.1 == a1_4 && (bt263.2.2.2.2.2.1 == a1_5 && (bt263.2.2.2.2.2.2.1 == a1_6 && (bt263.2.2.2.2.2.2.2.1 == a1_7))))))))) else (some false)) else (some true))) else (none)) else (none)) else (none))) else (some false))) = some r := H
  have A7 := Aside0.mk A70
  clear A70
  replace H := Option.bind_eq_some_iff.mp H
  obtain ⟨⟨t261, t262⟩, A80, H⟩ := H
  replace H : (if t259.toList = t261.toList then (if (t260 != t262) = true then (some false) else (if 0 ≤ (mn (a2.size : Int) 20) then (if (mn (a2.size : Int) 20) ≤ (a2.size : Int) then (if t259.size + (a2.extract 0 ((mn (a2.size : Int) 20) : Int).toNat).size ≤ 9223372036854775807 then ((phdr_Read.f k t256 t257 (t259 ++ (a2.extract 0 ((mn (a2.size : Int) 20) : Int).toNat))).bind fun bt263 => (if t260 = true then (if bt263.2.2.2.2.2.2.2.2 = true then (some (bt263.1 == a1_0 && (bt263.2.1 == a1_1 && (bt263.2.2.1 == a1_2 && (bt263.2.2.2.1 == a1_3 && (bt263.2.2.2.2.1 == a1_4 && (bt263.2.2.2.2.2.1 == a1_5 && (bt263.2.2.2.2.2.2.1 == a1_6 && (bt263.2.2.2.2.2.2.2.1 == a1_7))))))))) else (some false)) else (some true))) else (none)) else (none)) else (none))) else (some false)) = some r := H
  have A8 := Aside0.mk A80
  clear A80
  by_cases c9 : t259.toList = t261.toList
  ·
   rw [if_pos c9] at H
   have c9b0 : (t259.toList == t261.toList) = true := beq_iff_eq.mpr c9
   have c9b1 : (t259.toList != t261.toList) = false := bne_eq_false_iff_eq.mpr c9
   clear c9
   by_cases c10 : (t260 != t262) = true
   ·
    rw [if_pos c10] at H
    have c10b0 : (t260 != t262) = true := c10
    (try (have c10b1 : decide (t260 = t262) = false := by simpa using c10))
    (try (have c10b2 : (t260 == t262) = false := by simpa using c10))
    (try (have c10b3 : ¬ (t260 = t262) := by simpa using c10))
    clear c10
    obtain rfl := Option.some.inj H
    go_enter Tryd.func7, Tryd.ntmps7
    go_wp2_with (first | ((with_reducible refine gate_dst (N := 4) rfl ?_); refine box_event ?hg (N := 4) ?hd (cs := #[.int .u64 a1_0, .int .u64 a1_1, .int .u64 a1_2, .int .u64 a1_3, .int .u64 a1_4, .int .u64 a1_5, .int .u64 a1_6, .int .u64 a1_7]) (t := 51) ?hr ?_; (case hd => rfl); (case hg => rfl); (case hr => first | (go_simp; done) | (go_simp; rfl)); intro gb254 hg w11 hbox hb; have n0_ := Aside0.mk (below_step (by repeat (first | (with_reducible first | exact HB.out | apply below_alloc | apply pw_below_drewN | apply below_drew1) | exact HB.out)) hb); have n1_ := Aside0.mk (hbox); have n2_ := Aside0.mk ((by rw [hg]; exact (below_size (by repeat (first | (with_reducible first | exact HB.out | apply below_alloc | apply pw_below_drewN | apply below_drew1) | exact HB.out))) : w.heap.size ≤ gb254)); have n3_ := Aside0.mk ((by rw [hg]; exact (below_size (by repeat (first | (with_reducible first | exact HB.out | apply below_alloc | apply pw_below_drewN | apply below_drew1) | exact HB.out))) : w.heap.size ≤ gb254)); clear HB; have HB := n0_; have BK254 := n1_; have GW254 := n2_; have GE254 := n3_; clear n0_ n1_ n2_ n3_; clear hb hbox hg) | ((with_reducible refine gate_callee (f := 21) rfl ?_); refine goesL_ (some 14) rfl rfl Tryd.func21 (by kernel_rfl) rfl #[] rfl (by (try simp only [List.map_toArray, List.map_cons, List.map_nil]); first | done | rfl | (simp only [List.length_drop, List.length_take]; rfl)) ?_; (with_reducible refine (graverlaw07_speaks.calls k  true _ ?side1 A4.out).mono ?_); (case side1 => exact Laid_phdr.below HLD_phdr.out (by repeat (first | (with_reducible first | exact HB.out | apply below_alloc | apply pw_below_drewN | apply below_drew1 | refine below_set ?_ GE254.out) | exact HB.out))); rintro e w12 ⟨rfl, hb⟩; refine ⟨_, rfl, ?_⟩; have n0_ := Aside0.mk (blk_below (g := gb254) (o := .cells #[.int .u64 a1_0, .int .u64 a1_1, .int .u64 a1_2, .int .u64 a1_3, .int .u64 a1_4, .int .u64 a1_5, .int .u64 a1_6, .int .u64 a1_7] 51 (0, 0)) (by (with_reducible repeat (first | refine blk_drewN ?_ _ | refine blk_drew ?_ | refine blk_alloc ?_ _)); exact BK254.out) hb); have n1_ := Aside0.mk (below_step (by repeat (first | (with_reducible first | exact HB.out | apply below_alloc | apply pw_below_drewN | apply below_drew1 | refine below_set ?_ GE254.out) | exact HB.out)) hb); clear BK254; clear HB; have BK254 := n0_; have HB := n1_; clear n0_ n1_; (try clear hb); (try clear hb2); (try clear hk); (try clear hi)) | ((with_reducible refine gate_callee (f := 22) rfl ?_); refine goesL_ (some 17) rfl rfl Tryd.func22 (by kernel_rfl) rfl #[.int .i64 a0] rfl (by (try simp only [List.map_toArray, List.map_cons, List.map_nil]); first | done | rfl | (simp only [List.length_drop, List.length_take]; rfl)) ?_; (with_reducible refine (graverlaw07_formOf.calls a0 t256 t257 _ A6.out).mono ?_); rintro e w13 ⟨rfl, hb⟩; refine ⟨_, rfl, ?_⟩; have n0_ := Aside0.mk (blk_below (g := gb254) (o := .cells #[.int .u64 a1_0, .int .u64 a1_1, .int .u64 a1_2, .int .u64 a1_3, .int .u64 a1_4, .int .u64 a1_5, .int .u64 a1_6, .int .u64 a1_7] 51 (0, 0)) (by (with_reducible repeat (first | refine blk_drewN ?_ _ | refine blk_drew ?_ | refine blk_alloc ?_ _)); exact BK254.out) hb); have n1_ := Aside0.mk (below_step (by repeat (first | (with_reducible first | exact HB.out | apply below_alloc | apply pw_below_drewN | apply below_drew1 | refine below_set ?_ GE254.out) | exact HB.out)) hb); clear BK254; clear HB; have BK254 := n0_; have HB := n1_; clear n0_ n1_; (try clear hb); (try clear hb2); (try clear hk); (try clear hi)) | ((with_reducible refine gate_dst (N := 7) rfl ?_); refine box_event ?hg (N := 7) ?hd (cs := #[.bool false, .bool false]) (t := 29) ?hr ?_; (case hd => rfl); (case hg => rfl); (case hr => first | (go_simp; done) | (go_simp; rfl)); intro gb258 hg w14 hbox hb; have n0_ := Aside0.mk (blk_below (g := gb254) (o := .cells #[.int .u64 a1_0, .int .u64 a1_1, .int .u64 a1_2, .int .u64 a1_3, .int .u64 a1_4, .int .u64 a1_5, .int .u64 a1_6, .int .u64 a1_7] 51 (0, 0)) (by (with_reducible repeat (first | refine blk_drewN ?_ _ | refine blk_drew ?_ | refine blk_alloc ?_ _)); exact BK254.out) hb); have n1_ := Aside0.mk (below_step (by repeat (first | (with_reducible first | exact HB.out | apply below_alloc | apply pw_below_drewN | apply below_drew1 | refine below_set ?_ GE254.out) | exact HB.out)) hb); have n2_ := Aside0.mk (hbox); have n3_ := Aside0.mk ((by rw [hg]; exact (below_size (by repeat (first | (with_reducible first | exact HB.out | apply below_alloc | apply pw_below_drewN | apply below_drew1 | refine below_set ?_ GE254.out) | exact HB.out))) : w.heap.size ≤ gb258)); have n4_ := Aside0.mk ((by rw [hg]; exact (below_size (by repeat (first | (with_reducible first | exact HB.out | apply below_alloc | apply pw_below_drewN | apply below_drew1 | refine below_set ?_ GE254.out) | exact HB.out))) : w.heap.size ≤ gb258)); have n5_ := Aside0.mk ((by rw [hg]; exact Nat.ne_of_lt (blk_lt (g := gb254) (o := .cells #[.int .u64 a1_0, .int .u64 a1_1, .int .u64 a1_2, .int .u64 a1_3, .int .u64 a1_4, .int .u64 a1_5, .int .u64 a1_6, .int .u64 a1_7] 51 (0, 0)) (by (with_reducible repeat (first | refine blk_drewN ?_ _ | refine blk_drew ?_ | refine blk_alloc ?_ _)); exact BK254.out)) : gb254 ≠ gb258)); have n6_ := Aside0.mk ((by rw [hg]; exact Nat.ne_of_gt (blk_lt (g := gb254) (o := .cells #[.int .u64 a1_0, .int .u64 a1_1, .int .u64 a1_2, .int .u64 a1_3, .int .u64 a1_4, .int .u64 a1_5, .int .u64 a1_6, .int .u64 a1_7] 51 (0, 0)) (by (with_reducible repeat (first | refine blk_drewN ?_ _ | refine blk_drew ?_ | refine blk_alloc ?_ _)); exact BK254.out)) : gb258 ≠ gb254)); clear BK254; clear HB; have BK254 := n0_; have HB := n1_; have BK258 := n2_; have GW258 := n3_; have GE258 := n4_; have NB254_258 := n5_; have NB258_254 := n6_; clear n0_ n1_ n2_ n3_ n4_ n5_ n6_; clear hb hbox hg; have hnb15 := NB258_254.out; have hnc15 := NB254_258.out; have hcz16_0 : w14.cell? ⟨gb258, 0, none⟩ = some (.bool false) := (blk_cell BK258.out 0).trans rfl; have hcz16_1 : w14.cell? ⟨gb258, 1, none⟩ = some (.bool false) := (blk_cell BK258.out 1).trans rfl; have hfz16_0 := blk_frozen BK258.out 0; have hfz16_1 := blk_frozen BK258.out 1; have hcz17_0 : w14.cell? ⟨gb254, 0, none⟩ = some (.int .u64 a1_0) := (blk_cell BK254.out 0).trans rfl; have hcz17_1 : w14.cell? ⟨gb254, 1, none⟩ = some (.int .u64 a1_1) := (blk_cell BK254.out 1).trans rfl; have hcz17_2 : w14.cell? ⟨gb254, 2, none⟩ = some (.int .u64 a1_2) := (blk_cell BK254.out 2).trans rfl; have hcz17_3 : w14.cell? ⟨gb254, 3, none⟩ = some (.int .u64 a1_3) := (blk_cell BK254.out 3).trans rfl; have hcz17_4 : w14.cell? ⟨gb254, 4, none⟩ = some (.int .u64 a1_4) := (blk_cell BK254.out 4).trans rfl; have hcz17_5 : w14.cell? ⟨gb254, 5, none⟩ = some (.int .u64 a1_5) := (blk_cell BK254.out 5).trans rfl; have hcz17_6 : w14.cell? ⟨gb254, 6, none⟩ = some (.int .u64 a1_6) := (blk_cell BK254.out 6).trans rfl; have hcz17_7 : w14.cell? ⟨gb254, 7, none⟩ = some (.int .u64 a1_7) := (blk_cell BK254.out 7).trans rfl; have hfz17_0 := blk_frozen BK254.out 0; have hfz17_1 := blk_frozen BK254.out 1; have hfz17_2 := blk_frozen BK254.out 2; have hfz17_3 := blk_frozen BK254.out 3; have hfz17_4 := blk_frozen BK254.out 4; have hfz17_5 := blk_frozen BK254.out 5; have hfz17_6 := blk_frozen BK254.out 6; have hfz17_7 := blk_frozen BK254.out 7) | ((with_reducible refine gate_callee (f := 23) rfl ?_); refine goesL_ (some 21) rfl rfl Tryd.func23 (by kernel_rfl) rfl #[.agg #[.bool t256, .bool t257], .agg #[.int .u64 a1_0, .int .u64 a1_1, .int .u64 a1_2, .int .u64 a1_3, .int .u64 a1_4, .int .u64 a1_5, .int .u64 a1_6, .int .u64 a1_7]] rfl (by (try simp only [List.map_toArray, List.map_cons, List.map_nil]); first | done | rfl | (simp only [List.length_drop, List.length_take]; rfl)) ?_; (with_reducible refine (phdr_Put.calls k t256 t257 a1_0 a1_1 a1_2 a1_3 a1_4 a1_5 a1_6 a1_7 t259 t260 _ ?side1 A7.out).mono ?_); (case side1 => exact Laid_phdr.below HLD_phdr.out (by repeat (first | (with_reducible first | exact HB.out | apply below_alloc | apply pw_below_drewN | apply below_drew1 | refine below_set ?_ GE254.out | refine below_set ?_ GE258.out) | exact HB.out))); rintro e w18 ⟨rfl, hb⟩; refine ⟨_, rfl, ?_⟩; have n0_ := Aside0.mk (blk_below (g := gb254) (o := .cells #[.int .u64 a1_0, .int .u64 a1_1, .int .u64 a1_2, .int .u64 a1_3, .int .u64 a1_4, .int .u64 a1_5, .int .u64 a1_6, .int .u64 a1_7] 51 (0, 0)) (by (with_reducible repeat (first | refine blk_drewN ?_ _ | refine blk_drew ?_ | refine blk_alloc ?_ _)); refine blk_far ?_ NB254_258.out _; (with_reducible repeat (first | refine blk_drewN ?_ _ | refine blk_drew ?_ | refine blk_alloc ?_ _)); refine blk_far ?_ NB254_258.out _; (with_reducible repeat (first | refine blk_drewN ?_ _ | refine blk_drew ?_ | refine blk_alloc ?_ _)); exact BK254.out) hb); have n1_ := Aside0.mk (blk_below (g := gb258) (o := .cells #[.bool t256, .bool t257] 29 (0, 0)) (by (with_reducible repeat (first | refine blk_drewN ?_ _ | refine blk_drew ?_ | refine blk_alloc ?_ _)); refine blk_put (cs := #[.bool t256, .bool false]) ?_ 1 _ rfl; (with_reducible repeat (first | refine blk_drewN ?_ _ | refine blk_drew ?_ | refine blk_alloc ?_ _)); refine blk_put (cs := #[.bool false, .bool false]) ?_ 0 _ rfl; (with_reducible repeat (first | refine blk_drewN ?_ _ | refine blk_drew ?_ | refine blk_alloc ?_ _)); exact BK258.out) hb); have n2_ := Aside0.mk (below_step (by repeat (first | (with_reducible first | exact HB.out | apply below_alloc | apply pw_below_drewN | apply below_drew1 | refine below_set ?_ GE254.out | refine below_set ?_ GE258.out) | exact HB.out)) hb); clear BK254; clear BK258; clear HB; have BK254 := n0_; have BK258 := n1_; have HB := n2_; clear n0_ n1_ n2_; (try clear hb); (try clear hb2); (try clear hk); (try clear hi); have hcz19_0 : w18.cell? ⟨gb258, 0, none⟩ = some (.bool t256) := (blk_cell BK258.out 0).trans rfl; have hcz19_1 : w18.cell? ⟨gb258, 1, none⟩ = some (.bool t257) := (blk_cell BK258.out 1).trans rfl; have hfz19_0 := blk_frozen BK258.out 0; have hfz19_1 := blk_frozen BK258.out 1; have hcz20_0 : w18.cell? ⟨gb254, 0, none⟩ = some (.int .u64 a1_0) := (blk_cell BK254.out 0).trans rfl; have hcz20_1 : w18.cell? ⟨gb254, 1, none⟩ = some (.int .u64 a1_1) := (blk_cell BK254.out 1).trans rfl; have hcz20_2 : w18.cell? ⟨gb254, 2, none⟩ = some (.int .u64 a1_2) := (blk_cell BK254.out 2).trans rfl; have hcz20_3 : w18.cell? ⟨gb254, 3, none⟩ = some (.int .u64 a1_3) := (blk_cell BK254.out 3).trans rfl; have hcz20_4 : w18.cell? ⟨gb254, 4, none⟩ = some (.int .u64 a1_4) := (blk_cell BK254.out 4).trans rfl; have hcz20_5 : w18.cell? ⟨gb254, 5, none⟩ = some (.int .u64 a1_5) := (blk_cell BK254.out 5).trans rfl; have hcz20_6 : w18.cell? ⟨gb254, 6, none⟩ = some (.int .u64 a1_6) := (blk_cell BK254.out 6).trans rfl; have hcz20_7 : w18.cell? ⟨gb254, 7, none⟩ = some (.int .u64 a1_7) := (blk_cell BK254.out 7).trans rfl; have hfz20_0 := blk_frozen BK254.out 0; have hfz20_1 := blk_frozen BK254.out 1; have hfz20_2 := blk_frozen BK254.out 2; have hfz20_3 := blk_frozen BK254.out 3; have hfz20_4 := blk_frozen BK254.out 4; have hfz20_5 := blk_frozen BK254.out 5; have hfz20_6 := blk_frozen BK254.out 6; have hfz20_7 := blk_frozen BK254.out 7) | ((with_reducible refine gate_callee (f := 24) rfl ?_); refine goesL_ (some 31) rfl rfl Tryd.func24 (by kernel_rfl) rfl #[.bool t257, .bool t256, .agg #[.int .u64 a1_0, .int .u64 a1_1, .int .u64 a1_2, .int .u64 a1_3, .int .u64 a1_4, .int .u64 a1_5, .int .u64 a1_6, .int .u64 a1_7]] rfl (by (try simp only [List.map_toArray, List.map_cons, List.map_nil]); first | done | rfl | (simp only [List.length_drop, List.length_take]; rfl)) ?_; (with_reducible refine (graverref07_Put.calls k t257 t256 a1_0 a1_1 a1_2 a1_3 a1_4 a1_5 a1_6 a1_7 t261 t262 _ A8.out).mono ?_); rintro e w21 ⟨rfl, hb⟩; refine ⟨_, rfl, ?_⟩; have n0_ := Aside0.mk (blk_below (g := gb254) (o := .cells #[.int .u64 a1_0, .int .u64 a1_1, .int .u64 a1_2, .int .u64 a1_3, .int .u64 a1_4, .int .u64 a1_5, .int .u64 a1_6, .int .u64 a1_7] 51 (0, 0)) (by (with_reducible repeat (first | refine blk_drewN ?_ _ | refine blk_drew ?_ | refine blk_alloc ?_ _)); exact BK254.out) hb); have n1_ := Aside0.mk (blk_below (g := gb258) (o := .cells #[.bool t256, .bool t257] 29 (0, 0)) (by (with_reducible repeat (first | refine blk_drewN ?_ _ | refine blk_drew ?_ | refine blk_alloc ?_ _)); exact BK258.out) hb); have n2_ := Aside0.mk (below_step (by repeat (first | (with_reducible first | exact HB.out | apply below_alloc | apply pw_below_drewN | apply below_drew1 | refine below_set ?_ GE254.out | refine below_set ?_ GE258.out) | exact HB.out)) hb); clear BK254; clear BK258; clear HB; have BK254 := n0_; have BK258 := n1_; have HB := n2_; clear n0_ n1_ n2_; (try clear hb); (try clear hb2); (try clear hk); (try clear hi)))
    go_ret
    exact ⟨by first | rfl | (simp [errW_none, errW_some] <;> rfl) | (simp [*, errW_none, errW_some] <;> rfl), by repeat (first | (with_reducible first | exact HB.out | apply below_alloc | apply pw_below_drewN | apply below_drew1 | refine below_set ?_ GE254.out | refine below_set ?_ GE258.out) | exact HB.out)⟩
   ·
    rw [if_neg c10] at H
    have c10b0 : (t260 != t262) = false := by simpa using c10
    (try (have c10b1 : decide (t260 = t262) = true := by simpa using c10))
    (try (have c10b2 : (t260 == t262) = true := by simpa using c10))
    clear c10
    obtain ⟨ji22, hji22⟩ : ∃ j_ : Int, (mn (a2.size : Int) 20) = j_ := ⟨_, rfl⟩
    replace H : (if 0 ≤ (ji22) then (if (ji22) ≤ (a2.size : Int) then (if t259.size + (a2.extract 0 ((ji22) : Int).toNat).size ≤ 9223372036854775807 then ((phdr_Read.f k t256 t257 (t259 ++ (a2.extract 0 ((ji22) : Int).toNat))).bind fun bt263 => (if t260 = true then (if bt263.2.2.2.2.2.2.2.2 = true then (some (bt263.1 == a1_0 && (bt263.2.1 == a1_1 && (bt263.2.2.1 == a1_2 && (bt263.2.2.2.1 == a1_3 && (bt263.2.2.2.2.1 == a1_4 && (bt263.2.2.2.2.2.1 == a1_5 && (bt263.2.2.2.2.2.2.1 == a1_6 && (bt263.2.2.2.2.2.2.2.1 == a1_7))))))))) else (some false)) else (some true))) else (none)) else (none)) else (none)) = some r := by first | (rw [hji22] at H; exact H) | (simp only [hji22] at H ⊢; exact H)
    (try rw [hji22] at A4)
    (try rw [hji22] at A6)
    (try rw [hji22] at A7)
    (try rw [hji22] at A8)
    (try (have hji22h : ji22 ≤ 20 := by (rw [← hji22]; unfold mn; (repeat' split) <;> omega)))
    (try (have hji22g : ji22 ≤ 64 := by omega))
    (try (have hji22l : 0 ≤ ji22 := by (rw [← hji22]; unfold mn; (repeat' split) <;> omega)))
    (try (have hji22m : 0 ≤ ji22 := by omega))
    have hji22_ : (if 20 < (a2.size : Int) then 20 else (a2.size : Int)) = ji22 := hji22
    by_cases c23 : 0 ≤ (ji22)
    ·
     rw [if_pos c23] at H
     have c23b0 := eq_true c23
     have c23b1 : decide (0 ≤ (ji22)) = true := decide_eq_true c23
     clear c23
     by_cases c24 : (ji22) ≤ (a2.size : Int)
     ·
      rw [if_pos c24] at H
      have c24b0 := eq_true c24
      have c24b1 : decide ((ji22) ≤ (a2.size : Int)) = true := decide_eq_true c24
      clear c24
      obtain ⟨sc25, hsc25⟩ : ∃ s_ : ByteArray, (a2.extract 0 ((ji22) : Int).toNat) = s_ := ⟨_, rfl⟩
      replace H : (if t259.size + sc25.size ≤ 9223372036854775807 then ((phdr_Read.f k t256 t257 (t259 ++ sc25)).bind fun bt263 => (if t260 = true then (if bt263.2.2.2.2.2.2.2.2 = true then (some (bt263.1 == a1_0 && (bt263.2.1 == a1_1 && (bt263.2.2.1 == a1_2 && (bt263.2.2.2.1 == a1_3 && (bt263.2.2.2.2.1 == a1_4 && (bt263.2.2.2.2.2.1 == a1_5 && (bt263.2.2.2.2.2.2.1 == a1_6 && (bt263.2.2.2.2.2.2.2.1 == a1_7))))))))) else (some false)) else (some true))) else (none)) = some r := by first | (rw [hsc25] at H; exact H) | (simp only [hsc25] at H ⊢; exact H) | exact H
      (try (have hsc25n := hsc25; simp only [Int.toNat_natCast] at hsc25n))
      by_cases c26 : t259.size + sc25.size ≤ 9223372036854775807
      ·
       rw [if_pos c26] at H
       have c26b0 := eq_true c26
       have c26b1 : decide (t259.size + sc25.size ≤ 9223372036854775807) = true := decide_eq_true c26
       try have c26b2 : (9223372036854775807 < t259.size + sc25.size) = False := eq_false (Nat.not_lt.2 c26)
       replace H := Option.bind_eq_some_iff.mp H
       obtain ⟨⟨t263, t264, t265, t266, t267, t268, t269, t270, t271⟩, A270, H⟩ := H
       replace H : (if t260 = true then (if t271 = true then (some (t263 == a1_0 && (t264 == a1_1 && (t265 == a1_2 && (t266 == a1_3 && (t267 == a1_4 && (t268 == a1_5 && (t269 == a1_6 && (t270 == a1_7))))))))) else (some false)) else (some true)) = some r := H
       have A27 := Aside0.mk A270
       clear A270
       by_cases c28 : t260 = true
       ·
        subst c28
        have H1 : (if t271 = true then (some (t263 == a1_0 && (t264 == a1_1 && (t265 == a1_2 && (t266 == a1_3 && (t267 == a1_4 && (t268 == a1_5 && (t269 == a1_6 && (t270 == a1_7))))))))) else (some false)) = some r := by rw [if_pos rfl] at H; exact H
        clear H
        have H := H1
        clear H1
        by_cases c29 : t271 = true
        ·
         subst c29
         have H1 : (some (t263 == a1_0 && (t264 == a1_1 && (t265 == a1_2 && (t266 == a1_3 && (t267 == a1_4 && (t268 == a1_5 && (t269 == a1_6 && (t270 == a1_7))))))))) = some r := by rw [if_pos rfl] at H; exact H
         clear H
         have H := H1
         clear H1
         obtain rfl := Option.some.inj H
         go_enter Tryd.func7, Tryd.ntmps7
         try go_wp2_with (first | ((with_reducible refine gate_dst (N := 4) rfl ?_); refine box_event ?hg (N := 4) ?hd (cs := #[.int .u64 a1_0, .int .u64 a1_1, .int .u64 a1_2, .int .u64 a1_3, .int .u64 a1_4, .int .u64 a1_5, .int .u64 a1_6, .int .u64 a1_7]) (t := 51) ?hr ?_; (case hd => rfl); (case hg => rfl); (case hr => first | (go_simp; done) | (go_simp; rfl)); intro gb254 hg w30 hbox hb; have n0_ := Aside0.mk (below_step (by repeat (first | (with_reducible first | exact HB.out | apply below_alloc | apply pw_below_drewN | apply below_drew1) | exact HB.out)) hb); have n1_ := Aside0.mk (hbox); have n2_ := Aside0.mk ((by rw [hg]; exact (below_size (by repeat (first | (with_reducible first | exact HB.out | apply below_alloc | apply pw_below_drewN | apply below_drew1) | exact HB.out))) : w.heap.size ≤ gb254)); have n3_ := Aside0.mk ((by rw [hg]; exact (below_size (by repeat (first | (with_reducible first | exact HB.out | apply below_alloc | apply pw_below_drewN | apply below_drew1) | exact HB.out))) : w.heap.size ≤ gb254)); clear HB; have HB := n0_; have BK254 := n1_; have GW254 := n2_; have GE254 := n3_; clear n0_ n1_ n2_ n3_; clear hb hbox hg) | ((with_reducible refine gate_callee (f := 21) rfl ?_); refine goesL_ (some 14) rfl rfl Tryd.func21 (by kernel_rfl) rfl #[] rfl (by (try simp only [List.map_toArray, List.map_cons, List.map_nil]); first | done | rfl | (simp only [List.length_drop, List.length_take]; rfl)) ?_; (with_reducible refine (graverlaw07_speaks.calls k  true _ ?side1 A4.out).mono ?_); (case side1 => exact Laid_phdr.below HLD_phdr.out (by repeat (first | (with_reducible first | exact HB.out | apply below_alloc | apply pw_below_drewN | apply below_drew1 | refine below_set ?_ GE254.out) | exact HB.out))); rintro e w31 ⟨rfl, hb⟩; refine ⟨_, rfl, ?_⟩; have n0_ := Aside0.mk (blk_below (g := gb254) (o := .cells #[.int .u64 a1_0, .int .u64 a1_1, .int .u64 a1_2, .int .u64 a1_3, .int .u64 a1_4, .int .u64 a1_5, .int .u64 a1_6, .int .u64 a1_7] 51 (0, 0)) (by (with_reducible repeat (first | refine blk_drewN ?_ _ | refine blk_drew ?_ | refine blk_alloc ?_ _)); exact BK254.out) hb); have n1_ := Aside0.mk (below_step (by repeat (first | (with_reducible first | exact HB.out | apply below_alloc | apply pw_below_drewN | apply below_drew1 | refine below_set ?_ GE254.out) | exact HB.out)) hb); clear BK254; clear HB; have BK254 := n0_; have HB := n1_; clear n0_ n1_; (try clear hb); (try clear hb2); (try clear hk); (try clear hi)) | ((with_reducible refine gate_callee (f := 22) rfl ?_); refine goesL_ (some 17) rfl rfl Tryd.func22 (by kernel_rfl) rfl #[.int .i64 a0] rfl (by (try simp only [List.map_toArray, List.map_cons, List.map_nil]); first | done | rfl | (simp only [List.length_drop, List.length_take]; rfl)) ?_; (with_reducible refine (graverlaw07_formOf.calls a0 t256 t257 _ A6.out).mono ?_); rintro e w32 ⟨rfl, hb⟩; refine ⟨_, rfl, ?_⟩; have n0_ := Aside0.mk (blk_below (g := gb254) (o := .cells #[.int .u64 a1_0, .int .u64 a1_1, .int .u64 a1_2, .int .u64 a1_3, .int .u64 a1_4, .int .u64 a1_5, .int .u64 a1_6, .int .u64 a1_7] 51 (0, 0)) (by (with_reducible repeat (first | refine blk_drewN ?_ _ | refine blk_drew ?_ | refine blk_alloc ?_ _)); exact BK254.out) hb); have n1_ := Aside0.mk (below_step (by repeat (first | (with_reducible first | exact HB.out | apply below_alloc | apply pw_below_drewN | apply below_drew1 | refine below_set ?_ GE254.out) | exact HB.out)) hb); clear BK254; clear HB; have BK254 := n0_; have HB := n1_; clear n0_ n1_; (try clear hb); (try clear hb2); (try clear hk); (try clear hi)) | ((with_reducible refine gate_dst (N := 7) rfl ?_); refine box_event ?hg (N := 7) ?hd (cs := #[.bool false, .bool false]) (t := 29) ?hr ?_; (case hd => rfl); (case hg => rfl); (case hr => first | (go_simp; done) | (go_simp; rfl)); intro gb258 hg w33 hbox hb; have n0_ := Aside0.mk (blk_below (g := gb254) (o := .cells #[.int .u64 a1_0, .int .u64 a1_1, .int .u64 a1_2, .int .u64 a1_3, .int .u64 a1_4, .int .u64 a1_5, .int .u64 a1_6, .int .u64 a1_7] 51 (0, 0)) (by (with_reducible repeat (first | refine blk_drewN ?_ _ | refine blk_drew ?_ | refine blk_alloc ?_ _)); exact BK254.out) hb); have n1_ := Aside0.mk (below_step (by repeat (first | (with_reducible first | exact HB.out | apply below_alloc | apply pw_below_drewN | apply below_drew1 | refine below_set ?_ GE254.out) | exact HB.out)) hb); have n2_ := Aside0.mk (hbox); have n3_ := Aside0.mk ((by rw [hg]; exact (below_size (by repeat (first | (with_reducible first | exact HB.out | apply below_alloc | apply pw_below_drewN | apply below_drew1 | refine below_set ?_ GE254.out) | exact HB.out))) : w.heap.size ≤ gb258)); have n4_ := Aside0.mk ((by rw [hg]; exact (below_size (by repeat (first | (with_reducible first | exact HB.out | apply below_alloc | apply pw_below_drewN | apply below_drew1 | refine below_set ?_ GE254.out) | exact HB.out))) : w.heap.size ≤ gb258)); have n5_ := Aside0.mk ((by rw [hg]; exact Nat.ne_of_lt (blk_lt (g := gb254) (o := .cells #[.int .u64 a1_0, .int .u64 a1_1, .int .u64 a1_2, .int .u64 a1_3, .int .u64 a1_4, .int .u64 a1_5, .int .u64 a1_6, .int .u64 a1_7] 51 (0, 0)) (by (with_reducible repeat (first | refine blk_drewN ?_ _ | refine blk_drew ?_ | refine blk_alloc ?_ _)); exact BK254.out)) : gb254 ≠ gb258)); have n6_ := Aside0.mk ((by rw [hg]; exact Nat.ne_of_gt (blk_lt (g := gb254) (o := .cells #[.int .u64 a1_0, .int .u64 a1_1, .int .u64 a1_2, .int .u64 a1_3, .int .u64 a1_4, .int .u64 a1_5, .int .u64 a1_6, .int .u64 a1_7] 51 (0, 0)) (by (with_reducible repeat (first | refine blk_drewN ?_ _ | refine blk_drew ?_ | refine blk_alloc ?_ _)); exact BK254.out)) : gb258 ≠ gb254)); clear BK254; clear HB; have BK254 := n0_; have HB := n1_; have BK258 := n2_; have GW258 := n3_; have GE258 := n4_; have NB254_258 := n5_; have NB258_254 := n6_; clear n0_ n1_ n2_ n3_ n4_ n5_ n6_; clear hb hbox hg; have hnb34 := NB258_254.out; have hnc34 := NB254_258.out; have hcz35_0 : w33.cell? ⟨gb258, 0, none⟩ = some (.bool false) := (blk_cell BK258.out 0).trans rfl; have hcz35_1 : w33.cell? ⟨gb258, 1, none⟩ = some (.bool false) := (blk_cell BK258.out 1).trans rfl; have hfz35_0 := blk_frozen BK258.out 0; have hfz35_1 := blk_frozen BK258.out 1; have hcz36_0 : w33.cell? ⟨gb254, 0, none⟩ = some (.int .u64 a1_0) := (blk_cell BK254.out 0).trans rfl; have hcz36_1 : w33.cell? ⟨gb254, 1, none⟩ = some (.int .u64 a1_1) := (blk_cell BK254.out 1).trans rfl; have hcz36_2 : w33.cell? ⟨gb254, 2, none⟩ = some (.int .u64 a1_2) := (blk_cell BK254.out 2).trans rfl; have hcz36_3 : w33.cell? ⟨gb254, 3, none⟩ = some (.int .u64 a1_3) := (blk_cell BK254.out 3).trans rfl; have hcz36_4 : w33.cell? ⟨gb254, 4, none⟩ = some (.int .u64 a1_4) := (blk_cell BK254.out 4).trans rfl; have hcz36_5 : w33.cell? ⟨gb254, 5, none⟩ = some (.int .u64 a1_5) := (blk_cell BK254.out 5).trans rfl; have hcz36_6 : w33.cell? ⟨gb254, 6, none⟩ = some (.int .u64 a1_6) := (blk_cell BK254.out 6).trans rfl; have hcz36_7 : w33.cell? ⟨gb254, 7, none⟩ = some (.int .u64 a1_7) := (blk_cell BK254.out 7).trans rfl; have hfz36_0 := blk_frozen BK254.out 0; have hfz36_1 := blk_frozen BK254.out 1; have hfz36_2 := blk_frozen BK254.out 2; have hfz36_3 := blk_frozen BK254.out 3; have hfz36_4 := blk_frozen BK254.out 4; have hfz36_5 := blk_frozen BK254.out 5; have hfz36_6 := blk_frozen BK254.out 6; have hfz36_7 := blk_frozen BK254.out 7) | ((with_reducible refine gate_callee (f := 23) rfl ?_); refine goesL_ (some 21) rfl rfl Tryd.func23 (by kernel_rfl) rfl #[.agg #[.bool t256, .bool t257], .agg #[.int .u64 a1_0, .int .u64 a1_1, .int .u64 a1_2, .int .u64 a1_3, .int .u64 a1_4, .int .u64 a1_5, .int .u64 a1_6, .int .u64 a1_7]] rfl (by (try simp only [List.map_toArray, List.map_cons, List.map_nil]); first | done | rfl | (simp only [List.length_drop, List.length_take]; rfl)) ?_; (with_reducible refine (phdr_Put.calls k t256 t257 a1_0 a1_1 a1_2 a1_3 a1_4 a1_5 a1_6 a1_7 t259 true _ ?side1 A7.out).mono ?_); (case side1 => exact Laid_phdr.below HLD_phdr.out (by repeat (first | (with_reducible first | exact HB.out | apply below_alloc | apply pw_below_drewN | apply below_drew1 | refine below_set ?_ GE254.out | refine below_set ?_ GE258.out) | exact HB.out))); rintro e w37 ⟨rfl, hb⟩; refine ⟨_, rfl, ?_⟩; have n0_ := Aside0.mk (blk_below (g := gb254) (o := .cells #[.int .u64 a1_0, .int .u64 a1_1, .int .u64 a1_2, .int .u64 a1_3, .int .u64 a1_4, .int .u64 a1_5, .int .u64 a1_6, .int .u64 a1_7] 51 (0, 0)) (by (with_reducible repeat (first | refine blk_drewN ?_ _ | refine blk_drew ?_ | refine blk_alloc ?_ _)); refine blk_far ?_ NB254_258.out _; (with_reducible repeat (first | refine blk_drewN ?_ _ | refine blk_drew ?_ | refine blk_alloc ?_ _)); refine blk_far ?_ NB254_258.out _; (with_reducible repeat (first | refine blk_drewN ?_ _ | refine blk_drew ?_ | refine blk_alloc ?_ _)); exact BK254.out) hb); have n1_ := Aside0.mk (blk_below (g := gb258) (o := .cells #[.bool t256, .bool t257] 29 (0, 0)) (by (with_reducible repeat (first | refine blk_drewN ?_ _ | refine blk_drew ?_ | refine blk_alloc ?_ _)); refine blk_put (cs := #[.bool t256, .bool false]) ?_ 1 _ rfl; (with_reducible repeat (first | refine blk_drewN ?_ _ | refine blk_drew ?_ | refine blk_alloc ?_ _)); refine blk_put (cs := #[.bool false, .bool false]) ?_ 0 _ rfl; (with_reducible repeat (first | refine blk_drewN ?_ _ | refine blk_drew ?_ | refine blk_alloc ?_ _)); exact BK258.out) hb); have n2_ := Aside0.mk (below_step (by repeat (first | (with_reducible first | exact HB.out | apply below_alloc | apply pw_below_drewN | apply below_drew1 | refine below_set ?_ GE254.out | refine below_set ?_ GE258.out) | exact HB.out)) hb); clear BK254; clear BK258; clear HB; have BK254 := n0_; have BK258 := n1_; have HB := n2_; clear n0_ n1_ n2_; (try clear hb); (try clear hb2); (try clear hk); (try clear hi); have hcz38_0 : w37.cell? ⟨gb258, 0, none⟩ = some (.bool t256) := (blk_cell BK258.out 0).trans rfl; have hcz38_1 : w37.cell? ⟨gb258, 1, none⟩ = some (.bool t257) := (blk_cell BK258.out 1).trans rfl; have hfz38_0 := blk_frozen BK258.out 0; have hfz38_1 := blk_frozen BK258.out 1; have hcz39_0 : w37.cell? ⟨gb254, 0, none⟩ = some (.int .u64 a1_0) := (blk_cell BK254.out 0).trans rfl; have hcz39_1 : w37.cell? ⟨gb254, 1, none⟩ = some (.int .u64 a1_1) := (blk_cell BK254.out 1).trans rfl; have hcz39_2 : w37.cell? ⟨gb254, 2, none⟩ = some (.int .u64 a1_2) := (blk_cell BK254.out 2).trans rfl; have hcz39_3 : w37.cell? ⟨gb254, 3, none⟩ = some (.int .u64 a1_3) := (blk_cell BK254.out 3).trans rfl; have hcz39_4 : w37.cell? ⟨gb254, 4, none⟩ = some (.int .u64 a1_4) := (blk_cell BK254.out 4).trans rfl; have hcz39_5 : w37.cell? ⟨gb254, 5, none⟩ = some (.int .u64 a1_5) := (blk_cell BK254.out 5).trans rfl; have hcz39_6 : w37.cell? ⟨gb254, 6, none⟩ = some (.int .u64 a1_6) := (blk_cell BK254.out 6).trans rfl; have hcz39_7 : w37.cell? ⟨gb254, 7, none⟩ = some (.int .u64 a1_7) := (blk_cell BK254.out 7).trans rfl; have hfz39_0 := blk_frozen BK254.out 0; have hfz39_1 := blk_frozen BK254.out 1; have hfz39_2 := blk_frozen BK254.out 2; have hfz39_3 := blk_frozen BK254.out 3; have hfz39_4 := blk_frozen BK254.out 4; have hfz39_5 := blk_frozen BK254.out 5; have hfz39_6 := blk_frozen BK254.out 6; have hfz39_7 := blk_frozen BK254.out 7) | ((with_reducible refine gate_callee (f := 24) rfl ?_); refine goesL_ (some 31) rfl rfl Tryd.func24 (by kernel_rfl) rfl #[.bool t257, .bool t256, .agg #[.int .u64 a1_0, .int .u64 a1_1, .int .u64 a1_2, .int .u64 a1_3, .int .u64 a1_4, .int .u64 a1_5, .int .u64 a1_6, .int .u64 a1_7]] rfl (by (try simp only [List.map_toArray, List.map_cons, List.map_nil]); first | done | rfl | (simp only [List.length_drop, List.length_take]; rfl)) ?_; (with_reducible refine (graverref07_Put.calls k t257 t256 a1_0 a1_1 a1_2 a1_3 a1_4 a1_5 a1_6 a1_7 t261 t262 _ A8.out).mono ?_); rintro e w40 ⟨rfl, hb⟩; refine ⟨_, rfl, ?_⟩; have n0_ := Aside0.mk (blk_below (g := gb254) (o := .cells #[.int .u64 a1_0, .int .u64 a1_1, .int .u64 a1_2, .int .u64 a1_3, .int .u64 a1_4, .int .u64 a1_5, .int .u64 a1_6, .int .u64 a1_7] 51 (0, 0)) (by (with_reducible repeat (first | refine blk_drewN ?_ _ | refine blk_drew ?_ | refine blk_alloc ?_ _)); exact BK254.out) hb); have n1_ := Aside0.mk (blk_below (g := gb258) (o := .cells #[.bool t256, .bool t257] 29 (0, 0)) (by (with_reducible repeat (first | refine blk_drewN ?_ _ | refine blk_drew ?_ | refine blk_alloc ?_ _)); exact BK258.out) hb); have n2_ := Aside0.mk (below_step (by repeat (first | (with_reducible first | exact HB.out | apply below_alloc | apply pw_below_drewN | apply below_drew1 | refine below_set ?_ GE254.out | refine below_set ?_ GE258.out) | exact HB.out)) hb); clear BK254; clear BK258; clear HB; have BK254 := n0_; have BK258 := n1_; have HB := n2_; clear n0_ n1_ n2_; (try clear hb); (try clear hb2); (try clear hk); (try clear hi)))
         have n0_ := Aside0.mk (blk_drew BK254.out)
         have n1_ := Aside0.mk (blk_drew BK258.out)
         have n2_ := Aside0.mk (below_drew1 HB.out)
         clear BK254
         clear BK258
         clear HB
         have BK254 := n0_
         have BK258 := n1_
         have HB := n2_
         clear n0_ n1_ n2_
         refine start_ (n := 15) (S := fun w' => w'.cell? ⟨gb258, 0, none⟩ = some (.bool t256) ∧ w'.cell? ⟨gb258, 1, none⟩ = some (.bool t257)) (ds := []) #[false, false, false, false, false, false, false, false, false, false, false, false, false, false, false] (by kernel_rfl) rfl rfl ⟨(blk_cell BK258.out 0).trans rfl, (blk_cell BK258.out 1).trans rfl⟩ (fun hHeld => ?_); refine with_tabW graverlaw07_PhdrPuts.tab8 graverlaw07_PhdrPuts.bits8 (fun HT_ HW_ => ?_)
         generalize w40.drew = w41 at BK254 BK258 HB hHeld ⊢
         refine pure_ (i := 1) (N := some 44) (v := ?_) (a' := ?_) (bm 15 2) rfl rfl (any_of HT_.out (by kernel_rfl)) (fun _ _ _ h => h) (Or.inl ⟨by rfl, ?_⟩) ?_ ?_
         rotate_left
         ·
          intro w'
          go_simp
          with_reducible rfl
         rotate_left
         ·
          simp only [Act.put, List.setIfInBounds_toArray, List.set_cons_zero, List.set_cons_succ, i64_w, i32_w]
          rfl
         refine pure_ (i := 2) (N := some 45) (v := ?_) (a' := ?_) (bm 15 6) rfl rfl (any_of HT_.out (by kernel_rfl)) (fun _ _ _ h => h) (Or.inl ⟨by rfl, ?_⟩) ?_ ?_
         rotate_left
         ·
          intro w'
          go_simp
          with_reducible rfl
         rotate_left
         ·
          simp only [Act.put, List.setIfInBounds_toArray, List.set_cons_zero, List.set_cons_succ, i64_w, i32_w]
          rfl
         refine pure_ (i := 3) (N := some 46) (v := ?_) (a' := ?_) (bm 15 14) rfl rfl (any_of HT_.out (by kernel_rfl)) (fun _ _ _ h => h) (Or.inl ⟨by rfl, ?_⟩) ?_ ?_
         rotate_left
         ·
          intro w'
          go_simp
          with_reducible rfl
         rotate_left
         ·
          simp only [Act.put, List.setIfInBounds_toArray, List.set_cons_zero, List.set_cons_succ, i64_w, i32_w]
          rfl
         refine pure_ (i := 4) (N := some 47) (v := ?_) (a' := ?_) (bm 15 30) rfl rfl (any_of HT_.out (by kernel_rfl)) (fun _ _ _ h => h) (Or.inl ⟨by rfl, ?_⟩) ?_ ?_
         rotate_left
         ·
          intro w'
          go_simp
          with_reducible rfl
         rotate_left
         ·
          simp only [Act.put, List.setIfInBounds_toArray, List.set_cons_zero, List.set_cons_succ, i64_w, i32_w]
          rfl
         refine pure_ (i := 5) (N := some 48) (v := ?_) (a' := ?_) (bm 15 62) rfl rfl (any_of HT_.out (by kernel_rfl)) (fun _ _ _ h => h) (Or.inl ⟨by rfl, ?_⟩) ?_ ?_
         rotate_left
         ·
          intro w'
          go_simp
          with_reducible rfl
         rotate_left
         ·
          simp only [Act.put, List.setIfInBounds_toArray, List.set_cons_zero, List.set_cons_succ, i64_w, i32_w]
          rfl
         refine pure_ (i := 6) (N := some 49) (v := ?_) (a' := ?_) (bm 15 126) rfl rfl (any_of HT_.out (by kernel_rfl)) (fun _ _ _ h => h) (Or.inl ⟨by rfl, ?_⟩) ?_ ?_
         rotate_left
         ·
          intro w'
          go_simp
          with_reducible rfl
         rotate_left
         ·
          simp only [Act.put, List.setIfInBounds_toArray, List.set_cons_zero, List.set_cons_succ, i64_w, i32_w]
          rfl
         refine pure_ (i := 7) (N := some 50) (v := ?_) (a' := ?_) (bm 15 254) rfl rfl (any_of HT_.out (by kernel_rfl)) (fun _ _ _ h => h) (Or.inl ⟨by rfl, ?_⟩) ?_ ?_
         rotate_left
         ·
          intro w'
          go_simp
          with_reducible rfl
         rotate_left
         ·
          simp only [Act.put, List.setIfInBounds_toArray, List.set_cons_zero, List.set_cons_succ, i64_w, i32_w]
          rfl
         refine take_ (i := 0) (N := some 43) (v := ?_) (a' := ?_) (bm 15 255) rfl rfl (take_ofW HT_.out HW_.out (by kernel_rfl)) (fun _ _ _ h => h) (Or.inl ⟨by rfl, ?_⟩) hHeld ?_ ?_
         rotate_left
         ·
          rintro w' ⟨s0, s1⟩
          go_simp
          with_reducible rfl
         rotate_left
         ·
          simp only [Act.put, List.setIfInBounds_toArray, List.set_cons_zero, List.set_cons_succ, i64_w, i32_w]
          rfl
         refine join_ (σ := Nat) 2 (bm 15 8191) (fun s_ => [(51, .tuple #[.agg #[.int .u64 t263, .int .u64 t264, .int .u64 t265, .int .u64 t266, .int .u64 t267, .int .u64 t268, .int .u64 t269, .int .u64 t270], .bool true]), (12, .pointer (some ⟨s_, 0, none⟩)), (42, .tuple #[.agg #[.int .u64 t263, .int .u64 t264, .int .u64 t265, .int .u64 t266, .int .u64 t267, .int .u64 t268, .int .u64 t269, .int .u64 t270], .bool true]), (52, .agg #[.int .u64 t263, .int .u64 t264, .int .u64 t265, .int .u64 t266, .int .u64 t267, .int .u64 t268, .int .u64 t269, .int .u64 t270]), (53, .bool true)]) (fun s_ w' => (w'.cell? ⟨gb258, 0, none⟩ = some (.bool t256) ∧ w'.cell? ⟨gb258, 1, none⟩ = some (.bool t257)) ∧ (w'.heap[gb254]? = some (.cells #[.int .u64 a1_0, .int .u64 a1_1, .int .u64 a1_2, .int .u64 a1_3, .int .u64 a1_4, .int .u64 a1_5, .int .u64 a1_6, .int .u64 a1_7] 51 (0, 0))) ∧ (w'.heap[gb258]? = some (.cells #[.bool t256, .bool t257] 29 (0, 0))) ∧ (w'.heap[s_]? = some (.cells #[.int .u64 0, .int .u64 0, .int .u64 0, .int .u64 0, .int .u64 0, .int .u64 0, .int .u64 0, .int .u64 0] 53 (0, 0))) ∧ (w.heap.size ≤ s_) ∧ (w.heap.size ≤ s_) ∧ (gb254 ≠ s_) ∧ (s_ ≠ gb254) ∧ (gb258 ≠ s_) ∧ (s_ ≠ gb258) ∧ (Below w.heap.size w w')) ?_ ?_
         rotate_left
         ·
          intro hCont
          refine two_ (i := 8) (j := 12) (Ni := some 51) (Nj := some 12) (bm 15 511) (bm 15 4351) rfl rfl rfl rfl (two_of HT_.out (by kernel_rfl)) (by decide) (by decide) (fun K hK => ?_) (fun K hK => ?_)
          ·
           skip
           refine goes_ Tryd.func25 (by kernel_rfl) rfl #[.agg #[.bool t256, .bool t257], .string (t259 ++ sc25)] (by rfl) rfl rfl (by (try simp only [List.map_toArray, List.map_cons, List.map_nil]); first | done | rfl | (simp only [List.length_drop, List.length_take]; rfl)) ?_
           with_reducible refine (phdr_Read.calls k t256 t257 (t259 ++ sc25) t263 t264 t265 t266 t267 t268 t269 t270 true _ ?side1 A27.out).mono ?_
           (case side1 => exact Laid_phdr.below HLD_phdr.out (by repeat (first | (with_reducible first | exact HB.out | apply below_alloc | apply pw_below_drewN | apply below_drew1 | refine below_set ?_ GE254.out | refine below_set ?_ GE258.out) | exact HB.out)))
           rintro e w42 ⟨rfl, hb⟩
           refine ⟨_, rfl, ?_⟩
           have n0_ := Aside0.mk (blk_below (g := gb254) (o := .cells #[.int .u64 a1_0, .int .u64 a1_1, .int .u64 a1_2, .int .u64 a1_3, .int .u64 a1_4, .int .u64 a1_5, .int .u64 a1_6, .int .u64 a1_7] 51 (0, 0)) (by (with_reducible repeat (first | refine blk_drewN ?_ _ | refine blk_drew ?_ | refine blk_alloc ?_ _)); exact BK254.out) hb)
           have n1_ := Aside0.mk (blk_below (g := gb258) (o := .cells #[.bool t256, .bool t257] 29 (0, 0)) (by (with_reducible repeat (first | refine blk_drewN ?_ _ | refine blk_drew ?_ | refine blk_alloc ?_ _)); exact BK258.out) hb)
           have n2_ := Aside0.mk (below_step (by repeat (first | (with_reducible first | exact HB.out | apply below_alloc | apply pw_below_drewN | apply below_drew1 | refine below_set ?_ GE254.out | refine below_set ?_ GE258.out) | exact HB.out)) hb)
           clear BK254
           clear BK258
           clear HB
           have BK254 := n0_
           have BK258 := n1_
           have HB := n2_
           clear n0_ n1_ n2_
           (try clear hb)
           (try clear hb2)
           (try clear hk)
           (try clear hi)
           refine hK.out _ _ ⟨(blk_cell BK258.out 0).trans rfl, (blk_cell BK258.out 1).trans rfl⟩ (fun hHeld => ?_)
           clear hK K
           refine norm_ (a' := ?_) ?_ ?_
           rotate_left
           ·
            show Act.put _ (some 51) _ = _
            simp only [Act.put, List.setIfInBounds_toArray, List.set_cons_zero, List.set_cons_succ, i64_w, i32_w]
            rfl
           refine pure_ (i := 9) (N := some 42) (v := ?_) (a' := ?_) (bm 15 1023) rfl rfl (any_of HT_.out (by kernel_rfl)) (fun _ _ _ h => h) (Or.inl ⟨by rfl, ?_⟩) ?_ ?_
           rotate_left
           ·
            intro w'
            go_simp
            with_reducible rfl
           rotate_left
           ·
            simp only [Act.put, List.setIfInBounds_toArray, List.set_cons_zero, List.set_cons_succ, i64_w, i32_w]
            rfl
           refine pure_ (i := 10) (N := some 52) (v := ?_) (a' := ?_) (bm 15 2047) rfl rfl (any_of HT_.out (by kernel_rfl)) (fun _ _ _ h => h) (Or.inl ⟨by rfl, ?_⟩) ?_ ?_
           rotate_left
           ·
            intro w'
            go_simp
            with_reducible rfl
           rotate_left
           ·
            simp only [Act.put, List.setIfInBounds_toArray, List.set_cons_zero, List.set_cons_succ, i64_w, i32_w]
            rfl
           refine pure_ (i := 11) (N := some 53) (v := ?_) (a' := ?_) (bm 15 4095) rfl rfl (any_of HT_.out (by kernel_rfl)) (fun _ _ _ h => h) (Or.inl ⟨by rfl, ?_⟩) ?_ ?_
           rotate_left
           ·
            intro w'
            go_simp
            with_reducible rfl
           rotate_left
           ·
            simp only [Act.put, List.setIfInBounds_toArray, List.set_cons_zero, List.set_cons_succ, i64_w, i32_w]
            rfl
           refine one_ (i := 12) (N := some 12) (bm 15 8191) rfl rfl (one_of HT_.out (by kernel_rfl)) (by decide) (fun K hK => ?_)
           refine box_step ?hg (N := 12) ?hd (cs := #[.int .u64 0, .int .u64 0, .int .u64 0, .int .u64 0, .int .u64 0, .int .u64 0, .int .u64 0, .int .u64 0]) (t := 53) ?hr ?_; (case hd => rfl); (case hg => rfl); (case hr => first | (go_simp; done) | (go_simp; rfl))
           intro gb272 hg w43 hbox hb
           have n0_ := Aside0.mk (blk_below (g := gb254) (o := .cells #[.int .u64 a1_0, .int .u64 a1_1, .int .u64 a1_2, .int .u64 a1_3, .int .u64 a1_4, .int .u64 a1_5, .int .u64 a1_6, .int .u64 a1_7] 51 (0, 0)) (by (with_reducible repeat (first | refine blk_drewN ?_ _ | refine blk_drew ?_ | refine blk_alloc ?_ _)); exact BK254.out) hb)
           have n1_ := Aside0.mk (blk_below (g := gb258) (o := .cells #[.bool t256, .bool t257] 29 (0, 0)) (by (with_reducible repeat (first | refine blk_drewN ?_ _ | refine blk_drew ?_ | refine blk_alloc ?_ _)); exact BK258.out) hb)
           have n2_ := Aside0.mk (below_step (by repeat (first | (with_reducible first | exact HB.out | apply below_alloc | apply pw_below_drewN | apply below_drew1 | refine below_set ?_ GE254.out | refine below_set ?_ GE258.out) | exact HB.out)) hb)
           have n3_ := Aside0.mk (hbox)
           have n4_ := Aside0.mk ((by rw [hg]; exact (below_size (by repeat (first | (with_reducible first | exact HB.out | apply below_alloc | apply pw_below_drewN | apply below_drew1 | refine below_set ?_ GE254.out | refine below_set ?_ GE258.out) | exact HB.out))) : w.heap.size ≤ gb272))
           have n5_ := Aside0.mk ((by rw [hg]; exact (below_size (by repeat (first | (with_reducible first | exact HB.out | apply below_alloc | apply pw_below_drewN | apply below_drew1 | refine below_set ?_ GE254.out | refine below_set ?_ GE258.out) | exact HB.out))) : w.heap.size ≤ gb272))
           have n6_ := Aside0.mk ((by rw [hg]; exact Nat.ne_of_lt (blk_lt (g := gb254) (o := .cells #[.int .u64 a1_0, .int .u64 a1_1, .int .u64 a1_2, .int .u64 a1_3, .int .u64 a1_4, .int .u64 a1_5, .int .u64 a1_6, .int .u64 a1_7] 51 (0, 0)) (by (with_reducible repeat (first | refine blk_drewN ?_ _ | refine blk_drew ?_ | refine blk_alloc ?_ _)); exact BK254.out)) : gb254 ≠ gb272))
           have n7_ := Aside0.mk ((by rw [hg]; exact Nat.ne_of_gt (blk_lt (g := gb254) (o := .cells #[.int .u64 a1_0, .int .u64 a1_1, .int .u64 a1_2, .int .u64 a1_3, .int .u64 a1_4, .int .u64 a1_5, .int .u64 a1_6, .int .u64 a1_7] 51 (0, 0)) (by (with_reducible repeat (first | refine blk_drewN ?_ _ | refine blk_drew ?_ | refine blk_alloc ?_ _)); exact BK254.out)) : gb272 ≠ gb254))
           have n8_ := Aside0.mk ((by rw [hg]; exact Nat.ne_of_lt (blk_lt (g := gb258) (o := .cells #[.bool t256, .bool t257] 29 (0, 0)) (by (with_reducible repeat (first | refine blk_drewN ?_ _ | refine blk_drew ?_ | refine blk_alloc ?_ _)); exact BK258.out)) : gb258 ≠ gb272))
           have n9_ := Aside0.mk ((by rw [hg]; exact Nat.ne_of_gt (blk_lt (g := gb258) (o := .cells #[.bool t256, .bool t257] 29 (0, 0)) (by (with_reducible repeat (first | refine blk_drewN ?_ _ | refine blk_drew ?_ | refine blk_alloc ?_ _)); exact BK258.out)) : gb272 ≠ gb258))
           clear BK254
           clear BK258
           clear HB
           have BK254 := n0_
           have BK258 := n1_
           have HB := n2_
           have BK272 := n3_
           have GW272 := n4_
           have GE272 := n5_
           have NB254_272 := n6_
           have NB272_254 := n7_
           have NB258_272 := n8_
           have NB272_258 := n9_
           clear n0_ n1_ n2_ n3_ n4_ n5_ n6_ n7_ n8_ n9_
           clear hb hbox hg
           refine hK.out _ _ ⟨(blk_cell BK258.out 0).trans rfl, (blk_cell BK258.out 1).trans rfl⟩ (fun hHeld => ?_)
           clear hK K
           refine norm_ (a' := ?_) ?_ ?_
           rotate_left
           ·
            show Act.put _ (some 12) _ = _
            simp only [Act.put, List.setIfInBounds_toArray, List.set_cons_zero, List.set_cons_succ, i64_w, i32_w]
            rfl
           exact norm_ (by simp only [putAll, Act.put, List.setIfInBounds_toArray, List.set_cons_zero, List.set_cons_succ]) (hCont (gb272) _ ⟨hHeld, (by (with_reducible repeat (first | refine blk_drewN ?_ _ | refine blk_drew ?_ | refine blk_alloc ?_ _)); exact BK254.out), (by (with_reducible repeat (first | refine blk_drewN ?_ _ | refine blk_drew ?_ | refine blk_alloc ?_ _)); exact BK258.out), (by (with_reducible repeat (first | refine blk_drewN ?_ _ | refine blk_drew ?_ | refine blk_alloc ?_ _)); exact BK272.out), GW272.out, GE272.out, NB254_272.out, NB272_254.out, NB258_272.out, NB272_258.out, (by repeat (first | (with_reducible first | exact HB.out | apply below_alloc | apply pw_below_drewN | apply below_drew1 | refine below_set ?_ GE254.out | refine below_set ?_ GE258.out | refine below_set ?_ GE272.out) | exact HB.out))⟩)
          ·
           skip
           refine box_step ?hg (N := 12) ?hd (cs := #[.int .u64 0, .int .u64 0, .int .u64 0, .int .u64 0, .int .u64 0, .int .u64 0, .int .u64 0, .int .u64 0]) (t := 53) ?hr ?_; (case hd => rfl); (case hg => rfl); (case hr => first | (go_simp; done) | (go_simp; rfl))
           intro gb272 hg w42 hbox hb
           have n0_ := Aside0.mk (blk_below (g := gb254) (o := .cells #[.int .u64 a1_0, .int .u64 a1_1, .int .u64 a1_2, .int .u64 a1_3, .int .u64 a1_4, .int .u64 a1_5, .int .u64 a1_6, .int .u64 a1_7] 51 (0, 0)) (by (with_reducible repeat (first | refine blk_drewN ?_ _ | refine blk_drew ?_ | refine blk_alloc ?_ _)); exact BK254.out) hb)
           have n1_ := Aside0.mk (blk_below (g := gb258) (o := .cells #[.bool t256, .bool t257] 29 (0, 0)) (by (with_reducible repeat (first | refine blk_drewN ?_ _ | refine blk_drew ?_ | refine blk_alloc ?_ _)); exact BK258.out) hb)
           have n2_ := Aside0.mk (below_step (by repeat (first | (with_reducible first | exact HB.out | apply below_alloc | apply pw_below_drewN | apply below_drew1 | refine below_set ?_ GE254.out | refine below_set ?_ GE258.out) | exact HB.out)) hb)
           have n3_ := Aside0.mk (hbox)
           have n4_ := Aside0.mk ((by rw [hg]; exact (below_size (by repeat (first | (with_reducible first | exact HB.out | apply below_alloc | apply pw_below_drewN | apply below_drew1 | refine below_set ?_ GE254.out | refine below_set ?_ GE258.out) | exact HB.out))) : w.heap.size ≤ gb272))
           have n5_ := Aside0.mk ((by rw [hg]; exact (below_size (by repeat (first | (with_reducible first | exact HB.out | apply below_alloc | apply pw_below_drewN | apply below_drew1 | refine below_set ?_ GE254.out | refine below_set ?_ GE258.out) | exact HB.out))) : w.heap.size ≤ gb272))
           have n6_ := Aside0.mk ((by rw [hg]; exact Nat.ne_of_lt (blk_lt (g := gb254) (o := .cells #[.int .u64 a1_0, .int .u64 a1_1, .int .u64 a1_2, .int .u64 a1_3, .int .u64 a1_4, .int .u64 a1_5, .int .u64 a1_6, .int .u64 a1_7] 51 (0, 0)) (by (with_reducible repeat (first | refine blk_drewN ?_ _ | refine blk_drew ?_ | refine blk_alloc ?_ _)); exact BK254.out)) : gb254 ≠ gb272))
           have n7_ := Aside0.mk ((by rw [hg]; exact Nat.ne_of_gt (blk_lt (g := gb254) (o := .cells #[.int .u64 a1_0, .int .u64 a1_1, .int .u64 a1_2, .int .u64 a1_3, .int .u64 a1_4, .int .u64 a1_5, .int .u64 a1_6, .int .u64 a1_7] 51 (0, 0)) (by (with_reducible repeat (first | refine blk_drewN ?_ _ | refine blk_drew ?_ | refine blk_alloc ?_ _)); exact BK254.out)) : gb272 ≠ gb254))
           have n8_ := Aside0.mk ((by rw [hg]; exact Nat.ne_of_lt (blk_lt (g := gb258) (o := .cells #[.bool t256, .bool t257] 29 (0, 0)) (by (with_reducible repeat (first | refine blk_drewN ?_ _ | refine blk_drew ?_ | refine blk_alloc ?_ _)); exact BK258.out)) : gb258 ≠ gb272))
           have n9_ := Aside0.mk ((by rw [hg]; exact Nat.ne_of_gt (blk_lt (g := gb258) (o := .cells #[.bool t256, .bool t257] 29 (0, 0)) (by (with_reducible repeat (first | refine blk_drewN ?_ _ | refine blk_drew ?_ | refine blk_alloc ?_ _)); exact BK258.out)) : gb272 ≠ gb258))
           clear BK254
           clear BK258
           clear HB
           have BK254 := n0_
           have BK258 := n1_
           have HB := n2_
           have BK272 := n3_
           have GW272 := n4_
           have GE272 := n5_
           have NB254_272 := n6_
           have NB272_254 := n7_
           have NB258_272 := n8_
           have NB272_258 := n9_
           clear n0_ n1_ n2_ n3_ n4_ n5_ n6_ n7_ n8_ n9_
           clear hb hbox hg
           refine hK.out _ _ ⟨(blk_cell BK258.out 0).trans rfl, (blk_cell BK258.out 1).trans rfl⟩ (fun hHeld => ?_)
           clear hK K
           refine norm_ (a' := ?_) ?_ ?_
           rotate_left
           ·
            show Act.put _ (some 12) _ = _
            simp only [Act.put, List.setIfInBounds_toArray, List.set_cons_zero, List.set_cons_succ, i64_w, i32_w]
            rfl
           refine one_ (i := 8) (N := some 51) (bm 15 4607) rfl rfl (one_of HT_.out (by kernel_rfl)) (by decide) (fun K hK => ?_)
           refine goes_ Tryd.func25 (by kernel_rfl) rfl #[.agg #[.bool t256, .bool t257], .string (t259 ++ sc25)] (by rfl) rfl rfl (by (try simp only [List.map_toArray, List.map_cons, List.map_nil]); first | done | rfl | (simp only [List.length_drop, List.length_take]; rfl)) ?_
           with_reducible refine (phdr_Read.calls k t256 t257 (t259 ++ sc25) t263 t264 t265 t266 t267 t268 t269 t270 true _ ?side1 A27.out).mono ?_
           (case side1 => exact Laid_phdr.below HLD_phdr.out (by repeat (first | (with_reducible first | exact HB.out | apply below_alloc | apply pw_below_drewN | apply below_drew1 | refine below_set ?_ GE254.out | refine below_set ?_ GE258.out | refine below_set ?_ GE272.out) | exact HB.out)))
           rintro e w43 ⟨rfl, hb⟩
           refine ⟨_, rfl, ?_⟩
           have n0_ := Aside0.mk (blk_below (g := gb254) (o := .cells #[.int .u64 a1_0, .int .u64 a1_1, .int .u64 a1_2, .int .u64 a1_3, .int .u64 a1_4, .int .u64 a1_5, .int .u64 a1_6, .int .u64 a1_7] 51 (0, 0)) (by (with_reducible repeat (first | refine blk_drewN ?_ _ | refine blk_drew ?_ | refine blk_alloc ?_ _)); exact BK254.out) hb)
           have n1_ := Aside0.mk (blk_below (g := gb258) (o := .cells #[.bool t256, .bool t257] 29 (0, 0)) (by (with_reducible repeat (first | refine blk_drewN ?_ _ | refine blk_drew ?_ | refine blk_alloc ?_ _)); exact BK258.out) hb)
           have n2_ := Aside0.mk (blk_below (g := gb272) (o := .cells #[.int .u64 0, .int .u64 0, .int .u64 0, .int .u64 0, .int .u64 0, .int .u64 0, .int .u64 0, .int .u64 0] 53 (0, 0)) (by (with_reducible repeat (first | refine blk_drewN ?_ _ | refine blk_drew ?_ | refine blk_alloc ?_ _)); exact BK272.out) hb)
           have n3_ := Aside0.mk (below_step (by repeat (first | (with_reducible first | exact HB.out | apply below_alloc | apply pw_below_drewN | apply below_drew1 | refine below_set ?_ GE254.out | refine below_set ?_ GE258.out | refine below_set ?_ GE272.out) | exact HB.out)) hb)
           clear BK254
           clear BK258
           clear BK272
           clear HB
           have BK254 := n0_
           have BK258 := n1_
           have BK272 := n2_
           have HB := n3_
           clear n0_ n1_ n2_ n3_
           (try clear hb)
           (try clear hb2)
           (try clear hk)
           (try clear hi)
           refine hK.out _ _ ⟨(blk_cell BK258.out 0).trans rfl, (blk_cell BK258.out 1).trans rfl⟩ (fun hHeld => ?_)
           clear hK K
           refine norm_ (a' := ?_) ?_ ?_
           rotate_left
           ·
            show Act.put _ (some 51) _ = _
            simp only [Act.put, List.setIfInBounds_toArray, List.set_cons_zero, List.set_cons_succ, i64_w, i32_w]
            rfl
           refine pure_ (i := 9) (N := some 42) (v := ?_) (a' := ?_) (bm 15 5119) rfl rfl (any_of HT_.out (by kernel_rfl)) (fun _ _ _ h => h) (Or.inl ⟨by rfl, ?_⟩) ?_ ?_
           rotate_left
           ·
            intro w'
            go_simp
            with_reducible rfl
           rotate_left
           ·
            simp only [Act.put, List.setIfInBounds_toArray, List.set_cons_zero, List.set_cons_succ, i64_w, i32_w]
            rfl
           refine pure_ (i := 10) (N := some 52) (v := ?_) (a' := ?_) (bm 15 6143) rfl rfl (any_of HT_.out (by kernel_rfl)) (fun _ _ _ h => h) (Or.inl ⟨by rfl, ?_⟩) ?_ ?_
           rotate_left
           ·
            intro w'
            go_simp
            with_reducible rfl
           rotate_left
           ·
            simp only [Act.put, List.setIfInBounds_toArray, List.set_cons_zero, List.set_cons_succ, i64_w, i32_w]
            rfl
           refine pure_ (i := 11) (N := some 53) (v := ?_) (a' := ?_) (bm 15 8191) rfl rfl (any_of HT_.out (by kernel_rfl)) (fun _ _ _ h => h) (Or.inl ⟨by rfl, ?_⟩) ?_ ?_
           rotate_left
           ·
            intro w'
            go_simp
            with_reducible rfl
           rotate_left
           ·
            simp only [Act.put, List.setIfInBounds_toArray, List.set_cons_zero, List.set_cons_succ, i64_w, i32_w]
            rfl
           exact norm_ (by simp only [putAll, Act.put, List.setIfInBounds_toArray, List.set_cons_zero, List.set_cons_succ]) (hCont (gb272) _ ⟨hHeld, (by (with_reducible repeat (first | refine blk_drewN ?_ _ | refine blk_drew ?_ | refine blk_alloc ?_ _)); exact BK254.out), (by (with_reducible repeat (first | refine blk_drewN ?_ _ | refine blk_drew ?_ | refine blk_alloc ?_ _)); exact BK258.out), (by (with_reducible repeat (first | refine blk_drewN ?_ _ | refine blk_drew ?_ | refine blk_alloc ?_ _)); exact BK272.out), GW272.out, GE272.out, NB254_272.out, NB272_254.out, NB258_272.out, NB272_258.out, (by repeat (first | (with_reducible first | exact HB.out | apply below_alloc | apply pw_below_drewN | apply below_drew1 | refine below_set ?_ GE254.out | refine below_set ?_ GE258.out | refine below_set ?_ GE272.out) | exact HB.out))⟩)
         rintro gb272 w44 ⟨hS_, h0_, h1_, h2_, h3_, h4_, h5_, h6_, h7_, h8_, h9_⟩
         have n0_ : Aside0 (w44.heap[gb254]? = some (.cells #[.int .u64 a1_0, .int .u64 a1_1, .int .u64 a1_2, .int .u64 a1_3, .int .u64 a1_4, .int .u64 a1_5, .int .u64 a1_6, .int .u64 a1_7] 51 (0, 0))) := ⟨h0_⟩
         have n1_ : Aside0 (w44.heap[gb258]? = some (.cells #[.bool t256, .bool t257] 29 (0, 0))) := ⟨h1_⟩
         have n2_ : Aside0 (w44.heap[gb272]? = some (.cells #[.int .u64 0, .int .u64 0, .int .u64 0, .int .u64 0, .int .u64 0, .int .u64 0, .int .u64 0, .int .u64 0] 53 (0, 0))) := ⟨h2_⟩
         have n3_ : Aside0 (w.heap.size ≤ gb272) := ⟨h3_⟩
         have n4_ : Aside0 (w.heap.size ≤ gb272) := ⟨h4_⟩
         have n5_ : Aside0 (gb254 ≠ gb272) := ⟨h5_⟩
         have n6_ : Aside0 (gb272 ≠ gb254) := ⟨h6_⟩
         have n7_ : Aside0 (gb258 ≠ gb272) := ⟨h7_⟩
         have n8_ : Aside0 (gb272 ≠ gb258) := ⟨h8_⟩
         have n9_ : Aside0 (Below w.heap.size w w44) := ⟨h9_⟩
         clear BK254
         clear BK258
         clear HB
         clear h0_ h1_ h2_ h3_ h4_ h5_ h6_ h7_ h8_ h9_
         have BK254 := n0_
         have BK258 := n1_
         have BK272 := n2_
         have GW272 := n3_
         have GE272 := n4_
         have NB254_272 := n5_
         have NB272_254 := n6_
         have NB258_272 := n7_
         have NB272_258 := n8_
         have HB := n9_
         clear n0_ n1_ n2_ n3_ n4_ n5_ n6_ n7_ n8_ n9_
         have hHeld : w44.cell? ⟨gb258, 0, none⟩ = some (.bool t256) ∧ w44.cell? ⟨gb258, 1, none⟩ = some (.bool t257) := hS_
         refine norm_ (a' := ?_) ?_ ?_
         rotate_left
         ·
          simp only [putAll, Act.put, List.setIfInBounds_toArray, List.set_cons_zero, List.set_cons_succ]
          rfl
         refine one_ (i := 13) (N := none) (bm 15 16383) rfl rfl (one_of HT_.out (by kernel_rfl)) (by decide) (fun K hK => ?_)
         have hs45 : w44.cell? ⟨gb272, 0, none⟩ = some (.int .u64 0) := (blk_cell BK272.out 0).trans rfl
         have hfs45 := blk_frozen BK272.out 0
         have hns45_0 := NB254_272.out
         have hns45_1 := NB258_272.out
         have hms45_0 := NB272_254.out
         have hms45_1 := NB272_258.out
         have hs46 : w44.cell? ⟨gb272, 1, none⟩ = some (.int .u64 0) := (blk_cell BK272.out 1).trans rfl
         have hfs46 := blk_frozen BK272.out 1
         have hns46_0 := NB254_272.out
         have hns46_1 := NB258_272.out
         have hms46_0 := NB272_254.out
         have hms46_1 := NB272_258.out
         have hs47 : w44.cell? ⟨gb272, 2, none⟩ = some (.int .u64 0) := (blk_cell BK272.out 2).trans rfl
         have hfs47 := blk_frozen BK272.out 2
         have hns47_0 := NB254_272.out
         have hns47_1 := NB258_272.out
         have hms47_0 := NB272_254.out
         have hms47_1 := NB272_258.out
         have hs48 : w44.cell? ⟨gb272, 3, none⟩ = some (.int .u64 0) := (blk_cell BK272.out 3).trans rfl
         have hfs48 := blk_frozen BK272.out 3
         have hns48_0 := NB254_272.out
         have hns48_1 := NB258_272.out
         have hms48_0 := NB272_254.out
         have hms48_1 := NB272_258.out
         have hs49 : w44.cell? ⟨gb272, 4, none⟩ = some (.int .u64 0) := (blk_cell BK272.out 4).trans rfl
         have hfs49 := blk_frozen BK272.out 4
         have hns49_0 := NB254_272.out
         have hns49_1 := NB258_272.out
         have hms49_0 := NB272_254.out
         have hms49_1 := NB272_258.out
         have hs50 : w44.cell? ⟨gb272, 5, none⟩ = some (.int .u64 0) := (blk_cell BK272.out 5).trans rfl
         have hfs50 := blk_frozen BK272.out 5
         have hns50_0 := NB254_272.out
         have hns50_1 := NB258_272.out
         have hms50_0 := NB272_254.out
         have hms50_1 := NB272_258.out
         have hs51 : w44.cell? ⟨gb272, 6, none⟩ = some (.int .u64 0) := (blk_cell BK272.out 6).trans rfl
         have hfs51 := blk_frozen BK272.out 6
         have hns51_0 := NB254_272.out
         have hns51_1 := NB258_272.out
         have hms51_0 := NB272_254.out
         have hms51_1 := NB272_258.out
         have hs52 : w44.cell? ⟨gb272, 7, none⟩ = some (.int .u64 0) := (blk_cell BK272.out 7).trans rfl
         have hfs52 := blk_frozen BK272.out 7
         have hns52_0 := NB254_272.out
         have hns52_1 := NB258_272.out
         have hms52_0 := NB272_254.out
         have hms52_1 := NB272_258.out
         refine skip_ (w1 := ?_) (by rfl) rfl ?_ ?_
         rotate_left
         ·
          go_simp
          rfl
         refine hK.out _ _ ⟨((cell_far (p := ⟨gb272, _, none⟩) NB258_272.out _).trans (((cell_far (p := ⟨gb272, _, none⟩) NB258_272.out _).trans (((cell_far (p := ⟨gb272, _, none⟩) NB258_272.out _).trans (((cell_far (p := ⟨gb272, _, none⟩) NB258_272.out _).trans (((cell_far (p := ⟨gb272, _, none⟩) NB258_272.out _).trans (((cell_far (p := ⟨gb272, _, none⟩) NB258_272.out _).trans (((cell_far (p := ⟨gb272, _, none⟩) NB258_272.out _).trans (((cell_far (p := ⟨gb272, _, none⟩) NB258_272.out _).trans (hHeld.1)))))))))))))))), ((cell_far (p := ⟨gb272, _, none⟩) NB258_272.out _).trans (((cell_far (p := ⟨gb272, _, none⟩) NB258_272.out _).trans (((cell_far (p := ⟨gb272, _, none⟩) NB258_272.out _).trans (((cell_far (p := ⟨gb272, _, none⟩) NB258_272.out _).trans (((cell_far (p := ⟨gb272, _, none⟩) NB258_272.out _).trans (((cell_far (p := ⟨gb272, _, none⟩) NB258_272.out _).trans (((cell_far (p := ⟨gb272, _, none⟩) NB258_272.out _).trans (((cell_far (p := ⟨gb272, _, none⟩) NB258_272.out _).trans (hHeld.2))))))))))))))))⟩ (fun hHeld => ?_)
         clear hK K
         refine pure_ (i := 14) (N := some 13) (v := ?_) (a' := ?_) (bm 15 32767) rfl rfl (any_of HT_.out (by kernel_rfl)) (fun _ _ _ h => h) (Or.inl ⟨by rfl, ?_⟩) ?_ ?_
         rotate_left
         ·
          intro w'
          go_simp
          with_reducible rfl
         rotate_left
         ·
          simp only [Act.put, List.setIfInBounds_toArray, List.set_cons_zero, List.set_cons_succ, i64_w, i32_w]
          rfl
         refine done_ (done_of HT_.out (by kernel_rfl)) ?_
         have hnb53 := NB272_254.out
         have hnc53 := NB254_272.out
         have hnb54 := NB272_258.out
         have hnc54 := NB258_272.out
         have hcz55_0 : w44.cell? ⟨gb272, 0, none⟩ = some (.int .u64 0) := (blk_cell BK272.out 0).trans rfl
         have hcz55_1 : w44.cell? ⟨gb272, 1, none⟩ = some (.int .u64 0) := (blk_cell BK272.out 1).trans rfl
         have hcz55_2 : w44.cell? ⟨gb272, 2, none⟩ = some (.int .u64 0) := (blk_cell BK272.out 2).trans rfl
         have hcz55_3 : w44.cell? ⟨gb272, 3, none⟩ = some (.int .u64 0) := (blk_cell BK272.out 3).trans rfl
         have hcz55_4 : w44.cell? ⟨gb272, 4, none⟩ = some (.int .u64 0) := (blk_cell BK272.out 4).trans rfl
         have hcz55_5 : w44.cell? ⟨gb272, 5, none⟩ = some (.int .u64 0) := (blk_cell BK272.out 5).trans rfl
         have hcz55_6 : w44.cell? ⟨gb272, 6, none⟩ = some (.int .u64 0) := (blk_cell BK272.out 6).trans rfl
         have hcz55_7 : w44.cell? ⟨gb272, 7, none⟩ = some (.int .u64 0) := (blk_cell BK272.out 7).trans rfl
         have hfz55_0 := blk_frozen BK272.out 0
         have hfz55_1 := blk_frozen BK272.out 1
         have hfz55_2 := blk_frozen BK272.out 2
         have hfz55_3 := blk_frozen BK272.out 3
         have hfz55_4 := blk_frozen BK272.out 4
         have hfz55_5 := blk_frozen BK272.out 5
         have hfz55_6 := blk_frozen BK272.out 6
         have hfz55_7 := blk_frozen BK272.out 7
         have hcz56_0 : w44.cell? ⟨gb254, 0, none⟩ = some (.int .u64 a1_0) := (blk_cell BK254.out 0).trans rfl
         have hcz56_1 : w44.cell? ⟨gb254, 1, none⟩ = some (.int .u64 a1_1) := (blk_cell BK254.out 1).trans rfl
         have hcz56_2 : w44.cell? ⟨gb254, 2, none⟩ = some (.int .u64 a1_2) := (blk_cell BK254.out 2).trans rfl
         have hcz56_3 : w44.cell? ⟨gb254, 3, none⟩ = some (.int .u64 a1_3) := (blk_cell BK254.out 3).trans rfl
         have hcz56_4 : w44.cell? ⟨gb254, 4, none⟩ = some (.int .u64 a1_4) := (blk_cell BK254.out 4).trans rfl
         have hcz56_5 : w44.cell? ⟨gb254, 5, none⟩ = some (.int .u64 a1_5) := (blk_cell BK254.out 5).trans rfl
         have hcz56_6 : w44.cell? ⟨gb254, 6, none⟩ = some (.int .u64 a1_6) := (blk_cell BK254.out 6).trans rfl
         have hcz56_7 : w44.cell? ⟨gb254, 7, none⟩ = some (.int .u64 a1_7) := (blk_cell BK254.out 7).trans rfl
         have hfz56_0 := blk_frozen BK254.out 0
         have hfz56_1 := blk_frozen BK254.out 1
         have hfz56_2 := blk_frozen BK254.out 2
         have hfz56_3 := blk_frozen BK254.out 3
         have hfz56_4 := blk_frozen BK254.out 4
         have hfz56_5 := blk_frozen BK254.out 5
         have hfz56_6 := blk_frozen BK254.out 6
         have hfz56_7 := blk_frozen BK254.out 7
         try go_wp2
         go_ret
         exact ⟨by first | rfl | (simp [errW_none, errW_some] <;> rfl) | (simp only [← hji22]; first | rfl | (simp [errW_none, errW_some] <;> rfl)) | (simp [*, errW_none, errW_some] <;> rfl), by repeat (first | (with_reducible first | exact HB.out | apply below_alloc | apply pw_below_drewN | apply below_drew1 | refine below_set ?_ GE254.out | refine below_set ?_ GE258.out | refine below_set ?_ GE272.out) | exact HB.out)⟩
        ·
         replace c29 := Bool.eq_false_iff.mpr c29
         subst c29
         have H1 : (some false) = some r := by rw [if_neg (show ¬ (false = true) by decide)] at H; exact H
         clear H
         have H := H1
         clear H1
         obtain rfl := Option.some.inj H
         go_enter Tryd.func7, Tryd.ntmps7
         try go_wp2_with (first | ((with_reducible refine gate_dst (N := 4) rfl ?_); refine box_event ?hg (N := 4) ?hd (cs := #[.int .u64 a1_0, .int .u64 a1_1, .int .u64 a1_2, .int .u64 a1_3, .int .u64 a1_4, .int .u64 a1_5, .int .u64 a1_6, .int .u64 a1_7]) (t := 51) ?hr ?_; (case hd => rfl); (case hg => rfl); (case hr => first | (go_simp; done) | (go_simp; rfl)); intro gb254 hg w57 hbox hb; have n0_ := Aside0.mk (below_step (by repeat (first | (with_reducible first | exact HB.out | apply below_alloc | apply pw_below_drewN | apply below_drew1) | exact HB.out)) hb); have n1_ := Aside0.mk (hbox); have n2_ := Aside0.mk ((by rw [hg]; exact (below_size (by repeat (first | (with_reducible first | exact HB.out | apply below_alloc | apply pw_below_drewN | apply below_drew1) | exact HB.out))) : w.heap.size ≤ gb254)); have n3_ := Aside0.mk ((by rw [hg]; exact (below_size (by repeat (first | (with_reducible first | exact HB.out | apply below_alloc | apply pw_below_drewN | apply below_drew1) | exact HB.out))) : w.heap.size ≤ gb254)); clear HB; have HB := n0_; have BK254 := n1_; have GW254 := n2_; have GE254 := n3_; clear n0_ n1_ n2_ n3_; clear hb hbox hg) | ((with_reducible refine gate_callee (f := 21) rfl ?_); refine goesL_ (some 14) rfl rfl Tryd.func21 (by kernel_rfl) rfl #[] rfl (by (try simp only [List.map_toArray, List.map_cons, List.map_nil]); first | done | rfl | (simp only [List.length_drop, List.length_take]; rfl)) ?_; (with_reducible refine (graverlaw07_speaks.calls k  true _ ?side1 A4.out).mono ?_); (case side1 => exact Laid_phdr.below HLD_phdr.out (by repeat (first | (with_reducible first | exact HB.out | apply below_alloc | apply pw_below_drewN | apply below_drew1 | refine below_set ?_ GE254.out) | exact HB.out))); rintro e w58 ⟨rfl, hb⟩; refine ⟨_, rfl, ?_⟩; have n0_ := Aside0.mk (blk_below (g := gb254) (o := .cells #[.int .u64 a1_0, .int .u64 a1_1, .int .u64 a1_2, .int .u64 a1_3, .int .u64 a1_4, .int .u64 a1_5, .int .u64 a1_6, .int .u64 a1_7] 51 (0, 0)) (by (with_reducible repeat (first | refine blk_drewN ?_ _ | refine blk_drew ?_ | refine blk_alloc ?_ _)); exact BK254.out) hb); have n1_ := Aside0.mk (below_step (by repeat (first | (with_reducible first | exact HB.out | apply below_alloc | apply pw_below_drewN | apply below_drew1 | refine below_set ?_ GE254.out) | exact HB.out)) hb); clear BK254; clear HB; have BK254 := n0_; have HB := n1_; clear n0_ n1_; (try clear hb); (try clear hb2); (try clear hk); (try clear hi)) | ((with_reducible refine gate_callee (f := 22) rfl ?_); refine goesL_ (some 17) rfl rfl Tryd.func22 (by kernel_rfl) rfl #[.int .i64 a0] rfl (by (try simp only [List.map_toArray, List.map_cons, List.map_nil]); first | done | rfl | (simp only [List.length_drop, List.length_take]; rfl)) ?_; (with_reducible refine (graverlaw07_formOf.calls a0 t256 t257 _ A6.out).mono ?_); rintro e w59 ⟨rfl, hb⟩; refine ⟨_, rfl, ?_⟩; have n0_ := Aside0.mk (blk_below (g := gb254) (o := .cells #[.int .u64 a1_0, .int .u64 a1_1, .int .u64 a1_2, .int .u64 a1_3, .int .u64 a1_4, .int .u64 a1_5, .int .u64 a1_6, .int .u64 a1_7] 51 (0, 0)) (by (with_reducible repeat (first | refine blk_drewN ?_ _ | refine blk_drew ?_ | refine blk_alloc ?_ _)); exact BK254.out) hb); have n1_ := Aside0.mk (below_step (by repeat (first | (with_reducible first | exact HB.out | apply below_alloc | apply pw_below_drewN | apply below_drew1 | refine below_set ?_ GE254.out) | exact HB.out)) hb); clear BK254; clear HB; have BK254 := n0_; have HB := n1_; clear n0_ n1_; (try clear hb); (try clear hb2); (try clear hk); (try clear hi)) | ((with_reducible refine gate_dst (N := 7) rfl ?_); refine box_event ?hg (N := 7) ?hd (cs := #[.bool false, .bool false]) (t := 29) ?hr ?_; (case hd => rfl); (case hg => rfl); (case hr => first | (go_simp; done) | (go_simp; rfl)); intro gb258 hg w60 hbox hb; have n0_ := Aside0.mk (blk_below (g := gb254) (o := .cells #[.int .u64 a1_0, .int .u64 a1_1, .int .u64 a1_2, .int .u64 a1_3, .int .u64 a1_4, .int .u64 a1_5, .int .u64 a1_6, .int .u64 a1_7] 51 (0, 0)) (by (with_reducible repeat (first | refine blk_drewN ?_ _ | refine blk_drew ?_ | refine blk_alloc ?_ _)); exact BK254.out) hb); have n1_ := Aside0.mk (below_step (by repeat (first | (with_reducible first | exact HB.out | apply below_alloc | apply pw_below_drewN | apply below_drew1 | refine below_set ?_ GE254.out) | exact HB.out)) hb); have n2_ := Aside0.mk (hbox); have n3_ := Aside0.mk ((by rw [hg]; exact (below_size (by repeat (first | (with_reducible first | exact HB.out | apply below_alloc | apply pw_below_drewN | apply below_drew1 | refine below_set ?_ GE254.out) | exact HB.out))) : w.heap.size ≤ gb258)); have n4_ := Aside0.mk ((by rw [hg]; exact (below_size (by repeat (first | (with_reducible first | exact HB.out | apply below_alloc | apply pw_below_drewN | apply below_drew1 | refine below_set ?_ GE254.out) | exact HB.out))) : w.heap.size ≤ gb258)); have n5_ := Aside0.mk ((by rw [hg]; exact Nat.ne_of_lt (blk_lt (g := gb254) (o := .cells #[.int .u64 a1_0, .int .u64 a1_1, .int .u64 a1_2, .int .u64 a1_3, .int .u64 a1_4, .int .u64 a1_5, .int .u64 a1_6, .int .u64 a1_7] 51 (0, 0)) (by (with_reducible repeat (first | refine blk_drewN ?_ _ | refine blk_drew ?_ | refine blk_alloc ?_ _)); exact BK254.out)) : gb254 ≠ gb258)); have n6_ := Aside0.mk ((by rw [hg]; exact Nat.ne_of_gt (blk_lt (g := gb254) (o := .cells #[.int .u64 a1_0, .int .u64 a1_1, .int .u64 a1_2, .int .u64 a1_3, .int .u64 a1_4, .int .u64 a1_5, .int .u64 a1_6, .int .u64 a1_7] 51 (0, 0)) (by (with_reducible repeat (first | refine blk_drewN ?_ _ | refine blk_drew ?_ | refine blk_alloc ?_ _)); exact BK254.out)) : gb258 ≠ gb254)); clear BK254; clear HB; have BK254 := n0_; have HB := n1_; have BK258 := n2_; have GW258 := n3_; have GE258 := n4_; have NB254_258 := n5_; have NB258_254 := n6_; clear n0_ n1_ n2_ n3_ n4_ n5_ n6_; clear hb hbox hg; have hnb61 := NB258_254.out; have hnc61 := NB254_258.out; have hcz62_0 : w60.cell? ⟨gb258, 0, none⟩ = some (.bool false) := (blk_cell BK258.out 0).trans rfl; have hcz62_1 : w60.cell? ⟨gb258, 1, none⟩ = some (.bool false) := (blk_cell BK258.out 1).trans rfl; have hfz62_0 := blk_frozen BK258.out 0; have hfz62_1 := blk_frozen BK258.out 1; have hcz63_0 : w60.cell? ⟨gb254, 0, none⟩ = some (.int .u64 a1_0) := (blk_cell BK254.out 0).trans rfl; have hcz63_1 : w60.cell? ⟨gb254, 1, none⟩ = some (.int .u64 a1_1) := (blk_cell BK254.out 1).trans rfl; have hcz63_2 : w60.cell? ⟨gb254, 2, none⟩ = some (.int .u64 a1_2) := (blk_cell BK254.out 2).trans rfl; have hcz63_3 : w60.cell? ⟨gb254, 3, none⟩ = some (.int .u64 a1_3) := (blk_cell BK254.out 3).trans rfl; have hcz63_4 : w60.cell? ⟨gb254, 4, none⟩ = some (.int .u64 a1_4) := (blk_cell BK254.out 4).trans rfl; have hcz63_5 : w60.cell? ⟨gb254, 5, none⟩ = some (.int .u64 a1_5) := (blk_cell BK254.out 5).trans rfl; have hcz63_6 : w60.cell? ⟨gb254, 6, none⟩ = some (.int .u64 a1_6) := (blk_cell BK254.out 6).trans rfl; have hcz63_7 : w60.cell? ⟨gb254, 7, none⟩ = some (.int .u64 a1_7) := (blk_cell BK254.out 7).trans rfl; have hfz63_0 := blk_frozen BK254.out 0; have hfz63_1 := blk_frozen BK254.out 1; have hfz63_2 := blk_frozen BK254.out 2; have hfz63_3 := blk_frozen BK254.out 3; have hfz63_4 := blk_frozen BK254.out 4; have hfz63_5 := blk_frozen BK254.out 5; have hfz63_6 := blk_frozen BK254.out 6; have hfz63_7 := blk_frozen BK254.out 7) | ((with_reducible refine gate_callee (f := 23) rfl ?_); refine goesL_ (some 21) rfl rfl Tryd.func23 (by kernel_rfl) rfl #[.agg #[.bool t256, .bool t257], .agg #[.int .u64 a1_0, .int .u64 a1_1, .int .u64 a1_2, .int .u64 a1_3, .int .u64 a1_4, .int .u64 a1_5, .int .u64 a1_6, .int .u64 a1_7]] rfl (by (try simp only [List.map_toArray, List.map_cons, List.map_nil]); first | done | rfl | (simp only [List.length_drop, List.length_take]; rfl)) ?_; (with_reducible refine (phdr_Put.calls k t256 t257 a1_0 a1_1 a1_2 a1_3 a1_4 a1_5 a1_6 a1_7 t259 true _ ?side1 A7.out).mono ?_); (case side1 => exact Laid_phdr.below HLD_phdr.out (by repeat (first | (with_reducible first | exact HB.out | apply below_alloc | apply pw_below_drewN | apply below_drew1 | refine below_set ?_ GE254.out | refine below_set ?_ GE258.out) | exact HB.out))); rintro e w64 ⟨rfl, hb⟩; refine ⟨_, rfl, ?_⟩; have n0_ := Aside0.mk (blk_below (g := gb254) (o := .cells #[.int .u64 a1_0, .int .u64 a1_1, .int .u64 a1_2, .int .u64 a1_3, .int .u64 a1_4, .int .u64 a1_5, .int .u64 a1_6, .int .u64 a1_7] 51 (0, 0)) (by (with_reducible repeat (first | refine blk_drewN ?_ _ | refine blk_drew ?_ | refine blk_alloc ?_ _)); refine blk_far ?_ NB254_258.out _; (with_reducible repeat (first | refine blk_drewN ?_ _ | refine blk_drew ?_ | refine blk_alloc ?_ _)); refine blk_far ?_ NB254_258.out _; (with_reducible repeat (first | refine blk_drewN ?_ _ | refine blk_drew ?_ | refine blk_alloc ?_ _)); exact BK254.out) hb); have n1_ := Aside0.mk (blk_below (g := gb258) (o := .cells #[.bool t256, .bool t257] 29 (0, 0)) (by (with_reducible repeat (first | refine blk_drewN ?_ _ | refine blk_drew ?_ | refine blk_alloc ?_ _)); refine blk_put (cs := #[.bool t256, .bool false]) ?_ 1 _ rfl; (with_reducible repeat (first | refine blk_drewN ?_ _ | refine blk_drew ?_ | refine blk_alloc ?_ _)); refine blk_put (cs := #[.bool false, .bool false]) ?_ 0 _ rfl; (with_reducible repeat (first | refine blk_drewN ?_ _ | refine blk_drew ?_ | refine blk_alloc ?_ _)); exact BK258.out) hb); have n2_ := Aside0.mk (below_step (by repeat (first | (with_reducible first | exact HB.out | apply below_alloc | apply pw_below_drewN | apply below_drew1 | refine below_set ?_ GE254.out | refine below_set ?_ GE258.out) | exact HB.out)) hb); clear BK254; clear BK258; clear HB; have BK254 := n0_; have BK258 := n1_; have HB := n2_; clear n0_ n1_ n2_; (try clear hb); (try clear hb2); (try clear hk); (try clear hi); have hcz65_0 : w64.cell? ⟨gb258, 0, none⟩ = some (.bool t256) := (blk_cell BK258.out 0).trans rfl; have hcz65_1 : w64.cell? ⟨gb258, 1, none⟩ = some (.bool t257) := (blk_cell BK258.out 1).trans rfl; have hfz65_0 := blk_frozen BK258.out 0; have hfz65_1 := blk_frozen BK258.out 1; have hcz66_0 : w64.cell? ⟨gb254, 0, none⟩ = some (.int .u64 a1_0) := (blk_cell BK254.out 0).trans rfl; have hcz66_1 : w64.cell? ⟨gb254, 1, none⟩ = some (.int .u64 a1_1) := (blk_cell BK254.out 1).trans rfl; have hcz66_2 : w64.cell? ⟨gb254, 2, none⟩ = some (.int .u64 a1_2) := (blk_cell BK254.out 2).trans rfl; have hcz66_3 : w64.cell? ⟨gb254, 3, none⟩ = some (.int .u64 a1_3) := (blk_cell BK254.out 3).trans rfl; have hcz66_4 : w64.cell? ⟨gb254, 4, none⟩ = some (.int .u64 a1_4) := (blk_cell BK254.out 4).trans rfl; have hcz66_5 : w64.cell? ⟨gb254, 5, none⟩ = some (.int .u64 a1_5) := (blk_cell BK254.out 5).trans rfl; have hcz66_6 : w64.cell? ⟨gb254, 6, none⟩ = some (.int .u64 a1_6) := (blk_cell BK254.out 6).trans rfl; have hcz66_7 : w64.cell? ⟨gb254, 7, none⟩ = some (.int .u64 a1_7) := (blk_cell BK254.out 7).trans rfl; have hfz66_0 := blk_frozen BK254.out 0; have hfz66_1 := blk_frozen BK254.out 1; have hfz66_2 := blk_frozen BK254.out 2; have hfz66_3 := blk_frozen BK254.out 3; have hfz66_4 := blk_frozen BK254.out 4; have hfz66_5 := blk_frozen BK254.out 5; have hfz66_6 := blk_frozen BK254.out 6; have hfz66_7 := blk_frozen BK254.out 7) | ((with_reducible refine gate_callee (f := 24) rfl ?_); refine goesL_ (some 31) rfl rfl Tryd.func24 (by kernel_rfl) rfl #[.bool t257, .bool t256, .agg #[.int .u64 a1_0, .int .u64 a1_1, .int .u64 a1_2, .int .u64 a1_3, .int .u64 a1_4, .int .u64 a1_5, .int .u64 a1_6, .int .u64 a1_7]] rfl (by (try simp only [List.map_toArray, List.map_cons, List.map_nil]); first | done | rfl | (simp only [List.length_drop, List.length_take]; rfl)) ?_; (with_reducible refine (graverref07_Put.calls k t257 t256 a1_0 a1_1 a1_2 a1_3 a1_4 a1_5 a1_6 a1_7 t261 t262 _ A8.out).mono ?_); rintro e w67 ⟨rfl, hb⟩; refine ⟨_, rfl, ?_⟩; have n0_ := Aside0.mk (blk_below (g := gb254) (o := .cells #[.int .u64 a1_0, .int .u64 a1_1, .int .u64 a1_2, .int .u64 a1_3, .int .u64 a1_4, .int .u64 a1_5, .int .u64 a1_6, .int .u64 a1_7] 51 (0, 0)) (by (with_reducible repeat (first | refine blk_drewN ?_ _ | refine blk_drew ?_ | refine blk_alloc ?_ _)); exact BK254.out) hb); have n1_ := Aside0.mk (blk_below (g := gb258) (o := .cells #[.bool t256, .bool t257] 29 (0, 0)) (by (with_reducible repeat (first | refine blk_drewN ?_ _ | refine blk_drew ?_ | refine blk_alloc ?_ _)); exact BK258.out) hb); have n2_ := Aside0.mk (below_step (by repeat (first | (with_reducible first | exact HB.out | apply below_alloc | apply pw_below_drewN | apply below_drew1 | refine below_set ?_ GE254.out | refine below_set ?_ GE258.out) | exact HB.out)) hb); clear BK254; clear BK258; clear HB; have BK254 := n0_; have BK258 := n1_; have HB := n2_; clear n0_ n1_ n2_; (try clear hb); (try clear hb2); (try clear hk); (try clear hi)))
         have n0_ := Aside0.mk (blk_drew BK254.out)
         have n1_ := Aside0.mk (blk_drew BK258.out)
         have n2_ := Aside0.mk (below_drew1 HB.out)
         clear BK254
         clear BK258
         clear HB
         have BK254 := n0_
         have BK258 := n1_
         have HB := n2_
         clear n0_ n1_ n2_
         refine start_ (n := 15) (S := fun w' => w'.cell? ⟨gb258, 0, none⟩ = some (.bool t256) ∧ w'.cell? ⟨gb258, 1, none⟩ = some (.bool t257)) (ds := []) #[false, false, false, false, false, false, false, false, false, false, false, false, false, false, false] (by kernel_rfl) rfl rfl ⟨(blk_cell BK258.out 0).trans rfl, (blk_cell BK258.out 1).trans rfl⟩ (fun hHeld => ?_); refine with_tabW graverlaw07_PhdrPuts.tab8 graverlaw07_PhdrPuts.bits8 (fun HT_ HW_ => ?_)
         generalize w67.drew = w68 at BK254 BK258 HB hHeld ⊢
         refine pure_ (i := 1) (N := some 44) (v := ?_) (a' := ?_) (bm 15 2) rfl rfl (any_of HT_.out (by kernel_rfl)) (fun _ _ _ h => h) (Or.inl ⟨by rfl, ?_⟩) ?_ ?_
         rotate_left
         ·
          intro w'
          go_simp
          with_reducible rfl
         rotate_left
         ·
          simp only [Act.put, List.setIfInBounds_toArray, List.set_cons_zero, List.set_cons_succ, i64_w, i32_w]
          rfl
         refine pure_ (i := 2) (N := some 45) (v := ?_) (a' := ?_) (bm 15 6) rfl rfl (any_of HT_.out (by kernel_rfl)) (fun _ _ _ h => h) (Or.inl ⟨by rfl, ?_⟩) ?_ ?_
         rotate_left
         ·
          intro w'
          go_simp
          with_reducible rfl
         rotate_left
         ·
          simp only [Act.put, List.setIfInBounds_toArray, List.set_cons_zero, List.set_cons_succ, i64_w, i32_w]
          rfl
         refine pure_ (i := 3) (N := some 46) (v := ?_) (a' := ?_) (bm 15 14) rfl rfl (any_of HT_.out (by kernel_rfl)) (fun _ _ _ h => h) (Or.inl ⟨by rfl, ?_⟩) ?_ ?_
         rotate_left
         ·
          intro w'
          go_simp
          with_reducible rfl
         rotate_left
         ·
          simp only [Act.put, List.setIfInBounds_toArray, List.set_cons_zero, List.set_cons_succ, i64_w, i32_w]
          rfl
         refine pure_ (i := 4) (N := some 47) (v := ?_) (a' := ?_) (bm 15 30) rfl rfl (any_of HT_.out (by kernel_rfl)) (fun _ _ _ h => h) (Or.inl ⟨by rfl, ?_⟩) ?_ ?_
         rotate_left
         ·
          intro w'
          go_simp
          with_reducible rfl
         rotate_left
         ·
          simp only [Act.put, List.setIfInBounds_toArray, List.set_cons_zero, List.set_cons_succ, i64_w, i32_w]
          rfl
         refine pure_ (i := 5) (N := some 48) (v := ?_) (a' := ?_) (bm 15 62) rfl rfl (any_of HT_.out (by kernel_rfl)) (fun _ _ _ h => h) (Or.inl ⟨by rfl, ?_⟩) ?_ ?_
         rotate_left
         ·
          intro w'
          go_simp
          with_reducible rfl
         rotate_left
         ·
          simp only [Act.put, List.setIfInBounds_toArray, List.set_cons_zero, List.set_cons_succ, i64_w, i32_w]
          rfl
         refine pure_ (i := 6) (N := some 49) (v := ?_) (a' := ?_) (bm 15 126) rfl rfl (any_of HT_.out (by kernel_rfl)) (fun _ _ _ h => h) (Or.inl ⟨by rfl, ?_⟩) ?_ ?_
         rotate_left
         ·
          intro w'
          go_simp
          with_reducible rfl
         rotate_left
         ·
          simp only [Act.put, List.setIfInBounds_toArray, List.set_cons_zero, List.set_cons_succ, i64_w, i32_w]
          rfl
         refine pure_ (i := 7) (N := some 50) (v := ?_) (a' := ?_) (bm 15 254) rfl rfl (any_of HT_.out (by kernel_rfl)) (fun _ _ _ h => h) (Or.inl ⟨by rfl, ?_⟩) ?_ ?_
         rotate_left
         ·
          intro w'
          go_simp
          with_reducible rfl
         rotate_left
         ·
          simp only [Act.put, List.setIfInBounds_toArray, List.set_cons_zero, List.set_cons_succ, i64_w, i32_w]
          rfl
         refine take_ (i := 0) (N := some 43) (v := ?_) (a' := ?_) (bm 15 255) rfl rfl (take_ofW HT_.out HW_.out (by kernel_rfl)) (fun _ _ _ h => h) (Or.inl ⟨by rfl, ?_⟩) hHeld ?_ ?_
         rotate_left
         ·
          rintro w' ⟨s0, s1⟩
          go_simp
          with_reducible rfl
         rotate_left
         ·
          simp only [Act.put, List.setIfInBounds_toArray, List.set_cons_zero, List.set_cons_succ, i64_w, i32_w]
          rfl
         refine join_ (σ := Nat) 2 (bm 15 8191) (fun s_ => [(51, .tuple #[.agg #[.int .u64 t263, .int .u64 t264, .int .u64 t265, .int .u64 t266, .int .u64 t267, .int .u64 t268, .int .u64 t269, .int .u64 t270], .bool false]), (12, .pointer (some ⟨s_, 0, none⟩)), (42, .tuple #[.agg #[.int .u64 t263, .int .u64 t264, .int .u64 t265, .int .u64 t266, .int .u64 t267, .int .u64 t268, .int .u64 t269, .int .u64 t270], .bool false]), (52, .agg #[.int .u64 t263, .int .u64 t264, .int .u64 t265, .int .u64 t266, .int .u64 t267, .int .u64 t268, .int .u64 t269, .int .u64 t270]), (53, .bool false)]) (fun s_ w' => (w'.cell? ⟨gb258, 0, none⟩ = some (.bool t256) ∧ w'.cell? ⟨gb258, 1, none⟩ = some (.bool t257)) ∧ (w'.heap[gb254]? = some (.cells #[.int .u64 a1_0, .int .u64 a1_1, .int .u64 a1_2, .int .u64 a1_3, .int .u64 a1_4, .int .u64 a1_5, .int .u64 a1_6, .int .u64 a1_7] 51 (0, 0))) ∧ (w'.heap[gb258]? = some (.cells #[.bool t256, .bool t257] 29 (0, 0))) ∧ (w'.heap[s_]? = some (.cells #[.int .u64 0, .int .u64 0, .int .u64 0, .int .u64 0, .int .u64 0, .int .u64 0, .int .u64 0, .int .u64 0] 53 (0, 0))) ∧ (w.heap.size ≤ s_) ∧ (w.heap.size ≤ s_) ∧ (gb254 ≠ s_) ∧ (s_ ≠ gb254) ∧ (gb258 ≠ s_) ∧ (s_ ≠ gb258) ∧ (Below w.heap.size w w')) ?_ ?_
         rotate_left
         ·
          intro hCont
          refine two_ (i := 8) (j := 12) (Ni := some 51) (Nj := some 12) (bm 15 511) (bm 15 4351) rfl rfl rfl rfl (two_of HT_.out (by kernel_rfl)) (by decide) (by decide) (fun K hK => ?_) (fun K hK => ?_)
          ·
           skip
           refine goes_ Tryd.func25 (by kernel_rfl) rfl #[.agg #[.bool t256, .bool t257], .string (t259 ++ sc25)] (by rfl) rfl rfl (by (try simp only [List.map_toArray, List.map_cons, List.map_nil]); first | done | rfl | (simp only [List.length_drop, List.length_take]; rfl)) ?_
           with_reducible refine (phdr_Read.calls k t256 t257 (t259 ++ sc25) t263 t264 t265 t266 t267 t268 t269 t270 false _ ?side1 A27.out).mono ?_
           (case side1 => exact Laid_phdr.below HLD_phdr.out (by repeat (first | (with_reducible first | exact HB.out | apply below_alloc | apply pw_below_drewN | apply below_drew1 | refine below_set ?_ GE254.out | refine below_set ?_ GE258.out) | exact HB.out)))
           rintro e w69 ⟨rfl, hb⟩
           refine ⟨_, rfl, ?_⟩
           have n0_ := Aside0.mk (blk_below (g := gb254) (o := .cells #[.int .u64 a1_0, .int .u64 a1_1, .int .u64 a1_2, .int .u64 a1_3, .int .u64 a1_4, .int .u64 a1_5, .int .u64 a1_6, .int .u64 a1_7] 51 (0, 0)) (by (with_reducible repeat (first | refine blk_drewN ?_ _ | refine blk_drew ?_ | refine blk_alloc ?_ _)); exact BK254.out) hb)
           have n1_ := Aside0.mk (blk_below (g := gb258) (o := .cells #[.bool t256, .bool t257] 29 (0, 0)) (by (with_reducible repeat (first | refine blk_drewN ?_ _ | refine blk_drew ?_ | refine blk_alloc ?_ _)); exact BK258.out) hb)
           have n2_ := Aside0.mk (below_step (by repeat (first | (with_reducible first | exact HB.out | apply below_alloc | apply pw_below_drewN | apply below_drew1 | refine below_set ?_ GE254.out | refine below_set ?_ GE258.out) | exact HB.out)) hb)
           clear BK254
           clear BK258
           clear HB
           have BK254 := n0_
           have BK258 := n1_
           have HB := n2_
           clear n0_ n1_ n2_
           (try clear hb)
           (try clear hb2)
           (try clear hk)
           (try clear hi)
           refine hK.out _ _ ⟨(blk_cell BK258.out 0).trans rfl, (blk_cell BK258.out 1).trans rfl⟩ (fun hHeld => ?_)
           clear hK K
           refine norm_ (a' := ?_) ?_ ?_
           rotate_left
           ·
            show Act.put _ (some 51) _ = _
            simp only [Act.put, List.setIfInBounds_toArray, List.set_cons_zero, List.set_cons_succ, i64_w, i32_w]
            rfl
           refine pure_ (i := 9) (N := some 42) (v := ?_) (a' := ?_) (bm 15 1023) rfl rfl (any_of HT_.out (by kernel_rfl)) (fun _ _ _ h => h) (Or.inl ⟨by rfl, ?_⟩) ?_ ?_
           rotate_left
           ·
            intro w'
            go_simp
            with_reducible rfl
           rotate_left
           ·
            simp only [Act.put, List.setIfInBounds_toArray, List.set_cons_zero, List.set_cons_succ, i64_w, i32_w]
            rfl
           refine pure_ (i := 10) (N := some 52) (v := ?_) (a' := ?_) (bm 15 2047) rfl rfl (any_of HT_.out (by kernel_rfl)) (fun _ _ _ h => h) (Or.inl ⟨by rfl, ?_⟩) ?_ ?_
           rotate_left
           ·
            intro w'
            go_simp
            with_reducible rfl
           rotate_left
           ·
            simp only [Act.put, List.setIfInBounds_toArray, List.set_cons_zero, List.set_cons_succ, i64_w, i32_w]
            rfl
           refine pure_ (i := 11) (N := some 53) (v := ?_) (a' := ?_) (bm 15 4095) rfl rfl (any_of HT_.out (by kernel_rfl)) (fun _ _ _ h => h) (Or.inl ⟨by rfl, ?_⟩) ?_ ?_
           rotate_left
           ·
            intro w'
            go_simp
            with_reducible rfl
           rotate_left
           ·
            simp only [Act.put, List.setIfInBounds_toArray, List.set_cons_zero, List.set_cons_succ, i64_w, i32_w]
            rfl
           refine one_ (i := 12) (N := some 12) (bm 15 8191) rfl rfl (one_of HT_.out (by kernel_rfl)) (by decide) (fun K hK => ?_)
           refine box_step ?hg (N := 12) ?hd (cs := #[.int .u64 0, .int .u64 0, .int .u64 0, .int .u64 0, .int .u64 0, .int .u64 0, .int .u64 0, .int .u64 0]) (t := 53) ?hr ?_; (case hd => rfl); (case hg => rfl); (case hr => first | (go_simp; done) | (go_simp; rfl))
           intro gb272 hg w70 hbox hb
           have n0_ := Aside0.mk (blk_below (g := gb254) (o := .cells #[.int .u64 a1_0, .int .u64 a1_1, .int .u64 a1_2, .int .u64 a1_3, .int .u64 a1_4, .int .u64 a1_5, .int .u64 a1_6, .int .u64 a1_7] 51 (0, 0)) (by (with_reducible repeat (first | refine blk_drewN ?_ _ | refine blk_drew ?_ | refine blk_alloc ?_ _)); exact BK254.out) hb)
           have n1_ := Aside0.mk (blk_below (g := gb258) (o := .cells #[.bool t256, .bool t257] 29 (0, 0)) (by (with_reducible repeat (first | refine blk_drewN ?_ _ | refine blk_drew ?_ | refine blk_alloc ?_ _)); exact BK258.out) hb)
           have n2_ := Aside0.mk (below_step (by repeat (first | (with_reducible first | exact HB.out | apply below_alloc | apply pw_below_drewN | apply below_drew1 | refine below_set ?_ GE254.out | refine below_set ?_ GE258.out) | exact HB.out)) hb)
           have n3_ := Aside0.mk (hbox)
           have n4_ := Aside0.mk ((by rw [hg]; exact (below_size (by repeat (first | (with_reducible first | exact HB.out | apply below_alloc | apply pw_below_drewN | apply below_drew1 | refine below_set ?_ GE254.out | refine below_set ?_ GE258.out) | exact HB.out))) : w.heap.size ≤ gb272))
           have n5_ := Aside0.mk ((by rw [hg]; exact (below_size (by repeat (first | (with_reducible first | exact HB.out | apply below_alloc | apply pw_below_drewN | apply below_drew1 | refine below_set ?_ GE254.out | refine below_set ?_ GE258.out) | exact HB.out))) : w.heap.size ≤ gb272))
           have n6_ := Aside0.mk ((by rw [hg]; exact Nat.ne_of_lt (blk_lt (g := gb254) (o := .cells #[.int .u64 a1_0, .int .u64 a1_1, .int .u64 a1_2, .int .u64 a1_3, .int .u64 a1_4, .int .u64 a1_5, .int .u64 a1_6, .int .u64 a1_7] 51 (0, 0)) (by (with_reducible repeat (first | refine blk_drewN ?_ _ | refine blk_drew ?_ | refine blk_alloc ?_ _)); exact BK254.out)) : gb254 ≠ gb272))
           have n7_ := Aside0.mk ((by rw [hg]; exact Nat.ne_of_gt (blk_lt (g := gb254) (o := .cells #[.int .u64 a1_0, .int .u64 a1_1, .int .u64 a1_2, .int .u64 a1_3, .int .u64 a1_4, .int .u64 a1_5, .int .u64 a1_6, .int .u64 a1_7] 51 (0, 0)) (by (with_reducible repeat (first | refine blk_drewN ?_ _ | refine blk_drew ?_ | refine blk_alloc ?_ _)); exact BK254.out)) : gb272 ≠ gb254))
           have n8_ := Aside0.mk ((by rw [hg]; exact Nat.ne_of_lt (blk_lt (g := gb258) (o := .cells #[.bool t256, .bool t257] 29 (0, 0)) (by (with_reducible repeat (first | refine blk_drewN ?_ _ | refine blk_drew ?_ | refine blk_alloc ?_ _)); exact BK258.out)) : gb258 ≠ gb272))
           have n9_ := Aside0.mk ((by rw [hg]; exact Nat.ne_of_gt (blk_lt (g := gb258) (o := .cells #[.bool t256, .bool t257] 29 (0, 0)) (by (with_reducible repeat (first | refine blk_drewN ?_ _ | refine blk_drew ?_ | refine blk_alloc ?_ _)); exact BK258.out)) : gb272 ≠ gb258))
           clear BK254
           clear BK258
           clear HB
           have BK254 := n0_
           have BK258 := n1_
           have HB := n2_
           have BK272 := n3_
           have GW272 := n4_
           have GE272 := n5_
           have NB254_272 := n6_
           have NB272_254 := n7_
           have NB258_272 := n8_
           have NB272_258 := n9_
           clear n0_ n1_ n2_ n3_ n4_ n5_ n6_ n7_ n8_ n9_
           clear hb hbox hg
           refine hK.out _ _ ⟨(blk_cell BK258.out 0).trans rfl, (blk_cell BK258.out 1).trans rfl⟩ (fun hHeld => ?_)
           clear hK K
           refine norm_ (a' := ?_) ?_ ?_
           rotate_left
           ·
            show Act.put _ (some 12) _ = _
            simp only [Act.put, List.setIfInBounds_toArray, List.set_cons_zero, List.set_cons_succ, i64_w, i32_w]
            rfl
           exact norm_ (by simp only [putAll, Act.put, List.setIfInBounds_toArray, List.set_cons_zero, List.set_cons_succ]) (hCont (gb272) _ ⟨hHeld, (by (with_reducible repeat (first | refine blk_drewN ?_ _ | refine blk_drew ?_ | refine blk_alloc ?_ _)); exact BK254.out), (by (with_reducible repeat (first | refine blk_drewN ?_ _ | refine blk_drew ?_ | refine blk_alloc ?_ _)); exact BK258.out), (by (with_reducible repeat (first | refine blk_drewN ?_ _ | refine blk_drew ?_ | refine blk_alloc ?_ _)); exact BK272.out), GW272.out, GE272.out, NB254_272.out, NB272_254.out, NB258_272.out, NB272_258.out, (by repeat (first | (with_reducible first | exact HB.out | apply below_alloc | apply pw_below_drewN | apply below_drew1 | refine below_set ?_ GE254.out | refine below_set ?_ GE258.out | refine below_set ?_ GE272.out) | exact HB.out))⟩)
          ·
           skip
           refine box_step ?hg (N := 12) ?hd (cs := #[.int .u64 0, .int .u64 0, .int .u64 0, .int .u64 0, .int .u64 0, .int .u64 0, .int .u64 0, .int .u64 0]) (t := 53) ?hr ?_; (case hd => rfl); (case hg => rfl); (case hr => first | (go_simp; done) | (go_simp; rfl))
           intro gb272 hg w69 hbox hb
           have n0_ := Aside0.mk (blk_below (g := gb254) (o := .cells #[.int .u64 a1_0, .int .u64 a1_1, .int .u64 a1_2, .int .u64 a1_3, .int .u64 a1_4, .int .u64 a1_5, .int .u64 a1_6, .int .u64 a1_7] 51 (0, 0)) (by (with_reducible repeat (first | refine blk_drewN ?_ _ | refine blk_drew ?_ | refine blk_alloc ?_ _)); exact BK254.out) hb)
           have n1_ := Aside0.mk (blk_below (g := gb258) (o := .cells #[.bool t256, .bool t257] 29 (0, 0)) (by (with_reducible repeat (first | refine blk_drewN ?_ _ | refine blk_drew ?_ | refine blk_alloc ?_ _)); exact BK258.out) hb)
           have n2_ := Aside0.mk (below_step (by repeat (first | (with_reducible first | exact HB.out | apply below_alloc | apply pw_below_drewN | apply below_drew1 | refine below_set ?_ GE254.out | refine below_set ?_ GE258.out) | exact HB.out)) hb)
           have n3_ := Aside0.mk (hbox)
           have n4_ := Aside0.mk ((by rw [hg]; exact (below_size (by repeat (first | (with_reducible first | exact HB.out | apply below_alloc | apply pw_below_drewN | apply below_drew1 | refine below_set ?_ GE254.out | refine below_set ?_ GE258.out) | exact HB.out))) : w.heap.size ≤ gb272))
           have n5_ := Aside0.mk ((by rw [hg]; exact (below_size (by repeat (first | (with_reducible first | exact HB.out | apply below_alloc | apply pw_below_drewN | apply below_drew1 | refine below_set ?_ GE254.out | refine below_set ?_ GE258.out) | exact HB.out))) : w.heap.size ≤ gb272))
           have n6_ := Aside0.mk ((by rw [hg]; exact Nat.ne_of_lt (blk_lt (g := gb254) (o := .cells #[.int .u64 a1_0, .int .u64 a1_1, .int .u64 a1_2, .int .u64 a1_3, .int .u64 a1_4, .int .u64 a1_5, .int .u64 a1_6, .int .u64 a1_7] 51 (0, 0)) (by (with_reducible repeat (first | refine blk_drewN ?_ _ | refine blk_drew ?_ | refine blk_alloc ?_ _)); exact BK254.out)) : gb254 ≠ gb272))
           have n7_ := Aside0.mk ((by rw [hg]; exact Nat.ne_of_gt (blk_lt (g := gb254) (o := .cells #[.int .u64 a1_0, .int .u64 a1_1, .int .u64 a1_2, .int .u64 a1_3, .int .u64 a1_4, .int .u64 a1_5, .int .u64 a1_6, .int .u64 a1_7] 51 (0, 0)) (by (with_reducible repeat (first | refine blk_drewN ?_ _ | refine blk_drew ?_ | refine blk_alloc ?_ _)); exact BK254.out)) : gb272 ≠ gb254))
           have n8_ := Aside0.mk ((by rw [hg]; exact Nat.ne_of_lt (blk_lt (g := gb258) (o := .cells #[.bool t256, .bool t257] 29 (0, 0)) (by (with_reducible repeat (first | refine blk_drewN ?_ _ | refine blk_drew ?_ | refine blk_alloc ?_ _)); exact BK258.out)) : gb258 ≠ gb272))
           have n9_ := Aside0.mk ((by rw [hg]; exact Nat.ne_of_gt (blk_lt (g := gb258) (o := .cells #[.bool t256, .bool t257] 29 (0, 0)) (by (with_reducible repeat (first | refine blk_drewN ?_ _ | refine blk_drew ?_ | refine blk_alloc ?_ _)); exact BK258.out)) : gb272 ≠ gb258))
           clear BK254
           clear BK258
           clear HB
           have BK254 := n0_
           have BK258 := n1_
           have HB := n2_
           have BK272 := n3_
           have GW272 := n4_
           have GE272 := n5_
           have NB254_272 := n6_
           have NB272_254 := n7_
           have NB258_272 := n8_
           have NB272_258 := n9_
           clear n0_ n1_ n2_ n3_ n4_ n5_ n6_ n7_ n8_ n9_
           clear hb hbox hg
           refine hK.out _ _ ⟨(blk_cell BK258.out 0).trans rfl, (blk_cell BK258.out 1).trans rfl⟩ (fun hHeld => ?_)
           clear hK K
           refine norm_ (a' := ?_) ?_ ?_
           rotate_left
           ·
            show Act.put _ (some 12) _ = _
            simp only [Act.put, List.setIfInBounds_toArray, List.set_cons_zero, List.set_cons_succ, i64_w, i32_w]
            rfl
           refine one_ (i := 8) (N := some 51) (bm 15 4607) rfl rfl (one_of HT_.out (by kernel_rfl)) (by decide) (fun K hK => ?_)
           refine goes_ Tryd.func25 (by kernel_rfl) rfl #[.agg #[.bool t256, .bool t257], .string (t259 ++ sc25)] (by rfl) rfl rfl (by (try simp only [List.map_toArray, List.map_cons, List.map_nil]); first | done | rfl | (simp only [List.length_drop, List.length_take]; rfl)) ?_
           with_reducible refine (phdr_Read.calls k t256 t257 (t259 ++ sc25) t263 t264 t265 t266 t267 t268 t269 t270 false _ ?side1 A27.out).mono ?_
           (case side1 => exact Laid_phdr.below HLD_phdr.out (by repeat (first | (with_reducible first | exact HB.out | apply below_alloc | apply pw_below_drewN | apply below_drew1 | refine below_set ?_ GE254.out | refine below_set ?_ GE258.out | refine below_set ?_ GE272.out) | exact HB.out)))
           rintro e w70 ⟨rfl, hb⟩
           refine ⟨_, rfl, ?_⟩
           have n0_ := Aside0.mk (blk_below (g := gb254) (o := .cells #[.int .u64 a1_0, .int .u64 a1_1, .int .u64 a1_2, .int .u64 a1_3, .int .u64 a1_4, .int .u64 a1_5, .int .u64 a1_6, .int .u64 a1_7] 51 (0, 0)) (by (with_reducible repeat (first | refine blk_drewN ?_ _ | refine blk_drew ?_ | refine blk_alloc ?_ _)); exact BK254.out) hb)
           have n1_ := Aside0.mk (blk_below (g := gb258) (o := .cells #[.bool t256, .bool t257] 29 (0, 0)) (by (with_reducible repeat (first | refine blk_drewN ?_ _ | refine blk_drew ?_ | refine blk_alloc ?_ _)); exact BK258.out) hb)
           have n2_ := Aside0.mk (blk_below (g := gb272) (o := .cells #[.int .u64 0, .int .u64 0, .int .u64 0, .int .u64 0, .int .u64 0, .int .u64 0, .int .u64 0, .int .u64 0] 53 (0, 0)) (by (with_reducible repeat (first | refine blk_drewN ?_ _ | refine blk_drew ?_ | refine blk_alloc ?_ _)); exact BK272.out) hb)
           have n3_ := Aside0.mk (below_step (by repeat (first | (with_reducible first | exact HB.out | apply below_alloc | apply pw_below_drewN | apply below_drew1 | refine below_set ?_ GE254.out | refine below_set ?_ GE258.out | refine below_set ?_ GE272.out) | exact HB.out)) hb)
           clear BK254
           clear BK258
           clear BK272
           clear HB
           have BK254 := n0_
           have BK258 := n1_
           have BK272 := n2_
           have HB := n3_
           clear n0_ n1_ n2_ n3_
           (try clear hb)
           (try clear hb2)
           (try clear hk)
           (try clear hi)
           refine hK.out _ _ ⟨(blk_cell BK258.out 0).trans rfl, (blk_cell BK258.out 1).trans rfl⟩ (fun hHeld => ?_)
           clear hK K
           refine norm_ (a' := ?_) ?_ ?_
           rotate_left
           ·
            show Act.put _ (some 51) _ = _
            simp only [Act.put, List.setIfInBounds_toArray, List.set_cons_zero, List.set_cons_succ, i64_w, i32_w]
            rfl
           refine pure_ (i := 9) (N := some 42) (v := ?_) (a' := ?_) (bm 15 5119) rfl rfl (any_of HT_.out (by kernel_rfl)) (fun _ _ _ h => h) (Or.inl ⟨by rfl, ?_⟩) ?_ ?_
           rotate_left
           ·
            intro w'
            go_simp
            with_reducible rfl
           rotate_left
           ·
            simp only [Act.put, List.setIfInBounds_toArray, List.set_cons_zero, List.set_cons_succ, i64_w, i32_w]
            rfl
           refine pure_ (i := 10) (N := some 52) (v := ?_) (a' := ?_) (bm 15 6143) rfl rfl (any_of HT_.out (by kernel_rfl)) (fun _ _ _ h => h) (Or.inl ⟨by rfl, ?_⟩) ?_ ?_
           rotate_left
           ·
            intro w'
            go_simp
            with_reducible rfl
           rotate_left
           ·
            simp only [Act.put, List.setIfInBounds_toArray, List.set_cons_zero, List.set_cons_succ, i64_w, i32_w]
            rfl
           refine pure_ (i := 11) (N := some 53) (v := ?_) (a' := ?_) (bm 15 8191) rfl rfl (any_of HT_.out (by kernel_rfl)) (fun _ _ _ h => h) (Or.inl ⟨by rfl, ?_⟩) ?_ ?_
           rotate_left
           ·
            intro w'
            go_simp
            with_reducible rfl
           rotate_left
           ·
            simp only [Act.put, List.setIfInBounds_toArray, List.set_cons_zero, List.set_cons_succ, i64_w, i32_w]
            rfl
           exact norm_ (by simp only [putAll, Act.put, List.setIfInBounds_toArray, List.set_cons_zero, List.set_cons_succ]) (hCont (gb272) _ ⟨hHeld, (by (with_reducible repeat (first | refine blk_drewN ?_ _ | refine blk_drew ?_ | refine blk_alloc ?_ _)); exact BK254.out), (by (with_reducible repeat (first | refine blk_drewN ?_ _ | refine blk_drew ?_ | refine blk_alloc ?_ _)); exact BK258.out), (by (with_reducible repeat (first | refine blk_drewN ?_ _ | refine blk_drew ?_ | refine blk_alloc ?_ _)); exact BK272.out), GW272.out, GE272.out, NB254_272.out, NB272_254.out, NB258_272.out, NB272_258.out, (by repeat (first | (with_reducible first | exact HB.out | apply below_alloc | apply pw_below_drewN | apply below_drew1 | refine below_set ?_ GE254.out | refine below_set ?_ GE258.out | refine below_set ?_ GE272.out) | exact HB.out))⟩)
         rintro gb272 w71 ⟨hS_, h0_, h1_, h2_, h3_, h4_, h5_, h6_, h7_, h8_, h9_⟩
         have n0_ : Aside0 (w71.heap[gb254]? = some (.cells #[.int .u64 a1_0, .int .u64 a1_1, .int .u64 a1_2, .int .u64 a1_3, .int .u64 a1_4, .int .u64 a1_5, .int .u64 a1_6, .int .u64 a1_7] 51 (0, 0))) := ⟨h0_⟩
         have n1_ : Aside0 (w71.heap[gb258]? = some (.cells #[.bool t256, .bool t257] 29 (0, 0))) := ⟨h1_⟩
         have n2_ : Aside0 (w71.heap[gb272]? = some (.cells #[.int .u64 0, .int .u64 0, .int .u64 0, .int .u64 0, .int .u64 0, .int .u64 0, .int .u64 0, .int .u64 0] 53 (0, 0))) := ⟨h2_⟩
         have n3_ : Aside0 (w.heap.size ≤ gb272) := ⟨h3_⟩
         have n4_ : Aside0 (w.heap.size ≤ gb272) := ⟨h4_⟩
         have n5_ : Aside0 (gb254 ≠ gb272) := ⟨h5_⟩
         have n6_ : Aside0 (gb272 ≠ gb254) := ⟨h6_⟩
         have n7_ : Aside0 (gb258 ≠ gb272) := ⟨h7_⟩
         have n8_ : Aside0 (gb272 ≠ gb258) := ⟨h8_⟩
         have n9_ : Aside0 (Below w.heap.size w w71) := ⟨h9_⟩
         clear BK254
         clear BK258
         clear HB
         clear h0_ h1_ h2_ h3_ h4_ h5_ h6_ h7_ h8_ h9_
         have BK254 := n0_
         have BK258 := n1_
         have BK272 := n2_
         have GW272 := n3_
         have GE272 := n4_
         have NB254_272 := n5_
         have NB272_254 := n6_
         have NB258_272 := n7_
         have NB272_258 := n8_
         have HB := n9_
         clear n0_ n1_ n2_ n3_ n4_ n5_ n6_ n7_ n8_ n9_
         have hHeld : w71.cell? ⟨gb258, 0, none⟩ = some (.bool t256) ∧ w71.cell? ⟨gb258, 1, none⟩ = some (.bool t257) := hS_
         refine norm_ (a' := ?_) ?_ ?_
         rotate_left
         ·
          simp only [putAll, Act.put, List.setIfInBounds_toArray, List.set_cons_zero, List.set_cons_succ]
          rfl
         refine one_ (i := 13) (N := none) (bm 15 16383) rfl rfl (one_of HT_.out (by kernel_rfl)) (by decide) (fun K hK => ?_)
         have hs72 : w71.cell? ⟨gb272, 0, none⟩ = some (.int .u64 0) := (blk_cell BK272.out 0).trans rfl
         have hfs72 := blk_frozen BK272.out 0
         have hns72_0 := NB254_272.out
         have hns72_1 := NB258_272.out
         have hms72_0 := NB272_254.out
         have hms72_1 := NB272_258.out
         have hs73 : w71.cell? ⟨gb272, 1, none⟩ = some (.int .u64 0) := (blk_cell BK272.out 1).trans rfl
         have hfs73 := blk_frozen BK272.out 1
         have hns73_0 := NB254_272.out
         have hns73_1 := NB258_272.out
         have hms73_0 := NB272_254.out
         have hms73_1 := NB272_258.out
         have hs74 : w71.cell? ⟨gb272, 2, none⟩ = some (.int .u64 0) := (blk_cell BK272.out 2).trans rfl
         have hfs74 := blk_frozen BK272.out 2
         have hns74_0 := NB254_272.out
         have hns74_1 := NB258_272.out
         have hms74_0 := NB272_254.out
         have hms74_1 := NB272_258.out
         have hs75 : w71.cell? ⟨gb272, 3, none⟩ = some (.int .u64 0) := (blk_cell BK272.out 3).trans rfl
         have hfs75 := blk_frozen BK272.out 3
         have hns75_0 := NB254_272.out
         have hns75_1 := NB258_272.out
         have hms75_0 := NB272_254.out
         have hms75_1 := NB272_258.out
         have hs76 : w71.cell? ⟨gb272, 4, none⟩ = some (.int .u64 0) := (blk_cell BK272.out 4).trans rfl
         have hfs76 := blk_frozen BK272.out 4
         have hns76_0 := NB254_272.out
         have hns76_1 := NB258_272.out
         have hms76_0 := NB272_254.out
         have hms76_1 := NB272_258.out
         have hs77 : w71.cell? ⟨gb272, 5, none⟩ = some (.int .u64 0) := (blk_cell BK272.out 5).trans rfl
         have hfs77 := blk_frozen BK272.out 5
         have hns77_0 := NB254_272.out
         have hns77_1 := NB258_272.out
         have hms77_0 := NB272_254.out
         have hms77_1 := NB272_258.out
         have hs78 : w71.cell? ⟨gb272, 6, none⟩ = some (.int .u64 0) := (blk_cell BK272.out 6).trans rfl
         have hfs78 := blk_frozen BK272.out 6
         have hns78_0 := NB254_272.out
         have hns78_1 := NB258_272.out
         have hms78_0 := NB272_254.out
         have hms78_1 := NB272_258.out
         have hs79 : w71.cell? ⟨gb272, 7, none⟩ = some (.int .u64 0) := (blk_cell BK272.out 7).trans rfl
         have hfs79 := blk_frozen BK272.out 7
         have hns79_0 := NB254_272.out
         have hns79_1 := NB258_272.out
         have hms79_0 := NB272_254.out
         have hms79_1 := NB272_258.out
         refine skip_ (w1 := ?_) (by rfl) rfl ?_ ?_
         rotate_left
         ·
          go_simp
          rfl
         refine hK.out _ _ ⟨((cell_far (p := ⟨gb272, _, none⟩) NB258_272.out _).trans (((cell_far (p := ⟨gb272, _, none⟩) NB258_272.out _).trans (((cell_far (p := ⟨gb272, _, none⟩) NB258_272.out _).trans (((cell_far (p := ⟨gb272, _, none⟩) NB258_272.out _).trans (((cell_far (p := ⟨gb272, _, none⟩) NB258_272.out _).trans (((cell_far (p := ⟨gb272, _, none⟩) NB258_272.out _).trans (((cell_far (p := ⟨gb272, _, none⟩) NB258_272.out _).trans (((cell_far (p := ⟨gb272, _, none⟩) NB258_272.out _).trans (hHeld.1)))))))))))))))), ((cell_far (p := ⟨gb272, _, none⟩) NB258_272.out _).trans (((cell_far (p := ⟨gb272, _, none⟩) NB258_272.out _).trans (((cell_far (p := ⟨gb272, _, none⟩) NB258_272.out _).trans (((cell_far (p := ⟨gb272, _, none⟩) NB258_272.out _).trans (((cell_far (p := ⟨gb272, _, none⟩) NB258_272.out _).trans (((cell_far (p := ⟨gb272, _, none⟩) NB258_272.out _).trans (((cell_far (p := ⟨gb272, _, none⟩) NB258_272.out _).trans (((cell_far (p := ⟨gb272, _, none⟩) NB258_272.out _).trans (hHeld.2))))))))))))))))⟩ (fun hHeld => ?_)
         clear hK K
         refine pure_ (i := 14) (N := some 13) (v := ?_) (a' := ?_) (bm 15 32767) rfl rfl (any_of HT_.out (by kernel_rfl)) (fun _ _ _ h => h) (Or.inl ⟨by rfl, ?_⟩) ?_ ?_
         rotate_left
         ·
          intro w'
          go_simp
          with_reducible rfl
         rotate_left
         ·
          simp only [Act.put, List.setIfInBounds_toArray, List.set_cons_zero, List.set_cons_succ, i64_w, i32_w]
          rfl
         refine done_ (done_of HT_.out (by kernel_rfl)) ?_
         try go_wp2
         go_ret
         exact ⟨by first | rfl | (simp [errW_none, errW_some] <;> rfl) | (simp only [← hji22]; first | rfl | (simp [errW_none, errW_some] <;> rfl)) | (simp [*, errW_none, errW_some] <;> rfl), by repeat (first | (with_reducible first | exact HB.out | apply below_alloc | apply pw_below_drewN | apply below_drew1 | refine below_set ?_ GE254.out | refine below_set ?_ GE258.out | refine below_set ?_ GE272.out) | exact HB.out)⟩
       ·
        replace c28 := Bool.eq_false_iff.mpr c28
        subst c28
        have H1 : (some true) = some r := by rw [if_neg (show ¬ (false = true) by decide)] at H; exact H
        clear H
        have H := H1
        clear H1
        obtain rfl := Option.some.inj H
        go_enter Tryd.func7, Tryd.ntmps7
        try go_wp2_with (first | ((with_reducible refine gate_dst (N := 4) rfl ?_); refine box_event ?hg (N := 4) ?hd (cs := #[.int .u64 a1_0, .int .u64 a1_1, .int .u64 a1_2, .int .u64 a1_3, .int .u64 a1_4, .int .u64 a1_5, .int .u64 a1_6, .int .u64 a1_7]) (t := 51) ?hr ?_; (case hd => rfl); (case hg => rfl); (case hr => first | (go_simp; done) | (go_simp; rfl)); intro gb254 hg w80 hbox hb; have n0_ := Aside0.mk (below_step (by repeat (first | (with_reducible first | exact HB.out | apply below_alloc | apply pw_below_drewN | apply below_drew1) | exact HB.out)) hb); have n1_ := Aside0.mk (hbox); have n2_ := Aside0.mk ((by rw [hg]; exact (below_size (by repeat (first | (with_reducible first | exact HB.out | apply below_alloc | apply pw_below_drewN | apply below_drew1) | exact HB.out))) : w.heap.size ≤ gb254)); have n3_ := Aside0.mk ((by rw [hg]; exact (below_size (by repeat (first | (with_reducible first | exact HB.out | apply below_alloc | apply pw_below_drewN | apply below_drew1) | exact HB.out))) : w.heap.size ≤ gb254)); clear HB; have HB := n0_; have BK254 := n1_; have GW254 := n2_; have GE254 := n3_; clear n0_ n1_ n2_ n3_; clear hb hbox hg) | ((with_reducible refine gate_callee (f := 21) rfl ?_); refine goesL_ (some 14) rfl rfl Tryd.func21 (by kernel_rfl) rfl #[] rfl (by (try simp only [List.map_toArray, List.map_cons, List.map_nil]); first | done | rfl | (simp only [List.length_drop, List.length_take]; rfl)) ?_; (with_reducible refine (graverlaw07_speaks.calls k  true _ ?side1 A4.out).mono ?_); (case side1 => exact Laid_phdr.below HLD_phdr.out (by repeat (first | (with_reducible first | exact HB.out | apply below_alloc | apply pw_below_drewN | apply below_drew1 | refine below_set ?_ GE254.out) | exact HB.out))); rintro e w81 ⟨rfl, hb⟩; refine ⟨_, rfl, ?_⟩; have n0_ := Aside0.mk (blk_below (g := gb254) (o := .cells #[.int .u64 a1_0, .int .u64 a1_1, .int .u64 a1_2, .int .u64 a1_3, .int .u64 a1_4, .int .u64 a1_5, .int .u64 a1_6, .int .u64 a1_7] 51 (0, 0)) (by (with_reducible repeat (first | refine blk_drewN ?_ _ | refine blk_drew ?_ | refine blk_alloc ?_ _)); exact BK254.out) hb); have n1_ := Aside0.mk (below_step (by repeat (first | (with_reducible first | exact HB.out | apply below_alloc | apply pw_below_drewN | apply below_drew1 | refine below_set ?_ GE254.out) | exact HB.out)) hb); clear BK254; clear HB; have BK254 := n0_; have HB := n1_; clear n0_ n1_; (try clear hb); (try clear hb2); (try clear hk); (try clear hi)) | ((with_reducible refine gate_callee (f := 22) rfl ?_); refine goesL_ (some 17) rfl rfl Tryd.func22 (by kernel_rfl) rfl #[.int .i64 a0] rfl (by (try simp only [List.map_toArray, List.map_cons, List.map_nil]); first | done | rfl | (simp only [List.length_drop, List.length_take]; rfl)) ?_; (with_reducible refine (graverlaw07_formOf.calls a0 t256 t257 _ A6.out).mono ?_); rintro e w82 ⟨rfl, hb⟩; refine ⟨_, rfl, ?_⟩; have n0_ := Aside0.mk (blk_below (g := gb254) (o := .cells #[.int .u64 a1_0, .int .u64 a1_1, .int .u64 a1_2, .int .u64 a1_3, .int .u64 a1_4, .int .u64 a1_5, .int .u64 a1_6, .int .u64 a1_7] 51 (0, 0)) (by (with_reducible repeat (first | refine blk_drewN ?_ _ | refine blk_drew ?_ | refine blk_alloc ?_ _)); exact BK254.out) hb); have n1_ := Aside0.mk (below_step (by repeat (first | (with_reducible first | exact HB.out | apply below_alloc | apply pw_below_drewN | apply below_drew1 | refine below_set ?_ GE254.out) | exact HB.out)) hb); clear BK254; clear HB; have BK254 := n0_; have HB := n1_; clear n0_ n1_; (try clear hb); (try clear hb2); (try clear hk); (try clear hi)) | ((with_reducible refine gate_dst (N := 7) rfl ?_); refine box_event ?hg (N := 7) ?hd (cs := #[.bool false, .bool false]) (t := 29) ?hr ?_; (case hd => rfl); (case hg => rfl); (case hr => first | (go_simp; done) | (go_simp; rfl)); intro gb258 hg w83 hbox hb; have n0_ := Aside0.mk (blk_below (g := gb254) (o := .cells #[.int .u64 a1_0, .int .u64 a1_1, .int .u64 a1_2, .int .u64 a1_3, .int .u64 a1_4, .int .u64 a1_5, .int .u64 a1_6, .int .u64 a1_7] 51 (0, 0)) (by (with_reducible repeat (first | refine blk_drewN ?_ _ | refine blk_drew ?_ | refine blk_alloc ?_ _)); exact BK254.out) hb); have n1_ := Aside0.mk (below_step (by repeat (first | (with_reducible first | exact HB.out | apply below_alloc | apply pw_below_drewN | apply below_drew1 | refine below_set ?_ GE254.out) | exact HB.out)) hb); have n2_ := Aside0.mk (hbox); have n3_ := Aside0.mk ((by rw [hg]; exact (below_size (by repeat (first | (with_reducible first | exact HB.out | apply below_alloc | apply pw_below_drewN | apply below_drew1 | refine below_set ?_ GE254.out) | exact HB.out))) : w.heap.size ≤ gb258)); have n4_ := Aside0.mk ((by rw [hg]; exact (below_size (by repeat (first | (with_reducible first | exact HB.out | apply below_alloc | apply pw_below_drewN | apply below_drew1 | refine below_set ?_ GE254.out) | exact HB.out))) : w.heap.size ≤ gb258)); have n5_ := Aside0.mk ((by rw [hg]; exact Nat.ne_of_lt (blk_lt (g := gb254) (o := .cells #[.int .u64 a1_0, .int .u64 a1_1, .int .u64 a1_2, .int .u64 a1_3, .int .u64 a1_4, .int .u64 a1_5, .int .u64 a1_6, .int .u64 a1_7] 51 (0, 0)) (by (with_reducible repeat (first | refine blk_drewN ?_ _ | refine blk_drew ?_ | refine blk_alloc ?_ _)); exact BK254.out)) : gb254 ≠ gb258)); have n6_ := Aside0.mk ((by rw [hg]; exact Nat.ne_of_gt (blk_lt (g := gb254) (o := .cells #[.int .u64 a1_0, .int .u64 a1_1, .int .u64 a1_2, .int .u64 a1_3, .int .u64 a1_4, .int .u64 a1_5, .int .u64 a1_6, .int .u64 a1_7] 51 (0, 0)) (by (with_reducible repeat (first | refine blk_drewN ?_ _ | refine blk_drew ?_ | refine blk_alloc ?_ _)); exact BK254.out)) : gb258 ≠ gb254)); clear BK254; clear HB; have BK254 := n0_; have HB := n1_; have BK258 := n2_; have GW258 := n3_; have GE258 := n4_; have NB254_258 := n5_; have NB258_254 := n6_; clear n0_ n1_ n2_ n3_ n4_ n5_ n6_; clear hb hbox hg; have hnb84 := NB258_254.out; have hnc84 := NB254_258.out; have hcz85_0 : w83.cell? ⟨gb258, 0, none⟩ = some (.bool false) := (blk_cell BK258.out 0).trans rfl; have hcz85_1 : w83.cell? ⟨gb258, 1, none⟩ = some (.bool false) := (blk_cell BK258.out 1).trans rfl; have hfz85_0 := blk_frozen BK258.out 0; have hfz85_1 := blk_frozen BK258.out 1; have hcz86_0 : w83.cell? ⟨gb254, 0, none⟩ = some (.int .u64 a1_0) := (blk_cell BK254.out 0).trans rfl; have hcz86_1 : w83.cell? ⟨gb254, 1, none⟩ = some (.int .u64 a1_1) := (blk_cell BK254.out 1).trans rfl; have hcz86_2 : w83.cell? ⟨gb254, 2, none⟩ = some (.int .u64 a1_2) := (blk_cell BK254.out 2).trans rfl; have hcz86_3 : w83.cell? ⟨gb254, 3, none⟩ = some (.int .u64 a1_3) := (blk_cell BK254.out 3).trans rfl; have hcz86_4 : w83.cell? ⟨gb254, 4, none⟩ = some (.int .u64 a1_4) := (blk_cell BK254.out 4).trans rfl; have hcz86_5 : w83.cell? ⟨gb254, 5, none⟩ = some (.int .u64 a1_5) := (blk_cell BK254.out 5).trans rfl; have hcz86_6 : w83.cell? ⟨gb254, 6, none⟩ = some (.int .u64 a1_6) := (blk_cell BK254.out 6).trans rfl; have hcz86_7 : w83.cell? ⟨gb254, 7, none⟩ = some (.int .u64 a1_7) := (blk_cell BK254.out 7).trans rfl; have hfz86_0 := blk_frozen BK254.out 0; have hfz86_1 := blk_frozen BK254.out 1; have hfz86_2 := blk_frozen BK254.out 2; have hfz86_3 := blk_frozen BK254.out 3; have hfz86_4 := blk_frozen BK254.out 4; have hfz86_5 := blk_frozen BK254.out 5; have hfz86_6 := blk_frozen BK254.out 6; have hfz86_7 := blk_frozen BK254.out 7) | ((with_reducible refine gate_callee (f := 23) rfl ?_); refine goesL_ (some 21) rfl rfl Tryd.func23 (by kernel_rfl) rfl #[.agg #[.bool t256, .bool t257], .agg #[.int .u64 a1_0, .int .u64 a1_1, .int .u64 a1_2, .int .u64 a1_3, .int .u64 a1_4, .int .u64 a1_5, .int .u64 a1_6, .int .u64 a1_7]] rfl (by (try simp only [List.map_toArray, List.map_cons, List.map_nil]); first | done | rfl | (simp only [List.length_drop, List.length_take]; rfl)) ?_; (with_reducible refine (phdr_Put.calls k t256 t257 a1_0 a1_1 a1_2 a1_3 a1_4 a1_5 a1_6 a1_7 t259 false _ ?side1 A7.out).mono ?_); (case side1 => exact Laid_phdr.below HLD_phdr.out (by repeat (first | (with_reducible first | exact HB.out | apply below_alloc | apply pw_below_drewN | apply below_drew1 | refine below_set ?_ GE254.out | refine below_set ?_ GE258.out) | exact HB.out))); rintro e w87 ⟨rfl, hb⟩; refine ⟨_, rfl, ?_⟩; have n0_ := Aside0.mk (blk_below (g := gb254) (o := .cells #[.int .u64 a1_0, .int .u64 a1_1, .int .u64 a1_2, .int .u64 a1_3, .int .u64 a1_4, .int .u64 a1_5, .int .u64 a1_6, .int .u64 a1_7] 51 (0, 0)) (by (with_reducible repeat (first | refine blk_drewN ?_ _ | refine blk_drew ?_ | refine blk_alloc ?_ _)); refine blk_far ?_ NB254_258.out _; (with_reducible repeat (first | refine blk_drewN ?_ _ | refine blk_drew ?_ | refine blk_alloc ?_ _)); refine blk_far ?_ NB254_258.out _; (with_reducible repeat (first | refine blk_drewN ?_ _ | refine blk_drew ?_ | refine blk_alloc ?_ _)); exact BK254.out) hb); have n1_ := Aside0.mk (blk_below (g := gb258) (o := .cells #[.bool t256, .bool t257] 29 (0, 0)) (by (with_reducible repeat (first | refine blk_drewN ?_ _ | refine blk_drew ?_ | refine blk_alloc ?_ _)); refine blk_put (cs := #[.bool t256, .bool false]) ?_ 1 _ rfl; (with_reducible repeat (first | refine blk_drewN ?_ _ | refine blk_drew ?_ | refine blk_alloc ?_ _)); refine blk_put (cs := #[.bool false, .bool false]) ?_ 0 _ rfl; (with_reducible repeat (first | refine blk_drewN ?_ _ | refine blk_drew ?_ | refine blk_alloc ?_ _)); exact BK258.out) hb); have n2_ := Aside0.mk (below_step (by repeat (first | (with_reducible first | exact HB.out | apply below_alloc | apply pw_below_drewN | apply below_drew1 | refine below_set ?_ GE254.out | refine below_set ?_ GE258.out) | exact HB.out)) hb); clear BK254; clear BK258; clear HB; have BK254 := n0_; have BK258 := n1_; have HB := n2_; clear n0_ n1_ n2_; (try clear hb); (try clear hb2); (try clear hk); (try clear hi); have hcz88_0 : w87.cell? ⟨gb258, 0, none⟩ = some (.bool t256) := (blk_cell BK258.out 0).trans rfl; have hcz88_1 : w87.cell? ⟨gb258, 1, none⟩ = some (.bool t257) := (blk_cell BK258.out 1).trans rfl; have hfz88_0 := blk_frozen BK258.out 0; have hfz88_1 := blk_frozen BK258.out 1; have hcz89_0 : w87.cell? ⟨gb254, 0, none⟩ = some (.int .u64 a1_0) := (blk_cell BK254.out 0).trans rfl; have hcz89_1 : w87.cell? ⟨gb254, 1, none⟩ = some (.int .u64 a1_1) := (blk_cell BK254.out 1).trans rfl; have hcz89_2 : w87.cell? ⟨gb254, 2, none⟩ = some (.int .u64 a1_2) := (blk_cell BK254.out 2).trans rfl; have hcz89_3 : w87.cell? ⟨gb254, 3, none⟩ = some (.int .u64 a1_3) := (blk_cell BK254.out 3).trans rfl; have hcz89_4 : w87.cell? ⟨gb254, 4, none⟩ = some (.int .u64 a1_4) := (blk_cell BK254.out 4).trans rfl; have hcz89_5 : w87.cell? ⟨gb254, 5, none⟩ = some (.int .u64 a1_5) := (blk_cell BK254.out 5).trans rfl; have hcz89_6 : w87.cell? ⟨gb254, 6, none⟩ = some (.int .u64 a1_6) := (blk_cell BK254.out 6).trans rfl; have hcz89_7 : w87.cell? ⟨gb254, 7, none⟩ = some (.int .u64 a1_7) := (blk_cell BK254.out 7).trans rfl; have hfz89_0 := blk_frozen BK254.out 0; have hfz89_1 := blk_frozen BK254.out 1; have hfz89_2 := blk_frozen BK254.out 2; have hfz89_3 := blk_frozen BK254.out 3; have hfz89_4 := blk_frozen BK254.out 4; have hfz89_5 := blk_frozen BK254.out 5; have hfz89_6 := blk_frozen BK254.out 6; have hfz89_7 := blk_frozen BK254.out 7) | ((with_reducible refine gate_callee (f := 24) rfl ?_); refine goesL_ (some 31) rfl rfl Tryd.func24 (by kernel_rfl) rfl #[.bool t257, .bool t256, .agg #[.int .u64 a1_0, .int .u64 a1_1, .int .u64 a1_2, .int .u64 a1_3, .int .u64 a1_4, .int .u64 a1_5, .int .u64 a1_6, .int .u64 a1_7]] rfl (by (try simp only [List.map_toArray, List.map_cons, List.map_nil]); first | done | rfl | (simp only [List.length_drop, List.length_take]; rfl)) ?_; (with_reducible refine (graverref07_Put.calls k t257 t256 a1_0 a1_1 a1_2 a1_3 a1_4 a1_5 a1_6 a1_7 t261 t262 _ A8.out).mono ?_); rintro e w90 ⟨rfl, hb⟩; refine ⟨_, rfl, ?_⟩; have n0_ := Aside0.mk (blk_below (g := gb254) (o := .cells #[.int .u64 a1_0, .int .u64 a1_1, .int .u64 a1_2, .int .u64 a1_3, .int .u64 a1_4, .int .u64 a1_5, .int .u64 a1_6, .int .u64 a1_7] 51 (0, 0)) (by (with_reducible repeat (first | refine blk_drewN ?_ _ | refine blk_drew ?_ | refine blk_alloc ?_ _)); exact BK254.out) hb); have n1_ := Aside0.mk (blk_below (g := gb258) (o := .cells #[.bool t256, .bool t257] 29 (0, 0)) (by (with_reducible repeat (first | refine blk_drewN ?_ _ | refine blk_drew ?_ | refine blk_alloc ?_ _)); exact BK258.out) hb); have n2_ := Aside0.mk (below_step (by repeat (first | (with_reducible first | exact HB.out | apply below_alloc | apply pw_below_drewN | apply below_drew1 | refine below_set ?_ GE254.out | refine below_set ?_ GE258.out) | exact HB.out)) hb); clear BK254; clear BK258; clear HB; have BK254 := n0_; have BK258 := n1_; have HB := n2_; clear n0_ n1_ n2_; (try clear hb); (try clear hb2); (try clear hk); (try clear hi)))
        have n0_ := Aside0.mk (blk_drew BK254.out)
        have n1_ := Aside0.mk (blk_drew BK258.out)
        have n2_ := Aside0.mk (below_drew1 HB.out)
        clear BK254
        clear BK258
        clear HB
        have BK254 := n0_
        have BK258 := n1_
        have HB := n2_
        clear n0_ n1_ n2_
        refine start_ (n := 15) (S := fun w' => w'.cell? ⟨gb258, 0, none⟩ = some (.bool t256) ∧ w'.cell? ⟨gb258, 1, none⟩ = some (.bool t257)) (ds := []) #[false, false, false, false, false, false, false, false, false, false, false, false, false, false, false] (by kernel_rfl) rfl rfl ⟨(blk_cell BK258.out 0).trans rfl, (blk_cell BK258.out 1).trans rfl⟩ (fun hHeld => ?_); refine with_tabW graverlaw07_PhdrPuts.tab8 graverlaw07_PhdrPuts.bits8 (fun HT_ HW_ => ?_)
        generalize w90.drew = w91 at BK254 BK258 HB hHeld ⊢
        refine pure_ (i := 1) (N := some 44) (v := ?_) (a' := ?_) (bm 15 2) rfl rfl (any_of HT_.out (by kernel_rfl)) (fun _ _ _ h => h) (Or.inl ⟨by rfl, ?_⟩) ?_ ?_
        rotate_left
        ·
         intro w'
         go_simp
         with_reducible rfl
        rotate_left
        ·
         simp only [Act.put, List.setIfInBounds_toArray, List.set_cons_zero, List.set_cons_succ, i64_w, i32_w]
         rfl
        refine pure_ (i := 2) (N := some 45) (v := ?_) (a' := ?_) (bm 15 6) rfl rfl (any_of HT_.out (by kernel_rfl)) (fun _ _ _ h => h) (Or.inl ⟨by rfl, ?_⟩) ?_ ?_
        rotate_left
        ·
         intro w'
         go_simp
         with_reducible rfl
        rotate_left
        ·
         simp only [Act.put, List.setIfInBounds_toArray, List.set_cons_zero, List.set_cons_succ, i64_w, i32_w]
         rfl
        refine pure_ (i := 3) (N := some 46) (v := ?_) (a' := ?_) (bm 15 14) rfl rfl (any_of HT_.out (by kernel_rfl)) (fun _ _ _ h => h) (Or.inl ⟨by rfl, ?_⟩) ?_ ?_
        rotate_left
        ·
         intro w'
         go_simp
         with_reducible rfl
        rotate_left
        ·
         simp only [Act.put, List.setIfInBounds_toArray, List.set_cons_zero, List.set_cons_succ, i64_w, i32_w]
         rfl
        refine pure_ (i := 4) (N := some 47) (v := ?_) (a' := ?_) (bm 15 30) rfl rfl (any_of HT_.out (by kernel_rfl)) (fun _ _ _ h => h) (Or.inl ⟨by rfl, ?_⟩) ?_ ?_
        rotate_left
        ·
         intro w'
         go_simp
         with_reducible rfl
        rotate_left
        ·
         simp only [Act.put, List.setIfInBounds_toArray, List.set_cons_zero, List.set_cons_succ, i64_w, i32_w]
         rfl
        refine pure_ (i := 5) (N := some 48) (v := ?_) (a' := ?_) (bm 15 62) rfl rfl (any_of HT_.out (by kernel_rfl)) (fun _ _ _ h => h) (Or.inl ⟨by rfl, ?_⟩) ?_ ?_
        rotate_left
        ·
         intro w'
         go_simp
         with_reducible rfl
        rotate_left
        ·
         simp only [Act.put, List.setIfInBounds_toArray, List.set_cons_zero, List.set_cons_succ, i64_w, i32_w]
         rfl
        refine pure_ (i := 6) (N := some 49) (v := ?_) (a' := ?_) (bm 15 126) rfl rfl (any_of HT_.out (by kernel_rfl)) (fun _ _ _ h => h) (Or.inl ⟨by rfl, ?_⟩) ?_ ?_
        rotate_left
        ·
         intro w'
         go_simp
         with_reducible rfl
        rotate_left
        ·
         simp only [Act.put, List.setIfInBounds_toArray, List.set_cons_zero, List.set_cons_succ, i64_w, i32_w]
         rfl
        refine pure_ (i := 7) (N := some 50) (v := ?_) (a' := ?_) (bm 15 254) rfl rfl (any_of HT_.out (by kernel_rfl)) (fun _ _ _ h => h) (Or.inl ⟨by rfl, ?_⟩) ?_ ?_
        rotate_left
        ·
         intro w'
         go_simp
         with_reducible rfl
        rotate_left
        ·
         simp only [Act.put, List.setIfInBounds_toArray, List.set_cons_zero, List.set_cons_succ, i64_w, i32_w]
         rfl
        refine take_ (i := 0) (N := some 43) (v := ?_) (a' := ?_) (bm 15 255) rfl rfl (take_ofW HT_.out HW_.out (by kernel_rfl)) (fun _ _ _ h => h) (Or.inl ⟨by rfl, ?_⟩) hHeld ?_ ?_
        rotate_left
        ·
         rintro w' ⟨s0, s1⟩
         go_simp
         with_reducible rfl
        rotate_left
        ·
         simp only [Act.put, List.setIfInBounds_toArray, List.set_cons_zero, List.set_cons_succ, i64_w, i32_w]
         rfl
        refine join_ (σ := Nat) 2 (bm 15 8191) (fun s_ => [(51, .tuple #[.agg #[.int .u64 t263, .int .u64 t264, .int .u64 t265, .int .u64 t266, .int .u64 t267, .int .u64 t268, .int .u64 t269, .int .u64 t270], .bool t271]), (12, .pointer (some ⟨s_, 0, none⟩)), (42, .tuple #[.agg #[.int .u64 t263, .int .u64 t264, .int .u64 t265, .int .u64 t266, .int .u64 t267, .int .u64 t268, .int .u64 t269, .int .u64 t270], .bool t271]), (52, .agg #[.int .u64 t263, .int .u64 t264, .int .u64 t265, .int .u64 t266, .int .u64 t267, .int .u64 t268, .int .u64 t269, .int .u64 t270]), (53, .bool t271)]) (fun s_ w' => (w'.cell? ⟨gb258, 0, none⟩ = some (.bool t256) ∧ w'.cell? ⟨gb258, 1, none⟩ = some (.bool t257)) ∧ (w'.heap[gb254]? = some (.cells #[.int .u64 a1_0, .int .u64 a1_1, .int .u64 a1_2, .int .u64 a1_3, .int .u64 a1_4, .int .u64 a1_5, .int .u64 a1_6, .int .u64 a1_7] 51 (0, 0))) ∧ (w'.heap[gb258]? = some (.cells #[.bool t256, .bool t257] 29 (0, 0))) ∧ (w'.heap[s_]? = some (.cells #[.int .u64 0, .int .u64 0, .int .u64 0, .int .u64 0, .int .u64 0, .int .u64 0, .int .u64 0, .int .u64 0] 53 (0, 0))) ∧ (w.heap.size ≤ s_) ∧ (w.heap.size ≤ s_) ∧ (gb254 ≠ s_) ∧ (s_ ≠ gb254) ∧ (gb258 ≠ s_) ∧ (s_ ≠ gb258) ∧ (Below w.heap.size w w')) ?_ ?_
        rotate_left
        ·
         intro hCont
         refine two_ (i := 8) (j := 12) (Ni := some 51) (Nj := some 12) (bm 15 511) (bm 15 4351) rfl rfl rfl rfl (two_of HT_.out (by kernel_rfl)) (by decide) (by decide) (fun K hK => ?_) (fun K hK => ?_)
         ·
          skip
          refine goes_ Tryd.func25 (by kernel_rfl) rfl #[.agg #[.bool t256, .bool t257], .string (t259 ++ sc25)] (by rfl) rfl rfl (by (try simp only [List.map_toArray, List.map_cons, List.map_nil]); first | done | rfl | (simp only [List.length_drop, List.length_take]; rfl)) ?_
          with_reducible refine (phdr_Read.calls k t256 t257 (t259 ++ sc25) t263 t264 t265 t266 t267 t268 t269 t270 t271 _ ?side1 A27.out).mono ?_
          (case side1 => exact Laid_phdr.below HLD_phdr.out (by repeat (first | (with_reducible first | exact HB.out | apply below_alloc | apply pw_below_drewN | apply below_drew1 | refine below_set ?_ GE254.out | refine below_set ?_ GE258.out) | exact HB.out)))
          rintro e w92 ⟨rfl, hb⟩
          refine ⟨_, rfl, ?_⟩
          have n0_ := Aside0.mk (blk_below (g := gb254) (o := .cells #[.int .u64 a1_0, .int .u64 a1_1, .int .u64 a1_2, .int .u64 a1_3, .int .u64 a1_4, .int .u64 a1_5, .int .u64 a1_6, .int .u64 a1_7] 51 (0, 0)) (by (with_reducible repeat (first | refine blk_drewN ?_ _ | refine blk_drew ?_ | refine blk_alloc ?_ _)); exact BK254.out) hb)
          have n1_ := Aside0.mk (blk_below (g := gb258) (o := .cells #[.bool t256, .bool t257] 29 (0, 0)) (by (with_reducible repeat (first | refine blk_drewN ?_ _ | refine blk_drew ?_ | refine blk_alloc ?_ _)); exact BK258.out) hb)
          have n2_ := Aside0.mk (below_step (by repeat (first | (with_reducible first | exact HB.out | apply below_alloc | apply pw_below_drewN | apply below_drew1 | refine below_set ?_ GE254.out | refine below_set ?_ GE258.out) | exact HB.out)) hb)
          clear BK254
          clear BK258
          clear HB
          have BK254 := n0_
          have BK258 := n1_
          have HB := n2_
          clear n0_ n1_ n2_
          (try clear hb)
          (try clear hb2)
          (try clear hk)
          (try clear hi)
          refine hK.out _ _ ⟨(blk_cell BK258.out 0).trans rfl, (blk_cell BK258.out 1).trans rfl⟩ (fun hHeld => ?_)
          clear hK K
          refine norm_ (a' := ?_) ?_ ?_
          rotate_left
          ·
           show Act.put _ (some 51) _ = _
           simp only [Act.put, List.setIfInBounds_toArray, List.set_cons_zero, List.set_cons_succ, i64_w, i32_w]
           rfl
          refine pure_ (i := 9) (N := some 42) (v := ?_) (a' := ?_) (bm 15 1023) rfl rfl (any_of HT_.out (by kernel_rfl)) (fun _ _ _ h => h) (Or.inl ⟨by rfl, ?_⟩) ?_ ?_
          rotate_left
          ·
           intro w'
           go_simp
           with_reducible rfl
          rotate_left
          ·
           simp only [Act.put, List.setIfInBounds_toArray, List.set_cons_zero, List.set_cons_succ, i64_w, i32_w]
           rfl
          refine pure_ (i := 10) (N := some 52) (v := ?_) (a' := ?_) (bm 15 2047) rfl rfl (any_of HT_.out (by kernel_rfl)) (fun _ _ _ h => h) (Or.inl ⟨by rfl, ?_⟩) ?_ ?_
          rotate_left
          ·
           intro w'
           go_simp
           with_reducible rfl
          rotate_left
          ·
           simp only [Act.put, List.setIfInBounds_toArray, List.set_cons_zero, List.set_cons_succ, i64_w, i32_w]
           rfl
          refine pure_ (i := 11) (N := some 53) (v := ?_) (a' := ?_) (bm 15 4095) rfl rfl (any_of HT_.out (by kernel_rfl)) (fun _ _ _ h => h) (Or.inl ⟨by rfl, ?_⟩) ?_ ?_
          rotate_left
          ·
           intro w'
           go_simp
           with_reducible rfl
          rotate_left
          ·
           simp only [Act.put, List.setIfInBounds_toArray, List.set_cons_zero, List.set_cons_succ, i64_w, i32_w]
           rfl
          refine one_ (i := 12) (N := some 12) (bm 15 8191) rfl rfl (one_of HT_.out (by kernel_rfl)) (by decide) (fun K hK => ?_)
          refine box_step ?hg (N := 12) ?hd (cs := #[.int .u64 0, .int .u64 0, .int .u64 0, .int .u64 0, .int .u64 0, .int .u64 0, .int .u64 0, .int .u64 0]) (t := 53) ?hr ?_; (case hd => rfl); (case hg => rfl); (case hr => first | (go_simp; done) | (go_simp; rfl))
          intro gb272 hg w93 hbox hb
          have n0_ := Aside0.mk (blk_below (g := gb254) (o := .cells #[.int .u64 a1_0, .int .u64 a1_1, .int .u64 a1_2, .int .u64 a1_3, .int .u64 a1_4, .int .u64 a1_5, .int .u64 a1_6, .int .u64 a1_7] 51 (0, 0)) (by (with_reducible repeat (first | refine blk_drewN ?_ _ | refine blk_drew ?_ | refine blk_alloc ?_ _)); exact BK254.out) hb)
          have n1_ := Aside0.mk (blk_below (g := gb258) (o := .cells #[.bool t256, .bool t257] 29 (0, 0)) (by (with_reducible repeat (first | refine blk_drewN ?_ _ | refine blk_drew ?_ | refine blk_alloc ?_ _)); exact BK258.out) hb)
          have n2_ := Aside0.mk (below_step (by repeat (first | (with_reducible first | exact HB.out | apply below_alloc | apply pw_below_drewN | apply below_drew1 | refine below_set ?_ GE254.out | refine below_set ?_ GE258.out) | exact HB.out)) hb)
          have n3_ := Aside0.mk (hbox)
          have n4_ := Aside0.mk ((by rw [hg]; exact (below_size (by repeat (first | (with_reducible first | exact HB.out | apply below_alloc | apply pw_below_drewN | apply below_drew1 | refine below_set ?_ GE254.out | refine below_set ?_ GE258.out) | exact HB.out))) : w.heap.size ≤ gb272))
          have n5_ := Aside0.mk ((by rw [hg]; exact (below_size (by repeat (first | (with_reducible first | exact HB.out | apply below_alloc | apply pw_below_drewN | apply below_drew1 | refine below_set ?_ GE254.out | refine below_set ?_ GE258.out) | exact HB.out))) : w.heap.size ≤ gb272))
          have n6_ := Aside0.mk ((by rw [hg]; exact Nat.ne_of_lt (blk_lt (g := gb254) (o := .cells #[.int .u64 a1_0, .int .u64 a1_1, .int .u64 a1_2, .int .u64 a1_3, .int .u64 a1_4, .int .u64 a1_5, .int .u64 a1_6, .int .u64 a1_7] 51 (0, 0)) (by (with_reducible repeat (first | refine blk_drewN ?_ _ | refine blk_drew ?_ | refine blk_alloc ?_ _)); exact BK254.out)) : gb254 ≠ gb272))
          have n7_ := Aside0.mk ((by rw [hg]; exact Nat.ne_of_gt (blk_lt (g := gb254) (o := .cells #[.int .u64 a1_0, .int .u64 a1_1, .int .u64 a1_2, .int .u64 a1_3, .int .u64 a1_4, .int .u64 a1_5, .int .u64 a1_6, .int .u64 a1_7] 51 (0, 0)) (by (with_reducible repeat (first | refine blk_drewN ?_ _ | refine blk_drew ?_ | refine blk_alloc ?_ _)); exact BK254.out)) : gb272 ≠ gb254))
          have n8_ := Aside0.mk ((by rw [hg]; exact Nat.ne_of_lt (blk_lt (g := gb258) (o := .cells #[.bool t256, .bool t257] 29 (0, 0)) (by (with_reducible repeat (first | refine blk_drewN ?_ _ | refine blk_drew ?_ | refine blk_alloc ?_ _)); exact BK258.out)) : gb258 ≠ gb272))
          have n9_ := Aside0.mk ((by rw [hg]; exact Nat.ne_of_gt (blk_lt (g := gb258) (o := .cells #[.bool t256, .bool t257] 29 (0, 0)) (by (with_reducible repeat (first | refine blk_drewN ?_ _ | refine blk_drew ?_ | refine blk_alloc ?_ _)); exact BK258.out)) : gb272 ≠ gb258))
          clear BK254
          clear BK258
          clear HB
          have BK254 := n0_
          have BK258 := n1_
          have HB := n2_
          have BK272 := n3_
          have GW272 := n4_
          have GE272 := n5_
          have NB254_272 := n6_
          have NB272_254 := n7_
          have NB258_272 := n8_
          have NB272_258 := n9_
          clear n0_ n1_ n2_ n3_ n4_ n5_ n6_ n7_ n8_ n9_
          clear hb hbox hg
          refine hK.out _ _ ⟨(blk_cell BK258.out 0).trans rfl, (blk_cell BK258.out 1).trans rfl⟩ (fun hHeld => ?_)
          clear hK K
          refine norm_ (a' := ?_) ?_ ?_
          rotate_left
          ·
           show Act.put _ (some 12) _ = _
           simp only [Act.put, List.setIfInBounds_toArray, List.set_cons_zero, List.set_cons_succ, i64_w, i32_w]
           rfl
          exact norm_ (by simp only [putAll, Act.put, List.setIfInBounds_toArray, List.set_cons_zero, List.set_cons_succ]) (hCont (gb272) _ ⟨hHeld, (by (with_reducible repeat (first | refine blk_drewN ?_ _ | refine blk_drew ?_ | refine blk_alloc ?_ _)); exact BK254.out), (by (with_reducible repeat (first | refine blk_drewN ?_ _ | refine blk_drew ?_ | refine blk_alloc ?_ _)); exact BK258.out), (by (with_reducible repeat (first | refine blk_drewN ?_ _ | refine blk_drew ?_ | refine blk_alloc ?_ _)); exact BK272.out), GW272.out, GE272.out, NB254_272.out, NB272_254.out, NB258_272.out, NB272_258.out, (by repeat (first | (with_reducible first | exact HB.out | apply below_alloc | apply pw_below_drewN | apply below_drew1 | refine below_set ?_ GE254.out | refine below_set ?_ GE258.out | refine below_set ?_ GE272.out) | exact HB.out))⟩)
         ·
          skip
          refine box_step ?hg (N := 12) ?hd (cs := #[.int .u64 0, .int .u64 0, .int .u64 0, .int .u64 0, .int .u64 0, .int .u64 0, .int .u64 0, .int .u64 0]) (t := 53) ?hr ?_; (case hd => rfl); (case hg => rfl); (case hr => first | (go_simp; done) | (go_simp; rfl))
          intro gb272 hg w92 hbox hb
          have n0_ := Aside0.mk (blk_below (g := gb254) (o := .cells #[.int .u64 a1_0, .int .u64 a1_1, .int .u64 a1_2, .int .u64 a1_3, .int .u64 a1_4, .int .u64 a1_5, .int .u64 a1_6, .int .u64 a1_7] 51 (0, 0)) (by (with_reducible repeat (first | refine blk_drewN ?_ _ | refine blk_drew ?_ | refine blk_alloc ?_ _)); exact BK254.out) hb)
          have n1_ := Aside0.mk (blk_below (g := gb258) (o := .cells #[.bool t256, .bool t257] 29 (0, 0)) (by (with_reducible repeat (first | refine blk_drewN ?_ _ | refine blk_drew ?_ | refine blk_alloc ?_ _)); exact BK258.out) hb)
          have n2_ := Aside0.mk (below_step (by repeat (first | (with_reducible first | exact HB.out | apply below_alloc | apply pw_below_drewN | apply below_drew1 | refine below_set ?_ GE254.out | refine below_set ?_ GE258.out) | exact HB.out)) hb)
          have n3_ := Aside0.mk (hbox)
          have n4_ := Aside0.mk ((by rw [hg]; exact (below_size (by repeat (first | (with_reducible first | exact HB.out | apply below_alloc | apply pw_below_drewN | apply below_drew1 | refine below_set ?_ GE254.out | refine below_set ?_ GE258.out) | exact HB.out))) : w.heap.size ≤ gb272))
          have n5_ := Aside0.mk ((by rw [hg]; exact (below_size (by repeat (first | (with_reducible first | exact HB.out | apply below_alloc | apply pw_below_drewN | apply below_drew1 | refine below_set ?_ GE254.out | refine below_set ?_ GE258.out) | exact HB.out))) : w.heap.size ≤ gb272))
          have n6_ := Aside0.mk ((by rw [hg]; exact Nat.ne_of_lt (blk_lt (g := gb254) (o := .cells #[.int .u64 a1_0, .int .u64 a1_1, .int .u64 a1_2, .int .u64 a1_3, .int .u64 a1_4, .int .u64 a1_5, .int .u64 a1_6, .int .u64 a1_7] 51 (0, 0)) (by (with_reducible repeat (first | refine blk_drewN ?_ _ | refine blk_drew ?_ | refine blk_alloc ?_ _)); exact BK254.out)) : gb254 ≠ gb272))
          have n7_ := Aside0.mk ((by rw [hg]; exact Nat.ne_of_gt (blk_lt (g := gb254) (o := .cells #[.int .u64 a1_0, .int .u64 a1_1, .int .u64 a1_2, .int .u64 a1_3, .int .u64 a1_4, .int .u64 a1_5, .int .u64 a1_6, .int .u64 a1_7] 51 (0, 0)) (by (with_reducible repeat (first | refine blk_drewN ?_ _ | refine blk_drew ?_ | refine blk_alloc ?_ _)); exact BK254.out)) : gb272 ≠ gb254))
          have n8_ := Aside0.mk ((by rw [hg]; exact Nat.ne_of_lt (blk_lt (g := gb258) (o := .cells #[.bool t256, .bool t257] 29 (0, 0)) (by (with_reducible repeat (first | refine blk_drewN ?_ _ | refine blk_drew ?_ | refine blk_alloc ?_ _)); exact BK258.out)) : gb258 ≠ gb272))
          have n9_ := Aside0.mk ((by rw [hg]; exact Nat.ne_of_gt (blk_lt (g := gb258) (o := .cells #[.bool t256, .bool t257] 29 (0, 0)) (by (with_reducible repeat (first | refine blk_drewN ?_ _ | refine blk_drew ?_ | refine blk_alloc ?_ _)); exact BK258.out)) : gb272 ≠ gb258))
          clear BK254
          clear BK258
          clear HB
          have BK254 := n0_
          have BK258 := n1_
          have HB := n2_
          have BK272 := n3_
          have GW272 := n4_
          have GE272 := n5_
          have NB254_272 := n6_
          have NB272_254 := n7_
          have NB258_272 := n8_
          have NB272_258 := n9_
          clear n0_ n1_ n2_ n3_ n4_ n5_ n6_ n7_ n8_ n9_
          clear hb hbox hg
          refine hK.out _ _ ⟨(blk_cell BK258.out 0).trans rfl, (blk_cell BK258.out 1).trans rfl⟩ (fun hHeld => ?_)
          clear hK K
          refine norm_ (a' := ?_) ?_ ?_
          rotate_left
          ·
           show Act.put _ (some 12) _ = _
           simp only [Act.put, List.setIfInBounds_toArray, List.set_cons_zero, List.set_cons_succ, i64_w, i32_w]
           rfl
          refine one_ (i := 8) (N := some 51) (bm 15 4607) rfl rfl (one_of HT_.out (by kernel_rfl)) (by decide) (fun K hK => ?_)
          refine goes_ Tryd.func25 (by kernel_rfl) rfl #[.agg #[.bool t256, .bool t257], .string (t259 ++ sc25)] (by rfl) rfl rfl (by (try simp only [List.map_toArray, List.map_cons, List.map_nil]); first | done | rfl | (simp only [List.length_drop, List.length_take]; rfl)) ?_
          with_reducible refine (phdr_Read.calls k t256 t257 (t259 ++ sc25) t263 t264 t265 t266 t267 t268 t269 t270 t271 _ ?side1 A27.out).mono ?_
          (case side1 => exact Laid_phdr.below HLD_phdr.out (by repeat (first | (with_reducible first | exact HB.out | apply below_alloc | apply pw_below_drewN | apply below_drew1 | refine below_set ?_ GE254.out | refine below_set ?_ GE258.out | refine below_set ?_ GE272.out) | exact HB.out)))
          rintro e w93 ⟨rfl, hb⟩
          refine ⟨_, rfl, ?_⟩
          have n0_ := Aside0.mk (blk_below (g := gb254) (o := .cells #[.int .u64 a1_0, .int .u64 a1_1, .int .u64 a1_2, .int .u64 a1_3, .int .u64 a1_4, .int .u64 a1_5, .int .u64 a1_6, .int .u64 a1_7] 51 (0, 0)) (by (with_reducible repeat (first | refine blk_drewN ?_ _ | refine blk_drew ?_ | refine blk_alloc ?_ _)); exact BK254.out) hb)
          have n1_ := Aside0.mk (blk_below (g := gb258) (o := .cells #[.bool t256, .bool t257] 29 (0, 0)) (by (with_reducible repeat (first | refine blk_drewN ?_ _ | refine blk_drew ?_ | refine blk_alloc ?_ _)); exact BK258.out) hb)
          have n2_ := Aside0.mk (blk_below (g := gb272) (o := .cells #[.int .u64 0, .int .u64 0, .int .u64 0, .int .u64 0, .int .u64 0, .int .u64 0, .int .u64 0, .int .u64 0] 53 (0, 0)) (by (with_reducible repeat (first | refine blk_drewN ?_ _ | refine blk_drew ?_ | refine blk_alloc ?_ _)); exact BK272.out) hb)
          have n3_ := Aside0.mk (below_step (by repeat (first | (with_reducible first | exact HB.out | apply below_alloc | apply pw_below_drewN | apply below_drew1 | refine below_set ?_ GE254.out | refine below_set ?_ GE258.out | refine below_set ?_ GE272.out) | exact HB.out)) hb)
          clear BK254
          clear BK258
          clear BK272
          clear HB
          have BK254 := n0_
          have BK258 := n1_
          have BK272 := n2_
          have HB := n3_
          clear n0_ n1_ n2_ n3_
          (try clear hb)
          (try clear hb2)
          (try clear hk)
          (try clear hi)
          refine hK.out _ _ ⟨(blk_cell BK258.out 0).trans rfl, (blk_cell BK258.out 1).trans rfl⟩ (fun hHeld => ?_)
          clear hK K
          refine norm_ (a' := ?_) ?_ ?_
          rotate_left
          ·
           show Act.put _ (some 51) _ = _
           simp only [Act.put, List.setIfInBounds_toArray, List.set_cons_zero, List.set_cons_succ, i64_w, i32_w]
           rfl
          refine pure_ (i := 9) (N := some 42) (v := ?_) (a' := ?_) (bm 15 5119) rfl rfl (any_of HT_.out (by kernel_rfl)) (fun _ _ _ h => h) (Or.inl ⟨by rfl, ?_⟩) ?_ ?_
          rotate_left
          ·
           intro w'
           go_simp
           with_reducible rfl
          rotate_left
          ·
           simp only [Act.put, List.setIfInBounds_toArray, List.set_cons_zero, List.set_cons_succ, i64_w, i32_w]
           rfl
          refine pure_ (i := 10) (N := some 52) (v := ?_) (a' := ?_) (bm 15 6143) rfl rfl (any_of HT_.out (by kernel_rfl)) (fun _ _ _ h => h) (Or.inl ⟨by rfl, ?_⟩) ?_ ?_
          rotate_left
          ·
           intro w'
           go_simp
           with_reducible rfl
          rotate_left
          ·
           simp only [Act.put, List.setIfInBounds_toArray, List.set_cons_zero, List.set_cons_succ, i64_w, i32_w]
           rfl
          refine pure_ (i := 11) (N := some 53) (v := ?_) (a' := ?_) (bm 15 8191) rfl rfl (any_of HT_.out (by kernel_rfl)) (fun _ _ _ h => h) (Or.inl ⟨by rfl, ?_⟩) ?_ ?_
          rotate_left
          ·
           intro w'
           go_simp
           with_reducible rfl
          rotate_left
          ·
           simp only [Act.put, List.setIfInBounds_toArray, List.set_cons_zero, List.set_cons_succ, i64_w, i32_w]
           rfl
          exact norm_ (by simp only [putAll, Act.put, List.setIfInBounds_toArray, List.set_cons_zero, List.set_cons_succ]) (hCont (gb272) _ ⟨hHeld, (by (with_reducible repeat (first | refine blk_drewN ?_ _ | refine blk_drew ?_ | refine blk_alloc ?_ _)); exact BK254.out), (by (with_reducible repeat (first | refine blk_drewN ?_ _ | refine blk_drew ?_ | refine blk_alloc ?_ _)); exact BK258.out), (by (with_reducible repeat (first | refine blk_drewN ?_ _ | refine blk_drew ?_ | refine blk_alloc ?_ _)); exact BK272.out), GW272.out, GE272.out, NB254_272.out, NB272_254.out, NB258_272.out, NB272_258.out, (by repeat (first | (with_reducible first | exact HB.out | apply below_alloc | apply pw_below_drewN | apply below_drew1 | refine below_set ?_ GE254.out | refine below_set ?_ GE258.out | refine below_set ?_ GE272.out) | exact HB.out))⟩)
        rintro gb272 w94 ⟨hS_, h0_, h1_, h2_, h3_, h4_, h5_, h6_, h7_, h8_, h9_⟩
        have n0_ : Aside0 (w94.heap[gb254]? = some (.cells #[.int .u64 a1_0, .int .u64 a1_1, .int .u64 a1_2, .int .u64 a1_3, .int .u64 a1_4, .int .u64 a1_5, .int .u64 a1_6, .int .u64 a1_7] 51 (0, 0))) := ⟨h0_⟩
        have n1_ : Aside0 (w94.heap[gb258]? = some (.cells #[.bool t256, .bool t257] 29 (0, 0))) := ⟨h1_⟩
        have n2_ : Aside0 (w94.heap[gb272]? = some (.cells #[.int .u64 0, .int .u64 0, .int .u64 0, .int .u64 0, .int .u64 0, .int .u64 0, .int .u64 0, .int .u64 0] 53 (0, 0))) := ⟨h2_⟩
        have n3_ : Aside0 (w.heap.size ≤ gb272) := ⟨h3_⟩
        have n4_ : Aside0 (w.heap.size ≤ gb272) := ⟨h4_⟩
        have n5_ : Aside0 (gb254 ≠ gb272) := ⟨h5_⟩
        have n6_ : Aside0 (gb272 ≠ gb254) := ⟨h6_⟩
        have n7_ : Aside0 (gb258 ≠ gb272) := ⟨h7_⟩
        have n8_ : Aside0 (gb272 ≠ gb258) := ⟨h8_⟩
        have n9_ : Aside0 (Below w.heap.size w w94) := ⟨h9_⟩
        clear BK254
        clear BK258
        clear HB
        clear h0_ h1_ h2_ h3_ h4_ h5_ h6_ h7_ h8_ h9_
        have BK254 := n0_
        have BK258 := n1_
        have BK272 := n2_
        have GW272 := n3_
        have GE272 := n4_
        have NB254_272 := n5_
        have NB272_254 := n6_
        have NB258_272 := n7_
        have NB272_258 := n8_
        have HB := n9_
        clear n0_ n1_ n2_ n3_ n4_ n5_ n6_ n7_ n8_ n9_
        have hHeld : w94.cell? ⟨gb258, 0, none⟩ = some (.bool t256) ∧ w94.cell? ⟨gb258, 1, none⟩ = some (.bool t257) := hS_
        refine norm_ (a' := ?_) ?_ ?_
        rotate_left
        ·
         simp only [putAll, Act.put, List.setIfInBounds_toArray, List.set_cons_zero, List.set_cons_succ]
         rfl
        refine one_ (i := 13) (N := none) (bm 15 16383) rfl rfl (one_of HT_.out (by kernel_rfl)) (by decide) (fun K hK => ?_)
        have hs95 : w94.cell? ⟨gb272, 0, none⟩ = some (.int .u64 0) := (blk_cell BK272.out 0).trans rfl
        have hfs95 := blk_frozen BK272.out 0
        have hns95_0 := NB254_272.out
        have hns95_1 := NB258_272.out
        have hms95_0 := NB272_254.out
        have hms95_1 := NB272_258.out
        have hs96 : w94.cell? ⟨gb272, 1, none⟩ = some (.int .u64 0) := (blk_cell BK272.out 1).trans rfl
        have hfs96 := blk_frozen BK272.out 1
        have hns96_0 := NB254_272.out
        have hns96_1 := NB258_272.out
        have hms96_0 := NB272_254.out
        have hms96_1 := NB272_258.out
        have hs97 : w94.cell? ⟨gb272, 2, none⟩ = some (.int .u64 0) := (blk_cell BK272.out 2).trans rfl
        have hfs97 := blk_frozen BK272.out 2
        have hns97_0 := NB254_272.out
        have hns97_1 := NB258_272.out
        have hms97_0 := NB272_254.out
        have hms97_1 := NB272_258.out
        have hs98 : w94.cell? ⟨gb272, 3, none⟩ = some (.int .u64 0) := (blk_cell BK272.out 3).trans rfl
        have hfs98 := blk_frozen BK272.out 3
        have hns98_0 := NB254_272.out
        have hns98_1 := NB258_272.out
        have hms98_0 := NB272_254.out
        have hms98_1 := NB272_258.out
        have hs99 : w94.cell? ⟨gb272, 4, none⟩ = some (.int .u64 0) := (blk_cell BK272.out 4).trans rfl
        have hfs99 := blk_frozen BK272.out 4
        have hns99_0 := NB254_272.out
        have hns99_1 := NB258_272.out
        have hms99_0 := NB272_254.out
        have hms99_1 := NB272_258.out
        have hs100 : w94.cell? ⟨gb272, 5, none⟩ = some (.int .u64 0) := (blk_cell BK272.out 5).trans rfl
        have hfs100 := blk_frozen BK272.out 5
        have hns100_0 := NB254_272.out
        have hns100_1 := NB258_272.out
        have hms100_0 := NB272_254.out
        have hms100_1 := NB272_258.out
        have hs101 : w94.cell? ⟨gb272, 6, none⟩ = some (.int .u64 0) := (blk_cell BK272.out 6).trans rfl
        have hfs101 := blk_frozen BK272.out 6
        have hns101_0 := NB254_272.out
        have hns101_1 := NB258_272.out
        have hms101_0 := NB272_254.out
        have hms101_1 := NB272_258.out
        have hs102 : w94.cell? ⟨gb272, 7, none⟩ = some (.int .u64 0) := (blk_cell BK272.out 7).trans rfl
        have hfs102 := blk_frozen BK272.out 7
        have hns102_0 := NB254_272.out
        have hns102_1 := NB258_272.out
        have hms102_0 := NB272_254.out
        have hms102_1 := NB272_258.out
        refine skip_ (w1 := ?_) (by rfl) rfl ?_ ?_
        rotate_left
        ·
         go_simp
         rfl
        refine hK.out _ _ ⟨((cell_far (p := ⟨gb272, _, none⟩) NB258_272.out _).trans (((cell_far (p := ⟨gb272, _, none⟩) NB258_272.out _).trans (((cell_far (p := ⟨gb272, _, none⟩) NB258_272.out _).trans (((cell_far (p := ⟨gb272, _, none⟩) NB258_272.out _).trans (((cell_far (p := ⟨gb272, _, none⟩) NB258_272.out _).trans (((cell_far (p := ⟨gb272, _, none⟩) NB258_272.out _).trans (((cell_far (p := ⟨gb272, _, none⟩) NB258_272.out _).trans (((cell_far (p := ⟨gb272, _, none⟩) NB258_272.out _).trans (hHeld.1)))))))))))))))), ((cell_far (p := ⟨gb272, _, none⟩) NB258_272.out _).trans (((cell_far (p := ⟨gb272, _, none⟩) NB258_272.out _).trans (((cell_far (p := ⟨gb272, _, none⟩) NB258_272.out _).trans (((cell_far (p := ⟨gb272, _, none⟩) NB258_272.out _).trans (((cell_far (p := ⟨gb272, _, none⟩) NB258_272.out _).trans (((cell_far (p := ⟨gb272, _, none⟩) NB258_272.out _).trans (((cell_far (p := ⟨gb272, _, none⟩) NB258_272.out _).trans (((cell_far (p := ⟨gb272, _, none⟩) NB258_272.out _).trans (hHeld.2))))))))))))))))⟩ (fun hHeld => ?_)
        clear hK K
        refine pure_ (i := 14) (N := some 13) (v := ?_) (a' := ?_) (bm 15 32767) rfl rfl (any_of HT_.out (by kernel_rfl)) (fun _ _ _ h => h) (Or.inl ⟨by rfl, ?_⟩) ?_ ?_
        rotate_left
        ·
         intro w'
         go_simp
         with_reducible rfl
        rotate_left
        ·
         simp only [Act.put, List.setIfInBounds_toArray, List.set_cons_zero, List.set_cons_succ, i64_w, i32_w]
         rfl
        refine done_ (done_of HT_.out (by kernel_rfl)) ?_
        try go_wp2
        go_ret
        exact ⟨by first | rfl | (simp [errW_none, errW_some] <;> rfl) | (simp only [← hji22]; first | rfl | (simp [errW_none, errW_some] <;> rfl)) | (simp [*, errW_none, errW_some] <;> rfl), by repeat (first | (with_reducible first | exact HB.out | apply below_alloc | apply pw_below_drewN | apply below_drew1 | refine below_set ?_ GE254.out | refine below_set ?_ GE258.out | refine below_set ?_ GE272.out) | exact HB.out)⟩
      ·
       rw [if_neg c26] at H
       exact absurd H (by simp)
     ·
      rw [if_neg c24] at H
      exact absurd H (by simp)
    ·
     rw [if_neg c23] at H
     exact absurd H (by simp)
  ·
   rw [if_neg c9] at H
   have c9b0 : (t259.toList == t261.toList) = false := beq_eq_false_iff_ne.mpr c9
   have c9b1 : (t259.toList != t261.toList) = true := bne_iff_ne.mpr c9
   obtain rfl := Option.some.inj H
   go_enter Tryd.func7, Tryd.ntmps7
   go_wp2_with (first | ((with_reducible refine gate_dst (N := 4) rfl ?_); refine box_event ?hg (N := 4) ?hd (cs := #[.int .u64 a1_0, .int .u64 a1_1, .int .u64 a1_2, .int .u64 a1_3, .int .u64 a1_4, .int .u64 a1_5, .int .u64 a1_6, .int .u64 a1_7]) (t := 51) ?hr ?_; (case hd => rfl); (case hg => rfl); (case hr => first | (go_simp; done) | (go_simp; rfl)); intro gb254 hg w103 hbox hb; have n0_ := Aside0.mk (below_step (by repeat (first | (with_reducible first | exact HB.out | apply below_alloc | apply pw_below_drewN | apply below_drew1) | exact HB.out)) hb); have n1_ := Aside0.mk (hbox); have n2_ := Aside0.mk ((by rw [hg]; exact (below_size (by repeat (first | (with_reducible first | exact HB.out | apply below_alloc | apply pw_below_drewN | apply below_drew1) | exact HB.out))) : w.heap.size ≤ gb254)); have n3_ := Aside0.mk ((by rw [hg]; exact (below_size (by repeat (first | (with_reducible first | exact HB.out | apply below_alloc | apply pw_below_drewN | apply below_drew1) | exact HB.out))) : w.heap.size ≤ gb254)); clear HB; have HB := n0_; have BK254 := n1_; have GW254 := n2_; have GE254 := n3_; clear n0_ n1_ n2_ n3_; clear hb hbox hg) | ((with_reducible refine gate_callee (f := 21) rfl ?_); refine goesL_ (some 14) rfl rfl Tryd.func21 (by kernel_rfl) rfl #[] rfl (by (try simp only [List.map_toArray, List.map_cons, List.map_nil]); first | done | rfl | (simp only [List.length_drop, List.length_take]; rfl)) ?_; (with_reducible refine (graverlaw07_speaks.calls k  true _ ?side1 A4.out).mono ?_); (case side1 => exact Laid_phdr.below HLD_phdr.out (by repeat (first | (with_reducible first | exact HB.out | apply below_alloc | apply pw_below_drewN | apply below_drew1 | refine below_set ?_ GE254.out) | exact HB.out))); rintro e w104 ⟨rfl, hb⟩; refine ⟨_, rfl, ?_⟩; have n0_ := Aside0.mk (blk_below (g := gb254) (o := .cells #[.int .u64 a1_0, .int .u64 a1_1, .int .u64 a1_2, .int .u64 a1_3, .int .u64 a1_4, .int .u64 a1_5, .int .u64 a1_6, .int .u64 a1_7] 51 (0, 0)) (by (with_reducible repeat (first | refine blk_drewN ?_ _ | refine blk_drew ?_ | refine blk_alloc ?_ _)); exact BK254.out) hb); have n1_ := Aside0.mk (below_step (by repeat (first | (with_reducible first | exact HB.out | apply below_alloc | apply pw_below_drewN | apply below_drew1 | refine below_set ?_ GE254.out) | exact HB.out)) hb); clear BK254; clear HB; have BK254 := n0_; have HB := n1_; clear n0_ n1_; (try clear hb); (try clear hb2); (try clear hk); (try clear hi)) | ((with_reducible refine gate_callee (f := 22) rfl ?_); refine goesL_ (some 17) rfl rfl Tryd.func22 (by kernel_rfl) rfl #[.int .i64 a0] rfl (by (try simp only [List.map_toArray, List.map_cons, List.map_nil]); first | done | rfl | (simp only [List.length_drop, List.length_take]; rfl)) ?_; (with_reducible refine (graverlaw07_formOf.calls a0 t256 t257 _ A6.out).mono ?_); rintro e w105 ⟨rfl, hb⟩; refine ⟨_, rfl, ?_⟩; have n0_ := Aside0.mk (blk_below (g := gb254) (o := .cells #[.int .u64 a1_0, .int .u64 a1_1, .int .u64 a1_2, .int .u64 a1_3, .int .u64 a1_4, .int .u64 a1_5, .int .u64 a1_6, .int .u64 a1_7] 51 (0, 0)) (by (with_reducible repeat (first | refine blk_drewN ?_ _ | refine blk_drew ?_ | refine blk_alloc ?_ _)); exact BK254.out) hb); have n1_ := Aside0.mk (below_step (by repeat (first | (with_reducible first | exact HB.out | apply below_alloc | apply pw_below_drewN | apply below_drew1 | refine below_set ?_ GE254.out) | exact HB.out)) hb); clear BK254; clear HB; have BK254 := n0_; have HB := n1_; clear n0_ n1_; (try clear hb); (try clear hb2); (try clear hk); (try clear hi)) | ((with_reducible refine gate_dst (N := 7) rfl ?_); refine box_event ?hg (N := 7) ?hd (cs := #[.bool false, .bool false]) (t := 29) ?hr ?_; (case hd => rfl); (case hg => rfl); (case hr => first | (go_simp; done) | (go_simp; rfl)); intro gb258 hg w106 hbox hb; have n0_ := Aside0.mk (blk_below (g := gb254) (o := .cells #[.int .u64 a1_0, .int .u64 a1_1, .int .u64 a1_2, .int .u64 a1_3, .int .u64 a1_4, .int .u64 a1_5, .int .u64 a1_6, .int .u64 a1_7] 51 (0, 0)) (by (with_reducible repeat (first | refine blk_drewN ?_ _ | refine blk_drew ?_ | refine blk_alloc ?_ _)); exact BK254.out) hb); have n1_ := Aside0.mk (below_step (by repeat (first | (with_reducible first | exact HB.out | apply below_alloc | apply pw_below_drewN | apply below_drew1 | refine below_set ?_ GE254.out) | exact HB.out)) hb); have n2_ := Aside0.mk (hbox); have n3_ := Aside0.mk ((by rw [hg]; exact (below_size (by repeat (first | (with_reducible first | exact HB.out | apply below_alloc | apply pw_below_drewN | apply below_drew1 | refine below_set ?_ GE254.out) | exact HB.out))) : w.heap.size ≤ gb258)); have n4_ := Aside0.mk ((by rw [hg]; exact (below_size (by repeat (first | (with_reducible first | exact HB.out | apply below_alloc | apply pw_below_drewN | apply below_drew1 | refine below_set ?_ GE254.out) | exact HB.out))) : w.heap.size ≤ gb258)); have n5_ := Aside0.mk ((by rw [hg]; exact Nat.ne_of_lt (blk_lt (g := gb254) (o := .cells #[.int .u64 a1_0, .int .u64 a1_1, .int .u64 a1_2, .int .u64 a1_3, .int .u64 a1_4, .int .u64 a1_5, .int .u64 a1_6, .int .u64 a1_7] 51 (0, 0)) (by (with_reducible repeat (first | refine blk_drewN ?_ _ | refine blk_drew ?_ | refine blk_alloc ?_ _)); exact BK254.out)) : gb254 ≠ gb258)); have n6_ := Aside0.mk ((by rw [hg]; exact Nat.ne_of_gt (blk_lt (g := gb254) (o := .cells #[.int .u64 a1_0, .int .u64 a1_1, .int .u64 a1_2, .int .u64 a1_3, .int .u64 a1_4, .int .u64 a1_5, .int .u64 a1_6, .int .u64 a1_7] 51 (0, 0)) (by (with_reducible repeat (first | refine blk_drewN ?_ _ | refine blk_drew ?_ | refine blk_alloc ?_ _)); exact BK254.out)) : gb258 ≠ gb254)); clear BK254; clear HB; have BK254 := n0_; have HB := n1_; have BK258 := n2_; have GW258 := n3_; have GE258 := n4_; have NB254_258 := n5_; have NB258_254 := n6_; clear n0_ n1_ n2_ n3_ n4_ n5_ n6_; clear hb hbox hg; have hnb107 := NB258_254.out; have hnc107 := NB254_258.out; have hcz108_0 : w106.cell? ⟨gb258, 0, none⟩ = some (.bool false) := (blk_cell BK258.out 0).trans rfl; have hcz108_1 : w106.cell? ⟨gb258, 1, none⟩ = some (.bool false) := (blk_cell BK258.out 1).trans rfl; have hfz108_0 := blk_frozen BK258.out 0; have hfz108_1 := blk_frozen BK258.out 1; have hcz109_0 : w106.cell? ⟨gb254, 0, none⟩ = some (.int .u64 a1_0) := (blk_cell BK254.out 0).trans rfl; have hcz109_1 : w106.cell? ⟨gb254, 1, none⟩ = some (.int .u64 a1_1) := (blk_cell BK254.out 1).trans rfl; have hcz109_2 : w106.cell? ⟨gb254, 2, none⟩ = some (.int .u64 a1_2) := (blk_cell BK254.out 2).trans rfl; have hcz109_3 : w106.cell? ⟨gb254, 3, none⟩ = some (.int .u64 a1_3) := (blk_cell BK254.out 3).trans rfl; have hcz109_4 : w106.cell? ⟨gb254, 4, none⟩ = some (.int .u64 a1_4) := (blk_cell BK254.out 4).trans rfl; have hcz109_5 : w106.cell? ⟨gb254, 5, none⟩ = some (.int .u64 a1_5) := (blk_cell BK254.out 5).trans rfl; have hcz109_6 : w106.cell? ⟨gb254, 6, none⟩ = some (.int .u64 a1_6) := (blk_cell BK254.out 6).trans rfl; have hcz109_7 : w106.cell? ⟨gb254, 7, none⟩ = some (.int .u64 a1_7) := (blk_cell BK254.out 7).trans rfl; have hfz109_0 := blk_frozen BK254.out 0; have hfz109_1 := blk_frozen BK254.out 1; have hfz109_2 := blk_frozen BK254.out 2; have hfz109_3 := blk_frozen BK254.out 3; have hfz109_4 := blk_frozen BK254.out 4; have hfz109_5 := blk_frozen BK254.out 5; have hfz109_6 := blk_frozen BK254.out 6; have hfz109_7 := blk_frozen BK254.out 7) | ((with_reducible refine gate_callee (f := 23) rfl ?_); refine goesL_ (some 21) rfl rfl Tryd.func23 (by kernel_rfl) rfl #[.agg #[.bool t256, .bool t257], .agg #[.int .u64 a1_0, .int .u64 a1_1, .int .u64 a1_2, .int .u64 a1_3, .int .u64 a1_4, .int .u64 a1_5, .int .u64 a1_6, .int .u64 a1_7]] rfl (by (try simp only [List.map_toArray, List.map_cons, List.map_nil]); first | done | rfl | (simp only [List.length_drop, List.length_take]; rfl)) ?_; (with_reducible refine (phdr_Put.calls k t256 t257 a1_0 a1_1 a1_2 a1_3 a1_4 a1_5 a1_6 a1_7 t259 t260 _ ?side1 A7.out).mono ?_); (case side1 => exact Laid_phdr.below HLD_phdr.out (by repeat (first | (with_reducible first | exact HB.out | apply below_alloc | apply pw_below_drewN | apply below_drew1 | refine below_set ?_ GE254.out | refine below_set ?_ GE258.out) | exact HB.out))); rintro e w110 ⟨rfl, hb⟩; refine ⟨_, rfl, ?_⟩; have n0_ := Aside0.mk (blk_below (g := gb254) (o := .cells #[.int .u64 a1_0, .int .u64 a1_1, .int .u64 a1_2, .int .u64 a1_3, .int .u64 a1_4, .int .u64 a1_5, .int .u64 a1_6, .int .u64 a1_7] 51 (0, 0)) (by (with_reducible repeat (first | refine blk_drewN ?_ _ | refine blk_drew ?_ | refine blk_alloc ?_ _)); refine blk_far ?_ NB254_258.out _; (with_reducible repeat (first | refine blk_drewN ?_ _ | refine blk_drew ?_ | refine blk_alloc ?_ _)); refine blk_far ?_ NB254_258.out _; (with_reducible repeat (first | refine blk_drewN ?_ _ | refine blk_drew ?_ | refine blk_alloc ?_ _)); exact BK254.out) hb); have n1_ := Aside0.mk (blk_below (g := gb258) (o := .cells #[.bool t256, .bool t257] 29 (0, 0)) (by (with_reducible repeat (first | refine blk_drewN ?_ _ | refine blk_drew ?_ | refine blk_alloc ?_ _)); refine blk_put (cs := #[.bool t256, .bool false]) ?_ 1 _ rfl; (with_reducible repeat (first | refine blk_drewN ?_ _ | refine blk_drew ?_ | refine blk_alloc ?_ _)); refine blk_put (cs := #[.bool false, .bool false]) ?_ 0 _ rfl; (with_reducible repeat (first | refine blk_drewN ?_ _ | refine blk_drew ?_ | refine blk_alloc ?_ _)); exact BK258.out) hb); have n2_ := Aside0.mk (below_step (by repeat (first | (with_reducible first | exact HB.out | apply below_alloc | apply pw_below_drewN | apply below_drew1 | refine below_set ?_ GE254.out | refine below_set ?_ GE258.out) | exact HB.out)) hb); clear BK254; clear BK258; clear HB; have BK254 := n0_; have BK258 := n1_; have HB := n2_; clear n0_ n1_ n2_; (try clear hb); (try clear hb2); (try clear hk); (try clear hi); have hcz111_0 : w110.cell? ⟨gb258, 0, none⟩ = some (.bool t256) := (blk_cell BK258.out 0).trans rfl; have hcz111_1 : w110.cell? ⟨gb258, 1, none⟩ = some (.bool t257) := (blk_cell BK258.out 1).trans rfl; have hfz111_0 := blk_frozen BK258.out 0; have hfz111_1 := blk_frozen BK258.out 1; have hcz112_0 : w110.cell? ⟨gb254, 0, none⟩ = some (.int .u64 a1_0) := (blk_cell BK254.out 0).trans rfl; have hcz112_1 : w110.cell? ⟨gb254, 1, none⟩ = some (.int .u64 a1_1) := (blk_cell BK254.out 1).trans rfl; have hcz112_2 : w110.cell? ⟨gb254, 2, none⟩ = some (.int .u64 a1_2) := (blk_cell BK254.out 2).trans rfl; have hcz112_3 : w110.cell? ⟨gb254, 3, none⟩ = some (.int .u64 a1_3) := (blk_cell BK254.out 3).trans rfl; have hcz112_4 : w110.cell? ⟨gb254, 4, none⟩ = some (.int .u64 a1_4) := (blk_cell BK254.out 4).trans rfl; have hcz112_5 : w110.cell? ⟨gb254, 5, none⟩ = some (.int .u64 a1_5) := (blk_cell BK254.out 5).trans rfl; have hcz112_6 : w110.cell? ⟨gb254, 6, none⟩ = some (.int .u64 a1_6) := (blk_cell BK254.out 6).trans rfl; have hcz112_7 : w110.cell? ⟨gb254, 7, none⟩ = some (.int .u64 a1_7) := (blk_cell BK254.out 7).trans rfl; have hfz112_0 := blk_frozen BK254.out 0; have hfz112_1 := blk_frozen BK254.out 1; have hfz112_2 := blk_frozen BK254.out 2; have hfz112_3 := blk_frozen BK254.out 3; have hfz112_4 := blk_frozen BK254.out 4; have hfz112_5 := blk_frozen BK254.out 5; have hfz112_6 := blk_frozen BK254.out 6; have hfz112_7 := blk_frozen BK254.out 7) | ((with_reducible refine gate_callee (f := 24) rfl ?_); refine goesL_ (some 31) rfl rfl Tryd.func24 (by kernel_rfl) rfl #[.bool t257, .bool t256, .agg #[.int .u64 a1_0, .int .u64 a1_1, .int .u64 a1_2, .int .u64 a1_3, .int .u64 a1_4, .int .u64 a1_5, .int .u64 a1_6, .int .u64 a1_7]] rfl (by (try simp only [List.map_toArray, List.map_cons, List.map_nil]); first | done | rfl | (simp only [List.length_drop, List.length_take]; rfl)) ?_; (with_reducible refine (graverref07_Put.calls k t257 t256 a1_0 a1_1 a1_2 a1_3 a1_4 a1_5 a1_6 a1_7 t261 t262 _ A8.out).mono ?_); rintro e w113 ⟨rfl, hb⟩; refine ⟨_, rfl, ?_⟩; have n0_ := Aside0.mk (blk_below (g := gb254) (o := .cells #[.int .u64 a1_0, .int .u64 a1_1, .int .u64 a1_2, .int .u64 a1_3, .int .u64 a1_4, .int .u64 a1_5, .int .u64 a1_6, .int .u64 a1_7] 51 (0, 0)) (by (with_reducible repeat (first | refine blk_drewN ?_ _ | refine blk_drew ?_ | refine blk_alloc ?_ _)); exact BK254.out) hb); have n1_ := Aside0.mk (blk_below (g := gb258) (o := .cells #[.bool t256, .bool t257] 29 (0, 0)) (by (with_reducible repeat (first | refine blk_drewN ?_ _ | refine blk_drew ?_ | refine blk_alloc ?_ _)); exact BK258.out) hb); have n2_ := Aside0.mk (below_step (by repeat (first | (with_reducible first | exact HB.out | apply below_alloc | apply pw_below_drewN | apply below_drew1 | refine below_set ?_ GE254.out | refine below_set ?_ GE258.out) | exact HB.out)) hb); clear BK254; clear BK258; clear HB; have BK254 := n0_; have BK258 := n1_; have HB := n2_; clear n0_ n1_ n2_; (try clear hb); (try clear hb2); (try clear hk); (try clear hi)))
   go_ret
   exact ⟨by first | rfl | (simp [errW_none, errW_some] <;> rfl) | (simp [*, errW_none, errW_some] <;> rfl), by repeat (first | (with_reducible first | exact HB.out | apply below_alloc | apply pw_below_drewN | apply below_drew1 | refine below_set ?_ GE254.out | refine below_set ?_ GE258.out) | exact HB.out)⟩
 ·
  replace c5 := Bool.eq_false_iff.mpr c5
  subst c5
  have H1 : (some false) = some r := by rw [if_neg (show ¬ (false = true) by decide)] at H; exact H
  clear H
  have H := H1
  clear H1
  obtain rfl := Option.some.inj H
  go_enter Tryd.func7, Tryd.ntmps7
  go_wp2_with (first | ((with_reducible refine gate_dst (N := 4) rfl ?_); refine box_event ?hg (N := 4) ?hd (cs := #[.int .u64 a1_0, .int .u64 a1_1, .int .u64 a1_2, .int .u64 a1_3, .int .u64 a1_4, .int .u64 a1_5, .int .u64 a1_6, .int .u64 a1_7]) (t := 51) ?hr ?_; (case hd => rfl); (case hg => rfl); (case hr => first | (go_simp; done) | (go_simp; rfl)); intro gb254 hg w114 hbox hb; have n0_ := Aside0.mk (below_step (by repeat (first | (with_reducible first | exact HB.out | apply below_alloc | apply pw_below_drewN | apply below_drew1) | exact HB.out)) hb); have n1_ := Aside0.mk (hbox); have n2_ := Aside0.mk ((by rw [hg]; exact (below_size (by repeat (first | (with_reducible first | exact HB.out | apply below_alloc | apply pw_below_drewN | apply below_drew1) | exact HB.out))) : w.heap.size ≤ gb254)); have n3_ := Aside0.mk ((by rw [hg]; exact (below_size (by repeat (first | (with_reducible first | exact HB.out | apply below_alloc | apply pw_below_drewN | apply below_drew1) | exact HB.out))) : w.heap.size ≤ gb254)); clear HB; have HB := n0_; have BK254 := n1_; have GW254 := n2_; have GE254 := n3_; clear n0_ n1_ n2_ n3_; clear hb hbox hg) | ((with_reducible refine gate_callee (f := 21) rfl ?_); refine goesL_ (some 14) rfl rfl Tryd.func21 (by kernel_rfl) rfl #[] rfl (by (try simp only [List.map_toArray, List.map_cons, List.map_nil]); first | done | rfl | (simp only [List.length_drop, List.length_take]; rfl)) ?_; (with_reducible refine (graverlaw07_speaks.calls k  false _ ?side1 A4.out).mono ?_); (case side1 => exact Laid_phdr.below HLD_phdr.out (by repeat (first | (with_reducible first | exact HB.out | apply below_alloc | apply pw_below_drewN | apply below_drew1 | refine below_set ?_ GE254.out) | exact HB.out))); rintro e w115 ⟨rfl, hb⟩; refine ⟨_, rfl, ?_⟩; have n0_ := Aside0.mk (blk_below (g := gb254) (o := .cells #[.int .u64 a1_0, .int .u64 a1_1, .int .u64 a1_2, .int .u64 a1_3, .int .u64 a1_4, .int .u64 a1_5, .int .u64 a1_6, .int .u64 a1_7] 51 (0, 0)) (by (with_reducible repeat (first | refine blk_drewN ?_ _ | refine blk_drew ?_ | refine blk_alloc ?_ _)); exact BK254.out) hb); have n1_ := Aside0.mk (below_step (by repeat (first | (with_reducible first | exact HB.out | apply below_alloc | apply pw_below_drewN | apply below_drew1 | refine below_set ?_ GE254.out) | exact HB.out)) hb); clear BK254; clear HB; have BK254 := n0_; have HB := n1_; clear n0_ n1_; (try clear hb); (try clear hb2); (try clear hk); (try clear hi)))
  go_ret
  exact ⟨by first | rfl | (simp [errW_none, errW_some] <;> rfl) | (simp [*, errW_none, errW_some] <;> rfl), by repeat (first | (with_reducible first | exact HB.out | apply below_alloc | apply pw_below_drewN | apply below_drew1 | refine below_set ?_ GE254.out) | exact HB.out)⟩

/-- THE ONE PURE STATEMENT of graverlaw07_PhdrPuts: yours. -/
def graverlaw07_PhdrPuts.Pure : Prop := ∀ (a0 : Int) (a1_0 : Int) (a1_1 : Int) (a1_2 : Int) (a1_3 : Int) (a1_4 : Int) (a1_5 : Int) (a1_6 : Int) (a1_7 : Int) (a2 : ByteArray), (Lit.int .i64 a0).wf = true → (Lit.int .u64 a1_0).wf = true → (Lit.int .u64 a1_1).wf = true → (Lit.int .u64 a1_2).wf = true → (Lit.int .u64 a1_3).wf = true → (Lit.int .u64 a1_4).wf = true → (Lit.int .u64 a1_5).wf = true → (Lit.int .u64 a1_6).wf = true → (Lit.int .u64 a1_7).wf = true → a2.size ≤ 140737488351232 → ∃ k, graverlaw07_PhdrPuts.f k a0 a1_0 a1_1 a1_2 a1_3 a1_4 a1_5 a1_6 a1_7 a2 = some true
theorem graverlaw07_PhdrPuts.walk (P : graverlaw07_PhdrPuts.Pure) (a0 : Int) (a1_0 : Int) (a1_1 : Int) (a1_2 : Int) (a1_3 : Int) (a1_4 : Int) (a1_5 : Int) (a1_6 : Int) (a1_7 : Int) (a2 : ByteArray) (w : World) (hlaid_phdr : Laid_phdr w) (w0 : (Lit.int .i64 a0).wf = true) (w1_0 : (Lit.int .u64 a1_0).wf = true) (w1_1 : (Lit.int .u64 a1_1).wf = true) (w1_2 : (Lit.int .u64 a1_2).wf = true) (w1_3 : (Lit.int .u64 a1_3).wf = true) (w1_4 : (Lit.int .u64 a1_4).wf = true) (w1_5 : (Lit.int .u64 a1_5).wf = true) (w1_6 : (Lit.int .u64 a1_6).wf = true) (w1_7 : (Lit.int .u64 a1_7).wf = true) (w2 : a2.size ≤ 140737488351232) :
  Calls Tryd.prog 7 #[.int .i64 a0, .agg #[.int .u64 a1_0, .int .u64 a1_1, .int .u64 a1_2, .int .u64 a1_3, .int .u64 a1_4, .int .u64 a1_5, .int .u64 a1_6, .int .u64 a1_7], .string a2] w fun e w' => e = .returned (.bool true) ∧ Below w.heap.size w w' := by
 obtain ⟨k, h⟩ := P a0 a1_0 a1_1 a1_2 a1_3 a1_4 a1_5 a1_6 a1_7 a2 w0 w1_0 w1_1 w1_2 w1_3 w1_4 w1_5 w1_6 w1_7 w2
 refine (graverlaw07_PhdrPuts.calls k a0 a1_0 a1_1 a1_2 a1_3 a1_4 a1_5 a1_6 a1_7 a2 true w hlaid_phdr h).mono ?_
 rintro e w' ⟨rfl, hd⟩
 exact ⟨rfl, hd⟩

end Go.Proofs.YthbkjppaimjpmaaDoor.Q
