/- What Go functions of the program compute, each as a Lean function with the proof that the call returns just that. No condition but those in the statements. -/
import Derived.Test.YthbkjppaimjpmaaDoorQ0
import Derived.Test.YthbkjppaimjpmaaDoorQ1
import Derived.Test.YthbkjppaimjpmaaDoorQ4
import Derived.Test.YthbkjppaimjpmaaDoorQ7
import Derived.Test.YthbkjppaimjpmaaDoorQ9
import Derived.Test.YthbkjppaimjpmaaDoorQ11
namespace Go.Proofs.YthbkjppaimjpmaaDoor.Q
open Go.RowKit Go.Proofs.YthbkjppaimjpmaaDoorW.PrintWords Go.Proofs.YthbkjppaimjpmaaDoorW.PrintLast Go.Proofs.YthbkjppaimjpmaaDoorW.PrintMore
attribute [local go_sem] max2_int min2_int max_two min_two max_three min_three max_four min_four   -- for this text's walks alone
set_option linter.unusedVariables false
set_option linter.unusedSimpArgs false

attribute [local go_sem high] eqA33
/-! ### graverlaw05_EhdrPuts: function 3 -/
def graverlaw05_EhdrPuts.f (k : Nat) (a0 : Int) (a1_0 : Int) (a1_1 : Int) (a1_2 : Int) (a1_3 : Int) (a1_4 : Int) (a1_5 : Int) (a1_6 : Int) (a1_7 : Int) (a1_8 : Int) (a1_9 : Int) (a1_10 : Int) (a1_11 : Int) (a1_12 : Int) (a2 : ByteArray) : Option (Bool) := (graverlaw05_speaks.f k).bind fun t177 => (if t177 = true then ((graverlaw05_formOf.f a0).bind fun bt178 => ((ehdr_Put.f k bt178.1 bt178.2 a1_0 a1_1 a1_2 a1_3 a1_4 a1_5 a1_6 a1_7 a1_8 a1_9 a1_10 a1_11 a1_12).bind fun bt181 => ((graverref05_Put.f k bt178.2 bt178.1 a1_0 a1_1 a1_2 a1_3 a1_4 a1_5 a1_6 a1_7 a1_8 a1_9 a1_10 a1_11 a1_12).bind fun bt183 => (if bt181.1.toList = bt183.1.toList then (if (bt181.2 != bt183.2) = true then (some false) else (if 0 ≤ (mn (a2.size : Int) 20) then (if (mn (a2.size : Int) 20) ≤ (a2.size : Int) then (if bt181.1.size + (a2.extract 0 ((mn (a2.size : Int) 20) : Int).toNat).size ≤ 9223372036854775807 then ((ehdr_Read.f k bt178.1 bt178.2 (bt181.1 ++ (a2.extract 0 ((mn (a2.size : Int) 20) : Int).toNat))).bind fun bt185 => (if bt181.2 = true then (if bt185.2.2.2.2.2.2.2.2.2.2.2.2.2 = true then (some (bt185.1 == a1_0 && (bt185.2.1 == a1_1 && (bt185.2.2.1 == a1_2 && (bt185.2.2.2.1 == a1_3 && (bt185.2.2.2.2.1 == a1_4 && (bt185.2.2.2.2.2.1 == a1_5 && (bt185.2.2.2.2.2.2.1 == a1_6 && (bt185.2.2.2.2.2.2.2.1 == a1_7 && (bt185.2.2.2.2.2.2.2.2.1 == a1_8 && (bt185.2.2.2.2.2.2.2.2.2.1 == a1_9 && (bt185.2.2.2.2.2.2.2.2.2.2.1 == a1_10 && (bt185.2.2.2.2.2.2.2.2.2.2.2.1 == a1_11 && (bt185.2.2.2.2.2.2.2.2.2.2.2.2.1 == a1_12)))))))))))))) else (some false)) else (some true))) else (none)) else (none)) else (none))) else (some false))))) else (some false))
theorem graverlaw05_EhdrPuts.mono : ∀ a0 a1 a2 a3 a4 a5 a6 a7 a8 a9 a10 a11 a12 a13 a14 k, LeO (graverlaw05_EhdrPuts.f k a0 a1 a2 a3 a4 a5 a6 a7 a8 a9 a10 a11 a12 a13 a14) (graverlaw05_EhdrPuts.f (k + 1) a0 a1 a2 a3 a4 a5 a6 a7 a8 a9 a10 a11 a12 a13 a14) := by
 intro a0 a1 a2 a3 a4 a5 a6 a7 a8 a9 a10 a11 a12 a13 a14 k
 unfold graverlaw05_EhdrPuts.f
 repeat' first
   | (with_reducible exact ehdr_Put.mono _ _ _ _ _ _ _ _ _ _ _ _ _ _ _ _)
   | (with_reducible exact ehdr_Read.mono _ _ _ _)
   | (with_reducible exact graverlaw05_speaks.mono _)
   | (with_reducible exact graverref05_Put.mono _ _ _ _ _ _ _ _ _ _ _ _ _ _ _ _)
   | (with_reducible exact LeO.refl _)
   | (with_reducible exact LeO.none _)
   | (with_reducible refine LeO.ite ?_ ?_)
   | (with_reducible refine LeO.bind ?_ (fun _ => ?_))
   | exact ehdr_Put.mono _ _ _ _ _ _ _ _ _ _ _ _ _ _ _ _
   | exact ehdr_Read.mono _ _ _ _
   | exact graverlaw05_speaks.mono _
   | exact graverref05_Put.mono _ _ _ _ _ _ _ _ _ _ _ _ _ _ _ _
   | exact LeO.none _
   | refine LeO.ite ?_ ?_
   | refine LeO.bind ?_ (fun _ => ?_)
def graverlaw05_EhdrPuts.T8 : Bool × List (List Nat × List Nat) := (true, [([], []), ([], []), ([], []), ([], []), ([3], [3]), ([4], [4]), ([2, 5], [2, 5]), ([1, 6], [1, 6]), ([0, 7], [0, 7]), ([8], [8]), ([9], [9]), ([9], [9]), ([], []), ([12, 10, 8, 0, 1, 2, 3, 4, 5, 6, 7, 8, 9, 10, 12], [10, 12]), ([11, 13, 0, 1, 2, 3, 4, 5, 6, 7, 8, 9, 10, 11, 12, 13], [11])])
def graverlaw05_EhdrPuts.B8 : List Nat := [0, 0, 0, 0, 8, 24, 60, 126, 255, 511, 1023, 1023, 0, 6143, 16383]
theorem graverlaw05_EhdrPuts.tab8 : rtab .any (opsOf Tryd.f3 8) = graverlaw05_EhdrPuts.T8 := by kernel_rfl
theorem graverlaw05_EhdrPuts.bits8 : waitsOk graverlaw05_EhdrPuts.T8.2 graverlaw05_EhdrPuts.B8 = true := by kernel_rfl
set_option maxHeartbeats 8000000 in
set_option maxRecDepth 100000 in
theorem graverlaw05_EhdrPuts.calls (k : Nat) (a0 : Int) (a1_0 : Int) (a1_1 : Int) (a1_2 : Int) (a1_3 : Int) (a1_4 : Int) (a1_5 : Int) (a1_6 : Int) (a1_7 : Int) (a1_8 : Int) (a1_9 : Int) (a1_10 : Int) (a1_11 : Int) (a1_12 : Int) (a2 : ByteArray) (r : Bool) (w : World) (hlaid_ehdr : Laid_ehdr w) (h : graverlaw05_EhdrPuts.f k a0 a1_0 a1_1 a1_2 a1_3 a1_4 a1_5 a1_6 a1_7 a1_8 a1_9 a1_10 a1_11 a1_12 a2 = some r) :
  Calls Tryd.prog 3 #[.int .i64 a0, .agg #[.int .u64 a1_0, .int .u64 a1_1, .int .u64 a1_2, .int .u64 a1_3, .int .u64 a1_4, .int .u64 a1_5, .int .u64 a1_6, .int .u64 a1_7, .int .u64 a1_8, .int .u64 a1_9, .int .u64 a1_10, .int .u64 a1_11, .int .u64 a1_12], .string a2] w fun e w' => e = .returned (.bool r) ∧ Below w.heap.size w w' := by
 have hu24 := Tryd.underlying24
 have hu29 := Tryd.underlying29
 have hu33 := Tryd.underlying33
 have HB := Aside0.mk (Below.refl w.heap.size w)
 have HLD_ehdr := Aside0.mk hlaid_ehdr
 clear hlaid_ehdr
 have H : ((graverlaw05_speaks.f k).bind fun t177 => (if t177 = true then ((graverlaw05_formOf.f a0).bind fun bt178 => ((ehdr_Put.f k bt178.1 bt178.2 a1_0 a1_1 a1_2 a1_3 a1_4 a1_5 a1_6 a1_7 a1_8 a1_9 a1_10 a1_11 a1_12).bind fun bt181 => ((graverref05_Put.f k bt178.2 bt178.1 a1_0 a1_1 a1_2 a1_3 a1_4 a1_5 a1_6 a1_7 a1_8 a1_9 a1_10 a1_11 a1_12).bind fun bt183 => (if bt181.1.toList = bt183.1.toList then (if (bt181.2 != bt183.2) = true then (some false) else (if 0 ≤ (mn (a2.size : Int) 20) then (if (mn (a2.size : Int) 20) ≤ (a2.size : Int) then (if bt181.1.size + (a2.extract 0 ((mn (a2.size : Int) 20) : Int).toNat).size ≤ 9223372036854775807 then ((ehdr_Read.f k bt178.1 bt178.2 (bt181.1 ++ (a2.extract 0 ((mn (a2.size : Int) 20) : Int).toNat))).bind fun bt185 => (if bt181.2 = true then (if bt185.2.2.2.2.2.2.2.2.2.2.2.2.2 = true then (some (bt185.1 == a1_0 && (bt185.2.1 == a1_1 && (bt185.2.2.1 == a1_2 && (bt185.2.2.2.1 == a1_3 && (bt185.2.2.2.2.1 == a1_4 && (bt185.2.2.2.2.2.1 == a1_5 && (bt185.2.2.2.2.2.2.1 == a1_6 && (bt185.2.2.2.2.2.2.2.1 == a1_7 && (bt185.2.2.2.2.2.2.2.2.1 == a1_8 && (bt185.2.2.2.2.2.2.2.2.2.1 == a1_9 && (bt185.2.2.2.2.2.2.2.2.2.2.1 == a1_10 && (bt185.2.2.2.2.2.2.2.2.2.2.2.1 == a1_11 && (bt185.2.2.2.2.2.2.2.2.2.2.2.2.1 == a1_12)))))))))))))) else (some false)) else (some true))) else (none)) else (none)) else (none))) else (some false))))) else (some false))) = some r := h
 clear h
 replace H := Option.bind_eq_some_iff.mp H
 obtain ⟨t177, A40, H⟩ := H
 replace H : (if t177 = true then ((graverlaw05_formOf.f a0).bind fun bt178 => ((ehdr_Put.f k bt178.1 bt178.2 a1_0 a1_1 a1_2 a1_3 a1_4 a1_5 a1_6 a1_7 a1_8 a1_9 a1_10 a1_11 a1_12).bind fun bt181 => ((graverref05_Put.f k bt178.2 bt178.1 a1_0 a1_1 a1_2 a1_3 a1_4 a1_5 a1_6 a1_7 a1_8 a1_9 a1_10 a1_11 a1_12).bind fun bt183 => (if bt181.1.toList = bt183.1.toList then (if (bt181.2 != bt183.2) = true then (some false) else (if 0 ≤ (mn (a2.size : Int) 20) then (if (mn (a2.size : Int) 20) ≤ (a2.size : Int) then (if bt181.1.size + (a2.extract 0 ((mn (a2.size : Int) 20) : Int).toNat).size ≤ 9223372036854775807 then ((ehdr_Read.f k bt178.1 bt178.2 (bt181.1 ++ (a2.extract 0 ((mn (a2.size : Int) 20) : Int).toNat))).bind fun bt185 => (if bt181.2 = true then (if bt185.2.2.2.2.2.2.2.2.2.2.2.2.2 = true then (some (bt185.1 == a1_0 && (bt185.2.1 == a1_1 && (bt185.2.2.1 == a1_2 && (bt185.2.2.2.1 == a1_3 && (bt185.2.2.2.2.1 == a1_4 && (bt185.2.2.2.2.2.1 == a1_5 && (bt185.2.2.2.2.2.2.1 == a1_6 && (bt185.2.2.2.2.2.2.2.1 == a1_7 && (bt185.2.2.2.2.2.2.2.2.1 == a1_8 && (bt185.2.2.2.2.2.2.2.2.2.1 == a1_9 && (bt185.2.2.2.2.2.2.2.2.2.2.1 == a1_10 && (bt185.2.2.2.2.2.2.2.2.2.2.2.1 == a1_11 && (bt185.2.2.2.2.2.2.2.2.2.2.2.2.1 == a1_12)))))))))))))) else (some false)) else (some true))) else (none)) else (none)) else (none))) else (some false))))) else (some false)) = some r := H
 have A4 := Aside0.mk A40
 clear A40
 by_cases c5 : t177 = true
 ·
  subst c5
  have H1 : ((graverlaw05_formOf.f a0).bind fun bt178 => ((ehdr_Put.f k bt178.1 bt178.2 a1_0 a1_1 a1_2 a1_3 a1_4 a1_5 a1_6 a1_7 a1_8 a1_9 a1_10 a1_11 a1_12).bind fun bt181 => ((graverref05_Put.f k bt178.2 bt178.1 a1_0 a1_1 a1_2 a1_3 a1_4 a1_5 a1_6 a1_7 a1_8 a1_9 a1_10 a1_11 a1_12).bind fun bt183 => (if bt181.1.toList = bt183.1.toList then (if (bt181.2 != bt183.2) = true then (some false) else (if 0 ≤ (mn (a2.size : Int) 20) then (if (mn (a2.size : Int) 20) ≤ (a2.size : Int) then (if bt181.1.size + (a2.extract 0 ((mn (a2.size : Int) 20) : Int).toNat).size ≤ 9223372036854775807 then ((ehdr_Read.f k bt178.1 bt178.2 (bt181.1 ++ (a2.extract 0 ((mn (a2.size : Int) 20) : Int).toNat))).bind fun bt185 => (if bt181.2 = true then (if bt185.2.2.2.2.2.2.2.2.2.2.2.2.2 = true then (some (bt185.1 == a1_0 && (bt185.2.1 == a1_1 && (bt185.2.2.1 == a1_2 && (bt185.2.2.2.1 == a1_3 && (bt185.2.2.2.2.1 == a1_4 && (bt185.2.2.2.2.2.1 == a1_5 && (bt185.2.2.2.2.2.2.1 == a1_6 && (bt185.2.2.2.2.2.2.2.1 == a1_7 && (bt185.2.2.2.2.2.2.2.2.1 == a1_8 && (bt185.2.2.2.2.2.2.2.2.2.1 == a1_9 && (bt185.2.2.2.2.2.2.2.2.2.2.1 == a1_10 && (bt185.2.2.2.2.2.2.2.2.2.2.2.1 == a1_11 && (bt185.2.2.2.2.2.2.2.2.2.2.2.2.1 == a1_12)))))))))))))) else (some false)) else (some true))) else (none)) else (none)) else (none))) else (some false))))) = some r := by rw [if_pos rfl] at H; exact H
  clear H
  have H := H1
  clear H1
  replace H := Option.bind_eq_some_iff.mp H
  obtain ⟨⟨t178, t179⟩, A60, H⟩ := H
  replace H : ((ehdr_Put.f k t178 t179 a1_0 a1_1 a1_2 a1_3 a1_4 a1_5 a1_6 a1_7 a1_8 a1_9 a1_10 a1_11 a1_12).bind fun bt181 => ((graverref05_Put.f k t179 t178 a1_0 a1_1 a1_2 a1_3 a1_4 a1_5 a1_6 a1_7 a1_8 a1_9 a1_10 a1_11 a1_12).bind fun bt183 => (if bt181.1.toList = bt183.1.toList then (if (bt181.2 != bt183.2) = true then (some false) else (if 0 ≤ (mn (a2.size : Int) 20) then (if (mn (a2.size : Int) 20) ≤ (a2.size : Int) then (if bt181.1.size + (a2.extract 0 ((mn (a2.size : Int) 20) : Int).toNat).size ≤ 9223372036854775807 then ((ehdr_Read.f k t178 t179 (bt181.1 ++ (a2.extract 0 ((mn (a2.size : Int) 20) : Int).toNat))).bind fun bt185 => (if bt181.2 = true then (if bt185.2.2.2.2.2.2.2.2.2.2.2.2.2 = true then (some (bt185.1 == a1_0 && (bt185.2.1 == a1_1 && (bt185.2.2.1 == a1_2 && (bt185.2.2.2.1 == a1_3 && (bt185.2.2.2.2.1 == a1_4 && (bt185.2.2.2.2.2.1 == a1_5 && (bt185.2.2.2.2.2.2.1 == a1_6 && (bt185.2.2.2.2.2.2.2.1 == a1_7 && (bt185.2.2.2.2.2.2.2.2.1 == a1_8 && (bt185.2.2.2.2.2.2.2.2.2.1 == a1_9 && (bt185.2.2.2.2.2.2.2.2.2.2.1 == a1_10 && (bt185.2.2.2.2.2.2.2.2.2.2.2.1 == a1_11 && (bt185.2.2.2.2.2.2.2.2.2.2.2.2.1 == a1_12)))))))))))))) else (some false)) else (some true))) else (none)) else (none)) else (none))) else (some false)))) = some r := H
  have A6 := Aside0.mk A60
  clear A60
  replace H := Option.bind_eq_some_iff.mp H
  obtain ⟨⟨t181, t182⟩, A70, H⟩ := H
  replace H : ((graverref05_Put.f k t179 t178 a1_0 a1_1 a1_2 a1_3 a1_4 a1_5 a1_6 a1_7 a1_8 a1_9 a1_10 a1_11 a1_12).bind fun bt183 => (if t181.toList = bt183.1.toList then (if (t182 != bt183.2) = true then (some false) else (if 0 ≤ (mn (a2.size : Int) 20) then (if (mn (a2.size : Int) 20) ≤ (a2.size : Int) then (if t181.size + (a2.extract 0 ((mn (a2.size : Int) 20) : Int).toNat).size ≤ 9223372036854775807 then ((ehdr_Read.f k t178 t179 (t181 ++ (a2.extract 0 ((mn (a2.size : Int) 20) : Int).toNat))).bind fun bt185 => (if t182 = true then (if bt185.2.2.2.2.2.2.2.2.2.2.2.2.2 = true then (some (bt185.1 == a1_0 && (bt185.2.1 == a1_1 && (bt185.2.2.1 == a1_2 && (bt185.2.2.2.1 == a1_3 && (bt185.2.2.2.2.1 == a1_4 && (bt185.2.2.2.2.2.1 == a1_5 && (bt185.2.2.2.2.2.2.1 == a1_6 && (bt185.2.2.2.2.2.2.2.1 == a1_7 && (bt185.2.2.2.2.2.2.2.2.1 == a1_8 && (bt185.2.2.2.2.2.2.2.2.2.1 == a1_9 && (bt185.2.2.2.2.2.2.2.2.2.2.1 == a1_10 && (bt185.2.2.2.2.2.2.2.2.2.2.2.1 == a1_11 && (bt185.2.2.2.2.2.2.2.2.2.2.2.2.1 == a1_12)))))))))))))) else (some false)) else (some true))) else (none)) else (none)) else (none))) else (some false))) = some r := H
  have A7 := Aside0.mk A70
  clear A70
  replace H := Option.bind_eq_some_iff.mp H
  obtain ⟨⟨t183, t184⟩, A80, H⟩ := H
  replace H : (if t181.toList = t183.toList then (if (t182 != t184) = true then (some false) else (if 0 ≤ (mn (a2.size : Int) 20) then (if (mn (a2.size : Int) 20) ≤ (a2.size : Int) then (if t181.size + (a2.extract 0 ((mn (a2.size : Int) 20) : Int).toNat).size ≤ 9223372036854775807 then ((ehdr_Read.f k t178 t179 (t181 ++ (a2.extract 0 ((mn (a2.size : Int) 20) : Int).toNat))).bind fun bt185 => (if t182 = true then (if bt185.2.2.2.2.2.2.2.2.2.2.2.2.2 = true then (some (bt185.1 == a1_0 && (bt185.2.1 == a1_1 && (bt185.2.2.1 == a1_2 && (bt185.2.2.2.1 == a1_3 && (bt185.2.2.2.2.1 == a1_4 && (bt185.2.2.2.2.2.1 == a1_5 && (bt185.2.2.2.2.2.2.1 == a1_6 && (bt185.2.2.2.2.2.2.2.1 == a1_7 && (bt185.2.2.2.2.2.2.2.2.1 == a1_8 && (bt185.2.2.2.2.2.2.2.2.2.1 == a1_9 && (bt185.2.2.2.2.2.2.2.2.2.2.1 == a1_10 && (bt185.2.2.2.2.2.2.2.2.2.2.2.1 == a1_11 && (bt185.2.2.2.2.2.2.2.2.2.2.2.2.1 == a1_12)))))))))))))) else (some false)) else (some true))) else (none)) else (none)) else (none))) else (some false)) = some r := H
  have A8 := Aside0.mk A80
  clear A80
  by_cases c9 : t181.toList = t183.toList
  ·
   rw [if_pos c9] at H
   have c9b0 : (t181.toList == t183.toList) = true := beq_iff_eq.mpr c9
   have c9b1 : (t181.toList != t183.toList) = false := bne_eq_false_iff_eq.mpr c9
   clear c9
   by_cases c10 : (t182 != t184) = true
   ·
    rw [if_pos c10] at H
    have c10b0 : (t182 != t184) = true := c10
    (try (have c10b1 : decide (t182 = t184) = false := by simpa using c10))
    (try (have c10b2 : (t182 == t184) = false := by simpa using c10))
    (try (have c10b3 : ¬ (t182 = t184) := by simpa using c10))
    clear c10
    obtain rfl := Option.some.inj H
    go_enter Tryd.func3, Tryd.ntmps3
    go_wp2_with (first | ((with_reducible refine gate_dst (N := 4) rfl ?_); refine box_event ?hg (N := 4) ?hd (cs := #[.int .u64 a1_0, .int .u64 a1_1, .int .u64 a1_2, .int .u64 a1_3, .int .u64 a1_4, .int .u64 a1_5, .int .u64 a1_6, .int .u64 a1_7, .int .u64 a1_8, .int .u64 a1_9, .int .u64 a1_10, .int .u64 a1_11, .int .u64 a1_12]) (t := 24) ?hr ?_; (case hd => rfl); (case hg => rfl); (case hr => first | (go_simp; done) | (go_simp; rfl)); intro gb176 hg w11 hbox hb; have n0_ := Aside0.mk (below_step (by repeat (first | (with_reducible first | exact HB.out | apply below_alloc | apply pw_below_drewN | apply below_drew1) | exact HB.out)) hb); have n1_ := Aside0.mk (hbox); have n2_ := Aside0.mk ((by rw [hg]; exact (below_size (by repeat (first | (with_reducible first | exact HB.out | apply below_alloc | apply pw_below_drewN | apply below_drew1) | exact HB.out))) : w.heap.size ≤ gb176)); have n3_ := Aside0.mk ((by rw [hg]; exact (below_size (by repeat (first | (with_reducible first | exact HB.out | apply below_alloc | apply pw_below_drewN | apply below_drew1) | exact HB.out))) : w.heap.size ≤ gb176)); clear HB; have HB := n0_; have BK176 := n1_; have GW176 := n2_; have GE176 := n3_; clear n0_ n1_ n2_ n3_; clear hb hbox hg) | ((with_reducible refine gate_callee (f := 9) rfl ?_); refine goesL_ (some 14) rfl rfl Tryd.func9 (by kernel_rfl) rfl #[] rfl (by (try simp only [List.map_toArray, List.map_cons, List.map_nil]); first | done | rfl | (simp only [List.length_drop, List.length_take]; rfl)) ?_; (with_reducible refine (graverlaw05_speaks.calls k  true _ ?side1 A4.out).mono ?_); (case side1 => exact Laid_ehdr.below HLD_ehdr.out (by repeat (first | (with_reducible first | exact HB.out | apply below_alloc | apply pw_below_drewN | apply below_drew1 | refine below_set ?_ GE176.out) | exact HB.out))); rintro e w12 ⟨rfl, hb⟩; refine ⟨_, rfl, ?_⟩; have n0_ := Aside0.mk (blk_below (g := gb176) (o := .cells #[.int .u64 a1_0, .int .u64 a1_1, .int .u64 a1_2, .int .u64 a1_3, .int .u64 a1_4, .int .u64 a1_5, .int .u64 a1_6, .int .u64 a1_7, .int .u64 a1_8, .int .u64 a1_9, .int .u64 a1_10, .int .u64 a1_11, .int .u64 a1_12] 24 (0, 0)) (by (with_reducible repeat (first | refine blk_drewN ?_ _ | refine blk_drew ?_ | refine blk_alloc ?_ _)); exact BK176.out) hb); have n1_ := Aside0.mk (below_step (by repeat (first | (with_reducible first | exact HB.out | apply below_alloc | apply pw_below_drewN | apply below_drew1 | refine below_set ?_ GE176.out) | exact HB.out)) hb); clear BK176; clear HB; have BK176 := n0_; have HB := n1_; clear n0_ n1_; (try clear hb); (try clear hb2); (try clear hk); (try clear hi)) | ((with_reducible refine gate_callee (f := 10) rfl ?_); refine goesL_ (some 17) rfl rfl Tryd.func10 (by kernel_rfl) rfl #[.int .i64 a0] rfl (by (try simp only [List.map_toArray, List.map_cons, List.map_nil]); first | done | rfl | (simp only [List.length_drop, List.length_take]; rfl)) ?_; (with_reducible refine (graverlaw05_formOf.calls a0 t178 t179 _ A6.out).mono ?_); rintro e w13 ⟨rfl, hb⟩; refine ⟨_, rfl, ?_⟩; have n0_ := Aside0.mk (blk_below (g := gb176) (o := .cells #[.int .u64 a1_0, .int .u64 a1_1, .int .u64 a1_2, .int .u64 a1_3, .int .u64 a1_4, .int .u64 a1_5, .int .u64 a1_6, .int .u64 a1_7, .int .u64 a1_8, .int .u64 a1_9, .int .u64 a1_10, .int .u64 a1_11, .int .u64 a1_12] 24 (0, 0)) (by (with_reducible repeat (first | refine blk_drewN ?_ _ | refine blk_drew ?_ | refine blk_alloc ?_ _)); exact BK176.out) hb); have n1_ := Aside0.mk (below_step (by repeat (first | (with_reducible first | exact HB.out | apply below_alloc | apply pw_below_drewN | apply below_drew1 | refine below_set ?_ GE176.out) | exact HB.out)) hb); clear BK176; clear HB; have BK176 := n0_; have HB := n1_; clear n0_ n1_; (try clear hb); (try clear hb2); (try clear hk); (try clear hi)) | ((with_reducible refine gate_dst (N := 7) rfl ?_); refine box_event ?hg (N := 7) ?hd (cs := #[.bool false, .bool false]) (t := 29) ?hr ?_; (case hd => rfl); (case hg => rfl); (case hr => first | (go_simp; done) | (go_simp; rfl)); intro gb180 hg w14 hbox hb; have n0_ := Aside0.mk (blk_below (g := gb176) (o := .cells #[.int .u64 a1_0, .int .u64 a1_1, .int .u64 a1_2, .int .u64 a1_3, .int .u64 a1_4, .int .u64 a1_5, .int .u64 a1_6, .int .u64 a1_7, .int .u64 a1_8, .int .u64 a1_9, .int .u64 a1_10, .int .u64 a1_11, .int .u64 a1_12] 24 (0, 0)) (by (with_reducible repeat (first | refine blk_drewN ?_ _ | refine blk_drew ?_ | refine blk_alloc ?_ _)); exact BK176.out) hb); have n1_ := Aside0.mk (below_step (by repeat (first | (with_reducible first | exact HB.out | apply below_alloc | apply pw_below_drewN | apply below_drew1 | refine below_set ?_ GE176.out) | exact HB.out)) hb); have n2_ := Aside0.mk (hbox); have n3_ := Aside0.mk ((by rw [hg]; exact (below_size (by repeat (first | (with_reducible first | exact HB.out | apply below_alloc | apply pw_below_drewN | apply below_drew1 | refine below_set ?_ GE176.out) | exact HB.out))) : w.heap.size ≤ gb180)); have n4_ := Aside0.mk ((by rw [hg]; exact (below_size (by repeat (first | (with_reducible first | exact HB.out | apply below_alloc | apply pw_below_drewN | apply below_drew1 | refine below_set ?_ GE176.out) | exact HB.out))) : w.heap.size ≤ gb180)); have n5_ := Aside0.mk ((by rw [hg]; exact Nat.ne_of_lt (blk_lt (g := gb176) (o := .cells #[.int .u64 a1_0, .int .u64 a1_1, .int .u64 a1_2, .int .u64 a1_3, .int .u64 a1_4, .int .u64 a1_5, .int .u64 a1_6, .int .u64 a1_7, .int .u64 a1_8, .int .u64 a1_9, .int .u64 a1_10, .int .u64 a1_11, .int .u64 a1_12] 24 (0, 0)) (by (with_reducible repeat (first | refine blk_drewN ?_ _ | refine blk_drew ?_ | refine blk_alloc ?_ _)); exact BK176.out)) : gb176 ≠ gb180)); have n6_ := Aside0.mk ((by rw [hg]; exact Nat.ne_of_gt (blk_lt (g := gb176) (o := .cells #[.int .u64 a1_0, .int .u64 a1_1, .int .u64 a1_2, .int .u64 a1_3, .int .u64 a1_4, .int .u64 a1_5, .int .u64 a1_6, .int .u64 a1_7, .int .u64 a1_8, .int .u64 a1_9, .int .u64 a1_10, .int .u64 a1_11, .int .u64 a1_12] 24 (0, 0)) (by (with_reducible repeat (first | refine blk_drewN ?_ _ | refine blk_drew ?_ | refine blk_alloc ?_ _)); exact BK176.out)) : gb180 ≠ gb176)); clear BK176; clear HB; have BK176 := n0_; have HB := n1_; have BK180 := n2_; have GW180 := n3_; have GE180 := n4_; have NB176_180 := n5_; have NB180_176 := n6_; clear n0_ n1_ n2_ n3_ n4_ n5_ n6_; clear hb hbox hg; have hnb15 := NB180_176.out; have hnc15 := NB176_180.out; have hcz16_0 : w14.cell? ⟨gb180, 0, none⟩ = some (.bool false) := (blk_cell BK180.out 0).trans rfl; have hcz16_1 : w14.cell? ⟨gb180, 1, none⟩ = some (.bool false) := (blk_cell BK180.out 1).trans rfl; have hfz16_0 := blk_frozen BK180.out 0; have hfz16_1 := blk_frozen BK180.out 1; have hcz17_0 : w14.cell? ⟨gb176, 0, none⟩ = some (.int .u64 a1_0) := (blk_cell BK176.out 0).trans rfl; have hcz17_1 : w14.cell? ⟨gb176, 1, none⟩ = some (.int .u64 a1_1) := (blk_cell BK176.out 1).trans rfl; have hcz17_2 : w14.cell? ⟨gb176, 2, none⟩ = some (.int .u64 a1_2) := (blk_cell BK176.out 2).trans rfl; have hcz17_3 : w14.cell? ⟨gb176, 3, none⟩ = some (.int .u64 a1_3) := (blk_cell BK176.out 3).trans rfl; have hcz17_4 : w14.cell? ⟨gb176, 4, none⟩ = some (.int .u64 a1_4) := (blk_cell BK176.out 4).trans rfl; have hcz17_5 : w14.cell? ⟨gb176, 5, none⟩ = some (.int .u64 a1_5) := (blk_cell BK176.out 5).trans rfl; have hcz17_6 : w14.cell? ⟨gb176, 6, none⟩ = some (.int .u64 a1_6) := (blk_cell BK176.out 6).trans rfl; have hcz17_7 : w14.cell? ⟨gb176, 7, none⟩ = some (.int .u64 a1_7) := (blk_cell BK176.out 7).trans rfl; have hcz17_8 : w14.cell? ⟨gb176, 8, none⟩ = some (.int .u64 a1_8) := (blk_cell BK176.out 8).trans rfl; have hcz17_9 : w14.cell? ⟨gb176, 9, none⟩ = some (.int .u64 a1_9) := (blk_cell BK176.out 9).trans rfl; have hcz17_10 : w14.cell? ⟨gb176, 10, none⟩ = some (.int .u64 a1_10) := (blk_cell BK176.out 10).trans rfl; have hcz17_11 : w14.cell? ⟨gb176, 11, none⟩ = some (.int .u64 a1_11) := (blk_cell BK176.out 11).trans rfl; have hcz17_12 : w14.cell? ⟨gb176, 12, none⟩ = some (.int .u64 a1_12) := (blk_cell BK176.out 12).trans rfl; have hfz17_0 := blk_frozen BK176.out 0; have hfz17_1 := blk_frozen BK176.out 1; have hfz17_2 := blk_frozen BK176.out 2; have hfz17_3 := blk_frozen BK176.out 3; have hfz17_4 := blk_frozen BK176.out 4; have hfz17_5 := blk_frozen BK176.out 5; have hfz17_6 := blk_frozen BK176.out 6; have hfz17_7 := blk_frozen BK176.out 7; have hfz17_8 := blk_frozen BK176.out 8; have hfz17_9 := blk_frozen BK176.out 9; have hfz17_10 := blk_frozen BK176.out 10; have hfz17_11 := blk_frozen BK176.out 11; have hfz17_12 := blk_frozen BK176.out 12) | ((with_reducible refine gate_callee (f := 11) rfl ?_); refine goesL_ (some 21) rfl rfl Tryd.func11 (by kernel_rfl) rfl #[.agg #[.bool t178, .bool t179], .agg #[.int .u64 a1_0, .int .u64 a1_1, .int .u64 a1_2, .int .u64 a1_3, .int .u64 a1_4, .int .u64 a1_5, .int .u64 a1_6, .int .u64 a1_7, .int .u64 a1_8, .int .u64 a1_9, .int .u64 a1_10, .int .u64 a1_11, .int .u64 a1_12]] rfl (by (try simp only [List.map_toArray, List.map_cons, List.map_nil]); first | done | rfl | (simp only [List.length_drop, List.length_take]; rfl)) ?_; (with_reducible refine (ehdr_Put.calls k t178 t179 a1_0 a1_1 a1_2 a1_3 a1_4 a1_5 a1_6 a1_7 a1_8 a1_9 a1_10 a1_11 a1_12 t181 t182 _ ?side1 A7.out).mono ?_); (case side1 => exact Laid_ehdr.below HLD_ehdr.out (by repeat (first | (with_reducible first | exact HB.out | apply below_alloc | apply pw_below_drewN | apply below_drew1 | refine below_set ?_ GE176.out | refine below_set ?_ GE180.out) | exact HB.out))); rintro e w18 ⟨rfl, hb⟩; refine ⟨_, rfl, ?_⟩; have n0_ := Aside0.mk (blk_below (g := gb176) (o := .cells #[.int .u64 a1_0, .int .u64 a1_1, .int .u64 a1_2, .int .u64 a1_3, .int .u64 a1_4, .int .u64 a1_5, .int .u64 a1_6, .int .u64 a1_7, .int .u64 a1_8, .int .u64 a1_9, .int .u64 a1_10, .int .u64 a1_11, .int .u64 a1_12] 24 (0, 0)) (by (with_reducible repeat (first | refine blk_drewN ?_ _ | refine blk_drew ?_ | refine blk_alloc ?_ _)); refine blk_far ?_ NB176_180.out _; (with_reducible repeat (first | refine blk_drewN ?_ _ | refine blk_drew ?_ | refine blk_alloc ?_ _)); refine blk_far ?_ NB176_180.out _; (with_reducible repeat (first | refine blk_drewN ?_ _ | refine blk_drew ?_ | refine blk_alloc ?_ _)); exact BK176.out) hb); have n1_ := Aside0.mk (blk_below (g := gb180) (o := .cells #[.bool t178, .bool t179] 29 (0, 0)) (by (with_reducible repeat (first | refine blk_drewN ?_ _ | refine blk_drew ?_ | refine blk_alloc ?_ _)); refine blk_put (cs := #[.bool t178, .bool false]) ?_ 1 _ rfl; (with_reducible repeat (first | refine blk_drewN ?_ _ | refine blk_drew ?_ | refine blk_alloc ?_ _)); refine blk_put (cs := #[.bool false, .bool false]) ?_ 0 _ rfl; (with_reducible repeat (first | refine blk_drewN ?_ _ | refine blk_drew ?_ | refine blk_alloc ?_ _)); exact BK180.out) hb); have n2_ := Aside0.mk (below_step (by repeat (first | (with_reducible first | exact HB.out | apply below_alloc | apply pw_below_drewN | apply below_drew1 | refine below_set ?_ GE176.out | refine below_set ?_ GE180.out) | exact HB.out)) hb); clear BK176; clear BK180; clear HB; have BK176 := n0_; have BK180 := n1_; have HB := n2_; clear n0_ n1_ n2_; (try clear hb); (try clear hb2); (try clear hk); (try clear hi); have hcz19_0 : w18.cell? ⟨gb180, 0, none⟩ = some (.bool t178) := (blk_cell BK180.out 0).trans rfl; have hcz19_1 : w18.cell? ⟨gb180, 1, none⟩ = some (.bool t179) := (blk_cell BK180.out 1).trans rfl; have hfz19_0 := blk_frozen BK180.out 0; have hfz19_1 := blk_frozen BK180.out 1; have hcz20_0 : w18.cell? ⟨gb176, 0, none⟩ = some (.int .u64 a1_0) := (blk_cell BK176.out 0).trans rfl; have hcz20_1 : w18.cell? ⟨gb176, 1, none⟩ = some (.int .u64 a1_1) := (blk_cell BK176.out 1).trans rfl; have hcz20_2 : w18.cell? ⟨gb176, 2, none⟩ = some (.int .u64 a1_2) := (blk_cell BK176.out 2).trans rfl; have hcz20_3 : w18.cell? ⟨gb176, 3, none⟩ = some (.int .u64 a1_3) := (blk_cell BK176.out 3).trans rfl; have hcz20_4 : w18.cell? ⟨gb176, 4, none⟩ = some (.int .u64 a1_4) := (blk_cell BK176.out 4).trans rfl; have hcz20_5 : w18.cell? ⟨gb176, 5, none⟩ = some (.int .u64 a1_5) := (blk_cell BK176.out 5).trans rfl; have hcz20_6 : w18.cell? ⟨gb176, 6, none⟩ = some (.int .u64 a1_6) := (blk_cell BK176.out 6).trans rfl; have hcz20_7 : w18.cell? ⟨gb176, 7, none⟩ = some (.int .u64 a1_7) := (blk_cell BK176.out 7).trans rfl; have hcz20_8 : w18.cell? ⟨gb176, 8, none⟩ = some (.int .u64 a1_8) := (blk_cell BK176.out 8).trans rfl; have hcz20_9 : w18.cell? ⟨gb176, 9, none⟩ = some (.int .u64 a1_9) := (blk_cell BK176.out 9).trans rfl; have hcz20_10 : w18.cell? ⟨gb176, 10, none⟩ = some (.int .u64 a1_10) := (blk_cell BK176.out 10).trans rfl; have hcz20_11 : w18.cell? ⟨gb176, 11, none⟩ = some (.int .u64 a1_11) := (blk_cell BK176.out 11).trans rfl; have hcz20_12 : w18.cell? ⟨gb176, 12, none⟩ = some (.int .u64 a1_12) := (blk_cell BK176.out 12).trans rfl; have hfz20_0 := blk_frozen BK176.out 0; have hfz20_1 := blk_frozen BK176.out 1; have hfz20_2 := blk_frozen BK176.out 2; have hfz20_3 := blk_frozen BK176.out 3; have hfz20_4 := blk_frozen BK176.out 4; have hfz20_5 := blk_frozen BK176.out 5; have hfz20_6 := blk_frozen BK176.out 6; have hfz20_7 := blk_frozen BK176.out 7; have hfz20_8 := blk_frozen BK176.out 8; have hfz20_9 := blk_frozen BK176.out 9; have hfz20_10 := blk_frozen BK176.out 10; have hfz20_11 := blk_frozen BK176.out 11; have hfz20_12 := blk_frozen BK176.out 12) | ((with_reducible refine gate_callee (f := 12) rfl ?_); refine goesL_ (some 31) rfl rfl Tryd.func12 (by kernel_rfl) rfl #[.bool t179, .bool t178, .agg #[.int .u64 a1_0, .int .u64 a1_1, .int .u64 a1_2, .int .u64 a1_3, .int .u64 a1_4, .int .u64 a1_5, .int .u64 a1_6, .int .u64 a1_7, .int .u64 a1_8, .int .u64 a1_9, .int .u64 a1_10, .int .u64 a1_11, .int .u64 a1_12]] rfl (by (try simp only [List.map_toArray, List.map_cons, List.map_nil]); first | done | rfl | (simp only [List.length_drop, List.length_take]; rfl)) ?_; (with_reducible refine (graverref05_Put.calls k t179 t178 a1_0 a1_1 a1_2 a1_3 a1_4 a1_5 a1_6 a1_7 a1_8 a1_9 a1_10 a1_11 a1_12 t183 t184 _ A8.out).mono ?_); rintro e w21 ⟨rfl, hb⟩; refine ⟨_, rfl, ?_⟩; have n0_ := Aside0.mk (blk_below (g := gb176) (o := .cells #[.int .u64 a1_0, .int .u64 a1_1, .int .u64 a1_2, .int .u64 a1_3, .int .u64 a1_4, .int .u64 a1_5, .int .u64 a1_6, .int .u64 a1_7, .int .u64 a1_8, .int .u64 a1_9, .int .u64 a1_10, .int .u64 a1_11, .int .u64 a1_12] 24 (0, 0)) (by (with_reducible repeat (first | refine blk_drewN ?_ _ | refine blk_drew ?_ | refine blk_alloc ?_ _)); exact BK176.out) hb); have n1_ := Aside0.mk (blk_below (g := gb180) (o := .cells #[.bool t178, .bool t179] 29 (0, 0)) (by (with_reducible repeat (first | refine blk_drewN ?_ _ | refine blk_drew ?_ | refine blk_alloc ?_ _)); exact BK180.out) hb); have n2_ := Aside0.mk (below_step (by repeat (first | (with_reducible first | exact HB.out | apply below_alloc | apply pw_below_drewN | apply below_drew1 | refine below_set ?_ GE176.out | refine below_set ?_ GE180.out) | exact HB.out)) hb); clear BK176; clear BK180; clear HB; have BK176 := n0_; have BK180 := n1_; have HB := n2_; clear n0_ n1_ n2_; (try clear hb); (try clear hb2); (try clear hk); (try clear hi)))
    go_ret
    exact ⟨by first | rfl | (simp [errW_none, errW_some] <;> rfl) | (simp [*, errW_none, errW_some] <;> rfl), by repeat (first | (with_reducible first | exact HB.out | apply below_alloc | apply pw_below_drewN | apply below_drew1 | refine below_set ?_ GE176.out | refine below_set ?_ GE180.out) | exact HB.out)⟩
   ·
    rw [if_neg c10] at H
    have c10b0 : (t182 != t184) = false := by simpa using c10
    (try (have c10b1 : decide (t182 = t184) = true := by simpa using c10))
    (try (have c10b2 : (t182 == t184) = true := by simpa using c10))
    clear c10
    obtain ⟨ji22, hji22⟩ : ∃ j_ : Int, (mn (a2.size : Int) 20) = j_ := ⟨_, rfl⟩
    replace H : (if 0 ≤ (ji22) then (if (ji22) ≤ (a2.size : Int) then (if t181.size + (a2.extract 0 ((ji22) : Int).toNat).size ≤ 9223372036854775807 then ((ehdr_Read.f k t178 t179 (t181 ++ (a2.extract 0 ((ji22) : Int).toNat))).bind fun bt185 => (if t182 = true then (if bt185.2.2.2.2.2.2.2.2.2.2.2.2.2 = true then (some (bt185.1 == a1_0 && (bt185.2.1 == a1_1 && (bt185.2.2.1 == a1_2 && (bt185.2.2.2.1 == a1_3 && (bt185.2.2.2.2.1 == a1_4 && (bt185.2.2.2.2.2.1 == a1_5 && (bt185.2.2.2.2.2.2.1 == a1_6 && (bt185.2.2.2.2.2.2.2.1 == a1_7 && (bt185.2.2.2.2.2.2.2.2.1 == a1_8 && (bt185.2.2.2.2.2.2.2.2.2.1 == a1_9 && (bt185.2.2.2.2.2.2.2.2.2.2.1 == a1_10 && (bt185.2.2.2.2.2.2.2.2.2.2.2.1 == a1_11 && (bt185.2.2.2.2.2.2.2.2.2.2.2.2.1 == a1_12)))))))))))))) else (some false)) else (some true))) else (none)) else (none)) else (none)) = some r := by first | (rw [hji22] at H; exact H) | (simp only [hji22] at H ⊢; exact H)
    (try rw [hji22] at A4)
    (try rw [hji22] at A6)
    (try rw [hji22] at A7)
    (try rw [hji22] at A8)
    (try (have hji22h : ji22 ≤ 20 := by (rw [← hji22]; unfold mn; (repeat' split) <;> omega)))
    (try (have hji22g : ji22 ≤ 64 := by omega))
    (try (have hji22l : 0 ≤ ji22 := by (rw [← hji22]; unfold mn; (repeat' split) <;> omega)))
    (try (have hji22m : 0 ≤ ji22 := by omega))
    have hji22_ : (if 20 < (a2.size : Int) then 20 else (a2.size : Int)) = ji22 := hji22
    by_cases c23 : 0 ≤ (ji22)
    ·
     rw [if_pos c23] at H
     have c23b0 := eq_true c23
     have c23b1 : decide (0 ≤ (ji22)) = true := decide_eq_true c23
     clear c23
     by_cases c24 : (ji22) ≤ (a2.size : Int)
     ·
      rw [if_pos c24] at H
      have c24b0 := eq_true c24
      have c24b1 : decide ((ji22) ≤ (a2.size : Int)) = true := decide_eq_true c24
      clear c24
      obtain ⟨sc25, hsc25⟩ : ∃ s_ : ByteArray, (a2.extract 0 ((ji22) : Int).toNat) = s_ := ⟨_, rfl⟩
      replace H : (if t181.size + sc25.size ≤ 9223372036854775807 then ((ehdr_Read.f k t178 t179 (t181 ++ sc25)).bind fun bt185 => (if t182 = true then (if bt185.2.2.2.2.2.2.2.2.2.2.2.2.2 = true then (some (bt185.1 == a1_0 && (bt185.2.1 == a1_1 && (bt185.2.2.1 == a1_2 && (bt185.2.2.2.1 == a1_3 && (bt185.2.2.2.2.1 == a1_4 && (bt185.2.2.2.2.2.1 == a1_5 && (bt185.2.2.2.2.2.2.1 == a1_6 && (bt185.2.2.2.2.2.2.2.1 == a1_7 && (bt185.2.2.2.2.2.2.2.2.1 == a1_8 && (bt185.2.2.2.2.2.2.2.2.2.1 == a1_9 && (bt185.2.2.2.2.2.2.2.2.2.2.1 == a1_10 && (bt185.2.2.2.2.2.2.2.2.2.2.2.1 == a1_11 && (bt185.2.2.2.2.2.2.2.2.2.2.2.2.1 == a1_12)))))))))))))) else (some false)) else (some true))) else (none)) = some r := by first | (rw [hsc25] at H; exact H) | (simp only [hsc25] at H ⊢; exact H) | exact H
      (try (have hsc25n := hsc25; simp only [Int.toNat_natCast] at hsc25n))
      by_cases c26 : t181.size + sc25.size ≤ 9223372036854775807
      ·
       rw [if_pos c26] at H
       have c26b0 := eq_true c26
       have c26b1 : decide (t181.size + sc25.size ≤ 9223372036854775807) = true := decide_eq_true c26
       try have c26b2 : (9223372036854775807 < t181.size + sc25.size) = False := eq_false (Nat.not_lt.2 c26)
       replace H := Option.bind_eq_some_iff.mp H
       obtain ⟨⟨t185, t186, t187, t188, t189, t190, t191, t192, t193, t194, t195, t196, t197, t198⟩, A270, H⟩ := H
       replace H : (if t182 = true then (if t198 = true then (some (t185 == a1_0 && (t186 == a1_1 && (t187 == a1_2 && (t188 == a1_3 && (t189 == a1_4 && (t190 == a1_5 && (t191 == a1_6 && (t192 == a1_7 && (t193 == a1_8 && (t194 == a1_9 && (t195 == a1_10 && (t196 == a1_11 && (t197 == a1_12)))))))))))))) else (some false)) else (some true)) = some r := H
       have A27 := Aside0.mk A270
       clear A270
       by_cases c28 : t182 = true
       ·
        subst c28
        have H1 : (if t198 = true then (some (t185 == a1_0 && (t186 == a1_1 && (t187 == a1_2 && (t188 == a1_3 && (t189 == a1_4 && (t190 == a1_5 && (t191 == a1_6 && (t192 == a1_7 && (t193 == a1_8 && (t194 == a1_9 && (t195 == a1_10 && (t196 == a1_11 && (t197 == a1_12)))))))))))))) else (some false)) = some r := by rw [if_pos rfl] at H; exact H
        clear H
        have H := H1
        clear H1
        by_cases c29 : t198 = true
        ·
         subst c29
         have H1 : (some (t185 == a1_0 && (t186 == a1_1 && (t187 == a1_2 && (t188 == a1_3 && (t189 == a1_4 && (t190 == a1_5 && (t191 == a1_6 && (t192 == a1_7 && (t193 == a1_8 && (t194 == a1_9 && (t195 == a1_10 && (t196 == a1_11 && (t197 == a1_12)))))))))))))) = some r := by rw [if_pos rfl] at H; exact H
         clear H
         have H := H1
         clear H1
         obtain rfl := Option.some.inj H
         go_enter Tryd.func3, Tryd.ntmps3
         try go_wp2_with (first | ((with_reducible refine gate_dst (N := 4) rfl ?_); refine box_event ?hg (N := 4) ?hd (cs := #[.int .u64 a1_0, .int .u64 a1_1, .int .u64 a1_2, .int .u64 a1_3, .int .u64 a1_4, .int .u64 a1_5, .int .u64 a1_6, .int .u64 a1_7, .int .u64 a1_8, .int .u64 a1_9, .int .u64 a1_10, .int .u64 a1_11, .int .u64 a1_12]) (t := 24) ?hr ?_; (case hd => rfl); (case hg => rfl); (case hr => first | (go_simp; done) | (go_simp; rfl)); intro gb176 hg w30 hbox hb; have n0_ := Aside0.mk (below_step (by repeat (first | (with_reducible first | exact HB.out | apply below_alloc | apply pw_below_drewN | apply below_drew1) | exact HB.out)) hb); have n1_ := Aside0.mk (hbox); have n2_ := Aside0.mk ((by rw [hg]; exact (below_size (by repeat (first | (with_reducible first | exact HB.out | apply below_alloc | apply pw_below_drewN | apply below_drew1) | exact HB.out))) : w.heap.size ≤ gb176)); have n3_ := Aside0.mk ((by rw [hg]; exact (below_size (by repeat (first | (with_reducible first | exact HB.out | apply below_alloc | apply pw_below_drewN | apply below_drew1) | exact HB.out))) : w.heap.size ≤ gb176)); clear HB; have HB := n0_; have BK176 := n1_; have GW176 := n2_; have GE176 := n3_; clear n0_ n1_ n2_ n3_; clear hb hbox hg) | ((with_reducible refine gate_callee (f := 9) rfl ?_); refine goesL_ (some 14) rfl rfl Tryd.func9 (by kernel_rfl) rfl #[] rfl (by (try simp only [List.map_toArray, List.map_cons, List.map_nil]); first | done | rfl | (simp only [List.length_drop, List.length_take]; rfl)) ?_; (with_reducible refine (graverlaw05_speaks.calls k  true _ ?side1 A4.out).mono ?_); (case side1 => exact Laid_ehdr.below HLD_ehdr.out (by repeat (first | (with_reducible first | exact HB.out | apply below_alloc | apply pw_below_drewN | apply below_drew1 | refine below_set ?_ GE176.out) | exact HB.out))); rintro e w31 ⟨rfl, hb⟩; refine ⟨_, rfl, ?_⟩; have n0_ := Aside0.mk (blk_below (g := gb176) (o := .cells #[.int .u64 a1_0, .int .u64 a1_1, .int .u64 a1_2, .int .u64 a1_3, .int .u64 a1_4, .int .u64 a1_5, .int .u64 a1_6, .int .u64 a1_7, .int .u64 a1_8, .int .u64 a1_9, .int .u64 a1_10, .int .u64 a1_11, .int .u64 a1_12] 24 (0, 0)) (by (with_reducible repeat (first | refine blk_drewN ?_ _ | refine blk_drew ?_ | refine blk_alloc ?_ _)); exact BK176.out) hb); have n1_ := Aside0.mk (below_step (by repeat (first | (with_reducible first | exact HB.out | apply below_alloc | apply pw_below_drewN | apply below_drew1 | refine below_set ?_ GE176.out) | exact HB.out)) hb); clear BK176; clear HB; have BK176 := n0_; have HB := n1_; clear n0_ n1_; (try clear hb); (try clear hb2); (try clear hk); (try clear hi)) | ((with_reducible refine gate_callee (f := 10) rfl ?_); refine goesL_ (some 17) rfl rfl Tryd.func10 (by kernel_rfl) rfl #[.int .i64 a0] rfl (by (try simp only [List.map_toArray, List.map_cons, List.map_nil]); first | done | rfl | (simp only [List.length_drop, List.length_take]; rfl)) ?_; (with_reducible refine (graverlaw05_formOf.calls a0 t178 t179 _ A6.out).mono ?_); rintro e w32 ⟨rfl, hb⟩; refine ⟨_, rfl, ?_⟩; have n0_ := Aside0.mk (blk_below (g := gb176) (o := .cells #[.int .u64 a1_0, .int .u64 a1_1, .int .u64 a1_2, .int .u64 a1_3, .int .u64 a1_4, .int .u64 a1_5, .int .u64 a1_6, .int .u64 a1_7, .int .u64 a1_8, .int .u64 a1_9, .int .u64 a1_10, .int .u64 a1_11, .int .u64 a1_12] 24 (0, 0)) (by (with_reducible repeat (first | refine blk_drewN ?_ _ | refine blk_drew ?_ | refine blk_alloc ?_ _)); exact BK176.out) hb); have n1_ := Aside0.mk (below_step (by repeat (first | (with_reducible first | exact HB.out | apply below_alloc | apply pw_below_drewN | apply below_drew1 | refine below_set ?_ GE176.out) | exact HB.out)) hb); clear BK176; clear HB; have BK176 := n0_; have HB := n1_; clear n0_ n1_; (try clear hb); (try clear hb2); (try clear hk); (try clear hi)) | ((with_reducible refine gate_dst (N := 7) rfl ?_); refine box_event ?hg (N := 7) ?hd (cs := #[.bool false, .bool false]) (t := 29) ?hr ?_; (case hd => rfl); (case hg => rfl); (case hr => first | (go_simp; done) | (go_simp; rfl)); intro gb180 hg w33 hbox hb; have n0_ := Aside0.mk (blk_below (g := gb176) (o := .cells #[.int .u64 a1_0, .int .u64 a1_1, .int .u64 a1_2, .int .u64 a1_3, .int .u64 a1_4, .int .u64 a1_5, .int .u64 a1_6, .int .u64 a1_7, .int .u64 a1_8, .int .u64 a1_9, .int .u64 a1_10, .int .u64 a1_11, .int .u64 a1_12] 24 (0, 0)) (by (with_reducible repeat (first | refine blk_drewN ?_ _ | refine blk_drew ?_ | refine blk_alloc ?_ _)); exact BK176.out) hb); have n1_ := Aside0.mk (below_step (by repeat (first | (with_reducible first | exact HB.out | apply below_alloc | apply pw_below_drewN | apply below_drew1 | refine below_set ?_ GE176.out) | exact HB.out)) hb); have n2_ := Aside0.mk (hbox); have n3_ := Aside0.mk ((by rw [hg]; exact (below_size (by repeat (first | (with_reducible first | exact HB.out | apply below_alloc | apply pw_below_drewN | apply below_drew1 | refine below_set ?_ GE176.out) | exact HB.out))) : w.heap.size ≤ gb180)); have n4_ := Aside0.mk ((by rw [hg]; exact (below_size (by repeat (first | (with_reducible first | exact HB.out | apply below_alloc | apply pw_below_drewN | apply below_drew1 | refine below_set ?_ GE176.out) | exact HB.out))) : w.heap.size ≤ gb180)); have n5_ := Aside0.mk ((by rw [hg]; exact Nat.ne_of_lt (blk_lt (g := gb176) (o := .cells #[.int .u64 a1_0, .int .u64 a1_1, .int .u64 a1_2, .int .u64 a1_3, .int .u64 a1_4, .int .u64 a1_5, .int .u64 a1_6, .int .u64 a1_7, .int .u64 a1_8, .int .u64 a1_9, .int .u64 a1_10, .int .u64 a1_11, .int .u64 a1_12] 24 (0, 0)) (by (with_reducible repeat (first | refine blk_drewN ?_ _ | refine blk_drew ?_ | refine blk_alloc ?_ _)); exact BK176.out)) : gb176 ≠ gb180)); have n6_ := Aside0.mk ((by rw [hg]; exact Nat.ne_of_gt (blk_lt (g := gb176) (o := .cells #[.int .u64 a1_0, .int .u64 a1_1, .int .u64 a1_2, .int .u64 a1_3, .int .u64 a1_4, .int .u64 a1_5, .int .u64 a1_6, .int .u64 a1_7, .int .u64 a1_8, .int .u64 a1_9, .int .u64 a1_10, .int .u64 a1_11, .int .u64 a1_12] 24 (0, 0)) (by (with_reducible repeat (first | refine blk_drewN ?_ _ | refine blk_drew ?_ | refine blk_alloc ?_ _)); exact BK176.out)) : gb180 ≠ gb176)); clear BK176; clear HB; have BK176 := n0_; have HB := n1_; have BK180 := n2_; have GW180 := n3_; have GE180 := n4_; have NB176_180 := n5_; have NB180_176 := n6_; clear n0_ n1_ n2_ n3_ n4_ n5_ n6_; clear hb hbox hg; have hnb34 := NB180_176.out; have hnc34 := NB176_180.out; have hcz35_0 : w33.cell? ⟨gb180, 0, none⟩ = some (.bool false) := (blk_cell BK180.out 0).trans rfl; have hcz35_1 : w33.cell? ⟨gb180, 1, none⟩ = some (.bool false) := (blk_cell BK180.out 1).trans rfl; have hfz35_0 := blk_frozen BK180.out 0; have hfz35_1 := blk_frozen BK180.out 1; have hcz36_0 : w33.cell? ⟨gb176, 0, none⟩ = some (.int .u64 a1_0) := (blk_cell BK176.out 0).trans rfl; have hcz36_1 : w33.cell? ⟨gb176, 1, none⟩ = some (.int .u64 a1_1) := (blk_cell BK176.out 1).trans rfl; have hcz36_2 : w33.cell? ⟨gb176, 2, none⟩ = some (.int .u64 a1_2) := (blk_cell BK176.out 2).trans rfl; have hcz36_3 : w33.cell? ⟨gb176, 3, none⟩ = some (.int .u64 a1_3) := (blk_cell BK176.out 3).trans rfl; have hcz36_4 : w33.cell? ⟨gb176, 4, none⟩ = some (.int .u64 a1_4) := (blk_cell BK176.out 4).trans rfl; have hcz36_5 : w33.cell? ⟨gb176, 5, none⟩ = some (.int .u64 a1_5) := (blk_cell BK176.out 5).trans rfl; have hcz36_6 : w33.cell? ⟨gb176, 6, none⟩ = some (.int .u64 a1_6) := (blk_cell BK176.out 6).trans rfl; have hcz36_7 : w33.cell? ⟨gb176, 7, none⟩ = some (.int .u64 a1_7) := (blk_cell BK176.out 7).trans rfl; have hcz36_8 : w33.cell? ⟨gb176, 8, none⟩ = some (.int .u64 a1_8) := (blk_cell BK176.out 8).trans rfl; have hcz36_9 : w33.cell? ⟨gb176, 9, none⟩ = some (.int .u64 a1_9) := (blk_cell BK176.out 9).trans rfl; have hcz36_10 : w33.cell? ⟨gb176, 10, none⟩ = some (.int .u64 a1_10) := (blk_cell BK176.out 10).trans rfl; have hcz36_11 : w33.cell? ⟨gb176, 11, none⟩ = some (.int .u64 a1_11) := (blk_cell BK176.out 11).trans rfl; have hcz36_12 : w33.cell? ⟨gb176, 12, none⟩ = some (.int .u64 a1_12) := (blk_cell BK176.out 12).trans rfl; have hfz36_0 := blk_frozen BK176.out 0; have hfz36_1 := blk_frozen BK176.out 1; have hfz36_2 := blk_frozen BK176.out 2; have hfz36_3 := blk_frozen BK176.out 3; have hfz36_4 := blk_frozen BK176.out 4; have hfz36_5 := blk_frozen BK176.out 5; have hfz36_6 := blk_frozen BK176.out 6; have hfz36_7 := blk_frozen BK176.out 7; have hfz36_8 := blk_frozen BK176.out 8; have hfz36_9 := blk_frozen BK176.out 9; have hfz36_10 := blk_frozen BK176.out 10; have hfz36_11 := blk_frozen BK176.out 11; have hfz36_12 := blk_frozen BK176.out 12) | ((with_reducible refine gate_callee (f := 11) rfl ?_); refine goesL_ (some 21) rfl rfl Tryd.func11 (by kernel_rfl) rfl #[.agg #[.bool t178, .bool t179], .agg #[.int .u64 a1_0, .int .u64 a1_1, .int .u64 a1_2, .int .u64 a1_3, .int .u64 a1_4, .int .u64 a1_5, .int .u64 a1_6, .int .u64 a1_7, .int .u64 a1_8, .int .u64 a1_9, .int .u64 a1_10, .int .u64 a1_11, .int .u64 a1_12]] rfl (by (try simp only [List.map_toArray, List.map_cons, List.map_nil]); first | done | rfl | (simp only [List.length_drop, List.length_take]; rfl)) ?_; (with_reducible refine (ehdr_Put.calls k t178 t179 a1_0 a1_1 a1_2 a1_3 a1_4 a1_5 a1_6 a1_7 a1_8 a1_9 a1_10 a1_11 a1_12 t181 true _ ?side1 A7.out).mono ?_); (case side1 => exact Laid_ehdr.below HLD_ehdr.out (by repeat (first | (with_reducible first | exact HB.out | apply below_alloc | apply pw_below_drewN | apply below_drew1 | refine below_set ?_ GE176.out | refine below_set ?_ GE180.out) | exact HB.out))); rintro e w37 ⟨rfl, hb⟩; refine ⟨_, rfl, ?_⟩; have n0_ := Aside0.mk (blk_below (g := gb176) (o := .cells #[.int .u64 a1_0, .int .u64 a1_1, .int .u64 a1_2, .int .u64 a1_3, .int .u64 a1_4, .int .u64 a1_5, .int .u64 a1_6, .int .u64 a1_7, .int .u64 a1_8, .int .u64 a1_9, .int .u64 a1_10, .int .u64 a1_11, .int .u64 a1_12] 24 (0, 0)) (by (with_reducible repeat (first | refine blk_drewN ?_ _ | refine blk_drew ?_ | refine blk_alloc ?_ _)); refine blk_far ?_ NB176_180.out _; (with_reducible repeat (first | refine blk_drewN ?_ _ | refine blk_drew ?_ | refine blk_alloc ?_ _)); refine blk_far ?_ NB176_180.out _; (with_reducible repeat (first | refine blk_drewN ?_ _ | refine blk_drew ?_ | refine blk_alloc ?_ _)); exact BK176.out) hb); have n1_ := Aside0.mk (blk_below (g := gb180) (o := .cells #[.bool t178, .bool t179] 29 (0, 0)) (by (with_reducible repeat (first | refine blk_drewN ?_ _ | refine blk_drew ?_ | refine blk_alloc ?_ _)); refine blk_put (cs := #[.bool t178, .bool false]) ?_ 1 _ rfl; (with_reducible repeat (first | refine blk_drewN ?_ _ | refine blk_drew ?_ | refine blk_alloc ?_ _)); refine blk_put (cs := #[.bool false, .bool false]) ?_ 0 _ rfl; (with_reducible repeat (first | refine blk_drewN ?_ _ | refine blk_drew ?_ | refine blk_alloc ?_ _)); exact BK180.out) hb); have n2_ := Aside0.mk (below_step (by repeat (first | (with_reducible first | exact HB.out | apply below_alloc | apply pw_below_drewN | apply below_drew1 | refine below_set ?_ GE176.out | refine below_set ?_ GE180.out) | exact HB.out)) hb); clear BK176; clear BK180; clear HB; have BK176 := n0_; have BK180 := n1_; have HB := n2_; clear n0_ n1_ n2_; (try clear hb); (try clear hb2); (try clear hk); (try clear hi); have hcz38_0 : w37.cell? ⟨gb180, 0, none⟩ = some (.bool t178) := (blk_cell BK180.out 0).trans rfl; have hcz38_1 : w37.cell? ⟨gb180, 1, none⟩ = some (.bool t179) := (blk_cell BK180.out 1).trans rfl; have hfz38_0 := blk_frozen BK180.out 0; have hfz38_1 := blk_frozen BK180.out 1; have hcz39_0 : w37.cell? ⟨gb176, 0, none⟩ = some (.int .u64 a1_0) := (blk_cell BK176.out 0).trans rfl; have hcz39_1 : w37.cell? ⟨gb176, 1, none⟩ = some (.int .u64 a1_1) := (blk_cell BK176.out 1).trans rfl; have hcz39_2 : w37.cell? ⟨gb176, 2, none⟩ = some (.int .u64 a1_2) := (blk_cell BK176.out 2).trans rfl; have hcz39_3 : w37.cell? ⟨gb176, 3, none⟩ = some (.int .u64 a1_3) := (blk_cell BK176.out 3).trans rfl; have hcz39_4 : w37.cell? ⟨gb176, 4, none⟩ = some (.int .u64 a1_4) := (blk_cell BK176.out 4).trans rfl; have hcz39_5 : w37.cell? ⟨gb176, 5, none⟩ = some (.int .u64 a1_5) := (blk_cell BK176.out 5).trans rfl; have hcz39_6 : w37.cell? ⟨gb176, 6, none⟩ = some (.int .u64 a1_6) := (blk_cell BK176.out 6).trans rfl; have hcz39_7 : w37.cell? ⟨gb176, 7, none⟩ = some (.int .u64 a1_7) := (blk_cell BK176.out 7).trans rfl; have hcz39_8 : w37.cell? ⟨gb176, 8, none⟩ = some (.int .u64 a1_8) := (blk_cell BK176.out 8).trans rfl; have hcz39_9 : w37.cell? ⟨gb176, 9, none⟩ = some (.int .u64 a1_9) := (blk_cell BK176.out 9).trans rfl; have hcz39_10 : w37.cell? ⟨gb176, 10, none⟩ = some (.int .u64 a1_10) := (blk_cell BK176.out 10).trans rfl; have hcz39_11 : w37.cell? ⟨gb176, 11, none⟩ = some (.int .u64 a1_11) := (blk_cell BK176.out 11).trans rfl; have hcz39_12 : w37.cell? ⟨gb176, 12, none⟩ = some (.int .u64 a1_12) := (blk_cell BK176.out 12).trans rfl; have hfz39_0 := blk_frozen BK176.out 0; have hfz39_1 := blk_frozen BK176.out 1; have hfz39_2 := blk_frozen BK176.out 2; have hfz39_3 := blk_frozen BK176.out 3; have hfz39_4 := blk_frozen BK176.out 4; have hfz39_5 := blk_frozen BK176.out 5; have hfz39_6 := blk_frozen BK176.out 6; have hfz39_7 := blk_frozen BK176.out 7; have hfz39_8 := blk_frozen BK176.out 8; have hfz39_9 := blk_frozen BK176.out 9; have hfz39_10 := blk_frozen BK176.out 10; have hfz39_11 := blk_frozen BK176.out 11; have hfz39_12 := blk_frozen BK176.out 12) | ((with_reducible refine gate_callee (f := 12) rfl ?_); refine goesL_ (some 31) rfl rfl Tryd.func12 (by kernel_rfl) rfl #[.bool t179, .bool t178, .agg #[.int .u64 a1_0, .int .u64 a1_1, .int .u64 a1_2, .int .u64 a1_3, .int .u64 a1_4, .int .u64 a1_5, .int .u64 a1_6, .int .u64 a1_7, .int .u64 a1_8, .int .u64 a1_9, .int .u64 a1_10, .int .u64 a1_11, .int .u64 a1_12]] rfl (by (try simp only [List.map_toArray, List.map_cons, List.map_nil]); first | done | rfl | (simp only [List.length_drop, List.length_take]; rfl)) ?_; (with_reducible refine (graverref05_Put.calls k t179 t178 a1_0 a1_1 a1_2 a1_3 a1_4 a1_5 a1_6 a1_7 a1_8 a1_9 a1_10 a1_11 a1_12 t183 t184 _ A8.out).mono ?_); rintro e w40 ⟨rfl, hb⟩; refine ⟨_, rfl, ?_⟩; have n0_ := Aside0.mk (blk_below (g := gb176) (o := .cells #[.int .u64 a1_0, .int .u64 a1_1, .int .u64 a1_2, .int .u64 a1_3, .int .u64 a1_4, .int .u64 a1_5, .int .u64 a1_6, .int .u64 a1_7, .int .u64 a1_8, .int .u64 a1_9, .int .u64 a1_10, .int .u64 a1_11, .int .u64 a1_12] 24 (0, 0)) (by (with_reducible repeat (first | refine blk_drewN ?_ _ | refine blk_drew ?_ | refine blk_alloc ?_ _)); exact BK176.out) hb); have n1_ := Aside0.mk (blk_below (g := gb180) (o := .cells #[.bool t178, .bool t179] 29 (0, 0)) (by (with_reducible repeat (first | refine blk_drewN ?_ _ | refine blk_drew ?_ | refine blk_alloc ?_ _)); exact BK180.out) hb); have n2_ := Aside0.mk (below_step (by repeat (first | (with_reducible first | exact HB.out | apply below_alloc | apply pw_below_drewN | apply below_drew1 | refine below_set ?_ GE176.out | refine below_set ?_ GE180.out) | exact HB.out)) hb); clear BK176; clear BK180; clear HB; have BK176 := n0_; have BK180 := n1_; have HB := n2_; clear n0_ n1_ n2_; (try clear hb); (try clear hb2); (try clear hk); (try clear hi)))
         have n0_ := Aside0.mk (blk_drew BK176.out)
         have n1_ := Aside0.mk (blk_drew BK180.out)
         have n2_ := Aside0.mk (below_drew1 HB.out)
         clear BK176
         clear BK180
         clear HB
         have BK176 := n0_
         have BK180 := n1_
         have HB := n2_
         clear n0_ n1_ n2_
         refine start_ (n := 15) (S := fun w' => w'.cell? ⟨gb180, 0, none⟩ = some (.bool t178) ∧ w'.cell? ⟨gb180, 1, none⟩ = some (.bool t179)) (ds := []) #[false, false, false, false, false, false, false, false, false, false, false, false, false, false, false] (by kernel_rfl) rfl rfl ⟨(blk_cell BK180.out 0).trans rfl, (blk_cell BK180.out 1).trans rfl⟩ (fun hHeld => ?_); refine with_tabW graverlaw05_EhdrPuts.tab8 graverlaw05_EhdrPuts.bits8 (fun HT_ HW_ => ?_)
         generalize w40.drew = w41 at BK176 BK180 HB hHeld ⊢
         refine pure_ (i := 1) (N := some 44) (v := ?_) (a' := ?_) (bm 15 2) rfl rfl (any_of HT_.out (by kernel_rfl)) (fun _ _ _ h => h) (Or.inl ⟨by rfl, ?_⟩) ?_ ?_
         rotate_left
         ·
          intro w'
          go_simp
          with_reducible rfl
         rotate_left
         ·
          simp only [Act.put, List.setIfInBounds_toArray, List.set_cons_zero, List.set_cons_succ, i64_w, i32_w]
          rfl
         refine pure_ (i := 2) (N := some 45) (v := ?_) (a' := ?_) (bm 15 6) rfl rfl (any_of HT_.out (by kernel_rfl)) (fun _ _ _ h => h) (Or.inl ⟨by rfl, ?_⟩) ?_ ?_
         rotate_left
         ·
          intro w'
          go_simp
          with_reducible rfl
         rotate_left
         ·
          simp only [Act.put, List.setIfInBounds_toArray, List.set_cons_zero, List.set_cons_succ, i64_w, i32_w]
          rfl
         refine pure_ (i := 3) (N := some 46) (v := ?_) (a' := ?_) (bm 15 14) rfl rfl (any_of HT_.out (by kernel_rfl)) (fun _ _ _ h => h) (Or.inl ⟨by rfl, ?_⟩) ?_ ?_
         rotate_left
         ·
          intro w'
          go_simp
          with_reducible rfl
         rotate_left
         ·
          simp only [Act.put, List.setIfInBounds_toArray, List.set_cons_zero, List.set_cons_succ, i64_w, i32_w]
          rfl
         refine pure_ (i := 4) (N := some 47) (v := ?_) (a' := ?_) (bm 15 30) rfl rfl (any_of HT_.out (by kernel_rfl)) (fun _ _ _ h => h) (Or.inl ⟨by rfl, ?_⟩) ?_ ?_
         rotate_left
         ·
          intro w'
          go_simp
          with_reducible rfl
         rotate_left
         ·
          simp only [Act.put, List.setIfInBounds_toArray, List.set_cons_zero, List.set_cons_succ, i64_w, i32_w]
          rfl
         refine pure_ (i := 5) (N := some 48) (v := ?_) (a' := ?_) (bm 15 62) rfl rfl (any_of HT_.out (by kernel_rfl)) (fun _ _ _ h => h) (Or.inl ⟨by rfl, ?_⟩) ?_ ?_
         rotate_left
         ·
          intro w'
          go_simp
          with_reducible rfl
         rotate_left
         ·
          simp only [Act.put, List.setIfInBounds_toArray, List.set_cons_zero, List.set_cons_succ, i64_w, i32_w]
          rfl
         refine pure_ (i := 6) (N := some 49) (v := ?_) (a' := ?_) (bm 15 126) rfl rfl (any_of HT_.out (by kernel_rfl)) (fun _ _ _ h => h) (Or.inl ⟨by rfl, ?_⟩) ?_ ?_
         rotate_left
         ·
          intro w'
          go_simp
          with_reducible rfl
         rotate_left
         ·
          simp only [Act.put, List.setIfInBounds_toArray, List.set_cons_zero, List.set_cons_succ, i64_w, i32_w]
          rfl
         refine pure_ (i := 7) (N := some 50) (v := ?_) (a' := ?_) (bm 15 254) rfl rfl (any_of HT_.out (by kernel_rfl)) (fun _ _ _ h => h) (Or.inl ⟨by rfl, ?_⟩) ?_ ?_
         rotate_left
         ·
          intro w'
          go_simp
          with_reducible rfl
         rotate_left
         ·
          simp only [Act.put, List.setIfInBounds_toArray, List.set_cons_zero, List.set_cons_succ, i64_w, i32_w]
          rfl
         refine take_ (i := 0) (N := some 43) (v := ?_) (a' := ?_) (bm 15 255) rfl rfl (take_ofW HT_.out HW_.out (by kernel_rfl)) (fun _ _ _ h => h) (Or.inl ⟨by rfl, ?_⟩) hHeld ?_ ?_
         rotate_left
         ·
          rintro w' ⟨s0, s1⟩
          go_simp
          with_reducible rfl
         rotate_left
         ·
          simp only [Act.put, List.setIfInBounds_toArray, List.set_cons_zero, List.set_cons_succ, i64_w, i32_w]
          rfl
         refine join_ (σ := Nat) 2 (bm 15 8191) (fun s_ => [(51, .tuple #[.agg #[.int .u64 t185, .int .u64 t186, .int .u64 t187, .int .u64 t188, .int .u64 t189, .int .u64 t190, .int .u64 t191, .int .u64 t192, .int .u64 t193, .int .u64 t194, .int .u64 t195, .int .u64 t196, .int .u64 t197], .bool true]), (12, .pointer (some ⟨s_, 0, none⟩)), (42, .tuple #[.agg #[.int .u64 t185, .int .u64 t186, .int .u64 t187, .int .u64 t188, .int .u64 t189, .int .u64 t190, .int .u64 t191, .int .u64 t192, .int .u64 t193, .int .u64 t194, .int .u64 t195, .int .u64 t196, .int .u64 t197], .bool true]), (52, .agg #[.int .u64 t185, .int .u64 t186, .int .u64 t187, .int .u64 t188, .int .u64 t189, .int .u64 t190, .int .u64 t191, .int .u64 t192, .int .u64 t193, .int .u64 t194, .int .u64 t195, .int .u64 t196, .int .u64 t197]), (53, .bool true)]) (fun s_ w' => (w'.cell? ⟨gb180, 0, none⟩ = some (.bool t178) ∧ w'.cell? ⟨gb180, 1, none⟩ = some (.bool t179)) ∧ (w'.heap[gb176]? = some (.cells #[.int .u64 a1_0, .int .u64 a1_1, .int .u64 a1_2, .int .u64 a1_3, .int .u64 a1_4, .int .u64 a1_5, .int .u64 a1_6, .int .u64 a1_7, .int .u64 a1_8, .int .u64 a1_9, .int .u64 a1_10, .int .u64 a1_11, .int .u64 a1_12] 24 (0, 0))) ∧ (w'.heap[gb180]? = some (.cells #[.bool t178, .bool t179] 29 (0, 0))) ∧ (w'.heap[s_]? = some (.cells #[.int .u64 0, .int .u64 0, .int .u64 0, .int .u64 0, .int .u64 0, .int .u64 0, .int .u64 0, .int .u64 0, .int .u64 0, .int .u64 0, .int .u64 0, .int .u64 0, .int .u64 0] 33 (0, 0))) ∧ (w.heap.size ≤ s_) ∧ (w.heap.size ≤ s_) ∧ (gb176 ≠ s_) ∧ (s_ ≠ gb176) ∧ (gb180 ≠ s_) ∧ (s_ ≠ gb180) ∧ (Below w.heap.size w w')) ?_ ?_
         rotate_left
         ·
          intro hCont
          refine two_ (i := 8) (j := 12) (Ni := some 51) (Nj := some 12) (bm 15 511) (bm 15 4351) rfl rfl rfl rfl (two_of HT_.out (by kernel_rfl)) (by decide) (by decide) (fun K hK => ?_) (fun K hK => ?_)
          ·
           skip
           refine goes_ Tryd.func13 (by kernel_rfl) rfl #[.agg #[.bool t178, .bool t179], .string (t181 ++ sc25)] (by rfl) rfl rfl (by (try simp only [List.map_toArray, List.map_cons, List.map_nil]); first | done | rfl | (simp only [List.length_drop, List.length_take]; rfl)) ?_
           with_reducible refine (ehdr_Read.calls k t178 t179 (t181 ++ sc25) t185 t186 t187 t188 t189 t190 t191 t192 t193 t194 t195 t196 t197 true _ ?side1 A27.out).mono ?_
           (case side1 => exact Laid_ehdr.below HLD_ehdr.out (by repeat (first | (with_reducible first | exact HB.out | apply below_alloc | apply pw_below_drewN | apply below_drew1 | refine below_set ?_ GE176.out | refine below_set ?_ GE180.out) | exact HB.out)))
           rintro e w42 ⟨rfl, hb⟩
           refine ⟨_, rfl, ?_⟩
           have n0_ := Aside0.mk (blk_below (g := gb176) (o := .cells #[.int .u64 a1_0, .int .u64 a1_1, .int .u64 a1_2, .int .u64 a1_3, .int .u64 a1_4, .int .u64 a1_5, .int .u64 a1_6, .int .u64 a1_7, .int .u64 a1_8, .int .u64 a1_9, .int .u64 a1_10, .int .u64 a1_11, .int .u64 a1_12] 24 (0, 0)) (by (with_reducible repeat (first | refine blk_drewN ?_ _ | refine blk_drew ?_ | refine blk_alloc ?_ _)); exact BK176.out) hb)
           have n1_ := Aside0.mk (blk_below (g := gb180) (o := .cells #[.bool t178, .bool t179] 29 (0, 0)) (by (with_reducible repeat (first | refine blk_drewN ?_ _ | refine blk_drew ?_ | refine blk_alloc ?_ _)); exact BK180.out) hb)
           have n2_ := Aside0.mk (below_step (by repeat (first | (with_reducible first | exact HB.out | apply below_alloc | apply pw_below_drewN | apply below_drew1 | refine below_set ?_ GE176.out | refine below_set ?_ GE180.out) | exact HB.out)) hb)
           clear BK176
           clear BK180
           clear HB
           have BK176 := n0_
           have BK180 := n1_
           have HB := n2_
           clear n0_ n1_ n2_
           (try clear hb)
           (try clear hb2)
           (try clear hk)
           (try clear hi)
           refine hK.out _ _ ⟨(blk_cell BK180.out 0).trans rfl, (blk_cell BK180.out 1).trans rfl⟩ (fun hHeld => ?_)
           clear hK K
           refine norm_ (a' := ?_) ?_ ?_
           rotate_left
           ·
            show Act.put _ (some 51) _ = _
            simp only [Act.put, List.setIfInBounds_toArray, List.set_cons_zero, List.set_cons_succ, i64_w, i32_w]
            rfl
           refine pure_ (i := 9) (N := some 42) (v := ?_) (a' := ?_) (bm 15 1023) rfl rfl (any_of HT_.out (by kernel_rfl)) (fun _ _ _ h => h) (Or.inl ⟨by rfl, ?_⟩) ?_ ?_
           rotate_left
           ·
            intro w'
            go_simp
            with_reducible rfl
           rotate_left
           ·
            simp only [Act.put, List.setIfInBounds_toArray, List.set_cons_zero, List.set_cons_succ, i64_w, i32_w]
            rfl
           refine pure_ (i := 10) (N := some 52) (v := ?_) (a' := ?_) (bm 15 2047) rfl rfl (any_of HT_.out (by kernel_rfl)) (fun _ _ _ h => h) (Or.inl ⟨by rfl, ?_⟩) ?_ ?_
           rotate_left
           ·
            intro w'
            go_simp
            with_reducible rfl
           rotate_left
           ·
            simp only [Act.put, List.setIfInBounds_toArray, List.set_cons_zero, List.set_cons_succ, i64_w, i32_w]
            rfl
           refine pure_ (i := 11) (N := some 53) (v := ?_) (a' := ?_) (bm 15 4095) rfl rfl (any_of HT_.out (by kernel_rfl)) (fun _ _ _ h => h) (Or.inl ⟨by rfl, ?_⟩) ?_ ?_
           rotate_left
           ·
            intro w'
            go_simp
            with_reducible rfl
           rotate_left
           ·
            simp only [Act.put, List.setIfInBounds_toArray, List.set_cons_zero, List.set_cons_succ, i64_w, i32_w]
            rfl
           refine one_ (i := 12) (N := some 12) (bm 15 8191) rfl rfl (one_of HT_.out (by kernel_rfl)) (by decide) (fun K hK => ?_)
           refine box_step ?hg (N := 12) ?hd (cs := #[.int .u64 0, .int .u64 0, .int .u64 0, .int .u64 0, .int .u64 0, .int .u64 0, .int .u64 0, .int .u64 0, .int .u64 0, .int .u64 0, .int .u64 0, .int .u64 0, .int .u64 0]) (t := 33) ?hr ?_; (case hd => rfl); (case hg => rfl); (case hr => first | (go_simp; done) | (go_simp; rfl))
           intro gb199 hg w43 hbox hb
           have n0_ := Aside0.mk (blk_below (g := gb176) (o := .cells #[.int .u64 a1_0, .int .u64 a1_1, .int .u64 a1_2, .int .u64 a1_3, .int .u64 a1_4, .int .u64 a1_5, .int .u64 a1_6, .int .u64 a1_7, .int .u64 a1_8, .int .u64 a1_9, .int .u64 a1_10, .int .u64 a1_11, .int .u64 a1_12] 24 (0, 0)) (by (with_reducible repeat (first | refine blk_drewN ?_ _ | refine blk_drew ?_ | refine blk_alloc ?_ _)); exact BK176.out) hb)
           have n1_ := Aside0.mk (blk_below (g := gb180) (o := .cells #[.bool t178, .bool t179] 29 (0, 0)) (by (with_reducible repeat (first | refine blk_drewN ?_ _ | refine blk_drew ?_ | refine blk_alloc ?_ _)); exact BK180.out) hb)
           have n2_ := Aside0.mk (below_step (by repeat (first | (with_reducible first | exact HB.out | apply below_alloc | apply pw_below_drewN | apply below_drew1 | refine below_set ?_ GE176.out | refine below_set ?_ GE180.out) | exact HB.out)) hb)
           have n3_ := Aside0.mk (hbox)
           have n4_ := Aside0.mk ((by rw [hg]; exact (below_size (by repeat (first | (with_reducible first | exact HB.out | apply below_alloc | apply pw_below_drewN | apply below_drew1 | refine below_set ?_ GE176.out | refine below_set ?_ GE180.out) | exact HB.out))) : w.heap.size ≤ gb199))
           have n5_ := Aside0.mk ((by rw [hg]; exact (below_size (by repeat (first | (with_reducible first | exact HB.out | apply below_alloc | apply pw_below_drewN | apply below_drew1 | refine below_set ?_ GE176.out | refine below_set ?_ GE180.out) | exact HB.out))) : w.heap.size ≤ gb199))
           have n6_ := Aside0.mk ((by rw [hg]; exact Nat.ne_of_lt (blk_lt (g := gb176) (o := .cells #[.int .u64 a1_0, .int .u64 a1_1, .int .u64 a1_2, .int .u64 a1_3, .int .u64 a1_4, .int .u64 a1_5, .int .u64 a1_6, .int .u64 a1_7, .int .u64 a1_8, .int .u64 a1_9, .int .u64 a1_10, .int .u64 a1_11, .int .u64 a1_12] 24 (0, 0)) (by (with_reducible repeat (first | refine blk_drewN ?_ _ | refine blk_drew ?_ | refine blk_alloc ?_ _)); exact BK176.out)) : gb176 ≠ gb199))
           have n7_ := Aside0.mk ((by rw [hg]; exact Nat.ne_of_gt (blk_lt (g := gb176) (o := .cells #[.int .u64 a1_0, .int .u64 a1_1, .int .u64 a1_2, .int .u64 a1_3, .int .u64 a1_4, .int .u64 a1_5, .int .u64 a1_6, .int .u64 a1_7, .int .u64 a1_8, .int .u64 a1_9, .int .u64 a1_10, .int .u64 a1_11, .int .u64 a1_12] 24 (0, 0)) (by (with_reducible repeat (first | refine blk_drewN ?_ _ | refine blk_drew ?_ | refine blk_alloc ?_ _)); exact BK176.out)) : gb199 ≠ gb176))
           have n8_ := Aside0.mk ((by rw [hg]; exact Nat.ne_of_lt (blk_lt (g := gb180) (o := .cells #[.bool t178, .bool t179] 29 (0, 0)) (by (with_reducible repeat (first | refine blk_drewN ?_ _ | refine blk_drew ?_ | refine blk_alloc ?_ _)); exact BK180.out)) : gb180 ≠ gb199))
           have n9_ := Aside0.mk ((by rw [hg]; exact Nat.ne_of_gt (blk_lt (g := gb180) (o := .cells #[.bool t178, .bool t179] 29 (0, 0)) (by (with_reducible repeat (first | refine blk_drewN ?_ _ | refine blk_drew ?_ | refine blk_alloc ?_ _)); exact BK180.out)) : gb199 ≠ gb180))
           clear BK176
           clear BK180
           clear HB
           have BK176 := n0_
           have BK180 := n1_
           have HB := n2_
           have BK199 := n3_
           have GW199 := n4_
           have GE199 := n5_
           have NB176_199 := n6_
           have NB199_176 := n7_
           have NB180_199 := n8_
           have NB199_180 := n9_
           clear n0_ n1_ n2_ n3_ n4_ n5_ n6_ n7_ n8_ n9_
           clear hb hbox hg
           refine hK.out _ _ ⟨(blk_cell BK180.out 0).trans rfl, (blk_cell BK180.out 1).trans rfl⟩ (fun hHeld => ?_)
           clear hK K
           refine norm_ (a' := ?_) ?_ ?_
           rotate_left
           ·
            show Act.put _ (some 12) _ = _
            simp only [Act.put, List.setIfInBounds_toArray, List.set_cons_zero, List.set_cons_succ, i64_w, i32_w]
            rfl
           exact norm_ (by simp only [putAll, Act.put, List.setIfInBounds_toArray, List.set_cons_zero, List.set_cons_succ]) (hCont (gb199) _ ⟨hHeld, (by (with_reducible repeat (first | refine blk_drewN ?_ _ | refine blk_drew ?_ | refine blk_alloc ?_ _)); exact BK176.out), (by (with_reducible repeat (first | refine blk_drewN ?_ _ | refine blk_drew ?_ | refine blk_alloc ?_ _)); exact BK180.out), (by (with_reducible repeat (first | refine blk_drewN ?_ _ | refine blk_drew ?_ | refine blk_alloc ?_ _)); exact BK199.out), GW199.out, GE199.out, NB176_199.out, NB199_176.out, NB180_199.out, NB199_180.out, (by repeat (first | (with_reducible first | exact HB.out | apply below_alloc | apply pw_below_drewN | apply below_drew1 | refine below_set ?_ GE176.out | refine below_set ?_ GE180.out | refine below_set ?_ GE199.out) | exact HB.out))⟩)
          ·
           skip
           refine box_step ?hg (N := 12) ?hd (cs := #[.int .u64 0, .int .u64 0, .int .u64 0, .int .u64 0, .int .u64 0, .int .u64 0, .int .u64 0, .int .u64 0, .int .u64 0, .int .u64 0, .int .u64 0, .int .u64 0, .int .u64 0]) (t := 33) ?hr ?_; (case hd => rfl); (case hg => rfl); (case hr => first | (go_simp; done) | (go_simp; rfl))
           intro gb199 hg w42 hbox hb
           have n0_ := Aside0.mk (blk_below (g := gb176) (o := .cells #[.int .u64 a1_0, .int .u64 a1_1, .int .u64 a1_2, .int .u64 a1_3, .int .u64 a1_4, .int .u64 a1_5, .int .u64 a1_6, .int .u64 a1_7, .int .u64 a1_8, .int .u64 a1_9, .int .u64 a1_10, .int .u64 a1_11, .int .u64 a1_12] 24 (0, 0)) (by (with_reducible repeat (first | refine blk_drewN ?_ _ | refine blk_drew ?_ | refine blk_alloc ?_ _)); exact BK176.out) hb)
           have n1_ := Aside0.mk (blk_below (g := gb180) (o := .cells #[.bool t178, .bool t179] 29 (0, 0)) (by (with_reducible repeat (first | refine blk_drewN ?_ _ | refine blk_drew ?_ | refine blk_alloc ?_ _)); exact BK180.out) hb)
           have n2_ := Aside0.mk (below_step (by repeat (first | (with_reducible first | exact HB.out | apply below_alloc | apply pw_below_drewN | apply below_drew1 | refine below_set ?_ GE176.out | refine below_set ?_ GE180.out) | exact HB.out)) hb)
           have n3_ := Aside0.mk (hbox)
           have n4_ := Aside0.mk ((by rw [hg]; exact (below_size (by repeat (first | (with_reducible first | exact HB.out | apply below_alloc | apply pw_below_drewN | apply below_drew1 | refine below_set ?_ GE176.out | refine below_set ?_ GE180.out) | exact HB.out))) : w.heap.size ≤ gb199))
           have n5_ := Aside0.mk ((by rw [hg]; exact (below_size (by repeat (first | (with_reducible first | exact HB.out | apply below_alloc | apply pw_below_drewN | apply below_drew1 | refine below_set ?_ GE176.out | refine below_set ?_ GE180.out) | exact HB.out))) : w.heap.size ≤ gb199))
           have n6_ := Aside0.mk ((by rw [hg]; exact Nat.ne_of_lt (blk_lt (g := gb176) (o := .cells #[.int .u64 a1_0, .int .u64 a1_1, .int .u64 a1_2, .int .u64 a1_3, .int .u64 a1_4, .int .u64 a1_5, .int .u64 a1_6, .int .u64 a1_7, .int .u64 a1_8, .int .u64 a1_9, .int .u64 a1_10, .int .u64 a1_11, .int .u64 a1_12] 24 (0, 0)) (by (with_reducible repeat (first | refine blk_drewN ?_ _ | refine blk_drew ?_ | refine blk_alloc ?_ _)); exact BK176.out)) : gb176 ≠ gb199))
           have n7_ := Aside0.mk ((by rw [hg]; exact Nat.ne_of_gt (blk_lt (g := gb176) (o := .cells #[.int .u64 a1_0, .int .u64 a1_1, .int .u64 a1_2, .int .u64 a1_3, .int .u64 a1_4, .int .u64 a1_5, .int .u64 a1_6, .int .u64 a1_7, .int .u64 a1_8, .int .u64 a1_9, .int .u64 a1_10, .int .u64 a1_11, .int .u64 a1_12] 24 (0, 0)) (by (with_reducible repeat (first | refine blk_drewN ?_ _ | refine blk_drew ?_ | refine blk_alloc ?_ _)); exact BK176.out)) : gb199 ≠ gb176))
           have n8_ := Aside0.mk ((by rw [hg]; exact Nat.ne_of_lt (blk_lt (g := gb180) (o := .cells #[.bool t178, .bool t179] 29 (0, 0)) (by (with_reducible repeat (first | refine blk_drewN ?_ _ | refine blk_drew ?_ | refine blk_alloc ?_ _)); exact BK180.out)) : gb180 ≠ gb199))
           have n9_ := Aside0.mk ((by rw [hg]; exact Nat.ne_of_gt (blk_lt (g := gb180) (o := .cells #[.bool t178, .bool t179] 29 (0, 0)) (by (with_reducible repeat (first | refine blk_drewN ?_ _ | refine blk_drew ?_ | refine blk_alloc ?_ _)); exact BK180.out)) : gb199 ≠ gb180))
           clear BK176
           clear BK180
           clear HB
           have BK176 := n0_
           have BK180 := n1_
           have HB := n2_
           have BK199 := n3_
           have GW199 := n4_
           have GE199 := n5_
           have NB176_199 := n6_
           have NB199_176 := n7_
           have NB180_199 := n8_
           have NB199_180 := n9_
           clear n0_ n1_ n2_ n3_ n4_ n5_ n6_ n7_ n8_ n9_
           clear hb hbox hg
           refine hK.out _ _ ⟨(blk_cell BK180.out 0).trans rfl, (blk_cell BK180.out 1).trans rfl⟩ (fun hHeld => ?_)
           clear hK K
           refine norm_ (a' := ?_) ?_ ?_
           rotate_left
           ·
            show Act.put _ (some 12) _ = _
            simp only [Act.put, List.setIfInBounds_toArray, List.set_cons_zero, List.set_cons_succ, i64_w, i32_w]
            rfl
           refine one_ (i := 8) (N := some 51) (bm 15 4607) rfl rfl (one_of HT_.out (by kernel_rfl)) (by decide) (fun K hK => ?_)
           refine goes_ Tryd.func13 (by kernel_rfl) rfl #[.agg #[.bool t178, .bool t179], .string (t181 ++ sc25)] (by rfl) rfl rfl (by (try simp only [List.map_toArray, List.map_cons, List.map_nil]); first | done | rfl | (simp only [List.length_drop, List.length_take]; rfl)) ?_
           with_reducible refine (ehdr_Read.calls k t178 t179 (t181 ++ sc25) t185 t186 t187 t188 t189 t190 t191 t192 t193 t194 t195 t196 t197 true _ ?side1 A27.out).mono ?_
           (case side1 => exact Laid_ehdr.below HLD_ehdr.out (by repeat (first | (with_reducible first | exact HB.out | apply below_alloc | apply pw_below_drewN | apply below_drew1 | refine below_set ?_ GE176.out | refine below_set ?_ GE180.out | refine below_set ?_ GE199.out) | exact HB.out)))
           rintro e w43 ⟨rfl, hb⟩
           refine ⟨_, rfl, ?_⟩
           have n0_ := Aside0.mk (blk_below (g := gb176) (o := .cells #[.int .u64 a1_0, .int .u64 a1_1, .int .u64 a1_2, .int .u64 a1_3, .int .u64 a1_4, .int .u64 a1_5, .int .u64 a1_6, .int .u64 a1_7, .int .u64 a1_8, .int .u64 a1_9, .int .u64 a1_10, .int .u64 a1_11, .int .u64 a1_12] 24 (0, 0)) (by (with_reducible repeat (first | refine blk_drewN ?_ _ | refine blk_drew ?_ | refine blk_alloc ?_ _)); exact BK176.out) hb)
           have n1_ := Aside0.mk (blk_below (g := gb180) (o := .cells #[.bool t178, .bool t179] 29 (0, 0)) (by (with_reducible repeat (first | refine blk_drewN ?_ _ | refine blk_drew ?_ | refine blk_alloc ?_ _)); exact BK180.out) hb)
           have n2_ := Aside0.mk (blk_below (g := gb199) (o := .cells #[.int .u64 0, .int .u64 0, .int .u64 0, .int .u64 0, .int .u64 0, .int .u64 0, .int .u64 0, .int .u64 0, .int .u64 0, .int .u64 0, .int .u64 0, .int .u64 0, .int .u64 0] 33 (0, 0)) (by (with_reducible repeat (first | refine blk_drewN ?_ _ | refine blk_drew ?_ | refine blk_alloc ?_ _)); exact BK199.out) hb)
           have n3_ := Aside0.mk (below_step (by repeat (first | (with_reducible first | exact HB.out | apply below_alloc | apply pw_below_drewN | apply below_drew1 | refine below_set ?_ GE176.out | refine below_set ?_ GE180.out | refine below_set ?_ GE199.out) | exact HB.out)) hb)
           clear BK176
           clear BK180
           clear BK199
           clear HB
           have BK176 := n0_
           have BK180 := n1_
           have BK199 := n2_
           have HB := n3_
           clear n0_ n1_ n2_ n3_
           (try clear hb)
           (try clear hb2)
           (try clear hk)
           (try clear hi)
           refine hK.out _ _ ⟨(blk_cell BK180.out 0).trans rfl, (blk_cell BK180.out 1).trans rfl⟩ (fun hHeld => ?_)
           clear hK K
           refine norm_ (a' := ?_) ?_ ?_
           rotate_left
           ·
            show Act.put _ (some 51) _ = _
            simp only [Act.put, List.setIfInBounds_toArray, List.set_cons_zero, List.set_cons_succ, i64_w, i32_w]
            rfl
           refine pure_ (i := 9) (N := some 42) (v := ?_) (a' := ?_) (bm 15 5119) rfl rfl (any_of HT_.out (by kernel_rfl)) (fun _ _ _ h => h) (Or.inl ⟨by rfl, ?_⟩) ?_ ?_
           rotate_left
           ·
            intro w'
            go_simp
            with_reducible rfl
           rotate_left
           ·
            simp only [Act.put, List.setIfInBounds_toArray, List.set_cons_zero, List.set_cons_succ, i64_w, i32_w]
            rfl
           refine pure_ (i := 10) (N := some 52) (v := ?_) (a' := ?_) (bm 15 6143) rfl rfl (any_of HT_.out (by kernel_rfl)) (fun _ _ _ h => h) (Or.inl ⟨by rfl, ?_⟩) ?_ ?_
           rotate_left
           ·
            intro w'
            go_simp
            with_reducible rfl
           rotate_left
           ·
            simp only [Act.put, List.setIfInBounds_toArray, List.set_cons_zero, List.set_cons_succ, i64_w, i32_w]
            rfl
           refine pure_ (i := 11) (N := some 53) (v := ?_) (a' := ?_) (bm 15 8191) rfl rfl (any_of HT_.out (by kernel_rfl)) (fun _ _ _ h => h) (Or.inl ⟨by rfl, ?_⟩) ?_ ?_
           rotate_left
           ·
            intro w'
            go_simp
            with_reducible rfl
           rotate_left
           ·
            simp only [Act.put, List.setIfInBounds_toArray, List.set_cons_zero, List.set_cons_succ, i64_w, i32_w]
            rfl
           exact norm_ (by simp only [putAll, Act.put, List.setIfInBounds_toArray, List.set_cons_zero, List.set_cons_succ]) (hCont (gb199) _ ⟨hHeld, (by (with_reducible repeat (first | refine blk_drewN ?_ _ | refine blk_drew ?_ | refine blk_alloc ?_ _)); exact BK176.out), (by (with_reducible repeat (first | refine blk_drewN ?_ _ | refine blk_drew ?_ | refine blk_alloc ?_ _)); exact BK180.out), (by (with_reducible repeat (first | refine blk_drewN ?_ _ | refine blk_drew ?_ | refine blk_alloc ?_ _)); exact BK199.out), GW199.out, GE199.out, NB176_199.out, NB199_176.out, NB180_199.out, NB199_180.out, (by repeat (first | (with_reducible first | exact HB.out | apply below_alloc | apply pw_below_drewN | apply below_drew1 | refine below_set ?_ GE176.out | refine below_set ?_ GE180.out | refine below_set ?_ GE199.out) | exact HB.out))⟩)
         rintro gb199 w44 ⟨hS_, h0_, h1_, h2_, h3_, h4_, h5_, h6_, h7_, h8_, h9_⟩
         have n0_ : Aside0 (w44.heap[gb176]? = some (.cells #[.int .u64 a1_0, .int .u64 a1_1, .int .u64 a1_2, .int .u64 a1_3, .int .u64 a1_4, .int .u64 a1_5, .int .u64 a1_6, .int .u64 a1_7, .int .u64 a1_8, .int .u64 a1_9, .int .u64 a1_10, .int .u64 a1_11, .int .u64 a1_12] 24 (0, 0))) := ⟨h0_⟩
         have n1_ : Aside0 (w44.heap[gb180]? = some (.cells #[.bool t178, .bool t179] 29 (0, 0))) := ⟨h1_⟩
         have n2_ : Aside0 (w44.heap[gb199]? = some (.cells #[.int .u64 0, .int .u64 0, .int .u64 0, .int .u64 0, .int .u64 0, .int .u64 0, .int .u64 0, .int .u64 0, .int .u64 0, .int .u64 0, .int .u64 0, .int .u64 0, .int .u64 0] 33 (0, 0))) := ⟨h2_⟩
         have n3_ : Aside0 (w.heap.size ≤ gb199) := ⟨h3_⟩
         have n4_ : Aside0 (w.heap.size ≤ gb199) := ⟨h4_⟩
         have n5_ : Aside0 (gb176 ≠ gb199) := ⟨h5_⟩
         have n6_ : Aside0 (gb199 ≠ gb176) := ⟨h6_⟩
         have n7_ : Aside0 (gb180 ≠ gb199) := ⟨h7_⟩
         have n8_ : Aside0 (gb199 ≠ gb180) := ⟨h8_⟩
         have n9_ : Aside0 (Below w.heap.size w w44) := ⟨h9_⟩
         clear BK176
         clear BK180
         clear HB
         clear h0_ h1_ h2_ h3_ h4_ h5_ h6_ h7_ h8_ h9_
         have BK176 := n0_
         have BK180 := n1_
         have BK199 := n2_
         have GW199 := n3_
         have GE199 := n4_
         have NB176_199 := n5_
         have NB199_176 := n6_
         have NB180_199 := n7_
         have NB199_180 := n8_
         have HB := n9_
         clear n0_ n1_ n2_ n3_ n4_ n5_ n6_ n7_ n8_ n9_
         have hHeld : w44.cell? ⟨gb180, 0, none⟩ = some (.bool t178) ∧ w44.cell? ⟨gb180, 1, none⟩ = some (.bool t179) := hS_
         refine norm_ (a' := ?_) ?_ ?_
         rotate_left
         ·
          simp only [putAll, Act.put, List.setIfInBounds_toArray, List.set_cons_zero, List.set_cons_succ]
          rfl
         refine one_ (i := 13) (N := none) (bm 15 16383) rfl rfl (one_of HT_.out (by kernel_rfl)) (by decide) (fun K hK => ?_)
         have hs45 : w44.cell? ⟨gb199, 0, none⟩ = some (.int .u64 0) := (blk_cell BK199.out 0).trans rfl
         have hfs45 := blk_frozen BK199.out 0
         have hns45_0 := NB176_199.out
         have hns45_1 := NB180_199.out
         have hms45_0 := NB199_176.out
         have hms45_1 := NB199_180.out
         have hs46 : w44.cell? ⟨gb199, 1, none⟩ = some (.int .u64 0) := (blk_cell BK199.out 1).trans rfl
         have hfs46 := blk_frozen BK199.out 1
         have hns46_0 := NB176_199.out
         have hns46_1 := NB180_199.out
         have hms46_0 := NB199_176.out
         have hms46_1 := NB199_180.out
         have hs47 : w44.cell? ⟨gb199, 2, none⟩ = some (.int .u64 0) := (blk_cell BK199.out 2).trans rfl
         have hfs47 := blk_frozen BK199.out 2
         have hns47_0 := NB176_199.out
         have hns47_1 := NB180_199.out
         have hms47_0 := NB199_176.out
         have hms47_1 := NB199_180.out
         have hs48 : w44.cell? ⟨gb199, 3, none⟩ = some (.int .u64 0) := (blk_cell BK199.out 3).trans rfl
         have hfs48 := blk_frozen BK199.out 3
         have hns48_0 := NB176_199.out
         have hns48_1 := NB180_199.out
         have hms48_0 := NB199_176.out
         have hms48_1 := NB199_180.out
         have hs49 : w44.cell? ⟨gb199, 4, none⟩ = some (.int .u64 0) := (blk_cell BK199.out 4).trans rfl
         have hfs49 := blk_frozen BK199.out 4
         have hns49_0 := NB176_199.out
         have hns49_1 := NB180_199.out
         have hms49_0 := NB199_176.out
         have hms49_1 := NB199_180.out
         have hs50 : w44.cell? ⟨gb199, 5, none⟩ = some (.int .u64 0) := (blk_cell BK199.out 5).trans rfl
         have hfs50 := blk_frozen BK199.out 5
         have hns50_0 := NB176_199.out
         have hns50_1 := NB180_199.out
         have hms50_0 := NB199_176.out
         have hms50_1 := NB199_180.out
         have hs51 : w44.cell? ⟨gb199, 6, none⟩ = some (.int .u64 0) := (blk_cell BK199.out 6).trans rfl
         have hfs51 := blk_frozen BK199.out 6
         have hns51_0 := NB176_199.out
         have hns51_1 := NB180_199.out
         have hms51_0 := NB199_176.out
         have hms51_1 := NB199_180.out
         have hs52 : w44.cell? ⟨gb199, 7, none⟩ = some (.int .u64 0) := (blk_cell BK199.out 7).trans rfl
         have hfs52 := blk_frozen BK199.out 7
         have hns52_0 := NB176_199.out
         have hns52_1 := NB180_199.out
         have hms52_0 := NB199_176.out
         have hms52_1 := NB199_180.out
         have hs53 : w44.cell? ⟨gb199, 8, none⟩ = some (.int .u64 0) := (blk_cell BK199.out 8).trans rfl
         have hfs53 := blk_frozen BK199.out 8
         have hns53_0 := NB176_199.out
         have hns53_1 := NB180_199.out
         have hms53_0 := NB199_176.out
         have hms53_1 := NB199_180.out
         have hs54 : w44.cell? ⟨gb199, 9, none⟩ = some (.int .u64 0) := (blk_cell BK199.out 9).trans rfl
         have hfs54 := blk_frozen BK199.out 9
         have hns54_0 := NB176_199.out
         have hns54_1 := NB180_199.out
         have hms54_0 := NB199_176.out
         have hms54_1 := NB199_180.out
         have hs55 : w44.cell? ⟨gb199, 10, none⟩ = some (.int .u64 0) := (blk_cell BK199.out 10).trans rfl
         have hfs55 := blk_frozen BK199.out 10
         have hns55_0 := NB176_199.out
         have hns55_1 := NB180_199.out
         have hms55_0 := NB199_176.out
         have hms55_1 := NB199_180.out
         have hs56 : w44.cell? ⟨gb199, 11, none⟩ = some (.int .u64 0) := (blk_cell BK199.out 11).trans rfl
         have hfs56 := blk_frozen BK199.out 11
         have hns56_0 := NB176_199.out
         have hns56_1 := NB180_199.out
         have hms56_0 := NB199_176.out
         have hms56_1 := NB199_180.out
         have hs57 : w44.cell? ⟨gb199, 12, none⟩ = some (.int .u64 0) := (blk_cell BK199.out 12).trans rfl
         have hfs57 := blk_frozen BK199.out 12
         have hns57_0 := NB176_199.out
         have hns57_1 := NB180_199.out
         have hms57_0 := NB199_176.out
         have hms57_1 := NB199_180.out
         refine skip_ (w1 := ?_) (by rfl) rfl ?_ ?_
         rotate_left
         ·
          go_simp
          rfl
         refine hK.out _ _ ⟨((cell_far (p := ⟨gb199, _, none⟩) NB180_199.out _).trans (((cell_far (p := ⟨gb199, _, none⟩) NB180_199.out _).trans (((cell_far (p := ⟨gb199, _, none⟩) NB180_199.out _).trans (((cell_far (p := ⟨gb199, _, none⟩) NB180_199.out _).trans (((cell_far (p := ⟨gb199, _, none⟩) NB180_199.out _).trans (((cell_far (p := ⟨gb199, _, none⟩) NB180_199.out _).trans (((cell_far (p := ⟨gb199, _, none⟩) NB180_199.out _).trans (((cell_far (p := ⟨gb199, _, none⟩) NB180_199.out _).trans (((cell_far (p := ⟨gb199, _, none⟩) NB180_199.out _).trans (((cell_far (p := ⟨gb199, _, none⟩) NB180_199.out _).trans (((cell_far (p := ⟨gb199, _, none⟩) NB180_199.out _).trans (((cell_far (p := ⟨gb199, _, none⟩) NB180_199.out _).trans (((cell_far (p := ⟨gb199, _, none⟩) NB180_199.out _).trans (hHeld.1)))))))))))))))))))))))))), ((cell_far (p := ⟨gb199, _, none⟩) NB180_199.out _).trans (((cell_far (p := ⟨gb199, _, none⟩) NB180_199.out _).trans (((cell_far (p := ⟨gb199, _, none⟩) NB180_199.out _).trans (((cell_far (p := ⟨gb199, _, none⟩) NB180_199.out _).trans (((cell_far (p := ⟨gb199, _, none⟩) NB180_199.out _).trans (((cell_far (p := ⟨gb199, _, none⟩) NB180_199.out _).trans (((cell_far (p := ⟨gb199, _, none⟩) NB180_199.out _).trans (((cell_far (p := ⟨gb199, _, none⟩) NB180_199.out _).trans (((cell_far (p := ⟨gb199, _, none⟩) NB180_199.out _).trans (((cell_far (p := ⟨gb199, _, none⟩) NB180_199.out _).trans (((cell_far (p := ⟨gb199, _, none⟩) NB180_199.out _).trans (((cell_far (p := ⟨gb199, _, none⟩) NB180_199.out _).trans (((cell_far (p := ⟨gb199, _, none⟩) NB180_199.out _).trans (hHeld.2))))))))))))))))))))))))))⟩ (fun hHeld => ?_)
         clear hK K
         refine pure_ (i := 14) (N := some 13) (v := ?_) (a' := ?_) (bm 15 32767) rfl rfl (any_of HT_.out (by kernel_rfl)) (fun _ _ _ h => h) (Or.inl ⟨by rfl, ?_⟩) ?_ ?_
         rotate_left
         ·
          intro w'
          go_simp
          with_reducible rfl
         rotate_left
         ·
          simp only [Act.put, List.setIfInBounds_toArray, List.set_cons_zero, List.set_cons_succ, i64_w, i32_w]
          rfl
         refine done_ (done_of HT_.out (by kernel_rfl)) ?_
         have hnb58 := NB199_176.out
         have hnc58 := NB176_199.out
         have hnb59 := NB199_180.out
         have hnc59 := NB180_199.out
         have hcz60_0 : w44.cell? ⟨gb199, 0, none⟩ = some (.int .u64 0) := (blk_cell BK199.out 0).trans rfl
         have hcz60_1 : w44.cell? ⟨gb199, 1, none⟩ = some (.int .u64 0) := (blk_cell BK199.out 1).trans rfl
         have hcz60_2 : w44.cell? ⟨gb199, 2, none⟩ = some (.int .u64 0) := (blk_cell BK199.out 2).trans rfl
         have hcz60_3 : w44.cell? ⟨gb199, 3, none⟩ = some (.int .u64 0) := (blk_cell BK199.out 3).trans rfl
         have hcz60_4 : w44.cell? ⟨gb199, 4, none⟩ = some (.int .u64 0) := (blk_cell BK199.out 4).trans rfl
         have hcz60_5 : w44.cell? ⟨gb199, 5, none⟩ = some (.int .u64 0) := (blk_cell BK199.out 5).trans rfl
         have hcz60_6 : w44.cell? ⟨gb199, 6, none⟩ = some (.int .u64 0) := (blk_cell BK199.out 6).trans rfl
         have hcz60_7 : w44.cell? ⟨gb199, 7, none⟩ = some (.int .u64 0) := (blk_cell BK199.out 7).trans rfl
         have hcz60_8 : w44.cell? ⟨gb199, 8, none⟩ = some (.int .u64 0) := (blk_cell BK199.out 8).trans rfl
         have hcz60_9 : w44.cell? ⟨gb199, 9, none⟩ = some (.int .u64 0) := (blk_cell BK199.out 9).trans rfl
         have hcz60_10 : w44.cell? ⟨gb199, 10, none⟩ = some (.int .u64 0) := (blk_cell BK199.out 10).trans rfl
         have hcz60_11 : w44.cell? ⟨gb199, 11, none⟩ = some (.int .u64 0) := (blk_cell BK199.out 11).trans rfl
         have hcz60_12 : w44.cell? ⟨gb199, 12, none⟩ = some (.int .u64 0) := (blk_cell BK199.out 12).trans rfl
         have hfz60_0 := blk_frozen BK199.out 0
         have hfz60_1 := blk_frozen BK199.out 1
         have hfz60_2 := blk_frozen BK199.out 2
         have hfz60_3 := blk_frozen BK199.out 3
         have hfz60_4 := blk_frozen BK199.out 4
         have hfz60_5 := blk_frozen BK199.out 5
         have hfz60_6 := blk_frozen BK199.out 6
         have hfz60_7 := blk_frozen BK199.out 7
         have hfz60_8 := blk_frozen BK199.out 8
         have hfz60_9 := blk_frozen BK199.out 9
         have hfz60_10 := blk_frozen BK199.out 10
         have hfz60_11 := blk_frozen BK199.out 11
         have hfz60_12 := blk_frozen BK199.out 12
         have hcz61_0 : w44.cell? ⟨gb176, 0, none⟩ = some (.int .u64 a1_0) := (blk_cell BK176.out 0).trans rfl
         have hcz61_1 : w44.cell? ⟨gb176, 1, none⟩ = some (.int .u64 a1_1) := (blk_cell BK176.out 1).trans rfl
         have hcz61_2 : w44.cell? ⟨gb176, 2, none⟩ = some (.int .u64 a1_2) := (blk_cell BK176.out 2).trans rfl
         have hcz61_3 : w44.cell? ⟨gb176, 3, none⟩ = some (.int .u64 a1_3) := (blk_cell BK176.out 3).trans rfl
         have hcz61_4 : w44.cell? ⟨gb176, 4, none⟩ = some (.int .u64 a1_4) := (blk_cell BK176.out 4).trans rfl
         have hcz61_5 : w44.cell? ⟨gb176, 5, none⟩ = some (.int .u64 a1_5) := (blk_cell BK176.out 5).trans rfl
         have hcz61_6 : w44.cell? ⟨gb176, 6, none⟩ = some (.int .u64 a1_6) := (blk_cell BK176.out 6).trans rfl
         have hcz61_7 : w44.cell? ⟨gb176, 7, none⟩ = some (.int .u64 a1_7) := (blk_cell BK176.out 7).trans rfl
         have hcz61_8 : w44.cell? ⟨gb176, 8, none⟩ = some (.int .u64 a1_8) := (blk_cell BK176.out 8).trans rfl
         have hcz61_9 : w44.cell? ⟨gb176, 9, none⟩ = some (.int .u64 a1_9) := (blk_cell BK176.out 9).trans rfl
         have hcz61_10 : w44.cell? ⟨gb176, 10, none⟩ = some (.int .u64 a1_10) := (blk_cell BK176.out 10).trans rfl
         have hcz61_11 : w44.cell? ⟨gb176, 11, none⟩ = some (.int .u64 a1_11) := (blk_cell BK176.out 11).trans rfl
         have hcz61_12 : w44.cell? ⟨gb176, 12, none⟩ = some (.int .u64 a1_12) := (blk_cell BK176.out 12).trans rfl
         have hfz61_0 := blk_frozen BK176.out 0
         have hfz61_1 := blk_frozen BK176.out 1
         have hfz61_2 := blk_frozen BK176.out 2
         have hfz61_3 := blk_frozen BK176.out 3
         have hfz61_4 := blk_frozen BK176.out 4
         have hfz61_5 := blk_frozen BK176.out 5
         have hfz61_6 := blk_frozen BK176.out 6
         have hfz61_7 := blk_frozen BK176.out 7
         have hfz61_8 := blk_frozen BK176.out 8
         have hfz61_9 := blk_frozen BK176.out 9
         have hfz61_10 := blk_frozen BK176.out 10
         have hfz61_11 := blk_frozen BK176.out 11
         have hfz61_12 := blk_frozen BK176.out 12
         try go_wp2
         go_ret
         exact ⟨by first | rfl | (simp [errW_none, errW_some] <;> rfl) | (simp only [← hji22]; first | rfl | (simp [errW_none, errW_some] <;> rfl)) | (simp [*, errW_none, errW_some] <;> rfl), by repeat (first | (with_reducible first | exact HB.out | apply below_alloc | apply pw_below_drewN | apply below_drew1 | refine below_set ?_ GE176.out | refine below_set ?_ GE180.out | refine below_set ?_ GE199.out) | exact HB.out)⟩
        ·
         replace c29 := Bool.eq_false_iff.mpr c29
         subst c29
         have H1 : (some false) = some r := by rw [if_neg (show ¬ (false = true) by decide)] at H; exact H
         clear H
         have H := H1
         clear H1
         obtain rfl := Option.some.inj H
         go_enter Tryd.func3, Tryd.ntmps3
         try go_wp2_with (first | ((with_reducible refine gate_dst (N := 4) rfl ?_); refine box_event ?hg (N := 4) ?hd (cs := #[.int .u64 a1_0, .int .u64 a1_1, .int .u64 a1_2, .int .u64 a1_3, .int .u64 a1_4, .int .u64 a1_5, .int .u64 a1_6, .int .u64 a1_7, .int .u64 a1_8, .int .u64 a1_9, .int .u64 a1_10, .int .u64 a1_11, .int .u64 a1_12]) (t := 24) ?hr ?_; (case hd => rfl); (case hg => rfl); (case hr => first | (go_simp; done) | (go_simp; rfl)); intro gb176 hg w62 hbox hb; have n0_ := Aside0.mk (below_step (by repeat (first | (with_reducible first | exact HB.out | apply below_alloc | apply pw_below_drewN | apply below_drew1) | exact HB.out)) hb); have n1_ := Aside0.mk (hbox); have n2_ := Aside0.mk ((by rw [hg]; exact (below_size (by repeat (first | (with_reducible first | exact HB.out | apply below_alloc | apply pw_below_drewN | apply below_drew1) | exact HB.out))) : w.heap.size ≤ gb176)); have n3_ := Aside0.mk ((by rw [hg]; exact (below_size (by repeat (first | (with_reducible first | exact HB.out | apply below_alloc | apply pw_below_drewN | apply below_drew1) | exact HB.out))) : w.heap.size ≤ gb176)); clear HB; have HB := n0_; have BK176 := n1_; have GW176 := n2_; have GE176 := n3_; clear n0_ n1_ n2_ n3_; clear hb hbox hg) | ((with_reducible refine gate_callee (f := 9) rfl ?_); refine goesL_ (some 14) rfl rfl Tryd.func9 (by kernel_rfl) rfl #[] rfl (by (try simp only [List.map_toArray, List.map_cons, List.map_nil]); first | done | rfl | (simp only [List.length_drop, List.length_take]; rfl)) ?_; (with_reducible refine (graverlaw05_speaks.calls k  true _ ?side1 A4.out).mono ?_); (case side1 => exact Laid_ehdr.below HLD_ehdr.out (by repeat (first | (with_reducible first | exact HB.out | apply below_alloc | apply pw_below_drewN | apply below_drew1 | refine below_set ?_ GE176.out) | exact HB.out))); rintro e w63 ⟨rfl, hb⟩; refine ⟨_, rfl, ?_⟩; have n0_ := Aside0.mk (blk_below (g := gb176) (o := .cells #[.int .u64 a1_0, .int .u64 a1_1, .int .u64 a1_2, .int .u64 a1_3, .int .u64 a1_4, .int .u64 a1_5, .int .u64 a1_6, .int .u64 a1_7, .int .u64 a1_8, .int .u64 a1_9, .int .u64 a1_10, .int .u64 a1_11, .int .u64 a1_12] 24 (0, 0)) (by (with_reducible repeat (first | refine blk_drewN ?_ _ | refine blk_drew ?_ | refine blk_alloc ?_ _)); exact BK176.out) hb); have n1_ := Aside0.mk (below_step (by repeat (first | (with_reducible first | exact HB.out | apply below_alloc | apply pw_below_drewN | apply below_drew1 | refine below_set ?_ GE176.out) | exact HB.out)) hb); clear BK176; clear HB; have BK176 := n0_; have HB := n1_; clear n0_ n1_; (try clear hb); (try clear hb2); (try clear hk); (try clear hi)) | ((with_reducible refine gate_callee (f := 10) rfl ?_); refine goesL_ (some 17) rfl rfl Tryd.func10 (by kernel_rfl) rfl #[.int .i64 a0] rfl (by (try simp only [List.map_toArray, List.map_cons, List.map_nil]); first | done | rfl | (simp only [List.length_drop, List.length_take]; rfl)) ?_; (with_reducible refine (graverlaw05_formOf.calls a0 t178 t179 _ A6.out).mono ?_); rintro e w64 ⟨rfl, hb⟩; refine ⟨_, rfl, ?_⟩; have n0_ := Aside0.mk (blk_below (g := gb176) (o := .cells #[.int .u64 a1_0, .int .u64 a1_1, .int .u64 a1_2, .int .u64 a1_3, .int .u64 a1_4, .int .u64 a1_5, .int .u64 a1_6, .int .u64 a1_7, .int .u64 a1_8, .int .u64 a1_9, .int .u64 a1_10, .int .u64 a1_11, .int .u64 a1_12] 24 (0, 0)) (by (with_reducible repeat (first | refine blk_drewN ?_ _ | refine blk_drew ?_ | refine blk_alloc ?_ _)); exact BK176.out) hb); have n1_ := Aside0.mk (below_step (by repeat (first | (with_reducible first | exact HB.out | apply below_alloc | apply pw_below_drewN | apply below_drew1 | refine below_set ?_ GE176.out) | exact HB.out)) hb); clear BK176; clear HB; have BK176 := n0_; have HB := n1_; clear n0_ n1_; (try clear hb); (try clear hb2); (try clear hk); (try clear hi)) | ((with_reducible refine gate_dst (N := 7) rfl ?_); refine box_event ?hg (N := 7) ?hd (cs := #[.bool false, .bool false]) (t := 29) ?hr ?_; (case hd => rfl); (case hg => rfl); (case hr => first | (go_simp; done) | (go_simp; rfl)); intro gb180 hg w65 hbox hb; have n0_ := Aside0.mk (blk_below (g := gb176) (o := .cells #[.int .u64 a1_0, .int .u64 a1_1, .int .u64 a1_2, .int .u64 a1_3, .int .u64 a1_4, .int .u64 a1_5, .int .u64 a1_6, .int .u64 a1_7, .int .u64 a1_8, .int .u64 a1_9, .int .u64 a1_10, .int .u64 a1_11, .int .u64 a1_12] 24 (0, 0)) (by (with_reducible repeat (first | refine blk_drewN ?_ _ | refine blk_drew ?_ | refine blk_alloc ?_ _)); exact BK176.out) hb); have n1_ := Aside0.mk (below_step (by repeat (first | (with_reducible first | exact HB.out | apply below_alloc | apply pw_below_drewN | apply below_drew1 | refine below_set ?_ GE176.out) | exact HB.out)) hb); have n2_ := Aside0.mk (hbox); have n3_ := Aside0.mk ((by rw [hg]; exact (below_size (by repeat (first | (with_reducible first | exact HB.out | apply below_alloc | apply pw_below_drewN | apply below_drew1 | refine below_set ?_ GE176.out) | exact HB.out))) : w.heap.size ≤ gb180)); have n4_ := Aside0.mk ((by rw [hg]; exact (below_size (by repeat (first | (with_reducible first | exact HB.out | apply below_alloc | apply pw_below_drewN | apply below_drew1 | refine below_set ?_ GE176.out) | exact HB.out))) : w.heap.size ≤ gb180)); have n5_ := Aside0.mk ((by rw [hg]; exact Nat.ne_of_lt (blk_lt (g := gb176) (o := .cells #[.int .u64 a1_0, .int .u64 a1_1, .int .u64 a1_2, .int .u64 a1_3, .int .u64 a1_4, .int .u64 a1_5, .int .u64 a1_6, .int .u64 a1_7, .int .u64 a1_8, .int .u64 a1_9, .int .u64 a1_10, .int .u64 a1_11, .int .u64 a1_12] 24 (0, 0)) (by (with_reducible repeat (first | refine blk_drewN ?_ _ | refine blk_drew ?_ | refine blk_alloc ?_ _)); exact BK176.out)) : gb176 ≠ gb180)); have n6_ := Aside0.mk ((by rw [hg]; exact Nat.ne_of_gt (blk_lt (g := gb176) (o := .cells #[.int .u64 a1_0, .int .u64 a1_1, .int .u64 a1_2, .int .u64 a1_3, .int .u64 a1_4, .int .u64 a1_5, .int .u64 a1_6, .int .u64 a1_7, .int .u64 a1_8, .int .u64 a1_9, .int .u64 a1_10, .int .u64 a1_11, .int .u64 a1_12] 24 (0, 0)) (by (with_reducible repeat (first | refine blk_drewN ?_ _ | refine blk_drew ?_ | refine blk_alloc ?_ _)); exact BK176.out)) : gb180 ≠ gb176)); clear BK176; clear HB; have BK176 := n0_; have HB := n1_; have BK180 := n2_; have GW180 := n3_; have GE180 := n4_; have NB176_180 := n5_; have NB180_176 := n6_; clear n0_ n1_ n2_ n3_ n4_ n5_ n6_; clear hb hbox hg; have hnb66 := NB180_176.out; have hnc66 := NB176_180.out; have hcz67_0 : w65.cell? ⟨gb180, 0, none⟩ = some (.bool false) := (blk_cell BK180.out 0).trans rfl; have hcz67_1 : w65.cell? ⟨gb180, 1, none⟩ = some (.bool false) := (blk_cell BK180.out 1).trans rfl; have hfz67_0 := blk_frozen BK180.out 0; have hfz67_1 := blk_frozen BK180.out 1; have hcz68_0 : w65.cell? ⟨gb176, 0, none⟩ = some (.int .u64 a1_0) := (blk_cell BK176.out 0).trans rfl; have hcz68_1 : w65.cell? ⟨gb176, 1, none⟩ = some (.int .u64 a1_1) := (blk_cell BK176.out 1).trans rfl; have hcz68_2 : w65.cell? ⟨gb176, 2, none⟩ = some (.int .u64 a1_2) := (blk_cell BK176.out 2).trans rfl; have hcz68_3 : w65.cell? ⟨gb176, 3, none⟩ = some (.int .u64 a1_3) := (blk_cell BK176.out 3).trans rfl; have hcz68_4 : w65.cell? ⟨gb176, 4, none⟩ = some (.int .u64 a1_4) := (blk_cell BK176.out 4).trans rfl; have hcz68_5 : w65.cell? ⟨gb176, 5, none⟩ = some (.int .u64 a1_5) := (blk_cell BK176.out 5).trans rfl; have hcz68_6 : w65.cell? ⟨gb176, 6, none⟩ = some (.int .u64 a1_6) := (blk_cell BK176.out 6).trans rfl; have hcz68_7 : w65.cell? ⟨gb176, 7, none⟩ = some (.int .u64 a1_7) := (blk_cell BK176.out 7).trans rfl; have hcz68_8 : w65.cell? ⟨gb176, 8, none⟩ = some (.int .u64 a1_8) := (blk_cell BK176.out 8).trans rfl; have hcz68_9 : w65.cell? ⟨gb176, 9, none⟩ = some (.int .u64 a1_9) := (blk_cell BK176.out 9).trans rfl; have hcz68_10 : w65.cell? ⟨gb176, 10, none⟩ = some (.int .u64 a1_10) := (blk_cell BK176.out 10).trans rfl; have hcz68_11 : w65.cell? ⟨gb176, 11, none⟩ = some (.int .u64 a1_11) := (blk_cell BK176.out 11).trans rfl; have hcz68_12 : w65.cell? ⟨gb176, 12, none⟩ = some (.int .u64 a1_12) := (blk_cell BK176.out 12).trans rfl; have hfz68_0 := blk_frozen BK176.out 0; have hfz68_1 := blk_frozen BK176.out 1; have hfz68_2 := blk_frozen BK176.out 2; have hfz68_3 := blk_frozen BK176.out 3; have hfz68_4 := blk_frozen BK176.out 4; have hfz68_5 := blk_frozen BK176.out 5; have hfz68_6 := blk_frozen BK176.out 6; have hfz68_7 := blk_frozen BK176.out 7; have hfz68_8 := blk_frozen BK176.out 8; have hfz68_9 := blk_frozen BK176.out 9; have hfz68_10 := blk_frozen BK176.out 10; have hfz68_11 := blk_frozen BK176.out 11; have hfz68_12 := blk_frozen BK176.out 12) | ((with_reducible refine gate_callee (f := 11) rfl ?_); refine goesL_ (some 21) rfl rfl Tryd.func11 (by kernel_rfl) rfl #[.agg #[.bool t178, .bool t179], .agg #[.int .u64 a1_0, .int .u64 a1_1, .int .u64 a1_2, .int .u64 a1_3, .int .u64 a1_4, .int .u64 a1_5, .int .u64 a1_6, .int .u64 a1_7, .int .u64 a1_8, .int .u64 a1_9, .int .u64 a1_10, .int .u64 a1_11, .int .u64 a1_12]] rfl (by (try simp only [List.map_toArray, List.map_cons, List.map_nil]); first | done | rfl | (simp only [List.length_drop, List.length_take]; rfl)) ?_; (with_reducible refine (ehdr_Put.calls k t178 t179 a1_0 a1_1 a1_2 a1_3 a1_4 a1_5 a1_6 a1_7 a1_8 a1_9 a1_10 a1_11 a1_12 t181 true _ ?side1 A7.out).mono ?_); (case side1 => exact Laid_ehdr.below HLD_ehdr.out (by repeat (first | (with_reducible first | exact HB.out | apply below_alloc | apply pw_below_drewN | apply below_drew1 | refine below_set ?_ GE176.out | refine below_set ?_ GE180.out) | exact HB.out))); rintro e w69 ⟨rfl, hb⟩; refine ⟨_, rfl, ?_⟩; have n0_ := Aside0.mk (blk_below (g := gb176) (o := .cells #[.int .u64 a1_0, .int .u64 a1_1, .int .u64 a1_2, .int .u64 a1_3, .int .u64 a1_4, .int .u64 a1_5, .int .u64 a1_6, .int .u64 a1_7, .int .u64 a1_8, .int .u64 a1_9, .int .u64 a1_10, .int .u64 a1_11, .int .u64 a1_12] 24 (0, 0)) (by (with_reducible repeat (first | refine blk_drewN ?_ _ | refine blk_drew ?_ | refine blk_alloc ?_ _)); refine blk_far ?_ NB176_180.out _; (with_reducible repeat (first | refine blk_drewN ?_ _ | refine blk_drew ?_ | refine blk_alloc ?_ _)); refine blk_far ?_ NB176_180.out _; (with_reducible repeat (first | refine blk_drewN ?_ _ | refine blk_drew ?_ | refine blk_alloc ?_ _)); exact BK176.out) hb); have n1_ := Aside0.mk (blk_below (g := gb180) (o := .cells #[.bool t178, .bool t179] 29 (0, 0)) (by (with_reducible repeat (first | refine blk_drewN ?_ _ | refine blk_drew ?_ | refine blk_alloc ?_ _)); refine blk_put (cs := #[.bool t178, .bool false]) ?_ 1 _ rfl; (with_reducible repeat (first | refine blk_drewN ?_ _ | refine blk_drew ?_ | refine blk_alloc ?_ _)); refine blk_put (cs := #[.bool false, .bool false]) ?_ 0 _ rfl; (with_reducible repeat (first | refine blk_drewN ?_ _ | refine blk_drew ?_ | refine blk_alloc ?_ _)); exact BK180.out) hb); have n2_ := Aside0.mk (below_step (by repeat (first | (with_reducible first | exact HB.out | apply below_alloc | apply pw_below_drewN | apply below_drew1 | refine below_set ?_ GE176.out | refine below_set ?_ GE180.out) | exact HB.out)) hb); clear BK176; clear BK180; clear HB; have BK176 := n0_; have BK180 := n1_; have HB := n2_; clear n0_ n1_ n2_; (try clear hb); (try clear hb2); (try clear hk); (try clear hi); have hcz70_0 : w69.cell? ⟨gb180, 0, none⟩ = some (.bool t178) := (blk_cell BK180.out 0).trans rfl; have hcz70_1 : w69.cell? ⟨gb180, 1, none⟩ = some (.bool t179) := (blk_cell BK180.out 1).trans rfl; have hfz70_0 := blk_frozen BK180.out 0; have hfz70_1 := blk_frozen BK180.out 1; have hcz71_0 : w69.cell? ⟨gb176, 0, none⟩ = some (.int .u64 a1_0) := (blk_cell BK176.out 0).trans rfl; have hcz71_1 : w69.cell? ⟨gb176, 1, none⟩ = some (.int .u64 a1_1) := (blk_cell BK176.out 1).trans rfl; have hcz71_2 : w69.cell? ⟨gb176, 2, none⟩ = some (.int .u64 a1_2) := (blk_cell BK176.out 2).trans rfl; have hcz71_3 : w69.cell? ⟨gb176, 3, none⟩ = some (.int .u64 a1_3) := (blk_cell BK176.out 3).trans rfl; have hcz71_4 : w69.cell? ⟨gb176, 4, none⟩ = some (.int .u64 a1_4) := (blk_cell BK176.out 4).trans rfl; have hcz71_5 : w69.cell? ⟨gb176, 5, none⟩ = some (.int .u64 a1_5) := (blk_cell BK176.out 5).trans rfl; have hcz71_6 : w69.cell? ⟨gb176, 6, none⟩ = some (.int .u64 a1_6) := (blk_cell BK176.out 6).trans rfl; have hcz71_7 : w69.cell? ⟨gb176, 7, none⟩ = some (.int .u64 a1_7) := (blk_cell BK176.out 7).trans rfl; have hcz71_8 : w69.cell? ⟨gb176, 8, none⟩ = some (.int .u64 a1_8) := (blk_cell BK176.out 8).trans rfl; have hcz71_9 : w69.cell? ⟨gb176, 9, none⟩ = some (.int .u64 a1_9) := (blk_cell BK176.out 9).trans rfl; have hcz71_10 : w69.cell? ⟨gb176, 10, none⟩ = some (.int .u64 a1_10) := (blk_cell BK176.out 10).trans rfl; have hcz71_11 : w69.cell? ⟨gb176, 11, none⟩ = some (.int .u64 a1_11) := (blk_cell BK176.out 11).trans rfl; have hcz71_12 : w69.cell? ⟨gb176, 12, none⟩ = some (.int .u64 a1_12) := (blk_cell BK176.out 12).trans rfl; have hfz71_0 := blk_frozen BK176.out 0; have hfz71_1 := blk_frozen BK176.out 1; have hfz71_2 := blk_frozen BK176.out 2; have hfz71_3 := blk_frozen BK176.out 3; have hfz71_4 := blk_frozen BK176.out 4; have hfz71_5 := blk_frozen BK176.out 5; have hfz71_6 := blk_frozen BK176.out 6; have hfz71_7 := blk_frozen BK176.out 7; have hfz71_8 := blk_frozen BK176.out 8; have hfz71_9 := blk_frozen BK176.out 9; have hfz71_10 := blk_frozen BK176.out 10; have hfz71_11 := blk_frozen BK176.out 11; have hfz71_12 := blk_frozen BK176.out 12) | ((with_reducible refine gate_callee (f := 12) rfl ?_); refine goesL_ (some 31) rfl rfl Tryd.func12 (by kernel_rfl) rfl #[.bool t179, .bool t178, .agg #[.int .u64 a1_0, .int .u64 a1_1, .int .u64 a1_2, .int .u64 a1_3, .int .u64 a1_4, .int .u64 a1_5, .int .u64 a1_6, .int .u64 a1_7, .int .u64 a1_8, .int .u64 a1_9, .int .u64 a1_10, .int .u64 a1_11, .int .u64 a1_12]] rfl (by (try simp only [List.map_toArray, List.map_cons, List.map_nil]); first | done | rfl | (simp only [List.length_drop, List.length_take]; rfl)) ?_; (with_reducible refine (graverref05_Put.calls k t179 t178 a1_0 a1_1 a1_2 a1_3 a1_4 a1_5 a1_6 a1_7 a1_8 a1_9 a1_10 a1_11 a1_12 t183 t184 _ A8.out).mono ?_); rintro e w72 ⟨rfl, hb⟩; refine ⟨_, rfl, ?_⟩; have n0_ := Aside0.mk (blk_below (g := gb176) (o := .cells #[.int .u64 a1_0, .int .u64 a1_1, .int .u64 a1_2, .int .u64 a1_3, .int .u64 a1_4, .int .u64 a1_5, .int .u64 a1_6, .int .u64 a1_7, .int .u64 a1_8, .int .u64 a1_9, .int .u64 a1_10, .int .u64 a1_11, .int .u64 a1_12] 24 (0, 0)) (by (with_reducible repeat (first | refine blk_drewN ?_ _ | refine blk_drew ?_ | refine blk_alloc ?_ _)); exact BK176.out) hb); have n1_ := Aside0.mk (blk_below (g := gb180) (o := .cells #[.bool t178, .bool t179] 29 (0, 0)) (by (with_reducible repeat (first | refine blk_drewN ?_ _ | refine blk_drew ?_ | refine blk_alloc ?_ _)); exact BK180.out) hb); have n2_ := Aside0.mk (below_step (by repeat (first | (with_reducible first | exact HB.out | apply below_alloc | apply pw_below_drewN | apply below_drew1 | refine below_set ?_ GE176.out | refine below_set ?_ GE180.out) | exact HB.out)) hb); clear BK176; clear BK180; clear HB; have BK176 := n0_; have BK180 := n1_; have HB := n2_; clear n0_ n1_ n2_; (try clear hb); (try clear hb2); (try clear hk); (try clear hi)))
         have n0_ := Aside0.mk (blk_drew BK176.out)
         have n1_ := Aside0.mk (blk_drew BK180.out)
         have n2_ := Aside0.mk (below_drew1 HB.out)
         clear BK176
         clear BK180
         clear HB
         have BK176 := n0_
         have BK180 := n1_
         have HB := n2_
         clear n0_ n1_ n2_
         refine start_ (n := 15) (S := fun w' => w'.cell? ⟨gb180, 0, none⟩ = some (.bool t178) ∧ w'.cell? ⟨gb180, 1, none⟩ = some (.bool t179)) (ds := []) #[false, false, false, false, false, false, false, false, false, false, false, false, false, false, false] (by kernel_rfl) rfl rfl ⟨(blk_cell BK180.out 0).trans rfl, (blk_cell BK180.out 1).trans rfl⟩ (fun hHeld => ?_); refine with_tabW graverlaw05_EhdrPuts.tab8 graverlaw05_EhdrPuts.bits8 (fun HT_ HW_ => ?_)
         generalize w72.drew = w73 at BK176 BK180 HB hHeld ⊢
         refine pure_ (i := 1) (N := some 44) (v := ?_) (a' := ?_) (bm 15 2) rfl rfl (any_of HT_.out (by kernel_rfl)) (fun _ _ _ h => h) (Or.inl ⟨by rfl, ?_⟩) ?_ ?_
         rotate_left
         ·
          intro w'
          go_simp
          with_reducible rfl
         rotate_left
         ·
          simp only [Act.put, List.setIfInBounds_toArray, List.set_cons_zero, List.set_cons_succ, i64_w, i32_w]
          rfl
         refine pure_ (i := 2) (N := some 45) (v := ?_) (a' := ?_) (bm 15 6) rfl rfl (any_of HT_.out (by kernel_rfl)) (fun _ _ _ h => h) (Or.inl ⟨by rfl, ?_⟩) ?_ ?_
         rotate_left
         ·
          intro w'
          go_simp
          with_reducible rfl
         rotate_left
         ·
          simp only [Act.put, List.setIfInBounds_toArray, List.set_cons_zero, List.set_cons_succ, i64_w, i32_w]
          rfl
         refine pure_ (i := 3) (N := some 46) (v := ?_) (a' := ?_) (bm 15 14) rfl rfl (any_of HT_.out (by kernel_rfl)) (fun _ _ _ h => h) (Or.inl ⟨by rfl, ?_⟩) ?_ ?_
         rotate_left
         ·
          intro w'
          go_simp
          with_reducible rfl
         rotate_left
         ·
          simp only [Act.put, List.setIfInBounds_toArray, List.set_cons_zero, List.set_cons_succ, i64_w, i32_w]
          rfl
         refine pure_ (i := 4) (N := some 47) (v := ?_) (a' := ?_) (bm 15 30) rfl rfl (any_of HT_.out (by kernel_rfl)) (fun _ _ _ h => h) (Or.inl ⟨by rfl, ?_⟩) ?_ ?_
         rotate_left
         ·
          intro w'
          go_simp
          with_reducible rfl
         rotate_left
         ·
          simp only [Act.put, List.setIfInBounds_toArray, List.set_cons_zero, List.set_cons_succ, i64_w, i32_w]
          rfl
         refine pure_ (i := 5) (N := some 48) (v := ?_) (a' := ?_) (bm 15 62) rfl rfl (any_of HT_.out (by kernel_rfl)) (fun _ _ _ h => h) (Or.inl ⟨by rfl, ?_⟩) ?_ ?_
         rotate_left
         ·
          intro w'
          go_simp
          with_reducible rfl
         rotate_left
         ·
          simp only [Act.put, List.setIfInBounds_toArray, List.set_cons_zero, List.set_cons_succ, i64_w, i32_w]
          rfl
         refine pure_ (i := 6) (N := some 49) (v := ?_) (a' := ?_) (bm 15 126) rfl rfl (any_of HT_.out (by kernel_rfl)) (fun _ _ _ h => h) (Or.inl ⟨by rfl, ?_⟩) ?_ ?_
         rotate_left
         ·
          intro w'
          go_simp
          with_reducible rfl
         rotate_left
         ·
          simp only [Act.put, List.setIfInBounds_toArray, List.set_cons_zero, List.set_cons_succ, i64_w, i32_w]
          rfl
         refine pure_ (i := 7) (N := some 50) (v := ?_) (a' := ?_) (bm 15 254) rfl rfl (any_of HT_.out (by kernel_rfl)) (fun _ _ _ h => h) (Or.inl ⟨by rfl, ?_⟩) ?_ ?_
         rotate_left
         ·
          intro w'
          go_simp
          with_reducible rfl
         rotate_left
         ·
          simp only [Act.put, List.setIfInBounds_toArray, List.set_cons_zero, List.set_cons_succ, i64_w, i32_w]
          rfl
         refine take_ (i := 0) (N := some 43) (v := ?_) (a' := ?_) (bm 15 255) rfl rfl (take_ofW HT_.out HW_.out (by kernel_rfl)) (fun _ _ _ h => h) (Or.inl ⟨by rfl, ?_⟩) hHeld ?_ ?_
         rotate_left
         ·
          rintro w' ⟨s0, s1⟩
          go_simp
          with_reducible rfl
         rotate_left
         ·
          simp only [Act.put, List.setIfInBounds_toArray, List.set_cons_zero, List.set_cons_succ, i64_w, i32_w]
          rfl
         refine join_ (σ := Nat) 2 (bm 15 8191) (fun s_ => [(51, .tuple #[.agg #[.int .u64 t185, .int .u64 t186, .int .u64 t187, .int .u64 t188, .int .u64 t189, .int .u64 t190, .int .u64 t191, .int .u64 t192, .int .u64 t193, .int .u64 t194, .int .u64 t195, .int .u64 t196, .int .u64 t197], .bool false]), (12, .pointer (some ⟨s_, 0, none⟩)), (42, .tuple #[.agg #[.int .u64 t185, .int .u64 t186, .int .u64 t187, .int .u64 t188, .int .u64 t189, .int .u64 t190, .int .u64 t191, .int .u64 t192, .int .u64 t193, .int .u64 t194, .int .u64 t195, .int .u64 t196, .int .u64 t197], .bool false]), (52, .agg #[.int .u64 t185, .int .u64 t186, .int .u64 t187, .int .u64 t188, .int .u64 t189, .int .u64 t190, .int .u64 t191, .int .u64 t192, .int .u64 t193, .int .u64 t194, .int .u64 t195, .int .u64 t196, .int .u64 t197]), (53, .bool false)]) (fun s_ w' => (w'.cell? ⟨gb180, 0, none⟩ = some (.bool t178) ∧ w'.cell? ⟨gb180, 1, none⟩ = some (.bool t179)) ∧ (w'.heap[gb176]? = some (.cells #[.int .u64 a1_0, .int .u64 a1_1, .int .u64 a1_2, .int .u64 a1_3, .int .u64 a1_4, .int .u64 a1_5, .int .u64 a1_6, .int .u64 a1_7, .int .u64 a1_8, .int .u64 a1_9, .int .u64 a1_10, .int .u64 a1_11, .int .u64 a1_12] 24 (0, 0))) ∧ (w'.heap[gb180]? = some (.cells #[.bool t178, .bool t179] 29 (0, 0))) ∧ (w'.heap[s_]? = some (.cells #[.int .u64 0, .int .u64 0, .int .u64 0, .int .u64 0, .int .u64 0, .int .u64 0, .int .u64 0, .int .u64 0, .int .u64 0, .int .u64 0, .int .u64 0, .int .u64 0, .int .u64 0] 33 (0, 0))) ∧ (w.heap.size ≤ s_) ∧ (w.heap.size ≤ s_) ∧ (gb176 ≠ s_) ∧ (s_ ≠ gb176) ∧ (gb180 ≠ s_) ∧ (s_ ≠ gb180) ∧ (Below w.heap.size w w')) ?_ ?_
         rotate_left
         ·
          intro hCont
          refine two_ (i := 8) (j := 12) (Ni := some 51) (Nj := some 12) (bm 15 511) (bm 15 4351) rfl rfl rfl rfl (two_of HT_.out (by kernel_rfl)) (by decide) (by decide) (fun K hK => ?_) (fun K hK => ?_)
          ·
           skip
           refine goes_ Tryd.func13 (by kernel_rfl) rfl #[.agg #[.bool t178, .bool t179], .string (t181 ++ sc25)] (by rfl) rfl rfl (by (try simp only [List.map_toArray, List.map_cons, List.map_nil]); first | done | rfl | (simp only [List.length_drop, List.length_take]; rfl)) ?_
           with_reducible refine (ehdr_Read.calls k t178 t179 (t181 ++ sc25) t185 t186 t187 t188 t189 t190 t191 t192 t193 t194 t195 t196 t197 false _ ?side1 A27.out).mono ?_
           (case side1 => exact Laid_ehdr.below HLD_ehdr.out (by repeat (first | (with_reducible first | exact HB.out | apply below_alloc | apply pw_below_drewN | apply below_drew1 | refine below_set ?_ GE176.out | refine below_set ?_ GE180.out) | exact HB.out)))
           rintro e w74 ⟨rfl, hb⟩
           refine ⟨_, rfl, ?_⟩
           have n0_ := Aside0.mk (blk_below (g := gb176) (o := .cells #[.int .u64 a1_0, .int .u64 a1_1, .int .u64 a1_2, .int .u64 a1_3, .int .u64 a1_4, .int .u64 a1_5, .int .u64 a1_6, .int .u64 a1_7, .int .u64 a1_8, .int .u64 a1_9, .int .u64 a1_10, .int .u64 a1_11, .int .u64 a1_12] 24 (0, 0)) (by (with_reducible repeat (first | refine blk_drewN ?_ _ | refine blk_drew ?_ | refine blk_alloc ?_ _)); exact BK176.out) hb)
           have n1_ := Aside0.mk (blk_below (g := gb180) (o := .cells #[.bool t178, .bool t179] 29 (0, 0)) (by (with_reducible repeat (first | refine blk_drewN ?_ _ | refine blk_drew ?_ | refine blk_alloc ?_ _)); exact BK180.out) hb)
           have n2_ := Aside0.mk (below_step (by repeat (first | (with_reducible first | exact HB.out | apply below_alloc | apply pw_below_drewN | apply below_drew1 | refine below_set ?_ GE176.out | refine below_set ?_ GE180.out) | exact HB.out)) hb)
           clear BK176
           clear BK180
           clear HB
           have BK176 := n0_
           have BK180 := n1_
           have HB := n2_
           clear n0_ n1_ n2_
           (try clear hb)
           (try clear hb2)
           (try clear hk)
           (try clear hi)
           refine hK.out _ _ ⟨(blk_cell BK180.out 0).trans rfl, (blk_cell BK180.out 1).trans rfl⟩ (fun hHeld => ?_)
           clear hK K
           refine norm_ (a' := ?_) ?_ ?_
           rotate_left
           ·
            show Act.put _ (some 51) _ = _
            simp only [Act.put, List.setIfInBounds_toArray, List.set_cons_zero, List.set_cons_succ, i64_w, i32_w]
            rfl
           refine pure_ (i := 9) (N := some 42) (v := ?_) (a' := ?_) (bm 15 1023) rfl rfl (any_of HT_.out (by kernel_rfl)) (fun _ _ _ h => h) (Or.inl ⟨by rfl, ?_⟩) ?_ ?_
           rotate_left
           ·
            intro w'
            go_simp
            with_reducible rfl
           rotate_left
           ·
            simp only [Act.put, List.setIfInBounds_toArray, List.set_cons_zero, List.set_cons_succ, i64_w, i32_w]
            rfl
           refine pure_ (i := 10) (N := some 52) (v := ?_) (a' := ?_) (bm 15 2047) rfl rfl (any_of HT_.out (by kernel_rfl)) (fun _ _ _ h => h) (Or.inl ⟨by rfl, ?_⟩) ?_ ?_
           rotate_left
           ·
            intro w'
            go_simp
            with_reducible rfl
           rotate_left
           ·
            simp only [Act.put, List.setIfInBounds_toArray, List.set_cons_zero, List.set_cons_succ, i64_w, i32_w]
            rfl
           refine pure_ (i := 11) (N := some 53) (v := ?_) (a' := ?_) (bm 15 4095) rfl rfl (any_of HT_.out (by kernel_rfl)) (fun _ _ _ h => h) (Or.inl ⟨by rfl, ?_⟩) ?_ ?_
           rotate_left
           ·
            intro w'
            go_simp
            with_reducible rfl
           rotate_left
           ·
            simp only [Act.put, List.setIfInBounds_toArray, List.set_cons_zero, List.set_cons_succ, i64_w, i32_w]
            rfl
           refine one_ (i := 12) (N := some 12) (bm 15 8191) rfl rfl (one_of HT_.out (by kernel_rfl)) (by decide) (fun K hK => ?_)
           refine box_step ?hg (N := 12) ?hd (cs := #[.int .u64 0, .int .u64 0, .int .u64 0, .int .u64 0, .int .u64 0, .int .u64 0, .int .u64 0, .int .u64 0, .int .u64 0, .int .u64 0, .int .u64 0, .int .u64 0, .int .u64 0]) (t := 33) ?hr ?_; (case hd => rfl); (case hg => rfl); (case hr => first | (go_simp; done) | (go_simp; rfl))
           intro gb199 hg w75 hbox hb
           have n0_ := Aside0.mk (blk_below (g := gb176) (o := .cells #[.int .u64 a1_0, .int .u64 a1_1, .int .u64 a1_2, .int .u64 a1_3, .int .u64 a1_4, .int .u64 a1_5, .int .u64 a1_6, .int .u64 a1_7, .int .u64 a1_8, .int .u64 a1_9, .int .u64 a1_10, .int .u64 a1_11, .int .u64 a1_12] 24 (0, 0)) (by (with_reducible repeat (first | refine blk_drewN ?_ _ | refine blk_drew ?_ | refine blk_alloc ?_ _)); exact BK176.out) hb)
           have n1_ := Aside0.mk (blk_below (g := gb180) (o := .cells #[.bool t178, .bool t179] 29 (0, 0)) (by (with_reducible repeat (first | refine blk_drewN ?_ _ | refine blk_drew ?_ | refine blk_alloc ?_ _)); exact BK180.out) hb)
           have n2_ := Aside0.mk (below_step (by repeat (first | (with_reducible first | exact HB.out | apply below_alloc | apply pw_below_drewN | apply below_drew1 | refine below_set ?_ GE176.out | refine below_set ?_ GE180.out) | exact HB.out)) hb)
           have n3_ := Aside0.mk (hbox)
           have n4_ := Aside0.mk ((by rw [hg]; exact (below_size (by repeat (first | (with_reducible first | exact HB.out | apply below_alloc | apply pw_below_drewN | apply below_drew1 | refine below_set ?_ GE176.out | refine below_set ?_ GE180.out) | exact HB.out))) : w.heap.size ≤ gb199))
           have n5_ := Aside0.mk ((by rw [hg]; exact (below_size (by repeat (first | (with_reducible first | exact HB.out | apply below_alloc | apply pw_below_drewN | apply below_drew1 | refine below_set ?_ GE176.out | refine below_set ?_ GE180.out) | exact HB.out))) : w.heap.size ≤ gb199))
           have n6_ := Aside0.mk ((by rw [hg]; exact Nat.ne_of_lt (blk_lt (g := gb176) (o := .cells #[.int .u64 a1_0, .int .u64 a1_1, .int .u64 a1_2, .int .u64 a1_3, .int .u64 a1_4, .int .u64 a1_5, .int .u64 a1_6, .int .u64 a1_7, .int .u64 a1_8, .int .u64 a1_9, .int .u64 a1_10, .int .u64 a1_11, .int .u64 a1_12] 24 (0, 0)) (by (with_reducible repeat (first | refine blk_drewN ?_ _ | refine blk_drew ?_ | refine blk_alloc ?_ _)); exact BK176.out)) : gb176 ≠ gb199))
           have n7_ := Aside0.mk ((by rw [hg]; exact Nat.ne_of_gt (blk_lt (g := gb176) (o := .cells #[.int .u64 a1_0, .int .u64 a1_1, .int .u64 a1_2, .int .u64 a1_3, .int .u64 a1_4, .int .u64 a1_5, .int .u64 a1_6, .int .u64 a1_7, .int .u64 a1_8, .int .u64 a1_9, .int .u64 a1_10, .int .u64 a1_11, .int .u64 a1_12] 24 (0, 0)) (by (with_reducible repeat (first | refine blk_drewN ?_ _ | refine blk_drew ?_ | refine blk_alloc ?_ _)); exact BK176.out)) : gb199 ≠ gb176))
           have n8_ := Aside0.mk ((by rw [hg]; exact Nat.ne_of_lt (blk_lt (g := gb180) (o := .cells #[.bool t178, .bool t179] 29 (0, 0)) (by (with_reducible repeat (first | refine blk_drewN ?_ _ | refine blk_drew ?_ | refine blk_alloc ?_ _)); exact BK180.out)) : gb180 ≠ gb199))
           have n9_ := Aside0.mk ((by rw [hg]; exact Nat.ne_of_gt (blk_lt (g := gb180) (o := .cells #[.bool t178, .bool t179] 29 (0, 0)) (by (with_reducible repeat (first | refine blk_drewN ?_ _ | refine blk_drew ?_ | refine blk_alloc ?_ _)); exact BK180.out)) : gb199 ≠ gb180))
           clear BK176
           clear BK180
           clear HB
           have BK176 := n0_
           have BK180 := n1_
           have HB := n2_
           have BK199 := n3_
           have GW199 := n4_
           have GE199 := n5_
           have NB176_199 := n6_
           have NB199_176 := n7_
           have NB180_199 := n8_
           have NB199_180 := n9_
           clear n0_ n1_ n2_ n3_ n4_ n5_ n6_ n7_ n8_ n9_
           clear hb hbox hg
           refine hK.out _ _ ⟨(blk_cell BK180.out 0).trans rfl, (blk_cell BK180.out 1).trans rfl⟩ (fun hHeld => ?_)
           clear hK K
           refine norm_ (a' := ?_) ?_ ?_
           rotate_left
           ·
            show Act.put _ (some 12) _ = _
            simp only [Act.put, List.setIfInBounds_toArray, List.set_cons_zero, List.set_cons_succ, i64_w, i32_w]
            rfl
           exact norm_ (by simp only [putAll, Act.put, List.setIfInBounds_toArray, List.set_cons_zero, List.set_cons_succ]) (hCont (gb199) _ ⟨hHeld, (by (with_reducible repeat (first | refine blk_drewN ?_ _ | refine blk_drew ?_ | refine blk_alloc ?_ _)); exact BK176.out), (by (with_reducible repeat (first | refine blk_drewN ?_ _ | refine blk_drew ?_ | refine blk_alloc ?_ _)); exact BK180.out), (by (with_reducible repeat (first | refine blk_drewN ?_ _ | refine blk_drew ?_ | refine blk_alloc ?_ _)); exact BK199.out), GW199.out, GE199.out, NB176_199.out, NB199_176.out, NB180_199.out, NB199_180.out, (by repeat (first | (with_reducible first | exact HB.out | apply below_alloc | apply pw_below_drewN | apply below_drew1 | refine below_set ?_ GE176.out | refine below_set ?_ GE180.out | refine below_set ?_ GE199.out) | exact HB.out))⟩)
          ·
           skip
           refine box_step ?hg (N := 12) ?hd (cs := #[.int .u64 0, .int .u64 0, .int .u64 0, .int .u64 0, .int .u64 0, .int .u64 0, .int .u64 0, .int .u64 0, .int .u64 0, .int .u64 0, .int .u64 0, .int .u64 0, .int .u64 0]) (t := 33) ?hr ?_; (case hd => rfl); (case hg => rfl); (case hr => first | (go_simp; done) | (go_simp; rfl))
           intro gb199 hg w74 hbox hb
           have n0_ := Aside0.mk (blk_below (g := gb176) (o := .cells #[.int .u64 a1_0, .int .u64 a1_1, .int .u64 a1_2, .int .u64 a1_3, .int .u64 a1_4, .int .u64 a1_5, .int .u64 a1_6, .int .u64 a1_7, .int .u64 a1_8, .int .u64 a1_9, .int .u64 a1_10, .int .u64 a1_11, .int .u64 a1_12] 24 (0, 0)) (by (with_reducible repeat (first | refine blk_drewN ?_ _ | refine blk_drew ?_ | refine blk_alloc ?_ _)); exact BK176.out) hb)
           have n1_ := Aside0.mk (blk_below (g := gb180) (o := .cells #[.bool t178, .bool t179] 29 (0, 0)) (by (with_reducible repeat (first | refine blk_drewN ?_ _ | refine blk_drew ?_ | refine blk_alloc ?_ _)); exact BK180.out) hb)
           have n2_ := Aside0.mk (below_step (by repeat (first | (with_reducible first | exact HB.out | apply below_alloc | apply pw_below_drewN | apply below_drew1 | refine below_set ?_ GE176.out | refine below_set ?_ GE180.out) | exact HB.out)) hb)
           have n3_ := Aside0.mk (hbox)
           have n4_ := Aside0.mk ((by rw [hg]; exact (below_size (by repeat (first | (with_reducible first | exact HB.out | apply below_alloc | apply pw_below_drewN | apply below_drew1 | refine below_set ?_ GE176.out | refine below_set ?_ GE180.out) | exact HB.out))) : w.heap.size ≤ gb199))
           have n5_ := Aside0.mk ((by rw [hg]; exact (below_size (by repeat (first | (with_reducible first | exact HB.out | apply below_alloc | apply pw_below_drewN | apply below_drew1 | refine below_set ?_ GE176.out | refine below_set ?_ GE180.out) | exact HB.out))) : w.heap.size ≤ gb199))
           have n6_ := Aside0.mk ((by rw [hg]; exact Nat.ne_of_lt (blk_lt (g := gb176) (o := .cells #[.int .u64 a1_0, .int .u64 a1_1, .int .u64 a1_2, .int .u64 a1_3, .int .u64 a1_4, .int .u64 a1_5, .int .u64 a1_6, .int .u64 a1_7, .int .u64 a1_8, .int .u64 a1_9, .int .u64 a1_10, .int .u64 a1_11, .int .u64 a1_12] 24 (0, 0)) (by (with_reducible repeat (first | refine blk_drewN ?_ _ | refine blk_drew ?_ | refine blk_alloc ?_ _)); exact BK176.out)) : gb176 ≠ gb199))
           have n7_ := Aside0.mk ((by rw [hg]; exact Nat.ne_of_gt (blk_lt (g := gb176) (o := .cells #[.int .u64 a1_0, .int .u64 a1_1, .int .u64 a1_2, .int .u64 a1_3, .int .u64 a1_4, .int .u64 a1_5, .int .u64 a1_6, .int .u64 a1_7, .int .u64 a1_8, .int .u64 a1_9, .int .u64 a1_10, .int .u64 a1_11, .int .u64 a1_12] 24 (0, 0)) (by (with_reducible repeat (first | refine blk_drewN ?_ _ | refine blk_drew ?_ | refine blk_alloc ?_ _)); exact BK176.out)) : gb199 ≠ gb176))
           have n8_ := Aside0.mk ((by rw [hg]; exact Nat.ne_of_lt (blk_lt (g := gb180) (o := .cells #[.bool t178, .bool t179] 29 (0, 0)) (by (with_reducible repeat (first | refine blk_drewN ?_ _ | refine blk_drew ?_ | refine blk_alloc ?_ _)); exact BK180.out)) : gb180 ≠ gb199))
           have n9_ := Aside0.mk ((by rw [hg]; exact Nat.ne_of_gt (blk_lt (g := gb180) (o := .cells #[.bool t178, .bool t179] 29 (0, 0)) (by (with_reducible repeat (first | refine blk_drewN ?_ _ | refine blk_drew ?_ | refine blk_alloc ?_ _)); exact BK180.out)) : gb199 ≠ gb180))
           clear BK176
           clear BK180
           clear HB
           have BK176 := n0_
           have BK180 := n1_
           have HB := n2_
           have BK199 := n3_
           have GW199 := n4_
           have GE199 := n5_
           have NB176_199 := n6_
           have NB199_176 := n7_
           have NB180_199 := n8_
           have NB199_180 := n9_
           clear n0_ n1_ n2_ n3_ n4_ n5_ n6_ n7_ n8_ n9_
           clear hb hbox hg
           refine hK.out _ _ ⟨(blk_cell BK180.out 0).trans rfl, (blk_cell BK180.out 1).trans rfl⟩ (fun hHeld => ?_)
           clear hK K
           refine norm_ (a' := ?_) ?_ ?_
           rotate_left
           ·
            show Act.put _ (some 12) _ = _
            simp only [Act.put, List.setIfInBounds_toArray, List.set_cons_zero, List.set_cons_succ, i64_w, i32_w]
            rfl
           refine one_ (i := 8) (N := some 51) (bm 15 4607) rfl rfl (one_of HT_.out (by kernel_rfl)) (by decide) (fun K hK => ?_)
           refine goes_ Tryd.func13 (by kernel_rfl) rfl #[.agg #[.bool t178, .bool t179], .string (t181 ++ sc25)] (by rfl) rfl rfl (by (try simp only [List.map_toArray, List.map_cons, List.map_nil]); first | done | rfl | (simp only [List.length_drop, List.length_take]; rfl)) ?_
           with_reducible refine (ehdr_Read.calls k t178 t179 (t181 ++ sc25) t185 t186 t187 t188 t189 t190 t191 t192 t193 t194 t195 t196 t197 false _ ?side1 A27.out).mono ?_
           (case side1 => exact Laid_ehdr.below HLD_ehdr.out (by repeat (first | (with_reducible first | exact HB.out | apply below_alloc | apply pw_below_drewN | apply below_drew1 | refine below_set ?_ GE176.out | refine below_set ?_ GE180.out | refine below_set ?_ GE199.out) | exact HB.out)))
           rintro e w75 ⟨rfl, hb⟩
           refine ⟨_, rfl, ?_⟩
           have n0_ := Aside0.mk (blk_below (g := gb176) (o := .cells #[.int .u64 a1_0, .int .u64 a1_1, .int .u64 a1_2, .int .u64 a1_3, .int .u64 a1_4, .int .u64 a1_5, .int .u64 a1_6, .int .u64 a1_7, .int .u64 a1_8, .int .u64 a1_9, .int .u64 a1_10, .int .u64 a1_11, .int .u64 a1_12] 24 (0, 0)) (by (with_reducible repeat (first | refine blk_drewN ?_ _ | refine blk_drew ?_ | refine blk_alloc ?_ _)); exact BK176.out) hb)
           have n1_ := Aside0.mk (blk_below (g := gb180) (o := .cells #[.bool t178, .bool t179] 29 (0, 0)) (by (with_reducible repeat (first | refine blk_drewN ?_ _ | refine blk_drew ?_ | refine blk_alloc ?_ _)); exact BK180.out) hb)
           have n2_ := Aside0.mk (blk_below (g := gb199) (o := .cells #[.int .u64 0, .int .u64 0, .int .u64 0, .int .u64 0, .int .u64 0, .int .u64 0, .int .u64 0, .int .u64 0, .int .u64 0, .int .u64 0, .int .u64 0, .int .u64 0, .int .u64 0] 33 (0, 0)) (by (with_reducible repeat (first | refine blk_drewN ?_ _ | refine blk_drew ?_ | refine blk_alloc ?_ _)); exact BK199.out) hb)
           have n3_ := Aside0.mk (below_step (by repeat (first | (with_reducible first | exact HB.out | apply below_alloc | apply pw_below_drewN | apply below_drew1 | refine below_set ?_ GE176.out | refine below_set ?_ GE180.out | refine below_set ?_ GE199.out) | exact HB.out)) hb)
           clear BK176
           clear BK180
           clear BK199
           clear HB
           have BK176 := n0_
           have BK180 := n1_
           have BK199 := n2_
           have HB := n3_
           clear n0_ n1_ n2_ n3_
           (try clear hb)
           (try clear hb2)
           (try clear hk)
           (try clear hi)
           refine hK.out _ _ ⟨(blk_cell BK180.out 0).trans rfl, (blk_cell BK180.out 1).trans rfl⟩ (fun hHeld => ?_)
           clear hK K
           refine norm_ (a' := ?_) ?_ ?_
           rotate_left
           ·
            show Act.put _ (some 51) _ = _
            simp only [Act.put, List.setIfInBounds_toArray, List.set_cons_zero, List.set_cons_succ, i64_w, i32_w]
            rfl
           refine pure_ (i := 9) (N := some 42) (v := ?_) (a' := ?_) (bm 15 5119) rfl rfl (any_of HT_.out (by kernel_rfl)) (fun _ _ _ h => h) (Or.inl ⟨by rfl, ?_⟩) ?_ ?_
           rotate_left
           ·
            intro w'
            go_simp
            with_reducible rfl
           rotate_left
           ·
            simp only [Act.put, List.setIfInBounds_toArray, List.set_cons_zero, List.set_cons_succ, i64_w, i32_w]
            rfl
           refine pure_ (i := 10) (N := some 52) (v := ?_) (a' := ?_) (bm 15 6143) rfl rfl (any_of HT_.out (by kernel_rfl)) (fun _ _ _ h => h) (Or.inl ⟨by rfl, ?_⟩) ?_ ?_
           rotate_left
           ·
            intro w'
            go_simp
            with_reducible rfl
           rotate_left
           ·
            simp only [Act.put, List.setIfInBounds_toArray, List.set_cons_zero, List.set_cons_succ, i64_w, i32_w]
            rfl
           refine pure_ (i := 11) (N := some 53) (v := ?_) (a' := ?_) (bm 15 8191) rfl rfl (any_of HT_.out (by kernel_rfl)) (fun _ _ _ h => h) (Or.inl ⟨by rfl, ?_⟩) ?_ ?_
           rotate_left
           ·
            intro w'
            go_simp
            with_reducible rfl
           rotate_left
           ·
            simp only [Act.put, List.setIfInBounds_toArray, List.set_cons_zero, List.set_cons_succ, i64_w, i32_w]
            rfl
           exact norm_ (by simp only [putAll, Act.put, List.setIfInBounds_toArray, List.set_cons_zero, List.set_cons_succ]) (hCont (gb199) _ ⟨hHeld, (by (with_reducible repeat (first | refine blk_drewN ?_ _ | refine blk_drew ?_ | refine blk_alloc ?_ _)); exact BK176.out), (by (with_reducible repeat (first | refine blk_drewN ?_ _ | refine blk_drew ?_ | refine blk_alloc ?_ _)); exact BK180.out), (by (with_reducible repeat (first | refine blk_drewN ?_ _ | refine blk_drew ?_ | refine blk_alloc ?_ _)); exact BK199.out), GW199.out, GE199.out, NB176_199.out, NB199_176.out, NB180_199.out, NB199_180.out, (by repeat (first | (with_reducible first | exact HB.out | apply below_alloc | apply pw_below_drewN | apply below_drew1 | refine below_set ?_ GE176.out | refine below_set ?_ GE180.out | refine below_set ?_ GE199.out) | exact HB.out))⟩)
         rintro gb199 w76 ⟨hS_, h0_, h1_, h2_, h3_, h4_, h5_, h6_, h7_, h8_, h9_⟩
         have n0_ : Aside0 (w76.heap[gb176]? = some (.cells #[.int .u64 a1_0, .int .u64 a1_1, .int .u64 a1_2, .int .u64 a1_3, .int .u64 a1_4, .int .u64 a1_5, .int .u64 a1_6, .int .u64 a1_7, .int .u64 a1_8, .int .u64 a1_9, .int .u64 a1_10, .int .u64 a1_11, .int .u64 a1_12] 24 (0, 0))) := ⟨h0_⟩
         have n1_ : Aside0 (w76.heap[gb180]? = some (.cells #[.bool t178, .bool t179] 29 (0, 0))) := ⟨h1_⟩
         have n2_ : Aside0 (w76.heap[gb199]? = some (.cells #[.int .u64 0, .int .u64 0, .int .u64 0, .int .u64 0, .int .u64 0, .int .u64 0, .int .u64 0, .int .u64 0, .int .u64 0, .int .u64 0, .int .u64 0, .int .u64 0, .int .u64 0] 33 (0, 0))) := ⟨h2_⟩
         have n3_ : Aside0 (w.heap.size ≤ gb199) := ⟨h3_⟩
         have n4_ : Aside0 (w.heap.size ≤ gb199) := ⟨h4_⟩
         have n5_ : Aside0 (gb176 ≠ gb199) := ⟨h5_⟩
         have n6_ : Aside0 (gb199 ≠ gb176) := ⟨h6_⟩
         have n7_ : Aside0 (gb180 ≠ gb199) := ⟨h7_⟩
         have n8_ : Aside0 (gb199 ≠ gb180) := ⟨h8_⟩
         have n9_ : Aside0 (Below w.heap.size w w76) := ⟨h9_⟩
         clear BK176
         clear BK180
         clear HB
         clear h0_ h1_ h2_ h3_ h4_ h5_ h6_ h7_ h8_ h9_
         have BK176 := n0_
         have BK180 := n1_
         have BK199 := n2_
         have GW199 := n3_
         have GE199 := n4_
         have NB176_199 := n5_
         have NB199_176 := n6_
         have NB180_199 := n7_
         have NB199_180 := n8_
         have HB := n9_
         clear n0_ n1_ n2_ n3_ n4_ n5_ n6_ n7_ n8_ n9_
         have hHeld : w76.cell? ⟨gb180, 0, none⟩ = some (.bool t178) ∧ w76.cell? ⟨gb180, 1, none⟩ = some (.bool t179) := hS_
         refine norm_ (a' := ?_) ?_ ?_
         rotate_left
         ·
          simp only [putAll, Act.put, List.setIfInBounds_toArray, List.set_cons_zero, List.set_cons_succ]
          rfl
         refine one_ (i := 13) (N := none) (bm 15 16383) rfl rfl (one_of HT_.out (by kernel_rfl)) (by decide) (fun K hK => ?_)
         have hs77 : w76.cell? ⟨gb199, 0, none⟩ = some (.int .u64 0) := (blk_cell BK199.out 0).trans rfl
         have hfs77 := blk_frozen BK199.out 0
         have hns77_0 := NB176_199.out
         have hns77_1 := NB180_199.out
         have hms77_0 := NB199_176.out
         have hms77_1 := NB199_180.out
         have hs78 : w76.cell? ⟨gb199, 1, none⟩ = some (.int .u64 0) := (blk_cell BK199.out 1).trans rfl
         have hfs78 := blk_frozen BK199.out 1
         have hns78_0 := NB176_199.out
         have hns78_1 := NB180_199.out
         have hms78_0 := NB199_176.out
         have hms78_1 := NB199_180.out
         have hs79 : w76.cell? ⟨gb199, 2, none⟩ = some (.int .u64 0) := (blk_cell BK199.out 2).trans rfl
         have hfs79 := blk_frozen BK199.out 2
         have hns79_0 := NB176_199.out
         have hns79_1 := NB180_199.out
         have hms79_0 := NB199_176.out
         have hms79_1 := NB199_180.out
         have hs80 : w76.cell? ⟨gb199, 3, none⟩ = some (.int .u64 0) := (blk_cell BK199.out 3).trans rfl
         have hfs80 := blk_frozen BK199.out 3
         have hns80_0 := NB176_199.out
         have hns80_1 := NB180_199.out
         have hms80_0 := NB199_176.out
         have hms80_1 := NB199_180.out
         have hs81 : w76.cell? ⟨gb199, 4, none⟩ = some (.int .u64 0) := (blk_cell BK199.out 4).trans rfl
         have hfs81 := blk_frozen BK199.out 4
         have hns81_0 := NB176_199.out
         have hns81_1 := NB180_199.out
         have hms81_0 := NB199_176.out
         have hms81_1 := NB199_180.out
         have hs82 : w76.cell? ⟨gb199, 5, none⟩ = some (.int .u64 0) := (blk_cell BK199.out 5).trans rfl
         have hfs82 := blk_frozen BK199.out 5
         have hns82_0 := NB176_199.out
         have hns82_1 := NB180_199.out
         have hms82_0 := NB199_176.out
         have hms82_1 := NB199_180.out
         have hs83 : w76.cell? ⟨gb199, 6, none⟩ = some (.int .u64 0) := (blk_cell BK199.out 6).trans rfl
         have hfs83 := blk_frozen BK199.out 6
         have hns83_0 := NB176_199.out
         have hns83_1 := NB180_199.out
         have hms83_0 := NB199_176.out
         have hms83_1 := NB199_180.out
         have hs84 : w76.cell? ⟨gb199, 7, none⟩ = some (.int .u64 0) := (blk_cell BK199.out 7).trans rfl
         have hfs84 := blk_frozen BK199.out 7
         have hns84_0 := NB176_199.out
         have hns84_1 := NB180_199.out
         have hms84_0 := NB199_176.out
         have hms84_1 := NB199_180.out
         have hs85 : w76.cell? ⟨gb199, 8, none⟩ = some (.int .u64 0) := (blk_cell BK199.out 8).trans rfl
         have hfs85 := blk_frozen BK199.out 8
         have hns85_0 := NB176_199.out
         have hns85_1 := NB180_199.out
         have hms85_0 := NB199_176.out
         have hms85_1 := NB199_180.out
         have hs86 : w76.cell? ⟨gb199, 9, none⟩ = some (.int .u64 0) := (blk_cell BK199.out 9).trans rfl
         have hfs86 := blk_frozen BK199.out 9
         have hns86_0 := NB176_199.out
         have hns86_1 := NB180_199.out
         have hms86_0 := NB199_176.out
         have hms86_1 := NB199_180.out
         have hs87 : w76.cell? ⟨gb199, 10, none⟩ = some (.int .u64 0) := (blk_cell BK199.out 10).trans rfl
         have hfs87 := blk_frozen BK199.out 10
         have hns87_0 := NB176_199.out
         have hns87_1 := NB180_199.out
         have hms87_0 := NB199_176.out
         have hms87_1 := NB199_180.out
         have hs88 : w76.cell? ⟨gb199, 11, none⟩ = some (.int .u64 0) := (blk_cell BK199.out 11).trans rfl
         have hfs88 := blk_frozen BK199.out 11
         have hns88_0 := NB176_199.out
         have hns88_1 := NB180_199.out
         have hms88_0 := NB199_176.out
         have hms88_1 := NB199_180.out
         have hs89 : w76.cell? ⟨gb199, 12, none⟩ = some (.int .u64 0) := (blk_cell BK199.out 12).trans rfl
         have hfs89 := blk_frozen BK199.out 12
         have hns89_0 := NB176_199.out
         have hns89_1 := NB180_199.out
         have hms89_0 := NB199_176.out
         have hms89_1 := NB199_180.out
         refine skip_ (w1 := ?_) (by rfl) rfl ?_ ?_
         rotate_left
         ·
          go_simp
          rfl
         refine hK.out _ _ ⟨((cell_far (p := ⟨gb199, _, none⟩) NB180_199.out _).trans (((cell_far (p := ⟨gb199, _, none⟩) NB180_199.out _).trans (((cell_far (p := ⟨gb199, _, none⟩) NB180_199.out _).trans (((cell_far (p := ⟨gb199, _, none⟩) NB180_199.out _).trans (((cell_far (p := ⟨gb199, _, none⟩) NB180_199.out _).trans (((cell_far (p := ⟨gb199, _, none⟩) NB180_199.out _).trans (((cell_far (p := ⟨gb199, _, none⟩) NB180_199.out _).trans (((cell_far (p := ⟨gb199, _, none⟩) NB180_199.out _).trans (((cell_far (p := ⟨gb199, _, none⟩) NB180_199.out _).trans (((cell_far (p := ⟨gb199, _, none⟩) NB180_199.out _).trans (((cell_far (p := ⟨gb199, _, none⟩) NB180_199.out _).trans (((cell_far (p := ⟨gb199, _, none⟩) NB180_199.out _).trans (((cell_far (p := ⟨gb199, _, none⟩) NB180_199.out _).trans (hHeld.1)))))))))))))))))))))))))), ((cell_far (p := ⟨gb199, _, none⟩) NB180_199.out _).trans (((cell_far (p := ⟨gb199, _, none⟩) NB180_199.out _).trans (((cell_far (p := ⟨gb199, _, none⟩) NB180_199.out _).trans (((cell_far (p := ⟨gb199, _, none⟩) NB180_199.out _).trans (((cell_far (p := ⟨gb199, _, none⟩) NB180_199.out _).trans (((cell_far (p := ⟨gb199, _, none⟩) NB180_199.out _).trans (((cell_far (p := ⟨gb199, _, none⟩) NB180_199.out _).trans (((cell_far (p := ⟨gb199, _, none⟩) NB180_199.out _).trans (((cell_far (p := ⟨gb199, _, none⟩) NB180_199.out _).trans (((cell_far (p := ⟨gb199, _, none⟩) NB180_199.out _).trans (((cell_far (p := ⟨gb199, _, none⟩) NB180_199.out _).trans (((cell_far (p := ⟨gb199, _, none⟩) NB180_199.out _).trans (((cell_far (p := ⟨gb199, _, none⟩) NB180_199.out _).trans (hHeld.2))))))))))))))))))))))))))⟩ (fun hHeld => ?_)
         clear hK K
         refine pure_ (i := 14) (N := some 13) (v := ?_) (a' := ?_) (bm 15 32767) rfl rfl (any_of HT_.out (by kernel_rfl)) (fun _ _ _ h => h) (Or.inl ⟨by rfl, ?_⟩) ?_ ?_
         rotate_left
         ·
          intro w'
          go_simp
          with_reducible rfl
         rotate_left
         ·
          simp only [Act.put, List.setIfInBounds_toArray, List.set_cons_zero, List.set_cons_succ, i64_w, i32_w]
          rfl
         refine done_ (done_of HT_.out (by kernel_rfl)) ?_
         try go_wp2
         go_ret
         exact ⟨by first | rfl | (simp [errW_none, errW_some] <;> rfl) | (simp only [← hji22]; first | rfl | (simp [errW_none, errW_some] <;> rfl)) | (simp [*, errW_none, errW_some] <;> rfl), by repeat (first | (with_reducible first | exact HB.out | apply below_alloc | apply pw_below_drewN | apply below_drew1 | refine below_set ?_ GE176.out | refine below_set ?_ GE180.out | refine below_set ?_ GE199.out) | exact HB.out)⟩
       ·
        replace c28 := Bool.eq_false_iff.mpr c28
        subst c28
        have H1 : (some true) = some r := by rw [if_neg (show ¬ (false = true) by decide)] at H; exact H
        clear H
        have H := H1
        clear H1
        obtain rfl := Option.some.inj H
        go_enter Tryd.func3, Tryd.ntmps3
        try go_wp2_with (first | ((with_reducible refine gate_dst (N := 4) rfl ?_); refine box_event ?hg (N := 4) ?hd (cs := #[.int .u64 a1_0, .int .u64 a1_1, .int .u64 a1_2, .int .u64 a1_3, .int .u64 a1_4, .int .u64 a1_5, .int .u64 a1_6, .int .u64 a1_7, .int .u64 a1_8, .int .u64 a1_9, .int .u64 a1_10, .int .u64 a1_11, .int .u64 a1_12]) (t := 24) ?hr ?_; (case hd => rfl); (case hg => rfl); (case hr => first | (go_simp; done) | (go_simp; rfl)); intro gb176 hg w90 hbox hb; have n0_ := Aside0.mk (below_step (by repeat (first | (with_reducible first | exact HB.out | apply below_alloc | apply pw_below_drewN | apply below_drew1) | exact HB.out)) hb); have n1_ := Aside0.mk (hbox); have n2_ := Aside0.mk ((by rw [hg]; exact (below_size (by repeat (first | (with_reducible first | exact HB.out | apply below_alloc | apply pw_below_drewN | apply below_drew1) | exact HB.out))) : w.heap.size ≤ gb176)); have n3_ := Aside0.mk ((by rw [hg]; exact (below_size (by repeat (first | (with_reducible first | exact HB.out | apply below_alloc | apply pw_below_drewN | apply below_drew1) | exact HB.out))) : w.heap.size ≤ gb176)); clear HB; have HB := n0_; have BK176 := n1_; have GW176 := n2_; have GE176 := n3_; clear n0_ n1_ n2_ n3_; clear hb hbox hg) | ((with_reducible refine gate_callee (f := 9) rfl ?_); refine goesL_ (some 14) rfl rfl Tryd.func9 (by kernel_rfl) rfl #[] rfl (by (try simp only [List.map_toArray, List.map_cons, List.map_nil]); first | done | rfl | (simp only [List.length_drop, List.length_take]; rfl)) ?_; (with_reducible refine (graverlaw05_speaks.calls k  true _ ?side1 A4.out).mono ?_); (case side1 => exact Laid_ehdr.below HLD_ehdr.out (by repeat (first | (with_reducible first | exact HB.out | apply below_alloc | apply pw_below_drewN | apply below_drew1 | refine below_set ?_ GE176.out) | exact HB.out))); rintro e w91 ⟨rfl, hb⟩; refine ⟨_, rfl, ?_⟩; have n0_ := Aside0.mk (blk_below (g := gb176) (o := .cells #[.int .u64 a1_0, .int .u64 a1_1, .int .u64 a1_2, .int .u64 a1_3, .int .u64 a1_4, .int .u64 a1_5, .int .u64 a1_6, .int .u64 a1_7, .int .u64 a1_8, .int .u64 a1_9, .int .u64 a1_10, .int .u64 a1_11, .int .u64 a1_12] 24 (0, 0)) (by (with_reducible repeat (first | refine blk_drewN ?_ _ | refine blk_drew ?_ | refine blk_alloc ?_ _)); exact BK176.out) hb); have n1_ := Aside0.mk (below_step (by repeat (first | (with_reducible first | exact HB.out | apply below_alloc | apply pw_below_drewN | apply below_drew1 | refine below_set ?_ GE176.out) | exact HB.out)) hb); clear BK176; clear HB; have BK176 := n0_; have HB := n1_; clear n0_ n1_; (try clear hb); (try clear hb2); (try clear hk); (try clear hi)) | ((with_reducible refine gate_callee (f := 10) rfl ?_); refine goesL_ (some 17) rfl rfl Tryd.func10 (by kernel_rfl) rfl #[.int .i64 a0] rfl (by (try simp only [List.map_toArray, List.map_cons, List.map_nil]); first | done | rfl | (simp only [List.length_drop, List.length_take]; rfl)) ?_; (with_reducible refine (graverlaw05_formOf.calls a0 t178 t179 _ A6.out).mono ?_); rintro e w92 ⟨rfl, hb⟩; refine ⟨_, rfl, ?_⟩; have n0_ := Aside0.mk (blk_below (g := gb176) (o := .cells #[.int .u64 a1_0, .int .u64 a1_1, .int .u64 a1_2, .int .u64 a1_3, .int .u64 a1_4, .int .u64 a1_5, .int .u64 a1_6, .int .u64 a1_7, .int .u64 a1_8, .int .u64 a1_9, .int .u64 a1_10, .int .u64 a1_11, .int .u64 a1_12] 24 (0, 0)) (by (with_reducible repeat (first | refine blk_drewN ?_ _ | refine blk_drew ?_ | refine blk_alloc ?_ _)); exact BK176.out) hb); have n1_ := Aside0.mk (below_step (by repeat (first | (with_reducible first | exact HB.out | apply below_alloc | apply pw_below_drewN | apply below_drew1 | refine below_set ?_ GE176.out) | exact HB.out)) hb); clear BK176; clear HB; have BK176 := n0_; have HB := n1_; clear n0_ n1_; (try clear hb); (try clear hb2); (try clear hk); (try clear hi)) | ((with_reducible refine gate_dst (N := 7) rfl ?_); refine box_event ?hg (N := 7) ?hd (cs := #[.bool false, .bool false]) (t := 29) ?hr ?_; (case hd => rfl); (case hg => rfl); (case hr => first | (go_simp; done) | (go_simp; rfl)); intro gb180 hg w93 hbox hb; have n0_ := Aside0.mk (blk_below (g := gb176) (o := .cells #[.int .u64 a1_0, .int .u64 a1_1, .int .u64 a1_2, .int .u64 a1_3, .int .u64 a1_4, .int .u64 a1_5, .int .u64 a1_6, .int .u64 a1_7, .int .u64 a1_8, .int .u64 a1_9, .int .u64 a1_10, .int .u64 a1_11, .int .u64 a1_12] 24 (0, 0)) (by (with_reducible repeat (first | refine blk_drewN ?_ _ | refine blk_drew ?_ | refine blk_alloc ?_ _)); exact BK176.out) hb); have n1_ := Aside0.mk (below_step (by repeat (first | (with_reducible first | exact HB.out | apply below_alloc | apply pw_below_drewN | apply below_drew1 | refine below_set ?_ GE176.out) | exact HB.out)) hb); have n2_ := Aside0.mk (hbox); have n3_ := Aside0.mk ((by rw [hg]; exact (below_size (by repeat (first | (with_reducible first | exact HB.out | apply below_alloc | apply pw_below_drewN | apply below_drew1 | refine below_set ?_ GE176.out) | exact HB.out))) : w.heap.size ≤ gb180)); have n4_ := Aside0.mk ((by rw [hg]; exact (below_size (by repeat (first | (with_reducible first | exact HB.out | apply below_alloc | apply pw_below_drewN | apply below_drew1 | refine below_set ?_ GE176.out) | exact HB.out))) : w.heap.size ≤ gb180)); have n5_ := Aside0.mk ((by rw [hg]; exact Nat.ne_of_lt (blk_lt (g := gb176) (o := .cells #[.int .u64 a1_0, .int .u64 a1_1, .int .u64 a1_2, .int .u64 a1_3, .int .u64 a1_4, .int .u64 a1_5, .int .u64 a1_6, .int .u64 a1_7, .int .u64 a1_8, .int .u64 a1_9, .int .u64 a1_10, .int .u64 a1_11, .int .u64 a1_12] 24 (0, 0)) (by (with_reducible repeat (first | refine blk_drewN ?_ _ | refine blk_drew ?_ | refine blk_alloc ?_ _)); exact BK176.out)) : gb176 ≠ gb180)); have n6_ := Aside0.mk ((by rw [hg]; exact Nat.ne_of_gt (blk_lt (g := gb176) (o := .cells #[.int .u64 a1_0, .int .u64 a1_1, .int .u64 a1_2, .int .u64 a1_3, .int .u64 a1_4, .int .u64 a1_5, .int .u64 a1_6, .int .u64 a1_7, .int .u64 a1_8, .int .u64 a1_9, .int .u64 a1_10, .int .u64 a1_11, .int .u64 a1_12] 24 (0, 0)) (by (with_reducible repeat (first | refine blk_drewN ?_ _ | refine blk_drew ?_ | refine blk_alloc ?_ _)); exact BK176.out)) : gb180 ≠ gb176)); clear BK176; clear HB; have BK176 := n0_; have HB := n1_; have BK180 := n2_; have GW180 := n3_; have GE180 := n4_; have NB176_180 := n5_; have NB180_176 := n6_; clear n0_ n1_ n2_ n3_ n4_ n5_ n6_; clear hb hbox hg; have hnb94 := NB180_176.out; have hnc94 := NB176_180.out; have hcz95_0 : w93.cell? ⟨gb180, 0, none⟩ = some (.bool false) := (blk_cell BK180.out 0).trans rfl; have hcz95_1 : w93.cell? ⟨gb180, 1, none⟩ = some (.bool false) := (blk_cell BK180.out 1).trans rfl; have hfz95_0 := blk_frozen BK180.out 0; have hfz95_1 := blk_frozen BK180.out 1; have hcz96_0 : w93.cell? ⟨gb176, 0, none⟩ = some (.int .u64 a1_0) := (blk_cell BK176.out 0).trans rfl; have hcz96_1 : w93.cell? ⟨gb176, 1, none⟩ = some (.int .u64 a1_1) := (blk_cell BK176.out 1).trans rfl; have hcz96_2 : w93.cell? ⟨gb176, 2, none⟩ = some (.int .u64 a1_2) := (blk_cell BK176.out 2).trans rfl; have hcz96_3 : w93.cell? ⟨gb176, 3, none⟩ = some (.int .u64 a1_3) := (blk_cell BK176.out 3).trans rfl; have hcz96_4 : w93.cell? ⟨gb176, 4, none⟩ = some (.int .u64 a1_4) := (blk_cell BK176.out 4).trans rfl; have hcz96_5 : w93.cell? ⟨gb176, 5, none⟩ = some (.int .u64 a1_5) := (blk_cell BK176.out 5).trans rfl; have hcz96_6 : w93.cell? ⟨gb176, 6, none⟩ = some (.int .u64 a1_6) := (blk_cell BK176.out 6).trans rfl; have hcz96_7 : w93.cell? ⟨gb176, 7, none⟩ = some (.int .u64 a1_7) := (blk_cell BK176.out 7).trans rfl; have hcz96_8 : w93.cell? ⟨gb176, 8, none⟩ = some (.int .u64 a1_8) := (blk_cell BK176.out 8).trans rfl; have hcz96_9 : w93.cell? ⟨gb176, 9, none⟩ = some (.int .u64 a1_9) := (blk_cell BK176.out 9).trans rfl; have hcz96_10 : w93.cell? ⟨gb176, 10, none⟩ = some (.int .u64 a1_10) := (blk_cell BK176.out 10).trans rfl; have hcz96_11 : w93.cell? ⟨gb176, 11, none⟩ = some (.int .u64 a1_11) := (blk_cell BK176.out 11).trans rfl; have hcz96_12 : w93.cell? ⟨gb176, 12, none⟩ = some (.int .u64 a1_12) := (blk_cell BK176.out 12).trans rfl; have hfz96_0 := blk_frozen BK176.out 0; have hfz96_1 := blk_frozen BK176.out 1; have hfz96_2 := blk_frozen BK176.out 2; have hfz96_3 := blk_frozen BK176.out 3; have hfz96_4 := blk_frozen BK176.out 4; have hfz96_5 := blk_frozen BK176.out 5; have hfz96_6 := blk_frozen BK176.out 6; have hfz96_7 := blk_frozen BK176.out 7; have hfz96_8 := blk_frozen BK176.out 8; have hfz96_9 := blk_frozen BK176.out 9; have hfz96_10 := blk_frozen BK176.out 10; have hfz96_11 := blk_frozen BK176.out 11; have hfz96_12 := blk_frozen BK176.out 12) | ((with_reducible refine gate_callee (f := 11) rfl ?_); refine goesL_ (some 21) rfl rfl Tryd.func11 (by kernel_rfl) rfl #[.agg #[.bool t178, .bool t179], .agg #[.int .u64 a1_0, .int .u64 a1_1, .int .u64 a1_2, .int .u64 a1_3, .int .u64 a1_4, .int .u64 a1_5, .int .u64 a1_6, .int .u64 a1_7, .int .u64 a1_8, .int .u64 a1_9, .int .u64 a1_10, .int .u64 a1_11, .int .u64 a1_12]] rfl (by (try simp only [List.map_toArray, List.map_cons, List.map_nil]); first | done | rfl | (simp only [List.length_drop, List.length_take]; rfl)) ?_; (with_reducible refine (ehdr_Put.calls k t178 t179 a1_0 a1_1 a1_2 a1_3 a1_4 a1_5 a1_6 a1_7 a1_8 a1_9 a1_10 a1_11 a1_12 t181 false _ ?side1 A7.out).mono ?_); (case side1 => exact Laid_ehdr.below HLD_ehdr.out (by repeat (first | (with_reducible first | exact HB.out | apply below_alloc | apply pw_below_drewN | apply below_drew1 | refine below_set ?_ GE176.out | refine below_set ?_ GE180.out) | exact HB.out))); rintro e w97 ⟨rfl, hb⟩; refine ⟨_, rfl, ?_⟩; have n0_ := Aside0.mk (blk_below (g := gb176) (o := .cells #[.int .u64 a1_0, .int .u64 a1_1, .int .u64 a1_2, .int .u64 a1_3, .int .u64 a1_4, .int .u64 a1_5, .int .u64 a1_6, .int .u64 a1_7, .int .u64 a1_8, .int .u64 a1_9, .int .u64 a1_10, .int .u64 a1_11, .int .u64 a1_12] 24 (0, 0)) (by (with_reducible repeat (first | refine blk_drewN ?_ _ | refine blk_drew ?_ | refine blk_alloc ?_ _)); refine blk_far ?_ NB176_180.out _; (with_reducible repeat (first | refine blk_drewN ?_ _ | refine blk_drew ?_ | refine blk_alloc ?_ _)); refine blk_far ?_ NB176_180.out _; (with_reducible repeat (first | refine blk_drewN ?_ _ | refine blk_drew ?_ | refine blk_alloc ?_ _)); exact BK176.out) hb); have n1_ := Aside0.mk (blk_below (g := gb180) (o := .cells #[.bool t178, .bool t179] 29 (0, 0)) (by (with_reducible repeat (first | refine blk_drewN ?_ _ | refine blk_drew ?_ | refine blk_alloc ?_ _)); refine blk_put (cs := #[.bool t178, .bool false]) ?_ 1 _ rfl; (with_reducible repeat (first | refine blk_drewN ?_ _ | refine blk_drew ?_ | refine blk_alloc ?_ _)); refine blk_put (cs := #[.bool false, .bool false]) ?_ 0 _ rfl; (with_reducible repeat (first | refine blk_drewN ?_ _ | refine blk_drew ?_ | refine blk_alloc ?_ _)); exact BK180.out) hb); have n2_ := Aside0.mk (below_step (by repeat (first | (with_reducible first | exact HB.out | apply below_alloc | apply pw_below_drewN | apply below_drew1 | refine below_set ?_ GE176.out | refine below_set ?_ GE180.out) | exact HB.out)) hb); clear BK176; clear BK180; clear HB; have BK176 := n0_; have BK180 := n1_; have HB := n2_; clear n0_ n1_ n2_; (try clear hb); (try clear hb2); (try clear hk); (try clear hi); have hcz98_0 : w97.cell? ⟨gb180, 0, none⟩ = some (.bool t178) := (blk_cell BK180.out 0).trans rfl; have hcz98_1 : w97.cell? ⟨gb180, 1, none⟩ = some (.bool t179) := (blk_cell BK180.out 1).trans rfl; have hfz98_0 := blk_frozen BK180.out 0; have hfz98_1 := blk_frozen BK180.out 1; have hcz99_0 : w97.cell? ⟨gb176, 0, none⟩ = some (.int .u64 a1_0) := (blk_cell BK176.out 0).trans rfl; have hcz99_1 : w97.cell? ⟨gb176, 1, none⟩ = some (.int .u64 a1_1) := (blk_cell BK176.out 1).trans rfl; have hcz99_2 : w97.cell? ⟨gb176, 2, none⟩ = some (.int .u64 a1_2) := (blk_cell BK176.out 2).trans rfl; have hcz99_3 : w97.cell? ⟨gb176, 3, none⟩ = some (.int .u64 a1_3) := (blk_cell BK176.out 3).trans rfl; have hcz99_4 : w97.cell? ⟨gb176, 4, none⟩ = some (.int .u64 a1_4) := (blk_cell BK176.out 4).trans rfl; have hcz99_5 : w97.cell? ⟨gb176, 5, none⟩ = some (.int .u64 a1_5) := (blk_cell BK176.out 5).trans rfl; have hcz99_6 : w97.cell? ⟨gb176, 6, none⟩ = some (.int .u64 a1_6) := (blk_cell BK176.out 6).trans rfl; have hcz99_7 : w97.cell? ⟨gb176, 7, none⟩ = some (.int .u64 a1_7) := (blk_cell BK176.out 7).trans rfl; have hcz99_8 : w97.cell? ⟨gb176, 8, none⟩ = some (.int .u64 a1_8) := (blk_cell BK176.out 8).trans rfl; have hcz99_9 : w97.cell? ⟨gb176, 9, none⟩ = some (.int .u64 a1_9) := (blk_cell BK176.out 9).trans rfl; have hcz99_10 : w97.cell? ⟨gb176, 10, none⟩ = some (.int .u64 a1_10) := (blk_cell BK176.out 10).trans rfl; have hcz99_11 : w97.cell? ⟨gb176, 11, none⟩ = some (.int .u64 a1_11) := (blk_cell BK176.out 11).trans rfl; have hcz99_12 : w97.cell? ⟨gb176, 12, none⟩ = some (.int .u64 a1_12) := (blk_cell BK176.out 12).trans rfl; have hfz99_0 := blk_frozen BK176.out 0; have hfz99_1 := blk_frozen BK176.out 1; have hfz99_2 := blk_frozen BK176.out 2; have hfz99_3 := blk_frozen BK176.out 3; have hfz99_4 := blk_frozen BK176.out 4; have hfz99_5 := blk_frozen BK176.out 5; have hfz99_6 := blk_frozen BK176.out 6; have hfz99_7 := blk_frozen BK176.out 7; have hfz99_8 := blk_frozen BK176.out 8; have hfz99_9 := blk_frozen BK176.out 9; have hfz99_10 := blk_frozen BK176.out 10; have hfz99_11 := blk_frozen BK176.out 11; have hfz99_12 := blk_frozen BK176.out 12) | ((with_reducible refine gate_callee (f := 12) rfl ?_); refine goesL_ (some 31) rfl rfl Tryd.func12 (by kernel_rfl) rfl #[.bool t179, .bool t178, .agg #[.int .u64 a1_0, .int .u64 a1_1, .int .u64 a1_2, .int .u64 a1_3, .int .u64 a1_4, .int .u64 a1_5, .int .u64 a1_6, .int .u64 a1_7, .int .u64 a1_8, .int .u64 a1_9, .int .u64 a1_10, .int .u64 a1_11, .int .u64 a1_12]] rfl (by (try simp only [List.map_toArray, List.map_cons, List.map_nil]); first | done | rfl | (simp only [List.length_drop, List.length_take]; rfl)) ?_; (with_reducible refine (graverref05_Put.calls k t179 t178 a1_0 a1_1 a1_2 a1_3 a1_4 a1_5 a1_6 a1_7 a1_8 a1_9 a1_10 a1_11 a1_12 t183 t184 _ A8.out).mono ?_); rintro e w100 ⟨rfl, hb⟩; refine ⟨_, rfl, ?_⟩; have n0_ := Aside0.mk (blk_below (g := gb176) (o := .cells #[.int .u64 a1_0, .int .u64 a1_1, .int .u64 a1_2, .int .u64 a1_3, .int .u64 a1_4, .int .u64 a1_5, .int .u64 a1_6, .int .u64 a1_7, .int .u64 a1_8, .int .u64 a1_9, .int .u64 a1_10, .int .u64 a1_11, .int .u64 a1_12] 24 (0, 0)) (by (with_reducible repeat (first | refine blk_drewN ?_ _ | refine blk_drew ?_ | refine blk_alloc ?_ _)); exact BK176.out) hb); have n1_ := Aside0.mk (blk_below (g := gb180) (o := .cells #[.bool t178, .bool t179] 29 (0, 0)) (by (with_reducible repeat (first | refine blk_drewN ?_ _ | refine blk_drew ?_ | refine blk_alloc ?_ _)); exact BK180.out) hb); have n2_ := Aside0.mk (below_step (by repeat (first | (with_reducible first | exact HB.out | apply below_alloc | apply pw_below_drewN | apply below_drew1 | refine below_set ?_ GE176.out | refine below_set ?_ GE180.out) | exact HB.out)) hb); clear BK176; clear BK180; clear HB; have BK176 := n0_; have BK180 := n1_; have HB := n2_; clear n0_ n1_ n2_; (try clear hb); (try clear hb2); (try clear hk); (try clear hi)))
        have n0_ := Aside0.mk (blk_drew BK176.out)
        have n1_ := Aside0.mk (blk_drew BK180.out)
        have n2_ := Aside0.mk (below_drew1 HB.out)
        clear BK176
        clear BK180
        clear HB
        have BK176 := n0_
        have BK180 := n1_
        have HB := n2_
        clear n0_ n1_ n2_
        refine start_ (n := 15) (S := fun w' => w'.cell? ⟨gb180, 0, none⟩ = some (.bool t178) ∧ w'.cell? ⟨gb180, 1, none⟩ = some (.bool t179)) (ds := []) #[false, false, false, false, false, false, false, false, false, false, false, false, false, false, false] (by kernel_rfl) rfl rfl ⟨(blk_cell BK180.out 0).trans rfl, (blk_cell BK180.out 1).trans rfl⟩ (fun hHeld => ?_); refine with_tabW graverlaw05_EhdrPuts.tab8 graverlaw05_EhdrPuts.bits8 (fun HT_ HW_ => ?_)
        generalize w100.drew = w101 at BK176 BK180 HB hHeld ⊢
        refine pure_ (i := 1) (N := some 44) (v := ?_) (a' := ?_) (bm 15 2) rfl rfl (any_of HT_.out (by kernel_rfl)) (fun _ _ _ h => h) (Or.inl ⟨by rfl, ?_⟩) ?_ ?_
        rotate_left
        ·
         intro w'
         go_simp
         with_reducible rfl
        rotate_left
        ·
         simp only [Act.put, List.setIfInBounds_toArray, List.set_cons_zero, List.set_cons_succ, i64_w, i32_w]
         rfl
        refine pure_ (i := 2) (N := some 45) (v := ?_) (a' := ?_) (bm 15 6) rfl rfl (any_of HT_.out (by kernel_rfl)) (fun _ _ _ h => h) (Or.inl ⟨by rfl, ?_⟩) ?_ ?_
        rotate_left
        ·
         intro w'
         go_simp
         with_reducible rfl
        rotate_left
        ·
         simp only [Act.put, List.setIfInBounds_toArray, List.set_cons_zero, List.set_cons_succ, i64_w, i32_w]
         rfl
        refine pure_ (i := 3) (N := some 46) (v := ?_) (a' := ?_) (bm 15 14) rfl rfl (any_of HT_.out (by kernel_rfl)) (fun _ _ _ h => h) (Or.inl ⟨by rfl, ?_⟩) ?_ ?_
        rotate_left
        ·
         intro w'
         go_simp
         with_reducible rfl
        rotate_left
        ·
         simp only [Act.put, List.setIfInBounds_toArray, List.set_cons_zero, List.set_cons_succ, i64_w, i32_w]
         rfl
        refine pure_ (i := 4) (N := some 47) (v := ?_) (a' := ?_) (bm 15 30) rfl rfl (any_of HT_.out (by kernel_rfl)) (fun _ _ _ h => h) (Or.inl ⟨by rfl, ?_⟩) ?_ ?_
        rotate_left
        ·
         intro w'
         go_simp
         with_reducible rfl
        rotate_left
        ·
         simp only [Act.put, List.setIfInBounds_toArray, List.set_cons_zero, List.set_cons_succ, i64_w, i32_w]
         rfl
        refine pure_ (i := 5) (N := some 48) (v := ?_) (a' := ?_) (bm 15 62) rfl rfl (any_of HT_.out (by kernel_rfl)) (fun _ _ _ h => h) (Or.inl ⟨by rfl, ?_⟩) ?_ ?_
        rotate_left
        ·
         intro w'
         go_simp
         with_reducible rfl
        rotate_left
        ·
         simp only [Act.put, List.setIfInBounds_toArray, List.set_cons_zero, List.set_cons_succ, i64_w, i32_w]
         rfl
        refine pure_ (i := 6) (N := some 49) (v := ?_) (a' := ?_) (bm 15 126) rfl rfl (any_of HT_.out (by kernel_rfl)) (fun _ _ _ h => h) (Or.inl ⟨by rfl, ?_⟩) ?_ ?_
        rotate_left
        ·
         intro w'
         go_simp
         with_reducible rfl
        rotate_left
        ·
         simp only [Act.put, List.setIfInBounds_toArray, List.set_cons_zero, List.set_cons_succ, i64_w, i32_w]
         rfl
        refine pure_ (i := 7) (N := some 50) (v := ?_) (a' := ?_) (bm 15 254) rfl rfl (any_of HT_.out (by kernel_rfl)) (fun _ _ _ h => h) (Or.inl ⟨by rfl, ?_⟩) ?_ ?_
        rotate_left
        ·
         intro w'
         go_simp
         with_reducible rfl
        rotate_left
        ·
         simp only [Act.put, List.setIfInBounds_toArray, List.set_cons_zero, List.set_cons_succ, i64_w, i32_w]
         rfl
        refine take_ (i := 0) (N := some 43) (v := ?_) (a' := ?_) (bm 15 255) rfl rfl (take_ofW HT_.out HW_.out (by kernel_rfl)) (fun _ _ _ h => h) (Or.inl ⟨by rfl, ?_⟩) hHeld ?_ ?_
        rotate_left
        ·
         rintro w' ⟨s0, s1⟩
         go_simp
         with_reducible rfl
        rotate_left
        ·
         simp only [Act.put, List.setIfInBounds_toArray, List.set_cons_zero, List.set_cons_succ, i64_w, i32_w]
         rfl
        refine join_ (σ := Nat) 2 (bm 15 8191) (fun s_ => [(51, .tuple #[.agg #[.int .u64 t185, .int .u64 t186, .int .u64 t187, .int .u64 t188, .int .u64 t189, .int .u64 t190, .int .u64 t191, .int .u64 t192, .int .u64 t193, .int .u64 t194, .int .u64 t195, .int .u64 t196, .int .u64 t197], .bool t198]), (12, .pointer (some ⟨s_, 0, none⟩)), (42, .tuple #[.agg #[.int .u64 t185, .int .u64 t186, .int .u64 t187, .int .u64 t188, .int .u64 t189, .int .u64 t190, .int .u64 t191, .int .u64 t192, .int .u64 t193, .int .u64 t194, .int .u64 t195, .int .u64 t196, .int .u64 t197], .bool t198]), (52, .agg #[.int .u64 t185, .int .u64 t186, .int .u64 t187, .int .u64 t188, .int .u64 t189, .int .u64 t190, .int .u64 t191, .int .u64 t192, .int .u64 t193, .int .u64 t194, .int .u64 t195, .int .u64 t196, .int .u64 t197]), (53, .bool t198)]) (fun s_ w' => (w'.cell? ⟨gb180, 0, none⟩ = some (.bool t178) ∧ w'.cell? ⟨gb180, 1, none⟩ = some (.bool t179)) ∧ (w'.heap[gb176]? = some (.cells #[.int .u64 a1_0, .int .u64 a1_1, .int .u64 a1_2, .int .u64 a1_3, .int .u64 a1_4, .int .u64 a1_5, .int .u64 a1_6, .int .u64 a1_7, .int .u64 a1_8, .int .u64 a1_9, .int .u64 a1_10, .int .u64 a1_11, .int .u64 a1_12] 24 (0, 0))) ∧ (w'.heap[gb180]? = some (.cells #[.bool t178, .bool t179] 29 (0, 0))) ∧ (w'.heap[s_]? = some (.cells #[.int .u64 0, .int .u64 0, .int .u64 0, .int .u64 0, .int .u64 0, .int .u64 0, .int .u64 0, .int .u64 0, .int .u64 0, .int .u64 0, .int .u64 0, .int .u64 0, .int .u64 0] 33 (0, 0))) ∧ (w.heap.size ≤ s_) ∧ (w.heap.size ≤ s_) ∧ (gb176 ≠ s_) ∧ (s_ ≠ gb176) ∧ (gb180 ≠ s_) ∧ (s_ ≠ gb180) ∧ (Below w.heap.size w w')) ?_ ?_
        rotate_left
        ·
         intro hCont
         refine two_ (i := 8) (j := 12) (Ni := some 51) (Nj := some 12) (bm 15 511) (bm 15 4351) rfl rfl rfl rfl (two_of HT_.out (by kernel_rfl)) (by decide) (by decide) (fun K hK => ?_) (fun K hK => ?_)
         ·
          skip
          refine goes_ Tryd.func13 (by kernel_rfl) rfl #[.agg #[.bool t178, .bool t179], .string (t181 ++ sc25)] (by rfl) rfl rfl (by (try simp only [List.map_toArray, List.map_cons, List.map_nil]); first | done | rfl | (simp only [List.length_drop, List.length_take]; rfl)) ?_
          with_reducible refine (ehdr_Read.calls k t178 t179 (t181 ++ sc25) t185 t186 t187 t188 t189 t190 t191 t192 t193 t194 t195 t196 t197 t198 _ ?side1 A27.out).mono ?_
          (case side1 => exact Laid_ehdr.below HLD_ehdr.out (by repeat (first | (with_reducible first | exact HB.out | apply below_alloc | apply pw_below_drewN | apply below_drew1 | refine below_set ?_ GE176.out | refine below_set ?_ GE180.out) | exact HB.out)))
          rintro e w102 ⟨rfl, hb⟩
          refine ⟨_, rfl, ?_⟩
          have n0_ := Aside0.mk (blk_below (g := gb176) (o := .cells #[.int .u64 a1_0, .int .u64 a1_1, .int .u64 a1_2, .int .u64 a1_3, .int .u64 a1_4, .int .u64 a1_5, .int .u64 a1_6, .int .u64 a1_7, .int .u64 a1_8, .int .u64 a1_9, .int .u64 a1_10, .int .u64 a1_11, .int .u64 a1_12] 24 (0, 0)) (by (with_reducible repeat (first | refine blk_drewN ?_ _ | refine blk_drew ?_ | refine blk_alloc ?_ _)); exact BK176.out) hb)
          have n1_ := Aside0.mk (blk_below (g := gb180) (o := .cells #[.bool t178, .bool t179] 29 (0, 0)) (by (with_reducible repeat (first | refine blk_drewN ?_ _ | refine blk_drew ?_ | refine blk_alloc ?_ _)); exact BK180.out) hb)
          have n2_ := Aside0.mk (below_step (by repeat (first | (with_reducible first | exact HB.out | apply below_alloc | apply pw_below_drewN | apply below_drew1 | refine below_set ?_ GE176.out | refine below_set ?_ GE180.out) | exact HB.out)) hb)
          clear BK176
          clear BK180
          clear HB
          have BK176 := n0_
          have BK180 := n1_
          have HB := n2_
          clear n0_ n1_ n2_
          (try clear hb)
          (try clear hb2)
          (try clear hk)
          (try clear hi)
          refine hK.out _ _ ⟨(blk_cell BK180.out 0).trans rfl, (blk_cell BK180.out 1).trans rfl⟩ (fun hHeld => ?_)
          clear hK K
          refine norm_ (a' := ?_) ?_ ?_
          rotate_left
          ·
           show Act.put _ (some 51) _ = _
           simp only [Act.put, List.setIfInBounds_toArray, List.set_cons_zero, List.set_cons_succ, i64_w, i32_w]
           rfl
          refine pure_ (i := 9) (N := some 42) (v := ?_) (a' := ?_) (bm 15 1023) rfl rfl (any_of HT_.out (by kernel_rfl)) (fun _ _ _ h => h) (Or.inl ⟨by rfl, ?_⟩) ?_ ?_
          rotate_left
          ·
           intro w'
           go_simp
           with_reducible rfl
          rotate_left
          ·
           simp only [Act.put, List.setIfInBounds_toArray, List.set_cons_zero, List.set_cons_succ, i64_w, i32_w]
           rfl
          refine pure_ (i := 10) (N := some 52) (v := ?_) (a' := ?_) (bm 15 2047) rfl rfl (any_of HT_.out (by kernel_rfl)) (fun _ _ _ h => h) (Or.inl ⟨by rfl, ?_⟩) ?_ ?_
          rotate_left
          ·
           intro w'
           go_simp
           with_reducible rfl
          rotate_left
          ·
           simp only [Act.put, List.setIfInBounds_toArray, List.set_cons_zero, List.set_cons_succ, i64_w, i32_w]
           rfl
          refine pure_ (i := 11) (N := some 53) (v := ?_) (a' := ?_) (bm 15 4095) rfl rfl (any_of HT_.out (by kernel_rfl)) (fun _ _ _ h => h) (Or.inl ⟨by rfl, ?_⟩) ?_ ?_
          rotate_left
          ·
           intro w'
           go_simp
           with_reducible rfl
          rotate_left
          ·
           simp only [Act.put, List.setIfInBounds_toArray, List.set_cons_zero, List.set_cons_succ, i64_w, i32_w]
           rfl
          refine one_ (i := 12) (N := some 12) (bm 15 8191) rfl rfl (one_of HT_.out (by kernel_rfl)) (by decide) (fun K hK => ?_)
          refine box_step ?hg (N := 12) ?hd (cs := #[.int .u64 0, .int .u64 0, .int .u64 0, .int .u64 0, .int .u64 0, .int .u64 0, .int .u64 0, .int .u64 0, .int .u64 0, .int .u64 0, .int .u64 0, .int .u64 0, .int .u64 0]) (t := 33) ?hr ?_; (case hd => rfl); (case hg => rfl); (case hr => first | (go_simp; done) | (go_simp; rfl))
          intro gb199 hg w103 hbox hb
          have n0_ := Aside0.mk (blk_below (g := gb176) (o := .cells #[.int .u64 a1_0, .int .u64 a1_1, .int .u64 a1_2, .int .u64 a1_3, .int .u64 a1_4, .int .u64 a1_5, .int .u64 a1_6, .int .u64 a1_7, .int .u64 a1_8, .int .u64 a1_9, .int .u64 a1_10, .int .u64 a1_11, .int .u64 a1_12] 24 (0, 0)) (by (with_reducible repeat (first | refine blk_drewN ?_ _ | refine blk_drew ?_ | refine blk_alloc ?_ _)); exact BK176.out) hb)
          have n1_ := Aside0.mk (blk_below (g := gb180) (o := .cells #[.bool t178, .bool t179] 29 (0, 0)) (by (with_reducible repeat (first | refine blk_drewN ?_ _ | refine blk_drew ?_ | refine blk_alloc ?_ _)); exact BK180.out) hb)
          have n2_ := Aside0.mk (below_step (by repeat (first | (with_reducible first | exact HB.out | apply below_alloc | apply pw_below_drewN | apply below_drew1 | refine below_set ?_ GE176.out | refine below_set ?_ GE180.out) | exact HB.out)) hb)
          have n3_ := Aside0.mk (hbox)
          have n4_ := Aside0.mk ((by rw [hg]; exact (below_size (by repeat (first | (with_reducible first | exact HB.out | apply below_alloc | apply pw_below_drewN | apply below_drew1 | refine below_set ?_ GE176.out | refine below_set ?_ GE180.out) | exact HB.out))) : w.heap.size ≤ gb199))
          have n5_ := Aside0.mk ((by rw [hg]; exact (below_size (by repeat (first | (with_reducible first | exact HB.out | apply below_alloc | apply pw_below_drewN | apply below_drew1 | refine below_set ?_ GE176.out | refine below_set ?_ GE180.out) | exact HB.out))) : w.heap.size ≤ gb199))
          have n6_ := Aside0.mk ((by rw [hg]; exact Nat.ne_of_lt (blk_lt (g := gb176) (o := .cells #[.int .u64 a1_0, .int .u64 a1_1, .int .u64 a1_2, .int .u64 a1_3, .int .u64 a1_4, .int .u64 a1_5, .int .u64 a1_6, .int .u64 a1_7, .int .u64 a1_8, .int .u64 a1_9, .int .u64 a1_10, .int .u64 a1_11, .int .u64 a1_12] 24 (0, 0)) (by (with_reducible repeat (first | refine blk_drewN ?_ _ | refine blk_drew ?_ | refine blk_alloc ?_ _)); exact BK176.out)) : gb176 ≠ gb199))
          have n7_ := Aside0.mk ((by rw [hg]; exact Nat.ne_of_gt (blk_lt (g := gb176) (o := .cells #[.int .u64 a1_0, .int .u64 a1_1, .int .u64 a1_2, .int .u64 a1_3, .int .u64 a1_4, .int .u64 a1_5, .int .u64 a1_6, .int .u64 a1_7, .int .u64 a1_8, .int .u64 a1_9, .int .u64 a1_10, .int .u64 a1_11, .int .u64 a1_12] 24 (0, 0)) (by (with_reducible repeat (first | refine blk_drewN ?_ _ | refine blk_drew ?_ | refine blk_alloc ?_ _)); exact BK176.out)) : gb199 ≠ gb176))
          have n8_ := Aside0.mk ((by rw [hg]; exact Nat.ne_of_lt (blk_lt (g := gb180) (o := .cells #[.bool t178, .bool t179] 29 (0, 0)) (by (with_reducible repeat (first | refine blk_drewN ?_ _ | refine blk_drew ?_ | refine blk_alloc ?_ _)); exact BK180.out)) : gb180 ≠ gb199))
          have n9_ := Aside0.mk ((by rw [hg]; exact Nat.ne_of_gt (blk_lt (g := gb180) (o := .cells #[.bool t178, .bool t179] 29 (0, 0)) (by (with_reducible repeat (first | refine blk_drewN ?_ _ | refine blk_drew ?_ | refine blk_alloc ?_ _)); exact BK180.out)) : gb199 ≠ gb180))
          clear BK176
          clear BK180
          clear HB
          have BK176 := n0_
          have BK180 := n1_
          have HB := n2_
          have BK199 := n3_
          have GW199 := n4_
          have GE199 := n5_
          have NB176_199 := n6_
          have NB199_176 := n7_
          have NB180_199 := n8_
          have NB199_180 := n9_
          clear n0_ n1_ n2_ n3_ n4_ n5_ n6_ n7_ n8_ n9_
          clear hb hbox hg
          refine hK.out _ _ ⟨(blk_cell BK180.out 0).trans rfl, (blk_cell BK180.out 1).trans rfl⟩ (fun hHeld => ?_)
          clear hK K
          refine norm_ (a' := ?_) ?_ ?_
          rotate_left
          ·
           show Act.put _ (some 12) _ = _
           simp only [Act.put, List.setIfInBounds_toArray, List.set_cons_zero, List.set_cons_succ, i64_w, i32_w]
           rfl
          exact norm_ (by simp only [putAll, Act.put, List.setIfInBounds_toArray, List.set_cons_zero, List.set_cons_succ]) (hCont (gb199) _ ⟨hHeld, (by (with_reducible repeat (first | refine blk_drewN ?_ _ | refine blk_drew ?_ | refine blk_alloc ?_ _)); exact BK176.out), (by (with_reducible repeat (first | refine blk_drewN ?_ _ | refine blk_drew ?_ | refine blk_alloc ?_ _)); exact BK180.out), (by (with_reducible repeat (first | refine blk_drewN ?_ _ | refine blk_drew ?_ | refine blk_alloc ?_ _)); exact BK199.out), GW199.out, GE199.out, NB176_199.out, NB199_176.out, NB180_199.out, NB199_180.out, (by repeat (first | (with_reducible first | exact HB.out | apply below_alloc | apply pw_below_drewN | apply below_drew1 | refine below_set ?_ GE176.out | refine below_set ?_ GE180.out | refine below_set ?_ GE199.out) | exact HB.out))⟩)
         ·
          skip
          refine box_step ?hg (N := 12) ?hd (cs := #[.int .u64 0, .int .u64 0, .int .u64 0, .int .u64 0, .int .u64 0, .int .u64 0, .int .u64 0, .int .u64 0, .int .u64 0, .int .u64 0, .int .u64 0, .int .u64 0, .int .u64 0]) (t := 33) ?hr ?_; (case hd => rfl); (case hg => rfl); (case hr => first | (go_simp; done) | (go_simp; rfl))
          intro gb199 hg w102 hbox hb
          have n0_ := Aside0.mk (blk_below (g := gb176) (o := .cells #[.int .u64 a1_0, .int .u64 a1_1, .int .u64 a1_2, .int .u64 a1_3, .int .u64 a1_4, .int .u64 a1_5, .int .u64 a1_6, .int .u64 a1_7, .int .u64 a1_8, .int .u64 a1_9, .int .u64 a1_10, .int .u64 a1_11, .int .u64 a1_12] 24 (0, 0)) (by (with_reducible repeat (first | refine blk_drewN ?_ _ | refine blk_drew ?_ | refine blk_alloc ?_ _)); exact BK176.out) hb)
          have n1_ := Aside0.mk (blk_below (g := gb180) (o := .cells #[.bool t178, .bool t179] 29 (0, 0)) (by (with_reducible repeat (first | refine blk_drewN ?_ _ | refine blk_drew ?_ | refine blk_alloc ?_ _)); exact BK180.out) hb)
          have n2_ := Aside0.mk (below_step (by repeat (first | (with_reducible first | exact HB.out | apply below_alloc | apply pw_below_drewN | apply below_drew1 | refine below_set ?_ GE176.out | refine below_set ?_ GE180.out) | exact HB.out)) hb)
          have n3_ := Aside0.mk (hbox)
          have n4_ := Aside0.mk ((by rw [hg]; exact (below_size (by repeat (first | (with_reducible first | exact HB.out | apply below_alloc | apply pw_below_drewN | apply below_drew1 | refine below_set ?_ GE176.out | refine below_set ?_ GE180.out) | exact HB.out))) : w.heap.size ≤ gb199))
          have n5_ := Aside0.mk ((by rw [hg]; exact (below_size (by repeat (first | (with_reducible first | exact HB.out | apply below_alloc | apply pw_below_drewN | apply below_drew1 | refine below_set ?_ GE176.out | refine below_set ?_ GE180.out) | exact HB.out))) : w.heap.size ≤ gb199))
          have n6_ := Aside0.mk ((by rw [hg]; exact Nat.ne_of_lt (blk_lt (g := gb176) (o := .cells #[.int .u64 a1_0, .int .u64 a1_1, .int .u64 a1_2, .int .u64 a1_3, .int .u64 a1_4, .int .u64 a1_5, .int .u64 a1_6, .int .u64 a1_7, .int .u64 a1_8, .int .u64 a1_9, .int .u64 a1_10, .int .u64 a1_11, .int .u64 a1_12] 24 (0, 0)) (by (with_reducible repeat (first | refine blk_drewN ?_ _ | refine blk_drew ?_ | refine blk_alloc ?_ _)); exact BK176.out)) : gb176 ≠ gb199))
          have n7_ := Aside0.mk ((by rw [hg]; exact Nat.ne_of_gt (blk_lt (g := gb176) (o := .cells #[.int .u64 a1_0, .int .u64 a1_1, .int .u64 a1_2, .int .u64 a1_3, .int .u64 a1_4, .int .u64 a1_5, .int .u64 a1_6, .int .u64 a1_7, .int .u64 a1_8, .int .u64 a1_9, .int .u64 a1_10, .int .u64 a1_11, .int .u64 a1_12] 24 (0, 0)) (by (with_reducible repeat (first | refine blk_drewN ?_ _ | refine blk_drew ?_ | refine blk_alloc ?_ _)); exact BK176.out)) : gb199 ≠ gb176))
          have n8_ := Aside0.mk ((by rw [hg]; exact Nat.ne_of_lt (blk_lt (g := gb180) (o := .cells #[.bool t178, .bool t179] 29 (0, 0)) (by (with_reducible repeat (first | refine blk_drewN ?_ _ | refine blk_drew ?_ | refine blk_alloc ?_ _)); exact BK180.out)) : gb180 ≠ gb199))
          have n9_ := Aside0.mk ((by rw [hg]; exact Nat.ne_of_gt (blk_lt (g := gb180) (o := .cells #[.bool t178, .bool t179] 29 (0, 0)) (by (with_reducible repeat (first | refine blk_drewN ?_ _ | refine blk_drew ?_ | refine blk_alloc ?_ _)); exact BK180.out)) : gb199 ≠ gb180))
          clear BK176
          clear BK180
          clear HB
          have BK176 := n0_
          have BK180 := n1_
          have HB := n2_
          have BK199 := n3_
          have GW199 := n4_
          have GE199 := n5_
          have NB176_199 := n6_
          have NB199_176 := n7_
          have NB180_199 := n8_
          have NB199_180 := n9_
          clear n0_ n1_ n2_ n3_ n4_ n5_ n6_ n7_ n8_ n9_
          clear hb hbox hg
          refine hK.out _ _ ⟨(blk_cell BK180.out 0).trans rfl, (blk_cell BK180.out 1).trans rfl⟩ (fun hHeld => ?_)
          clear hK K
          refine norm_ (a' := ?_) ?_ ?_
          rotate_left
          ·
           show Act.put _ (some 12) _ = _
           simp only [Act.put, List.setIfInBounds_toArray, List.set_cons_zero, List.set_cons_succ, i64_w, i32_w]
           rfl
          refine one_ (i := 8) (N := some 51) (bm 15 4607) rfl rfl (one_of HT_.out (by kernel_rfl)) (by decide) (fun K hK => ?_)
          refine goes_ Tryd.func13 (by kernel_rfl) rfl #[.agg #[.bool t178, .bool t179], .string (t181 ++ sc25)] (by rfl) rfl rfl (by (try simp only [List.map_toArray, List.map_cons, List.map_nil]); first | done | rfl | (simp only [List.length_drop, List.length_take]; rfl)) ?_
          with_reducible refine (ehdr_Read.calls k t178 t179 (t181 ++ sc25) t185 t186 t187 t188 t189 t190 t191 t192 t193 t194 t195 t196 t197 t198 _ ?side1 A27.out).mono ?_
          (case side1 => exact Laid_ehdr.below HLD_ehdr.out (by repeat (first | (with_reducible first | exact HB.out | apply below_alloc | apply pw_below_drewN | apply below_drew1 | refine below_set ?_ GE176.out | refine below_set ?_ GE180.out | refine below_set ?_ GE199.out) | exact HB.out)))
          rintro e w103 ⟨rfl, hb⟩
          refine ⟨_, rfl, ?_⟩
          have n0_ := Aside0.mk (blk_below (g := gb176) (o := .cells #[.int .u64 a1_0, .int .u64 a1_1, .int .u64 a1_2, .int .u64 a1_3, .int .u64 a1_4, .int .u64 a1_5, .int .u64 a1_6, .int .u64 a1_7, .int .u64 a1_8, .int .u64 a1_9, .int .u64 a1_10, .int .u64 a1_11, .int .u64 a1_12] 24 (0, 0)) (by (with_reducible repeat (first | refine blk_drewN ?_ _ | refine blk_drew ?_ | refine blk_alloc ?_ _)); exact BK176.out) hb)
          have n1_ := Aside0.mk (blk_below (g := gb180) (o := .cells #[.bool t178, .bool t179] 29 (0, 0)) (by (with_reducible repeat (first | refine blk_drewN ?_ _ | refine blk_drew ?_ | refine blk_alloc ?_ _)); exact BK180.out) hb)
          have n2_ := Aside0.mk (blk_below (g := gb199) (o := .cells #[.int .u64 0, .int .u64 0, .int .u64 0, .int .u64 0, .int .u64 0, .int .u64 0, .int .u64 0, .int .u64 0, .int .u64 0, .int .u64 0, .int .u64 0, .int .u64 0, .int .u64 0] 33 (0, 0)) (by (with_reducible repeat (first | refine blk_drewN ?_ _ | refine blk_drew ?_ | refine blk_alloc ?_ _)); exact BK199.out) hb)
          have n3_ := Aside0.mk (below_step (by repeat (first | (with_reducible first | exact HB.out | apply below_alloc | apply pw_below_drewN | apply below_drew1 | refine below_set ?_ GE176.out | refine below_set ?_ GE180.out | refine below_set ?_ GE199.out) | exact HB.out)) hb)
          clear BK176
          clear BK180
          clear BK199
          clear HB
          have BK176 := n0_
          have BK180 := n1_
          have BK199 := n2_
          have HB := n3_
          clear n0_ n1_ n2_ n3_
          (try clear hb)
          (try clear hb2)
          (try clear hk)
          (try clear hi)
          refine hK.out _ _ ⟨(blk_cell BK180.out 0).trans rfl, (blk_cell BK180.out 1).trans rfl⟩ (fun hHeld => ?_)
          clear hK K
          refine norm_ (a' := ?_) ?_ ?_
          rotate_left
          ·
           show Act.put _ (some 51) _ = _
           simp only [Act.put, List.setIfInBounds_toArray, List.set_cons_zero, List.set_cons_succ, i64_w, i32_w]
           rfl
          refine pure_ (i := 9) (N := some 42) (v := ?_) (a' := ?_) (bm 15 5119) rfl rfl (any_of HT_.out (by kernel_rfl)) (fun _ _ _ h => h) (Or.inl ⟨by rfl, ?_⟩) ?_ ?_
          rotate_left
          ·
           intro w'
           go_simp
           with_reducible rfl
          rotate_left
          ·
           simp only [Act.put, List.setIfInBounds_toArray, List.set_cons_zero, List.set_cons_succ, i64_w, i32_w]
           rfl
          refine pure_ (i := 10) (N := some 52) (v := ?_) (a' := ?_) (bm 15 6143) rfl rfl (any_of HT_.out (by kernel_rfl)) (fun _ _ _ h => h) (Or.inl ⟨by rfl, ?_⟩) ?_ ?_
          rotate_left
          ·
           intro w'
           go_simp
           with_reducible rfl
          rotate_left
          ·
           simp only [Act.put, List.setIfInBounds_toArray, List.set_cons_zero, List.set_cons_succ, i64_w, i32_w]
           rfl
          refine pure_ (i := 11) (N := some 53) (v := ?_) (a' := ?_) (bm 15 8191) rfl rfl (any_of HT_.out (by kernel_rfl)) (fun _ _ _ h => h) (Or.inl ⟨by rfl, ?_⟩) ?_ ?_
          rotate_left
          ·
           intro w'
           go_simp
           with_reducible rfl
          rotate_left
          ·
           simp only [Act.put, List.setIfInBounds_toArray, List.set_cons_zero, List.set_cons_succ, i64_w, i32_w]
           rfl
          exact norm_ (by simp only [putAll, Act.put, List.setIfInBounds_toArray, List.set_cons_zero, List.set_cons_succ]) (hCont (gb199) _ ⟨hHeld, (by (with_reducible repeat (first | refine blk_drewN ?_ _ | refine blk_drew ?_ | refine blk_alloc ?_ _)); exact BK176.out), (by (with_reducible repeat (first | refine blk_drewN ?_ _ | refine blk_drew ?_ | refine blk_alloc ?_ _)); exact BK180.out), (by (with_reducible repeat (first | refine blk_drewN ?_ _ | refine blk_drew ?_ | refine blk_alloc ?_ _)); exact BK199.out), GW199.out, GE199.out, NB176_199.out, NB199_176.out, NB180_199.out, NB199_180.out, (by repeat (first | (with_reducible first | exact HB.out | apply below_alloc | apply pw_below_drewN | apply below_drew1 | refine below_set ?_ GE176.out | refine below_set ?_ GE180.out | refine below_set ?_ GE199.out) | exact HB.out))⟩)
        rintro gb199 w104 ⟨hS_, h0_, h1_, h2_, h3_, h4_, h5_, h6_, h7_, h8_, h9_⟩
        have n0_ : Aside0 (w104.heap[gb176]? = some (.cells #[.int .u64 a1_0, .int .u64 a1_1, .int .u64 a1_2, .int .u64 a1_3, .int .u64 a1_4, .int .u64 a1_5, .int .u64 a1_6, .int .u64 a1_7, .int .u64 a1_8, .int .u64 a1_9, .int .u64 a1_10, .int .u64 a1_11, .int .u64 a1_12] 24 (0, 0))) := ⟨h0_⟩
        have n1_ : Aside0 (w104.heap[gb180]? = some (.cells #[.bool t178, .bool t179] 29 (0, 0))) := ⟨h1_⟩
        have n2_ : Aside0 (w104.heap[gb199]? = some (.cells #[.int .u64 0, .int .u64 0, .int .u64 0, .int .u64 0, .int .u64 0, .int .u64 0, .int .u64 0, .int .u64 0, .int .u64 0, .int .u64 0, .int .u64 0, .int .u64 0, .int .u64 0] 33 (0, 0))) := ⟨h2_⟩
        have n3_ : Aside0 (w.heap.size ≤ gb199) := ⟨h3_⟩
        have n4_ : Aside0 (w.heap.size ≤ gb199) := ⟨h4_⟩
        have n5_ : Aside0 (gb176 ≠ gb199) := ⟨h5_⟩
        have n6_ : Aside0 (gb199 ≠ gb176) := ⟨h6_⟩
        have n7_ : Aside0 (gb180 ≠ gb199) := ⟨h7_⟩
        have n8_ : Aside0 (gb199 ≠ gb180) := ⟨h8_⟩
        have n9_ : Aside0 (Below w.heap.size w w104) := ⟨h9_⟩
        clear BK176
        clear BK180
        clear HB
        clear h0_ h1_ h2_ h3_ h4_ h5_ h6_ h7_ h8_ h9_
        have BK176 := n0_
        have BK180 := n1_
        have BK199 := n2_
        have GW199 := n3_
        have GE199 := n4_
        have NB176_199 := n5_
        have NB199_176 := n6_
        have NB180_199 := n7_
        have NB199_180 := n8_
        have HB := n9_
        clear n0_ n1_ n2_ n3_ n4_ n5_ n6_ n7_ n8_ n9_
        have hHeld : w104.cell? ⟨gb180, 0, none⟩ = some (.bool t178) ∧ w104.cell? ⟨gb180, 1, none⟩ = some (.bool t179) := hS_
        refine norm_ (a' := ?_) ?_ ?_
        rotate_left
        ·
         simp only [putAll, Act.put, List.setIfInBounds_toArray, List.set_cons_zero, List.set_cons_succ]
         rfl
        refine one_ (i := 13) (N := none) (bm 15 16383) rfl rfl (one_of HT_.out (by kernel_rfl)) (by decide) (fun K hK => ?_)
        have hs105 : w104.cell? ⟨gb199, 0, none⟩ = some (.int .u64 0) := (blk_cell BK199.out 0).trans rfl
        have hfs105 := blk_frozen BK199.out 0
        have hns105_0 := NB176_199.out
        have hns105_1 := NB180_199.out
        have hms105_0 := NB199_176.out
        have hms105_1 := NB199_180.out
        have hs106 : w104.cell? ⟨gb199, 1, none⟩ = some (.int .u64 0) := (blk_cell BK199.out 1).trans rfl
        have hfs106 := blk_frozen BK199.out 1
        have hns106_0 := NB176_199.out
        have hns106_1 := NB180_199.out
        have hms106_0 := NB199_176.out
        have hms106_1 := NB199_180.out
        have hs107 : w104.cell? ⟨gb199, 2, none⟩ = some (.int .u64 0) := (blk_cell BK199.out 2).trans rfl
        have hfs107 := blk_frozen BK199.out 2
        have hns107_0 := NB176_199.out
        have hns107_1 := NB180_199.out
        have hms107_0 := NB199_176.out
        have hms107_1 := NB199_180.out
        have hs108 : w104.cell? ⟨gb199, 3, none⟩ = some (.int .u64 0) := (blk_cell BK199.out 3).trans rfl
        have hfs108 := blk_frozen BK199.out 3
        have hns108_0 := NB176_199.out
        have hns108_1 := NB180_199.out
        have hms108_0 := NB199_176.out
        have hms108_1 := NB199_180.out
        have hs109 : w104.cell? ⟨gb199, 4, none⟩ = some (.int .u64 0) := (blk_cell BK199.out 4).trans rfl
        have hfs109 := blk_frozen BK199.out 4
        have hns109_0 := NB176_199.out
        have hns109_1 := NB180_199.out
        have hms109_0 := NB199_176.out
        have hms109_1 := NB199_180.out
        have hs110 : w104.cell? ⟨gb199, 5, none⟩ = some (.int .u64 0) := (blk_cell BK199.out 5).trans rfl
        have hfs110 := blk_frozen BK199.out 5
        have hns110_0 := NB176_199.out
        have hns110_1 := NB180_199.out
        have hms110_0 := NB199_176.out
        have hms110_1 := NB199_180.out
        have hs111 : w104.cell? ⟨gb199, 6, none⟩ = some (.int .u64 0) := (blk_cell BK199.out 6).trans rfl
        have hfs111 := blk_frozen BK199.out 6
        have hns111_0 := NB176_199.out
        have hns111_1 := NB180_199.out
        have hms111_0 := NB199_176.out
        have hms111_1 := NB199_180.out
        have hs112 : w104.cell? ⟨gb199, 7, none⟩ = some (.int .u64 0) := (blk_cell BK199.out 7).trans rfl
        have hfs112 := blk_frozen BK199.out 7
        have hns112_0 := NB176_199.out
        have hns112_1 := NB180_199.out
        have hms112_0 := NB199_176.out
        have hms112_1 := NB199_180.out
        have hs113 : w104.cell? ⟨gb199, 8, none⟩ = some (.int .u64 0) := (blk_cell BK199.out 8).trans rfl
        have hfs113 := blk_frozen BK199.out 8
        have hns113_0 := NB176_199.out
        have hns113_1 := NB180_199.out
        have hms113_0 := NB199_176.out
        have hms113_1 := NB199_180.out
        have hs114 : w104.cell? ⟨gb199, 9, none⟩ = some (.int .u64 0) := (blk_cell BK199.out 9).trans rfl
        have hfs114 := blk_frozen BK199.out 9
        have hns114_0 := NB176_199.out
        have hns114_1 := NB180_199.out
        have hms114_0 := NB199_176.out
        have hms114_1 := NB199_180.out
        have hs115 : w104.cell? ⟨gb199, 10, none⟩ = some (.int .u64 0) := (blk_cell BK199.out 10).trans rfl
        have hfs115 := blk_frozen BK199.out 10
        have hns115_0 := NB176_199.out
        have hns115_1 := NB180_199.out
        have hms115_0 := NB199_176.out
        have hms115_1 := NB199_180.out
        have hs116 : w104.cell? ⟨gb199, 11, none⟩ = some (.int .u64 0) := (blk_cell BK199.out 11).trans rfl
        have hfs116 := blk_frozen BK199.out 11
        have hns116_0 := NB176_199.out
        have hns116_1 := NB180_199.out
        have hms116_0 := NB199_176.out
        have hms116_1 := NB199_180.out
        have hs117 : w104.cell? ⟨gb199, 12, none⟩ = some (.int .u64 0) := (blk_cell BK199.out 12).trans rfl
        have hfs117 := blk_frozen BK199.out 12
        have hns117_0 := NB176_199.out
        have hns117_1 := NB180_199.out
        have hms117_0 := NB199_176.out
        have hms117_1 := NB199_180.out
        refine skip_ (w1 := ?_) (by rfl) rfl ?_ ?_
        rotate_left
        ·
         go_simp
         rfl
        refine hK.out _ _ ⟨((cell_far (p := ⟨gb199, _, none⟩) NB180_199.out _).trans (((cell_far (p := ⟨gb199, _, none⟩) NB180_199.out _).trans (((cell_far (p := ⟨gb199, _, none⟩) NB180_199.out _).trans (((cell_far (p := ⟨gb199, _, none⟩) NB180_199.out _).trans (((cell_far (p := ⟨gb199, _, none⟩) NB180_199.out _).trans (((cell_far (p := ⟨gb199, _, none⟩) NB180_199.out _).trans (((cell_far (p := ⟨gb199, _, none⟩) NB180_199.out _).trans (((cell_far (p := ⟨gb199, _, none⟩) NB180_199.out _).trans (((cell_far (p := ⟨gb199, _, none⟩) NB180_199.out _).trans (((cell_far (p := ⟨gb199, _, none⟩) NB180_199.out _).trans (((cell_far (p := ⟨gb199, _, none⟩) NB180_199.out _).trans (((cell_far (p := ⟨gb199, _, none⟩) NB180_199.out _).trans (((cell_far (p := ⟨gb199, _, none⟩) NB180_199.out _).trans (hHeld.1)))))))))))))))))))))))))), ((cell_far (p := ⟨gb199, _, none⟩) NB180_199.out _).trans (((cell_far (p := ⟨gb199, _, none⟩) NB180_199.out _).trans (((cell_far (p := ⟨gb199, _, none⟩) NB180_199.out _).trans (((cell_far (p := ⟨gb199, _, none⟩) NB180_199.out _).trans (((cell_far (p := ⟨gb199, _, none⟩) NB180_199.out _).trans (((cell_far (p := ⟨gb199, _, none⟩) NB180_199.out _).trans (((cell_far (p := ⟨gb199, _, none⟩) NB180_199.out _).trans (((cell_far (p := ⟨gb199, _, none⟩) NB180_199.out _).trans (((cell_far (p := ⟨gb199, _, none⟩) NB180_199.out _).trans (((cell_far (p := ⟨gb199, _, none⟩) NB180_199.out _).trans (((cell_far (p := ⟨gb199, _, none⟩) NB180_199.out _).trans (((cell_far (p := ⟨gb199, _, none⟩) NB180_199.out _).trans (((cell_far (p := ⟨gb199, _, none⟩) NB180_199.out _).trans (hHeld.2))))))))))))))))))))))))))⟩ (fun hHeld => ?_)
        clear hK K
        refine pure_ (i := 14) (N := some 13) (v := ?_) (a' := ?_) (bm 15 32767) rfl rfl (any_of HT_.out (by kernel_rfl)) (fun _ _ _ h => h) (Or.inl ⟨by rfl, ?_⟩) ?_ ?_
        rotate_left
        ·
         intro w'
         go_simp
         with_reducible rfl
        rotate_left
        ·
         simp only [Act.put, List.setIfInBounds_toArray, List.set_cons_zero, List.set_cons_succ, i64_w, i32_w]
         rfl
        refine done_ (done_of HT_.out (by kernel_rfl)) ?_
        try go_wp2
        go_ret
        exact ⟨by first | rfl | (simp [errW_none, errW_some] <;> rfl) | (simp only [← hji22]; first | rfl | (simp [errW_none, errW_some] <;> rfl)) | (simp [*, errW_none, errW_some] <;> rfl), by repeat (first | (with_reducible first | exact HB.out | apply below_alloc | apply pw_below_drewN | apply below_drew1 | refine below_set ?_ GE176.out | refine below_set ?_ GE180.out | refine below_set ?_ GE199.out) | exact HB.out)⟩
      ·
       rw [if_neg c26] at H
       exact absurd H (by simp)
     ·
      rw [if_neg c24] at H
      exact absurd H (by simp)
    ·
     rw [if_neg c23] at H
     exact absurd H (by simp)
  ·
   rw [if_neg c9] at H
   have c9b0 : (t181.toList == t183.toList) = false := beq_eq_false_iff_ne.mpr c9
   have c9b1 : (t181.toList != t183.toList) = true := bne_iff_ne.mpr c9
   obtain rfl := Option.some.inj H
   go_enter Tryd.func3, Tryd.ntmps3
   go_wp2_with (first | ((with_reducible refine gate_dst (N := 4) rfl ?_); refine box_event ?hg (N := 4) ?hd (cs := #[.int .u64 a1_0, .int .u64 a1_1, .int .u64 a1_2, .int .u64 a1_3, .int .u64 a1_4, .int .u64 a1_5, .int .u64 a1_6, .int .u64 a1_7, .int .u64 a1_8, .int .u64 a1_9, .int .u64 a1_10, .int .u64 a1_11, .int .u64 a1_12]) (t := 24) ?hr ?_; (case hd => rfl); (case hg => rfl); (case hr => first | (go_simp; done) | (go_simp; rfl)); intro gb176 hg w118 hbox hb; have n0_ := Aside0.mk (below_step (by repeat (first | (with_reducible first | exact HB.out | apply below_alloc | apply pw_below_drewN | apply below_drew1) | exact HB.out)) hb); have n1_ := Aside0.mk (hbox); have n2_ := Aside0.mk ((by rw [hg]; exact (below_size (by repeat (first | (with_reducible first | exact HB.out | apply below_alloc | apply pw_below_drewN | apply below_drew1) | exact HB.out))) : w.heap.size ≤ gb176)); have n3_ := Aside0.mk ((by rw [hg]; exact (below_size (by repeat (first | (with_reducible first | exact HB.out | apply below_alloc | apply pw_below_drewN | apply below_drew1) | exact HB.out))) : w.heap.size ≤ gb176)); clear HB; have HB := n0_; have BK176 := n1_; have GW176 := n2_; have GE176 := n3_; clear n0_ n1_ n2_ n3_; clear hb hbox hg) | ((with_reducible refine gate_callee (f := 9) rfl ?_); refine goesL_ (some 14) rfl rfl Tryd.func9 (by kernel_rfl) rfl #[] rfl (by (try simp only [List.map_toArray, List.map_cons, List.map_nil]); first | done | rfl | (simp only [List.length_drop, List.length_take]; rfl)) ?_; (with_reducible refine (graverlaw05_speaks.calls k  true _ ?side1 A4.out).mono ?_); (case side1 => exact Laid_ehdr.below HLD_ehdr.out (by repeat (first | (with_reducible first | exact HB.out | apply below_alloc | apply pw_below_drewN | apply below_drew1 | refine below_set ?_ GE176.out) | exact HB.out))); rintro e w119 ⟨rfl, hb⟩; refine ⟨_, rfl, ?_⟩; have n0_ := Aside0.mk (blk_below (g := gb176) (o := .cells #[.int .u64 a1_0, .int .u64 a1_1, .int .u64 a1_2, .int .u64 a1_3, .int .u64 a1_4, .int .u64 a1_5, .int .u64 a1_6, .int .u64 a1_7, .int .u64 a1_8, .int .u64 a1_9, .int .u64 a1_10, .int .u64 a1_11, .int .u64 a1_12] 24 (0, 0)) (by (with_reducible repeat (first | refine blk_drewN ?_ _ | refine blk_drew ?_ | refine blk_alloc ?_ _)); exact BK176.out) hb); have n1_ := Aside0.mk (below_step (by repeat (first | (with_reducible first | exact HB.out | apply below_alloc | apply pw_below_drewN | apply below_drew1 | refine below_set ?_ GE176.out) | exact HB.out)) hb); clear BK176; clear HB; have BK176 := n0_; have HB := n1_; clear n0_ n1_; (try clear hb); (try clear hb2); (try clear hk); (try clear hi)) | ((with_reducible refine gate_callee (f := 10) rfl ?_); refine goesL_ (some 17) rfl rfl Tryd.func10 (by kernel_rfl) rfl #[.int .i64 a0] rfl (by (try simp only [List.map_toArray, List.map_cons, List.map_nil]); first | done | rfl | (simp only [List.length_drop, List.length_take]; rfl)) ?_; (with_reducible refine (graverlaw05_formOf.calls a0 t178 t179 _ A6.out).mono ?_); rintro e w120 ⟨rfl, hb⟩; refine ⟨_, rfl, ?_⟩; have n0_ := Aside0.mk (blk_below (g := gb176) (o := .cells #[.int .u64 a1_0, .int .u64 a1_1, .int .u64 a1_2, .int .u64 a1_3, .int .u64 a1_4, .int .u64 a1_5, .int .u64 a1_6, .int .u64 a1_7, .int .u64 a1_8, .int .u64 a1_9, .int .u64 a1_10, .int .u64 a1_11, .int .u64 a1_12] 24 (0, 0)) (by (with_reducible repeat (first | refine blk_drewN ?_ _ | refine blk_drew ?_ | refine blk_alloc ?_ _)); exact BK176.out) hb); have n1_ := Aside0.mk (below_step (by repeat (first | (with_reducible first | exact HB.out | apply below_alloc | apply pw_below_drewN | apply below_drew1 | refine below_set ?_ GE176.out) | exact HB.out)) hb); clear BK176; clear HB; have BK176 := n0_; have HB := n1_; clear n0_ n1_; (try clear hb); (try clear hb2); (try clear hk); (try clear hi)) | ((with_reducible refine gate_dst (N := 7) rfl ?_); refine box_event ?hg (N := 7) ?hd (cs := #[.bool false, .bool false]) (t := 29) ?hr ?_; (case hd => rfl); (case hg => rfl); (case hr => first | (go_simp; done) | (go_simp; rfl)); intro gb180 hg w121 hbox hb; have n0_ := Aside0.mk (blk_below (g := gb176) (o := .cells #[.int .u64 a1_0, .int .u64 a1_1, .int .u64 a1_2, .int .u64 a1_3, .int .u64 a1_4, .int .u64 a1_5, .int .u64 a1_6, .int .u64 a1_7, .int .u64 a1_8, .int .u64 a1_9, .int .u64 a1_10, .int .u64 a1_11, .int .u64 a1_12] 24 (0, 0)) (by (with_reducible repeat (first | refine blk_drewN ?_ _ | refine blk_drew ?_ | refine blk_alloc ?_ _)); exact BK176.out) hb); have n1_ := Aside0.mk (below_step (by repeat (first | (with_reducible first | exact HB.out | apply below_alloc | apply pw_below_drewN | apply below_drew1 | refine below_set ?_ GE176.out) | exact HB.out)) hb); have n2_ := Aside0.mk (hbox); have n3_ := Aside0.mk ((by rw [hg]; exact (below_size (by repeat (first | (with_reducible first | exact HB.out | apply below_alloc | apply pw_below_drewN | apply below_drew1 | refine below_set ?_ GE176.out) | exact HB.out))) : w.heap.size ≤ gb180)); have n4_ := Aside0.mk ((by rw [hg]; exact (below_size (by repeat (first | (with_reducible first | exact HB.out | apply below_alloc | apply pw_below_drewN | apply below_drew1 | refine below_set ?_ GE176.out) | exact HB.out))) : w.heap.size ≤ gb180)); have n5_ := Aside0.mk ((by rw [hg]; exact Nat.ne_of_lt (blk_lt (g := gb176) (o := .cells #[.int .u64 a1_0, .int .u64 a1_1, .int .u64 a1_2, .int .u64 a1_3, .int .u64 a1_4, .int .u64 a1_5, .int .u64 a1_6, .int .u64 a1_7, .int .u64 a1_8, .int .u64 a1_9, .int .u64 a1_10, .int .u64 a1_11, .int .u64 a1_12] 24 (0, 0)) (by (with_reducible repeat (first | refine blk_drewN ?_ _ | refine blk_drew ?_ | refine blk_alloc ?_ _)); exact BK176.out)) : gb176 ≠ gb180)); have n6_ := Aside0.mk ((by rw [hg]; exact Nat.ne_of_gt (blk_lt (g := gb176) (o := .cells #[.int .u64 a1_0, .int .u64 a1_1, .int .u64 a1_2, .int .u64 a1_3, .int .u64 a1_4, .int .u64 a1_5, .int .u64 a1_6, .int .u64 a1_7, .int .u64 a1_8, .int .u64 a1_9, .int .u64 a1_10, .int .u64 a1_11, .int .u64 a1_12] 24 (0, 0)) (by (with_reducible repeat (first | refine blk_drewN ?_ _ | refine blk_drew ?_ | refine blk_alloc ?_ _)); exact BK176.out)) : gb180 ≠ gb176)); clear BK176; clear HB; have BK176 := n0_; have HB := n1_; have BK180 := n2_; have GW180 := n3_; have GE180 := n4_; have NB176_180 := n5_; have NB180_176 := n6_; clear n0_ n1_ n2_ n3_ n4_ n5_ n6_; clear hb hbox hg; have hnb122 := NB180_176.out; have hnc122 := NB176_180.out; have hcz123_0 : w121.cell? ⟨gb180, 0, none⟩ = some (.bool false) := (blk_cell BK180.out 0).trans rfl; have hcz123_1 : w121.cell? ⟨gb180, 1, none⟩ = some (.bool false) := (blk_cell BK180.out 1).trans rfl; have hfz123_0 := blk_frozen BK180.out 0; have hfz123_1 := blk_frozen BK180.out 1; have hcz124_0 : w121.cell? ⟨gb176, 0, none⟩ = some (.int .u64 a1_0) := (blk_cell BK176.out 0).trans rfl; have hcz124_1 : w121.cell? ⟨gb176, 1, none⟩ = some (.int .u64 a1_1) := (blk_cell BK176.out 1).trans rfl; have hcz124_2 : w121.cell? ⟨gb176, 2, none⟩ = some (.int .u64 a1_2) := (blk_cell BK176.out 2).trans rfl; have hcz124_3 : w121.cell? ⟨gb176, 3, none⟩ = some (.int .u64 a1_3) := (blk_cell BK176.out 3).trans rfl; have hcz124_4 : w121.cell? ⟨gb176, 4, none⟩ = some (.int .u64 a1_4) := (blk_cell BK176.out 4).trans rfl; have hcz124_5 : w121.cell? ⟨gb176, 5, none⟩ = some (.int .u64 a1_5) := (blk_cell BK176.out 5).trans rfl; have hcz124_6 : w121.cell? ⟨gb176, 6, none⟩ = some (.int .u64 a1_6) := (blk_cell BK176.out 6).trans rfl; have hcz124_7 : w121.cell? ⟨gb176, 7, none⟩ = some (.int .u64 a1_7) := (blk_cell BK176.out 7).trans rfl; have hcz124_8 : w121.cell? ⟨gb176, 8, none⟩ = some (.int .u64 a1_8) := (blk_cell BK176.out 8).trans rfl; have hcz124_9 : w121.cell? ⟨gb176, 9, none⟩ = some (.int .u64 a1_9) := (blk_cell BK176.out 9).trans rfl; have hcz124_10 : w121.cell? ⟨gb176, 10, none⟩ = some (.int .u64 a1_10) := (blk_cell BK176.out 10).trans rfl; have hcz124_11 : w121.cell? ⟨gb176, 11, none⟩ = some (.int .u64 a1_11) := (blk_cell BK176.out 11).trans rfl; have hcz124_12 : w121.cell? ⟨gb176, 12, none⟩ = some (.int .u64 a1_12) := (blk_cell BK176.out 12).trans rfl; have hfz124_0 := blk_frozen BK176.out 0; have hfz124_1 := blk_frozen BK176.out 1; have hfz124_2 := blk_frozen BK176.out 2; have hfz124_3 := blk_frozen BK176.out 3; have hfz124_4 := blk_frozen BK176.out 4; have hfz124_5 := blk_frozen BK176.out 5; have hfz124_6 := blk_frozen BK176.out 6; have hfz124_7 := blk_frozen BK176.out 7; have hfz124_8 := blk_frozen BK176.out 8; have hfz124_9 := blk_frozen BK176.out 9; have hfz124_10 := blk_frozen BK176.out 10; have hfz124_11 := blk_frozen BK176.out 11; have hfz124_12 := blk_frozen BK176.out 12) | ((with_reducible refine gate_callee (f := 11) rfl ?_); refine goesL_ (some 21) rfl rfl Tryd.func11 (by kernel_rfl) rfl #[.agg #[.bool t178, .bool t179], .agg #[.int .u64 a1_0, .int .u64 a1_1, .int .u64 a1_2, .int .u64 a1_3, .int .u64 a1_4, .int .u64 a1_5, .int .u64 a1_6, .int .u64 a1_7, .int .u64 a1_8, .int .u64 a1_9, .int .u64 a1_10, .int .u64 a1_11, .int .u64 a1_12]] rfl (by (try simp only [List.map_toArray, List.map_cons, List.map_nil]); first | done | rfl | (simp only [List.length_drop, List.length_take]; rfl)) ?_; (with_reducible refine (ehdr_Put.calls k t178 t179 a1_0 a1_1 a1_2 a1_3 a1_4 a1_5 a1_6 a1_7 a1_8 a1_9 a1_10 a1_11 a1_12 t181 t182 _ ?side1 A7.out).mono ?_); (case side1 => exact Laid_ehdr.below HLD_ehdr.out (by repeat (first | (with_reducible first | exact HB.out | apply below_alloc | apply pw_below_drewN | apply below_drew1 | refine below_set ?_ GE176.out | refine below_set ?_ GE180.out) | exact HB.out))); rintro e w125 ⟨rfl, hb⟩; refine ⟨_, rfl, ?_⟩; have n0_ := Aside0.mk (blk_below (g := gb176) (o := .cells #[.int .u64 a1_0, .int .u64 a1_1, .int .u64 a1_2, .int .u64 a1_3, .int .u64 a1_4, .int .u64 a1_5, .int .u64 a1_6, .int .u64 a1_7, .int .u64 a1_8, .int .u64 a1_9, .int .u64 a1_10, .int .u64 a1_11, .int .u64 a1_12] 24 (0, 0)) (by (with_reducible repeat (first | refine blk_drewN ?_ _ | refine blk_drew ?_ | refine blk_alloc ?_ _)); refine blk_far ?_ NB176_180.out _; (with_reducible repeat (first | refine blk_drewN ?_ _ | refine blk_drew ?_ | refine blk_alloc ?_ _)); refine blk_far ?_ NB176_180.out _; (with_reducible repeat (first | refine blk_drewN ?_ _ | refine blk_drew ?_ | refine blk_alloc ?_ _)); exact BK176.out) hb); have n1_ := Aside0.mk (blk_below (g := gb180) (o := .cells #[.bool t178, .bool t179] 29 (0, 0)) (by (with_reducible repeat (first | refine blk_drewN ?_ _ | refine blk_drew ?_ | refine blk_alloc ?_ _)); refine blk_put (cs := #[.bool t178, .bool false]) ?_ 1 _ rfl; (with_reducible repeat (first | refine blk_drewN ?_ _ | refine blk_drew ?_ | refine blk_alloc ?_ _)); refine blk_put (cs := #[.bool false, .bool false]) ?_ 0 _ rfl; (with_reducible repeat (first | refine blk_drewN ?_ _ | refine blk_drew ?_ | refine blk_alloc ?_ _)); exact BK180.out) hb); have n2_ := Aside0.mk (below_step (by repeat (first | (with_reducible first | exact HB.out | apply below_alloc | apply pw_below_drewN | apply below_drew1 | refine below_set ?_ GE176.out | refine below_set ?_ GE180.out) | exact HB.out)) hb); clear BK176; clear BK180; clear HB; have BK176 := n0_; have BK180 := n1_; have HB := n2_; clear n0_ n1_ n2_; (try clear hb); (try clear hb2); (try clear hk); (try clear hi); have hcz126_0 : w125.cell? ⟨gb180, 0, none⟩ = some (.bool t178) := (blk_cell BK180.out 0).trans rfl; have hcz126_1 : w125.cell? ⟨gb180, 1, none⟩ = some (.bool t179) := (blk_cell BK180.out 1).trans rfl; have hfz126_0 := blk_frozen BK180.out 0; have hfz126_1 := blk_frozen BK180.out 1; have hcz127_0 : w125.cell? ⟨gb176, 0, none⟩ = some (.int .u64 a1_0) := (blk_cell BK176.out 0).trans rfl; have hcz127_1 : w125.cell? ⟨gb176, 1, none⟩ = some (.int .u64 a1_1) := (blk_cell BK176.out 1).trans rfl; have hcz127_2 : w125.cell? ⟨gb176, 2, none⟩ = some (.int .u64 a1_2) := (blk_cell BK176.out 2).trans rfl; have hcz127_3 : w125.cell? ⟨gb176, 3, none⟩ = some (.int .u64 a1_3) := (blk_cell BK176.out 3).trans rfl; have hcz127_4 : w125.cell? ⟨gb176, 4, none⟩ = some (.int .u64 a1_4) := (blk_cell BK176.out 4).trans rfl; have hcz127_5 : w125.cell? ⟨gb176, 5, none⟩ = some (.int .u64 a1_5) := (blk_cell BK176.out 5).trans rfl; have hcz127_6 : w125.cell? ⟨gb176, 6, none⟩ = some (.int .u64 a1_6) := (blk_cell BK176.out 6).trans rfl; have hcz127_7 : w125.cell? ⟨gb176, 7, none⟩ = some (.int .u64 a1_7) := (blk_cell BK176.out 7).trans rfl; have hcz127_8 : w125.cell? ⟨gb176, 8, none⟩ = some (.int .u64 a1_8) := (blk_cell BK176.out 8).trans rfl; have hcz127_9 : w125.cell? ⟨gb176, 9, none⟩ = some (.int .u64 a1_9) := (blk_cell BK176.out 9).trans rfl; have hcz127_10 : w125.cell? ⟨gb176, 10, none⟩ = some (.int .u64 a1_10) := (blk_cell BK176.out 10).trans rfl; have hcz127_11 : w125.cell? ⟨gb176, 11, none⟩ = some (.int .u64 a1_11) := (blk_cell BK176.out 11).trans rfl; have hcz127_12 : w125.cell? ⟨gb176, 12, none⟩ = some (.int .u64 a1_12) := (blk_cell BK176.out 12).trans rfl; have hfz127_0 := blk_frozen BK176.out 0; have hfz127_1 := blk_frozen BK176.out 1; have hfz127_2 := blk_frozen BK176.out 2; have hfz127_3 := blk_frozen BK176.out 3; have hfz127_4 := blk_frozen BK176.out 4; have hfz127_5 := blk_frozen BK176.out 5; have hfz127_6 := blk_frozen BK176.out 6; have hfz127_7 := blk_frozen BK176.out 7; have hfz127_8 := blk_frozen BK176.out 8; have hfz127_9 := blk_frozen BK176.out 9; have hfz127_10 := blk_frozen BK176.out 10; have hfz127_11 := blk_frozen BK176.out 11; have hfz127_12 := blk_frozen BK176.out 12) | ((with_reducible refine gate_callee (f := 12) rfl ?_); refine goesL_ (some 31) rfl rfl Tryd.func12 (by kernel_rfl) rfl #[.bool t179, .bool t178, .agg #[.int .u64 a1_0, .int .u64 a1_1, .int .u64 a1_2, .int .u64 a1_3, .int .u64 a1_4, .int .u64 a1_5, .int .u64 a1_6, .int .u64 a1_7, .int .u64 a1_8, .int .u64 a1_9, .int .u64 a1_10, .int .u64 a1_11, .int .u64 a1_12]] rfl (by (try simp only [List.map_toArray, List.map_cons, List.map_nil]); first | done | rfl | (simp only [List.length_drop, List.length_take]; rfl)) ?_; (with_reducible refine (graverref05_Put.calls k t179 t178 a1_0 a1_1 a1_2 a1_3 a1_4 a1_5 a1_6 a1_7 a1_8 a1_9 a1_10 a1_11 a1_12 t183 t184 _ A8.out).mono ?_); rintro e w128 ⟨rfl, hb⟩; refine ⟨_, rfl, ?_⟩; have n0_ := Aside0.mk (blk_below (g := gb176) (o := .cells #[.int .u64 a1_0, .int .u64 a1_1, .int .u64 a1_2, .int .u64 a1_3, .int .u64 a1_4, .int .u64 a1_5, .int .u64 a1_6, .int .u64 a1_7, .int .u64 a1_8, .int .u64 a1_9, .int .u64 a1_10, .int .u64 a1_11, .int .u64 a1_12] 24 (0, 0)) (by (with_reducible repeat (first | refine blk_drewN ?_ _ | refine blk_drew ?_ | refine blk_alloc ?_ _)); exact BK176.out) hb); have n1_ := Aside0.mk (blk_below (g := gb180) (o := .cells #[.bool t178, .bool t179] 29 (0, 0)) (by (with_reducible repeat (first | refine blk_drewN ?_ _ | refine blk_drew ?_ | refine blk_alloc ?_ _)); exact BK180.out) hb); have n2_ := Aside0.mk (below_step (by repeat (first | (with_reducible first | exact HB.out | apply below_alloc | apply pw_below_drewN | apply below_drew1 | refine below_set ?_ GE176.out | refine below_set ?_ GE180.out) | exact HB.out)) hb); clear BK176; clear BK180; clear HB; have BK176 := n0_; have BK180 := n1_; have HB := n2_; clear n0_ n1_ n2_; (try clear hb); (try clear hb2); (try clear hk); (try clear hi)))
   go_ret
   exact ⟨by first | rfl | (simp [errW_none, errW_some] <;> rfl) | (simp [*, errW_none, errW_some] <;> rfl), by repeat (first | (with_reducible first | exact HB.out | apply below_alloc | apply pw_below_drewN | apply below_drew1 | refine below_set ?_ GE176.out | refine below_set ?_ GE180.out) | exact HB.out)⟩
 ·
  replace c5 := Bool.eq_false_iff.mpr c5
  subst c5
  have H1 : (some false) = some r := by rw [if_neg (show ¬ (false = true) by decide)] at H; exact H
  clear H
  have H := H1
  clear H1
  obtain rfl := Option.some.inj H
  go_enter Tryd.func3, Tryd.ntmps3
  go_wp2_with (first | ((with_reducible refine gate_dst (N := 4) rfl ?_); refine box_event ?hg (N := 4) ?hd (cs := #[.int .u64 a1_0, .int .u64 a1_1, .int .u64 a1_2, .int .u64 a1_3, .int .u64 a1_4, .int .u64 a1_5, .int .u64 a1_6, .int .u64 a1_7, .int .u64 a1_8, .int .u64 a1_9, .int .u64 a1_10, .int .u64 a1_11, .int .u64 a1_12]) (t := 24) ?hr ?_; (case hd => rfl); (case hg => rfl); (case hr => first | (go_simp; done) | (go_simp; rfl)); intro gb176 hg w129 hbox hb; have n0_ := Aside0.mk (below_step (by repeat (first | (with_reducible first | exact HB.out | apply below_alloc | apply pw_below_drewN | apply below_drew1) | exact HB.out)) hb); have n1_ := Aside0.mk (hbox); have n2_ := Aside0.mk ((by rw [hg]; exact (below_size (by repeat (first | (with_reducible first | exact HB.out | apply below_alloc | apply pw_below_drewN | apply below_drew1) | exact HB.out))) : w.heap.size ≤ gb176)); have n3_ := Aside0.mk ((by rw [hg]; exact (below_size (by repeat (first | (with_reducible first | exact HB.out | apply below_alloc | apply pw_below_drewN | apply below_drew1) | exact HB.out))) : w.heap.size ≤ gb176)); clear HB; have HB := n0_; have BK176 := n1_; have GW176 := n2_; have GE176 := n3_; clear n0_ n1_ n2_ n3_; clear hb hbox hg) | ((with_reducible refine gate_callee (f := 9) rfl ?_); refine goesL_ (some 14) rfl rfl Tryd.func9 (by kernel_rfl) rfl #[] rfl (by (try simp only [List.map_toArray, List.map_cons, List.map_nil]); first | done | rfl | (simp only [List.length_drop, List.length_take]; rfl)) ?_; (with_reducible refine (graverlaw05_speaks.calls k  false _ ?side1 A4.out).mono ?_); (case side1 => exact Laid_ehdr.below HLD_ehdr.out (by repeat (first | (with_reducible first | exact HB.out | apply below_alloc | apply pw_below_drewN | apply below_drew1 | refine below_set ?_ GE176.out) | exact HB.out))); rintro e w130 ⟨rfl, hb⟩; refine ⟨_, rfl, ?_⟩; have n0_ := Aside0.mk (blk_below (g := gb176) (o := .cells #[.int .u64 a1_0, .int .u64 a1_1, .int .u64 a1_2, .int .u64 a1_3, .int .u64 a1_4, .int .u64 a1_5, .int .u64 a1_6, .int .u64 a1_7, .int .u64 a1_8, .int .u64 a1_9, .int .u64 a1_10, .int .u64 a1_11, .int .u64 a1_12] 24 (0, 0)) (by (with_reducible repeat (first | refine blk_drewN ?_ _ | refine blk_drew ?_ | refine blk_alloc ?_ _)); exact BK176.out) hb); have n1_ := Aside0.mk (below_step (by repeat (first | (with_reducible first | exact HB.out | apply below_alloc | apply pw_below_drewN | apply below_drew1 | refine below_set ?_ GE176.out) | exact HB.out)) hb); clear BK176; clear HB; have BK176 := n0_; have HB := n1_; clear n0_ n1_; (try clear hb); (try clear hb2); (try clear hk); (try clear hi)))
  go_ret
  exact ⟨by first | rfl | (simp [errW_none, errW_some] <;> rfl) | (simp [*, errW_none, errW_some] <;> rfl), by repeat (first | (with_reducible first | exact HB.out | apply below_alloc | apply pw_below_drewN | apply below_drew1 | refine below_set ?_ GE176.out) | exact HB.out)⟩

/-- THE ONE PURE STATEMENT of graverlaw05_EhdrPuts: yours. -/
def graverlaw05_EhdrPuts.Pure : Prop := ∀ (a0 : Int) (a1_0 : Int) (a1_1 : Int) (a1_2 : Int) (a1_3 : Int) (a1_4 : Int) (a1_5 : Int) (a1_6 : Int) (a1_7 : Int) (a1_8 : Int) (a1_9 : Int) (a1_10 : Int) (a1_11 : Int) (a1_12 : Int) (a2 : ByteArray), (Lit.int .i64 a0).wf = true → (Lit.int .u64 a1_0).wf = true → (Lit.int .u64 a1_1).wf = true → (Lit.int .u64 a1_2).wf = true → (Lit.int .u64 a1_3).wf = true → (Lit.int .u64 a1_4).wf = true → (Lit.int .u64 a1_5).wf = true → (Lit.int .u64 a1_6).wf = true → (Lit.int .u64 a1_7).wf = true → (Lit.int .u64 a1_8).wf = true → (Lit.int .u64 a1_9).wf = true → (Lit.int .u64 a1_10).wf = true → (Lit.int .u64 a1_11).wf = true → (Lit.int .u64 a1_12).wf = true → a2.size ≤ 140737488351232 → ∃ k, graverlaw05_EhdrPuts.f k a0 a1_0 a1_1 a1_2 a1_3 a1_4 a1_5 a1_6 a1_7 a1_8 a1_9 a1_10 a1_11 a1_12 a2 = some true
theorem graverlaw05_EhdrPuts.walk (P : graverlaw05_EhdrPuts.Pure) (a0 : Int) (a1_0 : Int) (a1_1 : Int) (a1_2 : Int) (a1_3 : Int) (a1_4 : Int) (a1_5 : Int) (a1_6 : Int) (a1_7 : Int) (a1_8 : Int) (a1_9 : Int) (a1_10 : Int) (a1_11 : Int) (a1_12 : Int) (a2 : ByteArray) (w : World) (hlaid_ehdr : Laid_ehdr w) (w0 : (Lit.int .i64 a0).wf = true) (w1_0 : (Lit.int .u64 a1_0).wf = true) (w1_1 : (Lit.int .u64 a1_1).wf = true) (w1_2 : (Lit.int .u64 a1_2).wf = true) (w1_3 : (Lit.int .u64 a1_3).wf = true) (w1_4 : (Lit.int .u64 a1_4).wf = true) (w1_5 : (Lit.int .u64 a1_5).wf = true) (w1_6 : (Lit.int .u64 a1_6).wf = true) (w1_7 : (Lit.int .u64 a1_7).wf = true) (w1_8 : (Lit.int .u64 a1_8).wf = true) (w1_9 : (Lit.int .u64 a1_9).wf = true) (w1_10 : (Lit.int .u64 a1_10).wf = true) (w1_11 : (Lit.int .u64 a1_11).wf = true) (w1_12 : (Lit.int .u64 a1_12).wf = true) (w2 : a2.size ≤ 140737488351232) :
  Calls Tryd.prog 3 #[.int .i64 a0, .agg #[.int .u64 a1_0, .int .u64 a1_1, .int .u64 a1_2, .int .u64 a1_3, .int .u64 a1_4, .int .u64 a1_5, .int .u64 a1_6, .int .u64 a1_7, .int .u64 a1_8, .int .u64 a1_9, .int .u64 a1_10, .int .u64 a1_11, .int .u64 a1_12], .string a2] w fun e w' => e = .returned (.bool true) ∧ Below w.heap.size w w' := by
 obtain ⟨k, h⟩ := P a0 a1_0 a1_1 a1_2 a1_3 a1_4 a1_5 a1_6 a1_7 a1_8 a1_9 a1_10 a1_11 a1_12 a2 w0 w1_0 w1_1 w1_2 w1_3 w1_4 w1_5 w1_6 w1_7 w1_8 w1_9 w1_10 w1_11 w1_12 w2
 refine (graverlaw05_EhdrPuts.calls k a0 a1_0 a1_1 a1_2 a1_3 a1_4 a1_5 a1_6 a1_7 a1_8 a1_9 a1_10 a1_11 a1_12 a2 true w hlaid_ehdr h).mono ?_
 rintro e w' ⟨rfl, hd⟩
 exact ⟨rfl, hd⟩

end Go.Proofs.YthbkjppaimjpmaaDoor.Q
