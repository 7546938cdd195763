/- What Go functions of the program compute, each as a Lean function with the proof that the call returns just that. No condition but those in the statements. -/
import Derived.Test.YtjmjebbjfjgbeaaDoorQ0
import Derived.Test.YtjmjebbjfjgbeaaDoorMpl
import Derived.Test.YtjmjebbjfjgbeaaDoorQ8
import Derived.Test.YtjmjebbjfjgbeaaDoorQ10
namespace Go.Proofs.YtjmjebbjfjgbeaaDoor.Q
open Go.RowKit Go.Proofs.YtjmjebbjfjgbeaaDoorW.PrintWords Go.Proofs.YtjmjebbjfjgbeaaDoorW.PrintLast Go.Proofs.YtjmjebbjfjgbeaaDoorW.PrintMore
attribute [local go_sem] max2_int min2_int max_two min_two max_three min_three max_four min_four   -- for this text's walks alone
set_option linter.unusedVariables false
set_option linter.unusedSimpArgs false

/-! ### graverlaw05_EhdrWords: function 8 -/
def graverlaw05_EhdrWords.j0 : Nat → Int → Int → Bool → Option (Bool)
 | 0, _, _, _ => none
 | k + 1, x0, x1, x33 => if x33 = true then (some false) else ((ehdr_MachineName.f x0).bind fun t167 => (if mapHas tabM_ehdr_machines x0 = true then (if t167.toList = (mapStr tabM_ehdr_machines x0).toList then ((ehdr_MachineName.f x1).bind fun t168 => (if t167.toList = t168.toList then (if x0 = x1 then ((ehdr_TypeName.f x0).bind fun t169 => ((ehdr_TypeName.f x1).bind fun t170 => (if t169.toList = t170.toList then (some (x0 == x1)) else (some (!(x0 == x1)))))) else (some false)) else (if x0 = x1 then (some false) else ((ehdr_TypeName.f x0).bind fun t171 => ((ehdr_TypeName.f x1).bind fun t172 => (if t171.toList = t172.toList then (some (x0 == x1)) else (some (!(x0 == x1))))))))) else (some false)) else (if 0 ≤ 2 then (if 2 ≤ (t167.size : Int) then (if (t167.extract 0 2).toList = ([48, 120] : List UInt8) then ((ehdr_MachineName.f x1).bind fun t173 => (if t167.toList = t173.toList then (if x0 = x1 then ((ehdr_TypeName.f x0).bind fun t174 => ((ehdr_TypeName.f x1).bind fun t175 => (if t174.toList = t175.toList then (some (x0 == x1)) else (some (!(x0 == x1)))))) else (some false)) else (if x0 = x1 then (some false) else ((ehdr_TypeName.f x0).bind fun t176 => ((ehdr_TypeName.f x1).bind fun t177 => (if t176.toList = t177.toList then (some (x0 == x1)) else (some (!(x0 == x1))))))))) else (some false)) else (none)) else (none))))
def graverlaw05_EhdrWords.f (k : Nat) (a0 : Int) (a1 : Int) : Option (Bool) := (graverlaw05_speaks.f k).bind fun t159 => (if t159 = true then ((some (([(⟨#[78, 79, 78, 69]⟩ : ByteArray), (⟨#[82, 69, 76]⟩ : ByteArray), (⟨#[69, 88, 69, 67]⟩ : ByteArray), (⟨#[68, 89, 78]⟩ : ByteArray), (⟨#[67, 79, 82, 69]⟩ : ByteArray)] : List ByteArray) : List ByteArray)).bind fun y160 => (if a0 < 5 then ((ehdr_TypeName.f a0).bind fun t163 => (if 0 ≤ a0 then (if a0 < (y160.length : Int) then (if t163.toList = (rdOf ByteArray.empty y160 a0).toList then (if a0 ≥ 5 then ((ehdr_TypeName.f a0).bind fun t165 => (if 0 ≤ 2 then (if 2 ≤ (t165.size : Int) then (graverlaw05_EhdrWords.j0 k a0 a1 ((t165.extract 0 2).toList != ([48, 120] : List UInt8))) else (none)) else (none))) else (graverlaw05_EhdrWords.j0 k a0 a1 false)) else (graverlaw05_EhdrWords.j0 k a0 a1 true)) else (none)) else (none))) else (if a0 ≥ 5 then ((ehdr_TypeName.f a0).bind fun t166 => (if 0 ≤ 2 then (if 2 ≤ (t166.size : Int) then (graverlaw05_EhdrWords.j0 k a0 a1 ((t166.extract 0 2).toList != ([48, 120] : List UInt8))) else (none)) else (none))) else (graverlaw05_EhdrWords.j0 k a0 a1 false)))) else (some false))
theorem graverlaw05_EhdrWords.mono_l : ∀ k, (∀ y0 y1 y2, LeO (graverlaw05_EhdrWords.j0 k y0 y1 y2) (graverlaw05_EhdrWords.j0 (k + 1) y0 y1 y2))
 | 0 => fun _ _ _ r h => by simp [graverlaw05_EhdrWords.j0] at h
 | k + 1 => by
  have ih0 := graverlaw05_EhdrWords.mono_l k
  ·
   intro y0 y1 y2
   unfold graverlaw05_EhdrWords.j0
   repeat' first
   | (with_reducible exact ih0 _ _ _)
   | (with_reducible exact graverlaw05_speaks.mono _)
   | (with_reducible exact LeO.refl _)
   | (with_reducible exact LeO.none _)
   | (with_reducible refine LeO.ite ?_ ?_)
   | (with_reducible refine LeO.bind ?_ (fun _ => ?_))
   | exact ih0 _ _ _
   | exact graverlaw05_speaks.mono _
   | exact LeO.none _
   | refine LeO.ite ?_ ?_
   | refine LeO.bind ?_ (fun _ => ?_)
theorem graverlaw05_EhdrWords.mono : ∀ a0 a1 k, LeO (graverlaw05_EhdrWords.f k a0 a1) (graverlaw05_EhdrWords.f (k + 1) a0 a1) := by
 intro a0 a1 k
 have ih0 := graverlaw05_EhdrWords.mono_l k
 unfold graverlaw05_EhdrWords.f
 repeat' first
   | (with_reducible exact ih0 _ _ _)
   | (with_reducible exact graverlaw05_speaks.mono _)
   | (with_reducible exact LeO.refl _)
   | (with_reducible exact LeO.none _)
   | (with_reducible refine LeO.ite ?_ ?_)
   | (with_reducible refine LeO.bind ?_ (fun _ => ?_))
   | exact ih0 _ _ _
   | exact graverlaw05_speaks.mono _
   | exact LeO.none _
   | refine LeO.ite ?_ ?_
   | refine LeO.bind ?_ (fun _ => ?_)
def graverlaw05_EhdrWords.T4 : Bool × List (List Nat × List Nat) := (true, [([], []), ([0], [0]), ([1], [1]), ([2], [2]), ([3, 2, 2], [2, 3]), ([2], [2]), ([2], [2]), ([5, 6, 2], [2, 5, 6]), ([7, 2], [2, 7]), ([4, 8, 2], [2, 4, 8]), ([2, 9], [2, 9]), ([10, 4], [10]), ([11], [11]), ([12, 11], [11, 12]), ([13, 11, 11], [11, 13]), ([14], [14]), ([15, 14, 14], [14, 15]), ([16, 14], [14, 16]), ([17, 14], [14, 17]), ([14, 18, 11], [11, 14, 18]), ([11, 19], [11, 19])])
def graverlaw05_EhdrWords.B4 : List Nat := [0, 1, 3, 7, 15, 7, 7, 103, 231, 511, 1023, 2047, 4095, 8191, 16383, 32767, 65535, 131071, 262143, 524287, 1048575]
theorem graverlaw05_EhdrWords.tab4 : rtab .any (opsOf Tryd.f8 4) = graverlaw05_EhdrWords.T4 := by kernel_rfl
theorem graverlaw05_EhdrWords.bits4 : waitsOk graverlaw05_EhdrWords.T4.2 graverlaw05_EhdrWords.B4 = true := by kernel_rfl
set_option maxHeartbeats 8000000 in
set_option maxRecDepth 100000 in
theorem graverlaw05_EhdrWords.calls (k : Nat) (a0 : Int) (a1 : Int) (r : Bool) (w : World) (hlaid_ehdr : Laid_ehdr w) (hlaid_ehdrn : Laid_ehdrn w) (hlaid_strconv : Laid_strconv w) (hrt : r = true) (h : graverlaw05_EhdrWords.f k a0 a1 = some r) :
  Calls Tryd.prog 8 #[.int .u64 a0, .int .u64 a1] w fun e w' => e = .returned (.bool r) ∧ Below w.heap.size w w' := by
 have HB := aS (Below.refl w.heap.size w)
 have HLD_ehdr := aS hlaid_ehdr
 clear hlaid_ehdr
 have HLD_ehdrn := aS hlaid_ehdrn
 clear hlaid_ehdrn
 have HLD_strconv := aS hlaid_strconv
 clear hlaid_strconv
 have HRT := aS hrt
 clear hrt
 have H : ((graverlaw05_speaks.f k).bind fun t159 => (if t159 = true then ((some (([(⟨#[78, 79, 78, 69]⟩ : ByteArray), (⟨#[82, 69, 76]⟩ : ByteArray), (⟨#[69, 88, 69, 67]⟩ : ByteArray), (⟨#[68, 89, 78]⟩ : ByteArray), (⟨#[67, 79, 82, 69]⟩ : ByteArray)] : List ByteArray) : List ByteArray)).bind fun y160 => (if a0 < 5 then ((ehdr_TypeName.f a0).bind fun t163 => (if 0 ≤ a0 then (if a0 < (y160.length : Int) then (if t163.toList = (rdOf ByteArray.empty y160 a0).toList then (if a0 ≥ 5 then ((ehdr_TypeName.f a0).bind fun t165 => (if 0 ≤ 2 then (if 2 ≤ (t165.size : Int) then (graverlaw05_EhdrWords.j0 k a0 a1 ((t165.extract 0 2).toList != ([48, 120] : List UInt8))) else (none)) else (none))) else (graverlaw05_EhdrWords.j0 k a0 a1 false)) else (graverlaw05_EhdrWords.j0 k a0 a1 true)) else (none)) else (none))) else (if a0 ≥ 5 then ((ehdr_TypeName.f a0).bind fun t166 => (if 0 ≤ 2 then (if 2 ≤ (t166.size : Int) then (graverlaw05_EhdrWords.j0 k a0 a1 ((t166.extract 0 2).toList != ([48, 120] : List UInt8))) else (none)) else (none))) else (graverlaw05_EhdrWords.j0 k a0 a1 false)))) else (some false))) = some r := h
 clear h
 replace H := Option.bind_eq_some_iff.mp H
 obtain ⟨t159, A30, H⟩ := H
 replace H : (if t159 = true then ((some (([(⟨#[78, 79, 78, 69]⟩ : ByteArray), (⟨#[82, 69, 76]⟩ : ByteArray), (⟨#[69, 88, 69, 67]⟩ : ByteArray), (⟨#[68, 89, 78]⟩ : ByteArray), (⟨#[67, 79, 82, 69]⟩ : ByteArray)] : List ByteArray) : List ByteArray)).bind fun y160 => (if a0 < 5 then ((ehdr_TypeName.f a0).bind fun t163 => (if 0 ≤ a0 then (if a0 < (y160.length : Int) then (if t163.toList = (rdOf ByteArray.empty y160 a0).toList then (if a0 ≥ 5 then ((ehdr_TypeName.f a0).bind fun t165 => (if 0 ≤ 2 then (if 2 ≤ (t165.size : Int) then (graverlaw05_EhdrWords.j0 k a0 a1 ((t165.extract 0 2).toList != ([48, 120] : List UInt8))) else (none)) else (none))) else (graverlaw05_EhdrWords.j0 k a0 a1 false)) else (graverlaw05_EhdrWords.j0 k a0 a1 true)) else (none)) else (none))) else (if a0 ≥ 5 then ((ehdr_TypeName.f a0).bind fun t166 => (if 0 ≤ 2 then (if 2 ≤ (t166.size : Int) then (graverlaw05_EhdrWords.j0 k a0 a1 ((t166.extract 0 2).toList != ([48, 120] : List UInt8))) else (none)) else (none))) else (graverlaw05_EhdrWords.j0 k a0 a1 false)))) else (some false)) = some r := H
 have A3 := aS A30
 clear A30
 by_cases c4 : t159 = true
 ·
  subst c4
  have H1 : ((some (([(⟨#[78, 79, 78, 69]⟩ : ByteArray), (⟨#[82, 69, 76]⟩ : ByteArray), (⟨#[69, 88, 69, 67]⟩ : ByteArray), (⟨#[68, 89, 78]⟩ : ByteArray), (⟨#[67, 79, 82, 69]⟩ : ByteArray)] : List ByteArray) : List ByteArray)).bind fun y160 => (if a0 < 5 then ((ehdr_TypeName.f a0).bind fun t163 => (if 0 ≤ a0 then (if a0 < (y160.length : Int) then (if t163.toList = (rdOf ByteArray.empty y160 a0).toList then (if a0 ≥ 5 then ((ehdr_TypeName.f a0).bind fun t165 => (if 0 ≤ 2 then (if 2 ≤ (t165.size : Int) then (graverlaw05_EhdrWords.j0 k a0 a1 ((t165.extract 0 2).toList != ([48, 120] : List UInt8))) else (none)) else (none))) else (graverlaw05_EhdrWords.j0 k a0 a1 false)) else (graverlaw05_EhdrWords.j0 k a0 a1 true)) else (none)) else (none))) else (if a0 ≥ 5 then ((ehdr_TypeName.f a0).bind fun t166 => (if 0 ≤ 2 then (if 2 ≤ (t166.size : Int) then (graverlaw05_EhdrWords.j0 k a0 a1 ((t166.extract 0 2).toList != ([48, 120] : List UInt8))) else (none)) else (none))) else (graverlaw05_EhdrWords.j0 k a0 a1 false)))) = some r := by rw [if_pos rfl] at H; exact H
  clear H
  have H := H1
  clear H1
  obtain ⟨y160, hy160⟩ : ∃ y_ : List ByteArray, y_ = (([(⟨#[78, 79, 78, 69]⟩ : ByteArray), (⟨#[82, 69, 76]⟩ : ByteArray), (⟨#[69, 88, 69, 67]⟩ : ByteArray), (⟨#[68, 89, 78]⟩ : ByteArray), (⟨#[67, 79, 82, 69]⟩ : ByteArray)] : List ByteArray)) := ⟨_, rfl⟩
  replace H : (if a0 < 5 then ((ehdr_TypeName.f a0).bind fun t163 => (if 0 ≤ a0 then (if a0 < (y160.length : Int) then (if t163.toList = (rdOf ByteArray.empty y160 a0).toList then (if a0 ≥ 5 then ((ehdr_TypeName.f a0).bind fun t165 => (if 0 ≤ 2 then (if 2 ≤ (t165.size : Int) then (graverlaw05_EhdrWords.j0 k a0 a1 ((t165.extract 0 2).toList != ([48, 120] : List UInt8))) else (none)) else (none))) else (graverlaw05_EhdrWords.j0 k a0 a1 false)) else (graverlaw05_EhdrWords.j0 k a0 a1 true)) else (none)) else (none))) else (if a0 ≥ 5 then ((ehdr_TypeName.f a0).bind fun t166 => (if 0 ≤ 2 then (if 2 ≤ (t166.size : Int) then (graverlaw05_EhdrWords.j0 k a0 a1 ((t166.extract 0 2).toList != ([48, 120] : List UInt8))) else (none)) else (none))) else (graverlaw05_EhdrWords.j0 k a0 a1 false))) = some r := by first | (rw [hy160]; with_reducible exact H) | (have H2_ := (Option.bind_some _ _).symm.trans H; rw [hy160]; with_reducible exact H2_) | (have H2_ := (Option.bind_some _ _).symm.trans H; with_reducible exact H2_) | with_reducible exact H | (rw [hy160]; exact H) | exact H
  have Ny160 := aS hy160
  clear hy160
  have HC5 := aS H
  clear H
  go_enter Tryd.func8, Tryd.ntmps8
  go_upto_region 4 with (first | ((with_reducible refine gate_callee (f := 22) rfl ?_); refine goesL_ (some 10) rfl rfl Tryd.func22 (by kernel_rfl) rfl #[] rfl (by (try simp only [List.map_toArray, List.map_cons, List.map_nil]); first | done | rfl | (simp only [List.length_drop, List.length_take]; rfl)) ?_; (with_reducible refine (graverlaw05_speaks.calls k  true _ ?side1 A3.out).mono ?_); (case side1 => exact Laid_ehdr.below HLD_ehdr.out (by repeat (first | (with_reducible first | exact HB.out | apply below_alloc | apply pw_below_drewN | apply below_drew1) | exact HB.out))); rintro e w6 ⟨rfl, hb⟩; refine ⟨_, rfl, ?_⟩; have n0_ := aS (below_step (by repeat (first | (with_reducible first | exact HB.out | apply below_alloc | apply pw_below_drewN | apply below_drew1) | exact HB.out)) hb); clear HB; have HB := n0_; clear n0_; (try clear hb); (try clear hb2); (try clear hk); (try clear hi)) | ((with_reducible refine gate_dst (N := 12) rfl ?_); refine Kd.R_lit Kd.string _ 9 ?hg (N := 12) ?hd (xs := ([(⟨#[78, 79, 78, 69]⟩ : ByteArray), (⟨#[82, 69, 76]⟩ : ByteArray), (⟨#[69, 88, 69, 67]⟩ : ByteArray), (⟨#[68, 89, 78]⟩ : ByteArray), (⟨#[67, 79, 82, 69]⟩ : ByteArray)] : List ByteArray)) (inner := [.string (⟨#[78, 79, 78, 69]⟩ : ByteArray), .string (⟨#[82, 69, 76]⟩ : ByteArray), .string (⟨#[69, 88, 69, 67]⟩ : ByteArray), .string (⟨#[68, 89, 78]⟩ : ByteArray), .string (⟨#[67, 79, 82, 69]⟩ : ByteArray)]) (ok := fun _ => True) (okp := fun _ => True) ?hr ?hp (fun _ hk => hk) trivial (Below.refl _ _) (Nat.le_refl _) (by simp) ?_; (case hd => rfl); (case hg => rfl); (case hr => (go_simp; try rfl)); (case hp => exact (Reps.one (show Kd.M Kd.string _ _ _ (⟨#[78, 79, 78, 69]⟩ : ByteArray) [.string (⟨#[78, 79, 78, 69]⟩ : ByteArray)] from rfl) (Reps.one (show Kd.M Kd.string _ _ _ (⟨#[82, 69, 76]⟩ : ByteArray) [.string (⟨#[82, 69, 76]⟩ : ByteArray)] from rfl) (Reps.one (show Kd.M Kd.string _ _ _ (⟨#[69, 88, 69, 67]⟩ : ByteArray) [.string (⟨#[69, 88, 69, 67]⟩ : ByteArray)] from rfl) (Reps.one (show Kd.M Kd.string _ _ _ (⟨#[68, 89, 78]⟩ : ByteArray) [.string (⟨#[68, 89, 78]⟩ : ByteArray)] from rfl) (Reps.one (show Kd.M Kd.string _ _ _ (⟨#[67, 79, 82, 69]⟩ : ByteArray) [.string (⟨#[67, 79, 82, 69]⟩ : ByteArray)] from rfl) (Reps.none _ _))))))); intro v161 w7 ho8 hb hg_ hnew_; clear hg_ hnew_; (first | rw [← Ny160.out] at ho8 | (simp only [Int.reduceToNat] at ho8; rw [← Ny160.out] at ho8)); have n0_ := aS (Kd.R_lower ho8 (below_size (by repeat (first | (with_reducible first | exact HB.out | apply below_alloc | apply pw_below_drewN | apply below_drew1) | exact HB.out)))); have n1_ := aS (below_step (by repeat (first | (with_reducible first | exact HB.out | apply below_alloc | apply pw_below_drewN | apply below_drew1) | exact HB.out)) hb); clear HB; have HO162 := n0_; have HB := n1_; clear n0_ n1_; clear hb ho8))
  (try simp only [Act.put, List.setIfInBounds_toArray, List.set_cons_zero, List.set_cons_succ])
  go_cut [33] (fun v33 wc => ∃ (kq : Nat) (x33_4 : Bool), v33 = .bool x33_4 ∧ Aside0 (graverlaw05_EhdrWords.j0 kq a0 a1 x33_4 = some r) ∧ Aside0 (kq ≤ k) ∧ Aside0 (Below w.heap.size w wc))
  case first =>
   have H := HC5.out
   clear HC5
   by_cases c9 : a0 < 5
   ·
    rw [if_pos c9] at H
    have c9b0 : decide (a0 < 5) = true := decide_eq_true c9
    clear c9
    (first | rw [c9b0] | (simp only [i64_w, i32_w]; rw [c9b0]) | skip)
    replace H := Option.bind_eq_some_iff.mp H
    obtain ⟨t163, A100, H⟩ := H
    replace H : (if 0 ≤ a0 then (if a0 < (y160.length : Int) then (if t163.toList = (rdOf ByteArray.empty y160 a0).toList then (if a0 ≥ 5 then ((ehdr_TypeName.f a0).bind fun t165 => (if 0 ≤ 2 then (if 2 ≤ (t165.size : Int) then (graverlaw05_EhdrWords.j0 k a0 a1 ((t165.extract 0 2).toList != ([48, 120] : List UInt8))) else (none)) else (none))) else (graverlaw05_EhdrWords.j0 k a0 a1 false)) else (graverlaw05_EhdrWords.j0 k a0 a1 true)) else (none)) else (none)) = some r := H
    have A10 := aS A100
    clear A100
    by_cases c11 : 0 ≤ a0
    ·
     rw [if_pos c11] at H
     have c11b0 : decide (0 ≤ a0) = true := decide_eq_true c11
     clear c11
     by_cases c12 : a0 < (y160.length : Int)
     ·
      rw [if_pos c12] at H
      have c12b0 : decide (a0 < (y160.length : Int)) = true := decide_eq_true c12
      clear c12
      by_cases c13 : t163.toList = (rdOf ByteArray.empty y160 a0).toList
      ·
       rw [if_pos c13] at H
       have c13b0 : (t163.toList == (rdOf ByteArray.empty y160 a0).toList) = true := beq_iff_eq.mpr c13
       have c13b1 : (t163.toList != (rdOf ByteArray.empty y160 a0).toList) = false := bne_eq_false_iff_eq.mpr c13
       clear c13
       by_cases c14 : a0 ≥ 5
       ·
        rw [if_pos c14] at H
        have c14b0 : decide (5 ≤ a0) = true := decide_eq_true c14
        clear c14
        replace H := Option.bind_eq_some_iff.mp H
        obtain ⟨t165, A150, H⟩ := H
        replace H : (if 0 ≤ 2 then (if 2 ≤ (t165.size : Int) then (graverlaw05_EhdrWords.j0 k a0 a1 ((t165.extract 0 2).toList != ([48, 120] : List UInt8))) else (none)) else (none)) = some r := H
        have A15 := aS A150
        clear A150
        by_cases c16 : 0 ≤ 2
        ·
         rw [if_pos c16] at H
         have c16b0 := eq_true c16
         have c16b1 : decide (0 ≤ 2) = true := decide_eq_true c16
         clear c16
         by_cases c17 : 2 ≤ (t165.size : Int)
         ·
          rw [if_pos c17] at H
          have c17b0 := eq_true c17
          have c17b1 : decide (2 ≤ (t165.size : Int)) = true := decide_eq_true c17
          clear c17
          obtain ⟨sc18, hsc18⟩ : ∃ s_ : ByteArray, (t165.extract 0 2) = s_ := ⟨_, rfl⟩
          replace H : (graverlaw05_EhdrWords.j0 k a0 a1 (sc18.toList != ([48, 120] : List UInt8))) = some r := by first | (rw [hsc18] at H; exact H) | (simp only [hsc18] at H ⊢; exact H) | exact H
          (try (have hsc18n := hsc18; simp only [Int.toNat_natCast] at hsc18n))
          have H' := aS H
          clear H
          try go_wp2
          have n0_ := aS (Kd.R_drew HO162.out)
          have n1_ := aS (below_drew1 HB.out)
          clear HO162
          clear HB
          have HO162 := n0_
          have HB := n1_
          clear n0_ n1_
          obtain ⟨Ao20, co20, eo20⟩ := Kd.R_slice HO162.out
          (first | subst eo20 | (injection eo20 with f1_ f2_ f3_; have f4_ := f1_.symm; have f5_ := f3_.symm; clear f1_ f2_ f3_; subst f4_; subst f5_))
          have p164 : 0 ≤ (a0 : Int) := of_decide_eq_true (by first | (with_reducible assumption) | assumption)
          have q164 : a0 < (y160.length : Int) := of_decide_eq_true (by first | (with_reducible assumption) | assumption)
          obtain ⟨ad164, e164, hx164_0⟩ := Kd.at_string (Kd.R_reads' HO162.out).2.2 a0 p164 q164
          cases e164
          replace p164 := eq_true p164
          replace q164 := eq_true q164
          refine start_ (n := 21) (S := fun w' => w'.cell? (ad164.add (a0).toNat) = some (.string (rdOf ByteArray.empty y160 a0))) (ds := []) #[false, false, false, false, false, false, false, false, false, false, false, false, false, false, false, false, false, false, false, false, false] (by kernel_rfl) rfl rfl (hx164_0) (fun hHeld => ?_); refine with_tabW graverlaw05_EhdrWords.tab4 graverlaw05_EhdrWords.bits4 (fun HT_ HW_ => ?_)
          generalize w7.drew = w19 at HO162 HB hx164_0 hHeld ⊢
          refine pure_ (i := 0) (N := some 13) (v := ?_) (a' := ?_) (bm 21 1) rfl rfl (any_of HT_.out (by kernel_rfl)) (fun _ _ _ h => h) (Or.inl ⟨by rfl, ?_⟩) ?_ ?_
          rotate_left
          ·
           intro w'
           go_simp
           with_reducible rfl
          rotate_left
          ·
           simp only [Act.put, aput]
           rfl
          refine pure_ (i := 1) (N := some 14) (v := ?_) (a' := ?_) (bm 21 3) rfl rfl (any_of HT_.out (by kernel_rfl)) (fun _ _ _ h => h) (Or.inl ⟨by rfl, ?_⟩) ?_ ?_
          rotate_left
          ·
           intro w'
           go_simp
           with_reducible rfl
          rotate_left
          ·
           simp only [Act.put, aput]
           rfl
          refine pure_ (i := 2) (N := some 15) (v := ?_) (a' := ?_) (bm 21 7) rfl rfl (any_of HT_.out (by kernel_rfl)) (fun _ _ _ h => h) (Or.inl ⟨by rfl, ?_⟩) ?_ ?_
          rotate_left
          ·
           intro w'
           go_simp
           with_reducible rfl
          rotate_left
          ·
           simp only [Act.put, aput]
           rfl
          refine pure_ (i := 3) (N := some 16) (v := ?_) (a' := ?_) (bm 21 15) rfl rfl (any_of HT_.out (by kernel_rfl)) (fun _ _ _ h => h) (Or.inl ⟨by rfl, ?_⟩) ?_ ?_
          rotate_left
          ·
           intro w'
           go_simp
           with_reducible rfl
          rotate_left
          ·
           simp only [Act.put, aput]
           rfl
          refine pure_ (i := 5) (N := some 18) (v := ?_) (a' := ?_) (bm 21 47) rfl rfl (any_of HT_.out (by kernel_rfl)) (fun _ _ _ h => h) (Or.inl ⟨by rfl, ?_⟩) ?_ ?_
          rotate_left
          ·
           intro w'
           go_simp
           with_reducible rfl
          rotate_left
          ·
           simp only [Act.put, aput]
           rfl
          refine pure_ (i := 6) (N := some 19) (v := ?_) (a' := ?_) (bm 21 111) rfl rfl (any_of HT_.out (by kernel_rfl)) (fun _ _ _ h => h) (Or.inl ⟨by rfl, ?_⟩) ?_ ?_
          rotate_left
          ·
           intro w'
           go_simp
           with_reducible rfl
          rotate_left
          ·
           simp only [Act.put, aput]
           rfl
          refine pure_ (i := 7) (N := some 20) (v := ?_) (a' := ?_) (bm 21 239) rfl rfl (any_of HT_.out (by kernel_rfl)) (fun _ _ _ h => h) (Or.inl ⟨by rfl, ?_⟩) ?_ ?_
          rotate_left
          ·
           intro w'
           go_simp
           with_reducible rfl
          rotate_left
          ·
           simp only [Act.put, aput]
           rfl
          refine take_ (i := 8) (N := some 21) (v := ?_) (a' := ?_) (bm 21 495) rfl rfl (take_ofW HT_.out HW_.out (by kernel_rfl)) (fun _ _ _ h => h) (Or.inl ⟨by rfl, ?_⟩) hHeld ?_ ?_
          rotate_left
          ·
           intro w' s0
           go_simp
           with_reducible rfl
          rotate_left
          ·
           simp only [Act.put, aput]
           rfl
          refine one_ (i := 4) (N := some 17) (bm 21 511) rfl rfl (one_of HT_.out (by kernel_rfl)) (by decide) (fun K hK => ?_)
          refine goes_ Tryd.func27 (by kernel_rfl) rfl #[.int .u64 a0] (by rfl) rfl rfl (by (try simp only [List.map_toArray, List.map_cons, List.map_nil]); first | done | rfl | (simp only [List.length_drop, List.length_take]; rfl)) ?_
          with_reducible refine (ehdr_TypeName.calls a0 t163 _ ?side1 ?side2 A10.out).mono ?_
          (case side1 => exact Laid_ehdrn.below HLD_ehdrn.out (by repeat (first | (with_reducible first | exact HB.out | apply below_alloc | apply pw_below_drewN | apply below_drew1) | exact HB.out)))
          (case side2 => exact Laid_strconv.below HLD_strconv.out (by repeat (first | (with_reducible first | exact HB.out | apply below_alloc | apply pw_below_drewN | apply below_drew1) | exact HB.out)))
          rintro e w21 ⟨rfl, hb⟩
          have HS0_ := (hb.cell (World.block_lt_of_cell? _ _ (hHeld))).trans (hHeld)
          refine ⟨_, rfl, ?_⟩
          have n0_ := aS (Kd.R_below (by (with_reducible repeat (first | apply Kd.R_alloc | apply Kd.R_drewN | apply Kd.R_drew)); exact HO162.out) hb)
          have n1_ := aS (below_step (by repeat (first | (with_reducible first | exact HB.out | apply below_alloc | apply pw_below_drewN | apply below_drew1) | exact HB.out)) hb)
          clear HO162
          clear HB
          have HO162 := n0_
          have HB := n1_
          clear n0_ n1_
          (try clear hb)
          (try clear hb2)
          (try clear hk)
          (try clear hi)
          refine hK.out _ _ (HS0_) (fun hHeld => ?_)
          clear hK K
          refine norm_ (a' := ?_) ?_ ?_
          rotate_left
          ·
           show Act.put _ (some 17) _ = _
           simp only [Act.put, aput]
           rfl
          refine pure_ (i := 9) (N := some 22) (v := ?_) (a' := ?_) (bm 21 1023) rfl rfl (any_of HT_.out (by kernel_rfl)) (fun _ _ _ h => h) (Or.inl ⟨by rfl, ?_⟩) ?_ ?_
          rotate_left
          ·
           intro w'
           go_simp
           with_reducible rfl
          rotate_left
          ·
           simp only [Act.put, aput]
           rfl
          refine pure_ (i := 10) (N := some 23) (v := ?_) (a' := ?_) (bm 21 2047) rfl rfl (any_of HT_.out (by kernel_rfl)) (fun _ _ _ h => h) (Or.inl ⟨by rfl, ?_⟩) ?_ ?_
          rotate_left
          ·
           intro w'
           go_simp
           with_reducible rfl
          rotate_left
          ·
           simp only [Act.put, aput]
           rfl
          refine pure_ (i := 11) (N := some 24) (v := ?_) (a' := ?_) (bm 21 4095) rfl rfl (any_of HT_.out (by kernel_rfl)) (fun _ _ _ h => h) (Or.inl ⟨by rfl, ?_⟩) ?_ ?_
          rotate_left
          ·
           intro w'
           go_simp
           with_reducible rfl
          rotate_left
          ·
           simp only [Act.put, aput]
           rfl
          refine pure_ (i := 12) (N := some 25) (v := ?_) (a' := ?_) (bm 21 8191) rfl rfl (any_of HT_.out (by kernel_rfl)) (fun _ _ _ h => h) (Or.inl ⟨by rfl, ?_⟩) ?_ ?_
          rotate_left
          ·
           intro w'
           go_simp
           with_reducible rfl
          rotate_left
          ·
           simp only [Act.put, aput]
           rfl
          refine pure_ (i := 13) (N := some 26) (v := ?_) (a' := ?_) (bm 21 16383) rfl rfl (any_of HT_.out (by kernel_rfl)) (fun _ _ _ h => h) (Or.inl ⟨by rfl, ?_⟩) ?_ ?_
          rotate_left
          ·
           intro w'
           go_simp
           with_reducible rfl
          rotate_left
          ·
           simp only [Act.put, aput]
           rfl
          refine pure_ (i := 14) (N := some 27) (v := ?_) (a' := ?_) (bm 21 32767) rfl rfl (any_of HT_.out (by kernel_rfl)) (fun _ _ _ h => h) (Or.inl ⟨by rfl, ?_⟩) ?_ ?_
          rotate_left
          ·
           intro w'
           go_simp
           with_reducible rfl
          rotate_left
          ·
           simp only [Act.put, aput]
           rfl
          refine pure_ (i := 15) (N := some 28) (v := ?_) (a' := ?_) (bm 21 65535) rfl rfl (any_of HT_.out (by kernel_rfl)) (fun _ _ _ h => h) (Or.inl ⟨by rfl, ?_⟩) ?_ ?_
          rotate_left
          ·
           intro w'
           go_simp
           with_reducible rfl
          rotate_left
          ·
           simp only [Act.put, aput]
           rfl
          refine one_ (i := 16) (N := some 29) (bm 21 131071) rfl rfl (one_of HT_.out (by kernel_rfl)) (by decide) (fun K hK => ?_)
          refine goes_ Tryd.func27 (by kernel_rfl) rfl #[.int .u64 a0] (by rfl) rfl rfl (by (try simp only [List.map_toArray, List.map_cons, List.map_nil]); first | done | rfl | (simp only [List.length_drop, List.length_take]; rfl)) ?_
          with_reducible refine (ehdr_TypeName.calls a0 t165 _ ?side1 ?side2 A15.out).mono ?_
          (case side1 => exact Laid_ehdrn.below HLD_ehdrn.out (by repeat (first | (with_reducible first | exact HB.out | apply below_alloc | apply pw_below_drewN | apply below_drew1) | exact HB.out)))
          (case side2 => exact Laid_strconv.below HLD_strconv.out (by repeat (first | (with_reducible first | exact HB.out | apply below_alloc | apply pw_below_drewN | apply below_drew1) | exact HB.out)))
          rintro e w22 ⟨rfl, hb⟩
          have HS0_ := (hb.cell (World.block_lt_of_cell? _ _ (hHeld))).trans (hHeld)
          refine ⟨_, rfl, ?_⟩
          have n0_ := aS (Kd.R_below (by (with_reducible repeat (first | apply Kd.R_alloc | apply Kd.R_drewN | apply Kd.R_drew)); exact HO162.out) hb)
          have n1_ := aS (below_step (by repeat (first | (with_reducible first | exact HB.out | apply below_alloc | apply pw_below_drewN | apply below_drew1) | exact HB.out)) hb)
          clear HO162
          clear HB
          have HO162 := n0_
          have HB := n1_
          clear n0_ n1_
          (try clear hb)
          (try clear hb2)
          (try clear hk)
          (try clear hi)
          refine hK.out _ _ (HS0_) (fun hHeld => ?_)
          clear hK K
          refine norm_ (a' := ?_) ?_ ?_
          rotate_left
          ·
           show Act.put _ (some 29) _ = _
           simp only [Act.put, aput]
           rfl
          refine pure_ (i := 17) (N := some 30) (v := ?_) (a' := ?_) (bm 21 262143) rfl rfl (any_of HT_.out (by kernel_rfl)) (fun _ _ _ h => h) (Or.inl ⟨by rfl, ?_⟩) ?_ ?_
          rotate_left
          ·
           intro w'
           go_simp
           with_reducible rfl
          rotate_left
          ·
           simp only [Act.put, aput]
           rfl
          refine pure_ (i := 18) (N := some 31) (v := ?_) (a' := ?_) (bm 21 524287) rfl rfl (any_of HT_.out (by kernel_rfl)) (fun _ _ _ h => h) (Or.inl ⟨by rfl, ?_⟩) ?_ ?_
          rotate_left
          ·
           intro w'
           go_simp
           with_reducible rfl
          rotate_left
          ·
           simp only [Act.put, aput]
           rfl
          refine pure_ (i := 19) (N := some 32) (v := ?_) (a' := ?_) (bm 21 1048575) rfl rfl (any_of HT_.out (by kernel_rfl)) (fun _ _ _ h => h) (Or.inl ⟨by rfl, ?_⟩) ?_ ?_
          rotate_left
          ·
           intro w'
           go_simp
           with_reducible rfl
          rotate_left
          ·
           simp only [Act.put, aput]
           rfl
          refine pure_ (i := 20) (N := some 33) (v := ?_) (a' := ?_) (bm 21 2097151) rfl rfl (any_of HT_.out (by kernel_rfl)) (fun _ _ _ h => h) (Or.inl ⟨by rfl, ?_⟩) ?_ ?_
          rotate_left
          ·
           intro w'
           go_simp
           with_reducible rfl
          rotate_left
          ·
           simp only [Act.put, aput]
           rfl
          refine done_ (done_of HT_.out (by kernel_rfl)) ?_
          try go_wp2
          go_meet
          case rel => exact ⟨_, ((sc18.toList != ([48, 120] : List UInt8))), (by first | rfl | (simp; done) | (simp [*]; done)), H', ⟨by first | omega | exact Nat.le_refl _⟩, ⟨by repeat (first | (with_reducible first | exact HB.out | apply below_alloc | apply pw_below_drewN | apply below_drew1) | exact HB.out)⟩⟩
         ·
          rw [if_neg c17] at H
          exact absurd H (by simp)
        ·
         rw [if_neg c16] at H
         exact absurd H (by simp)
       ·
        rw [if_neg c14] at H
        have c14b0 : decide (5 ≤ a0) = false := decide_eq_false c14
        clear c14
        have H' := aS H
        clear H
        try go_wp2
        have n0_ := aS (Kd.R_drew HO162.out)
        have n1_ := aS (below_drew1 HB.out)
        clear HO162
        clear HB
        have HO162 := n0_
        have HB := n1_
        clear n0_ n1_
        obtain ⟨Ao24, co24, eo24⟩ := Kd.R_slice HO162.out
        (first | subst eo24 | (injection eo24 with f1_ f2_ f3_; have f4_ := f1_.symm; have f5_ := f3_.symm; clear f1_ f2_ f3_; subst f4_; subst f5_))
        have p164 : 0 ≤ (a0 : Int) := of_decide_eq_true (by first | (with_reducible assumption) | assumption)
        have q164 : a0 < (y160.length : Int) := of_decide_eq_true (by first | (with_reducible assumption) | assumption)
        obtain ⟨ad164, e164, hx164_0⟩ := Kd.at_string (Kd.R_reads' HO162.out).2.2 a0 p164 q164
        cases e164
        replace p164 := eq_true p164
        replace q164 := eq_true q164
        refine start_ (n := 21) (S := fun w' => w'.cell? (ad164.add (a0).toNat) = some (.string (rdOf ByteArray.empty y160 a0))) (ds := []) #[false, false, false, false, false, false, false, false, false, false, false, false, false, false, false, false, false, false, false, false, false] (by kernel_rfl) rfl rfl (hx164_0) (fun hHeld => ?_); refine with_tabW graverlaw05_EhdrWords.tab4 graverlaw05_EhdrWords.bits4 (fun HT_ HW_ => ?_)
        generalize w7.drew = w23 at HO162 HB hx164_0 hHeld ⊢
        refine pure_ (i := 0) (N := some 13) (v := ?_) (a' := ?_) (bm 21 1) rfl rfl (any_of HT_.out (by kernel_rfl)) (fun _ _ _ h => h) (Or.inl ⟨by rfl, ?_⟩) ?_ ?_
        rotate_left
        ·
         intro w'
         go_simp
         with_reducible rfl
        rotate_left
        ·
         simp only [Act.put, aput]
         rfl
        refine pure_ (i := 1) (N := some 14) (v := ?_) (a' := ?_) (bm 21 3) rfl rfl (any_of HT_.out (by kernel_rfl)) (fun _ _ _ h => h) (Or.inl ⟨by rfl, ?_⟩) ?_ ?_
        rotate_left
        ·
         intro w'
         go_simp
         with_reducible rfl
        rotate_left
        ·
         simp only [Act.put, aput]
         rfl
        refine pure_ (i := 2) (N := some 15) (v := ?_) (a' := ?_) (bm 21 7) rfl rfl (any_of HT_.out (by kernel_rfl)) (fun _ _ _ h => h) (Or.inl ⟨by rfl, ?_⟩) ?_ ?_
        rotate_left
        ·
         intro w'
         go_simp
         with_reducible rfl
        rotate_left
        ·
         simp only [Act.put, aput]
         rfl
        refine pure_ (i := 3) (N := some 16) (v := ?_) (a' := ?_) (bm 21 15) rfl rfl (any_of HT_.out (by kernel_rfl)) (fun _ _ _ h => h) (Or.inl ⟨by rfl, ?_⟩) ?_ ?_
        rotate_left
        ·
         intro w'
         go_simp
         with_reducible rfl
        rotate_left
        ·
         simp only [Act.put, aput]
         rfl
        refine pure_ (i := 5) (N := some 18) (v := ?_) (a' := ?_) (bm 21 47) rfl rfl (any_of HT_.out (by kernel_rfl)) (fun _ _ _ h => h) (Or.inl ⟨by rfl, ?_⟩) ?_ ?_
        rotate_left
        ·
         intro w'
         go_simp
         with_reducible rfl
        rotate_left
        ·
         simp only [Act.put, aput]
         rfl
        refine pure_ (i := 6) (N := some 19) (v := ?_) (a' := ?_) (bm 21 111) rfl rfl (any_of HT_.out (by kernel_rfl)) (fun _ _ _ h => h) (Or.inl ⟨by rfl, ?_⟩) ?_ ?_
        rotate_left
        ·
         intro w'
         go_simp
         with_reducible rfl
        rotate_left
        ·
         simp only [Act.put, aput]
         rfl
        refine pure_ (i := 7) (N := some 20) (v := ?_) (a' := ?_) (bm 21 239) rfl rfl (any_of HT_.out (by kernel_rfl)) (fun _ _ _ h => h) (Or.inl ⟨by rfl, ?_⟩) ?_ ?_
        rotate_left
        ·
         intro w'
         go_simp
         with_reducible rfl
        rotate_left
        ·
         simp only [Act.put, aput]
         rfl
        refine take_ (i := 8) (N := some 21) (v := ?_) (a' := ?_) (bm 21 495) rfl rfl (take_ofW HT_.out HW_.out (by kernel_rfl)) (fun _ _ _ h => h) (Or.inl ⟨by rfl, ?_⟩) hHeld ?_ ?_
        rotate_left
        ·
         intro w' s0
         go_simp
         with_reducible rfl
        rotate_left
        ·
         simp only [Act.put, aput]
         rfl
        refine one_ (i := 4) (N := some 17) (bm 21 511) rfl rfl (one_of HT_.out (by kernel_rfl)) (by decide) (fun K hK => ?_)
        refine goes_ Tryd.func27 (by kernel_rfl) rfl #[.int .u64 a0] (by rfl) rfl rfl (by (try simp only [List.map_toArray, List.map_cons, List.map_nil]); first | done | rfl | (simp only [List.length_drop, List.length_take]; rfl)) ?_
        with_reducible refine (ehdr_TypeName.calls a0 t163 _ ?side1 ?side2 A10.out).mono ?_
        (case side1 => exact Laid_ehdrn.below HLD_ehdrn.out (by repeat (first | (with_reducible first | exact HB.out | apply below_alloc | apply pw_below_drewN | apply below_drew1) | exact HB.out)))
        (case side2 => exact Laid_strconv.below HLD_strconv.out (by repeat (first | (with_reducible first | exact HB.out | apply below_alloc | apply pw_below_drewN | apply below_drew1) | exact HB.out)))
        rintro e w25 ⟨rfl, hb⟩
        have HS0_ := (hb.cell (World.block_lt_of_cell? _ _ (hHeld))).trans (hHeld)
        refine ⟨_, rfl, ?_⟩
        have n0_ := aS (Kd.R_below (by (with_reducible repeat (first | apply Kd.R_alloc | apply Kd.R_drewN | apply Kd.R_drew)); exact HO162.out) hb)
        have n1_ := aS (below_step (by repeat (first | (with_reducible first | exact HB.out | apply below_alloc | apply pw_below_drewN | apply below_drew1) | exact HB.out)) hb)
        clear HO162
        clear HB
        have HO162 := n0_
        have HB := n1_
        clear n0_ n1_
        (try clear hb)
        (try clear hb2)
        (try clear hk)
        (try clear hi)
        refine hK.out _ _ (HS0_) (fun hHeld => ?_)
        clear hK K
        refine norm_ (a' := ?_) ?_ ?_
        rotate_left
        ·
         show Act.put _ (some 17) _ = _
         simp only [Act.put, aput]
         rfl
        refine pure_ (i := 9) (N := some 22) (v := ?_) (a' := ?_) (bm 21 1023) rfl rfl (any_of HT_.out (by kernel_rfl)) (fun _ _ _ h => h) (Or.inl ⟨by rfl, ?_⟩) ?_ ?_
        rotate_left
        ·
         intro w'
         go_simp
         with_reducible rfl
        rotate_left
        ·
         simp only [Act.put, aput]
         rfl
        refine pure_ (i := 10) (N := some 23) (v := ?_) (a' := ?_) (bm 21 2047) rfl rfl (any_of HT_.out (by kernel_rfl)) (fun _ _ _ h => h) (Or.inl ⟨by rfl, ?_⟩) ?_ ?_
        rotate_left
        ·
         intro w'
         go_simp
         with_reducible rfl
        rotate_left
        ·
         simp only [Act.put, aput]
         rfl
        refine pure_ (i := 11) (N := some 24) (v := ?_) (a' := ?_) (bm 21 4095) rfl rfl (any_of HT_.out (by kernel_rfl)) (fun _ _ _ h => h) (Or.inl ⟨by rfl, ?_⟩) ?_ ?_
        rotate_left
        ·
         intro w'
         go_simp
         with_reducible rfl
        rotate_left
        ·
         simp only [Act.put, aput]
         rfl
        refine pure_ (i := 12) (N := some 25) (v := ?_) (a' := ?_) (bm 21 8191) rfl rfl (any_of HT_.out (by kernel_rfl)) (fun _ _ _ h => h) (Or.inl ⟨by rfl, ?_⟩) ?_ ?_
        rotate_left
        ·
         intro w'
         go_simp
         with_reducible rfl
        rotate_left
        ·
         simp only [Act.put, aput]
         rfl
        refine pure_ (i := 13) (N := some 26) (v := ?_) (a' := ?_) (bm 21 16383) rfl rfl (any_of HT_.out (by kernel_rfl)) (fun _ _ _ h => h) (Or.inl ⟨by rfl, ?_⟩) ?_ ?_
        rotate_left
        ·
         intro w'
         go_simp
         with_reducible rfl
        rotate_left
        ·
         simp only [Act.put, aput]
         rfl
        refine pure_ (i := 14) (N := some 27) (v := ?_) (a' := ?_) (bm 21 32767) rfl rfl (any_of HT_.out (by kernel_rfl)) (fun _ _ _ h => h) (Or.inl ⟨by rfl, ?_⟩) ?_ ?_
        rotate_left
        ·
         intro w'
         go_simp
         with_reducible rfl
        rotate_left
        ·
         simp only [Act.put, aput]
         rfl
        refine pure_ (i := 15) (N := some 28) (v := undef) (a' := ?_) (bm 21 65535) rfl rfl (any_of HT_.out (by kernel_rfl)) (fun _ _ _ h => h) (Or.inr ⟨by rfl, rfl⟩) ?_ ?_
        rotate_left
        ·
         simp only [Act.put, aput]
         rfl
        refine pure_ (i := 16) (N := some 29) (v := undef) (a' := ?_) (bm 21 131071) rfl rfl (any_of HT_.out (by kernel_rfl)) (fun _ _ _ h => h) (Or.inr ⟨by rfl, rfl⟩) ?_ ?_
        rotate_left
        ·
         simp only [Act.put, aput]
         rfl
        refine pure_ (i := 17) (N := some 30) (v := undef) (a' := ?_) (bm 21 262143) rfl rfl (any_of HT_.out (by kernel_rfl)) (fun _ _ _ h => h) (Or.inr ⟨by rfl, rfl⟩) ?_ ?_
        rotate_left
        ·
         simp only [Act.put, aput]
         rfl
        refine pure_ (i := 18) (N := some 31) (v := undef) (a' := ?_) (bm 21 524287) rfl rfl (any_of HT_.out (by kernel_rfl)) (fun _ _ _ h => h) (Or.inr ⟨by rfl, rfl⟩) ?_ ?_
        rotate_left
        ·
         simp only [Act.put, aput]
         rfl
        refine pure_ (i := 19) (N := some 32) (v := ?_) (a' := ?_) (bm 21 1048575) rfl rfl (any_of HT_.out (by kernel_rfl)) (fun _ _ _ h => h) (Or.inl ⟨by rfl, ?_⟩) ?_ ?_
        rotate_left
        ·
         intro w'
         go_simp
         with_reducible rfl
        rotate_left
        ·
         simp only [Act.put, aput]
         rfl
        refine pure_ (i := 20) (N := some 33) (v := ?_) (a' := ?_) (bm 21 2097151) rfl rfl (any_of HT_.out (by kernel_rfl)) (fun _ _ _ h => h) (Or.inl ⟨by rfl, ?_⟩) ?_ ?_
        rotate_left
        ·
         intro w'
         go_simp
         with_reducible rfl
        rotate_left
        ·
         simp only [Act.put, aput]
         rfl
        refine done_ (done_of HT_.out (by kernel_rfl)) ?_
        try go_wp2
        go_meet
        case rel => exact ⟨_, (false), (by first | rfl | (simp; done) | (simp [*]; done)), H', ⟨by first | omega | exact Nat.le_refl _⟩, ⟨by repeat (first | (with_reducible first | exact HB.out | apply below_alloc | apply pw_below_drewN | apply below_drew1) | exact HB.out)⟩⟩
      ·
       rw [if_neg c13] at H
       have c13b0 : (t163.toList == (rdOf ByteArray.empty y160 a0).toList) = false := beq_eq_false_iff_ne.mpr c13
       have c13b1 : (t163.toList != (rdOf ByteArray.empty y160 a0).toList) = true := bne_iff_ne.mpr c13
       have H' := aS H
       clear H
       try go_wp2
       have n0_ := aS (Kd.R_drew HO162.out)
       have n1_ := aS (below_drew1 HB.out)
       clear HO162
       clear HB
       have HO162 := n0_
       have HB := n1_
       clear n0_ n1_
       obtain ⟨Ao27, co27, eo27⟩ := Kd.R_slice HO162.out
       (first | subst eo27 | (injection eo27 with f1_ f2_ f3_; have f4_ := f1_.symm; have f5_ := f3_.symm; clear f1_ f2_ f3_; subst f4_; subst f5_))
       have p164 : 0 ≤ (a0 : Int) := of_decide_eq_true (by first | (with_reducible assumption) | assumption)
       have q164 : a0 < (y160.length : Int) := of_decide_eq_true (by first | (with_reducible assumption) | assumption)
       obtain ⟨ad164, e164, hx164_0⟩ := Kd.at_string (Kd.R_reads' HO162.out).2.2 a0 p164 q164
       cases e164
       replace p164 := eq_true p164
       replace q164 := eq_true q164
       refine start_ (n := 21) (S := fun w' => w'.cell? (ad164.add (a0).toNat) = some (.string (rdOf ByteArray.empty y160 a0))) (ds := []) #[false, false, false, false, false, false, false, false, false, false, false, false, false, false, false, false, false, false, false, false, false] (by kernel_rfl) rfl rfl (hx164_0) (fun hHeld => ?_); refine with_tabW graverlaw05_EhdrWords.tab4 graverlaw05_EhdrWords.bits4 (fun HT_ HW_ => ?_)
       generalize w7.drew = w26 at HO162 HB hx164_0 hHeld ⊢
       refine pure_ (i := 0) (N := some 13) (v := ?_) (a' := ?_) (bm 21 1) rfl rfl (any_of HT_.out (by kernel_rfl)) (fun _ _ _ h => h) (Or.inl ⟨by rfl, ?_⟩) ?_ ?_
       rotate_left
       ·
        intro w'
        go_simp
        with_reducible rfl
       rotate_left
       ·
        simp only [Act.put, aput]
        rfl
       refine pure_ (i := 1) (N := some 14) (v := ?_) (a' := ?_) (bm 21 3) rfl rfl (any_of HT_.out (by kernel_rfl)) (fun _ _ _ h => h) (Or.inl ⟨by rfl, ?_⟩) ?_ ?_
       rotate_left
       ·
        intro w'
        go_simp
        with_reducible rfl
       rotate_left
       ·
        simp only [Act.put, aput]
        rfl
       refine pure_ (i := 2) (N := some 15) (v := ?_) (a' := ?_) (bm 21 7) rfl rfl (any_of HT_.out (by kernel_rfl)) (fun _ _ _ h => h) (Or.inl ⟨by rfl, ?_⟩) ?_ ?_
       rotate_left
       ·
        intro w'
        go_simp
        with_reducible rfl
       rotate_left
       ·
        simp only [Act.put, aput]
        rfl
       refine pure_ (i := 3) (N := some 16) (v := ?_) (a' := ?_) (bm 21 15) rfl rfl (any_of HT_.out (by kernel_rfl)) (fun _ _ _ h => h) (Or.inl ⟨by rfl, ?_⟩) ?_ ?_
       rotate_left
       ·
        intro w'
        go_simp
        with_reducible rfl
       rotate_left
       ·
        simp only [Act.put, aput]
        rfl
       refine pure_ (i := 5) (N := some 18) (v := ?_) (a' := ?_) (bm 21 47) rfl rfl (any_of HT_.out (by kernel_rfl)) (fun _ _ _ h => h) (Or.inl ⟨by rfl, ?_⟩) ?_ ?_
       rotate_left
       ·
        intro w'
        go_simp
        with_reducible rfl
       rotate_left
       ·
        simp only [Act.put, aput]
        rfl
       refine pure_ (i := 6) (N := some 19) (v := ?_) (a' := ?_) (bm 21 111) rfl rfl (any_of HT_.out (by kernel_rfl)) (fun _ _ _ h => h) (Or.inl ⟨by rfl, ?_⟩) ?_ ?_
       rotate_left
       ·
        intro w'
        go_simp
        with_reducible rfl
       rotate_left
       ·
        simp only [Act.put, aput]
        rfl
       refine pure_ (i := 7) (N := some 20) (v := ?_) (a' := ?_) (bm 21 239) rfl rfl (any_of HT_.out (by kernel_rfl)) (fun _ _ _ h => h) (Or.inl ⟨by rfl, ?_⟩) ?_ ?_
       rotate_left
       ·
        intro w'
        go_simp
        with_reducible rfl
       rotate_left
       ·
        simp only [Act.put, aput]
        rfl
       refine take_ (i := 8) (N := some 21) (v := ?_) (a' := ?_) (bm 21 495) rfl rfl (take_ofW HT_.out HW_.out (by kernel_rfl)) (fun _ _ _ h => h) (Or.inl ⟨by rfl, ?_⟩) hHeld ?_ ?_
       rotate_left
       ·
        intro w' s0
        go_simp
        with_reducible rfl
       rotate_left
       ·
        simp only [Act.put, aput]
        rfl
       refine one_ (i := 4) (N := some 17) (bm 21 511) rfl rfl (one_of HT_.out (by kernel_rfl)) (by decide) (fun K hK => ?_)
       refine goes_ Tryd.func27 (by kernel_rfl) rfl #[.int .u64 a0] (by rfl) rfl rfl (by (try simp only [List.map_toArray, List.map_cons, List.map_nil]); first | done | rfl | (simp only [List.length_drop, List.length_take]; rfl)) ?_
       with_reducible refine (ehdr_TypeName.calls a0 t163 _ ?side1 ?side2 A10.out).mono ?_
       (case side1 => exact Laid_ehdrn.below HLD_ehdrn.out (by repeat (first | (with_reducible first | exact HB.out | apply below_alloc | apply pw_below_drewN | apply below_drew1) | exact HB.out)))
       (case side2 => exact Laid_strconv.below HLD_strconv.out (by repeat (first | (with_reducible first | exact HB.out | apply below_alloc | apply pw_below_drewN | apply below_drew1) | exact HB.out)))
       rintro e w28 ⟨rfl, hb⟩
       have HS0_ := (hb.cell (World.block_lt_of_cell? _ _ (hHeld))).trans (hHeld)
       refine ⟨_, rfl, ?_⟩
       have n0_ := aS (Kd.R_below (by (with_reducible repeat (first | apply Kd.R_alloc | apply Kd.R_drewN | apply Kd.R_drew)); exact HO162.out) hb)
       have n1_ := aS (below_step (by repeat (first | (with_reducible first | exact HB.out | apply below_alloc | apply pw_below_drewN | apply below_drew1) | exact HB.out)) hb)
       clear HO162
       clear HB
       have HO162 := n0_
       have HB := n1_
       clear n0_ n1_
       (try clear hb)
       (try clear hb2)
       (try clear hk)
       (try clear hi)
       refine hK.out _ _ (HS0_) (fun hHeld => ?_)
       clear hK K
       refine norm_ (a' := ?_) ?_ ?_
       rotate_left
       ·
        show Act.put _ (some 17) _ = _
        simp only [Act.put, aput]
        rfl
       refine pure_ (i := 9) (N := some 22) (v := ?_) (a' := ?_) (bm 21 1023) rfl rfl (any_of HT_.out (by kernel_rfl)) (fun _ _ _ h => h) (Or.inl ⟨by rfl, ?_⟩) ?_ ?_
       rotate_left
       ·
        intro w'
        go_simp
        with_reducible rfl
       rotate_left
       ·
        simp only [Act.put, aput]
        rfl
       refine pure_ (i := 10) (N := some 23) (v := ?_) (a' := ?_) (bm 21 2047) rfl rfl (any_of HT_.out (by kernel_rfl)) (fun _ _ _ h => h) (Or.inl ⟨by rfl, ?_⟩) ?_ ?_
       rotate_left
       ·
        intro w'
        go_simp
        with_reducible rfl
       rotate_left
       ·
        simp only [Act.put, aput]
        rfl
       refine pure_ (i := 11) (N := some 24) (v := ?_) (a' := ?_) (bm 21 4095) rfl rfl (any_of HT_.out (by kernel_rfl)) (fun _ _ _ h => h) (Or.inl ⟨by rfl, ?_⟩) ?_ ?_
       rotate_left
       ·
        intro w'
        go_simp
        with_reducible rfl
       rotate_left
       ·
        simp only [Act.put, aput]
        rfl
       refine pure_ (i := 12) (N := some 25) (v := undef) (a' := ?_) (bm 21 8191) rfl rfl (any_of HT_.out (by kernel_rfl)) (fun _ _ _ h => h) (Or.inr ⟨by rfl, rfl⟩) ?_ ?_
       rotate_left
       ·
        simp only [Act.put, aput]
        rfl
       refine pure_ (i := 13) (N := some 26) (v := undef) (a' := ?_) (bm 21 16383) rfl rfl (any_of HT_.out (by kernel_rfl)) (fun _ _ _ h => h) (Or.inr ⟨by rfl, rfl⟩) ?_ ?_
       rotate_left
       ·
        simp only [Act.put, aput]
        rfl
       refine pure_ (i := 14) (N := some 27) (v := undef) (a' := ?_) (bm 21 32767) rfl rfl (any_of HT_.out (by kernel_rfl)) (fun _ _ _ h => h) (Or.inr ⟨by rfl, rfl⟩) ?_ ?_
       rotate_left
       ·
        simp only [Act.put, aput]
        rfl
       refine pure_ (i := 15) (N := some 28) (v := undef) (a' := ?_) (bm 21 65535) rfl rfl (any_of HT_.out (by kernel_rfl)) (fun _ _ _ h => h) (Or.inr ⟨by rfl, rfl⟩) ?_ ?_
       rotate_left
       ·
        simp only [Act.put, aput]
        rfl
       refine pure_ (i := 16) (N := some 29) (v := undef) (a' := ?_) (bm 21 131071) rfl rfl (any_of HT_.out (by kernel_rfl)) (fun _ _ _ h => h) (Or.inr ⟨by rfl, rfl⟩) ?_ ?_
       rotate_left
       ·
        simp only [Act.put, aput]
        rfl
       refine pure_ (i := 17) (N := some 30) (v := undef) (a' := ?_) (bm 21 262143) rfl rfl (any_of HT_.out (by kernel_rfl)) (fun _ _ _ h => h) (Or.inr ⟨by rfl, rfl⟩) ?_ ?_
       rotate_left
       ·
        simp only [Act.put, aput]
        rfl
       refine pure_ (i := 18) (N := some 31) (v := undef) (a' := ?_) (bm 21 524287) rfl rfl (any_of HT_.out (by kernel_rfl)) (fun _ _ _ h => h) (Or.inr ⟨by rfl, rfl⟩) ?_ ?_
       rotate_left
       ·
        simp only [Act.put, aput]
        rfl
       refine pure_ (i := 19) (N := some 32) (v := undef) (a' := ?_) (bm 21 1048575) rfl rfl (any_of HT_.out (by kernel_rfl)) (fun _ _ _ h => h) (Or.inr ⟨by rfl, rfl⟩) ?_ ?_
       rotate_left
       ·
        simp only [Act.put, aput]
        rfl
       refine pure_ (i := 20) (N := some 33) (v := ?_) (a' := ?_) (bm 21 2097151) rfl rfl (any_of HT_.out (by kernel_rfl)) (fun _ _ _ h => h) (Or.inl ⟨by rfl, ?_⟩) ?_ ?_
       rotate_left
       ·
        intro w'
        go_simp
        with_reducible rfl
       rotate_left
       ·
        simp only [Act.put, aput]
        rfl
       refine done_ (done_of HT_.out (by kernel_rfl)) ?_
       try go_wp2
       go_meet
       case rel => exact ⟨_, (true), (by first | rfl | (simp; done) | (simp [*]; done)), H', ⟨by first | omega | exact Nat.le_refl _⟩, ⟨by repeat (first | (with_reducible first | exact HB.out | apply below_alloc | apply pw_below_drewN | apply below_drew1) | exact HB.out)⟩⟩
     ·
      rw [if_neg c12] at H
      exact absurd H (by simp)
    ·
     rw [if_neg c11] at H
     exact absurd H (by simp)
   ·
    rw [if_neg c9] at H
    have c9b0 : decide (a0 < 5) = false := decide_eq_false c9
    clear c9
    (first | rw [c9b0] | (simp only [i64_w, i32_w]; rw [c9b0]) | skip)
    by_cases c29 : a0 ≥ 5
    ·
     rw [if_pos c29] at H
     have c29b0 : decide (5 ≤ a0) = true := decide_eq_true c29
     clear c29
     replace H := Option.bind_eq_some_iff.mp H
     obtain ⟨t166, A300, H⟩ := H
     replace H : (if 0 ≤ 2 then (if 2 ≤ (t166.size : Int) then (graverlaw05_EhdrWords.j0 k a0 a1 ((t166.extract 0 2).toList != ([48, 120] : List UInt8))) else (none)) else (none)) = some r := H
     have A30 := aS A300
     clear A300
     by_cases c31 : 0 ≤ 2
     ·
      rw [if_pos c31] at H
      have c31b0 := eq_true c31
      have c31b1 : decide (0 ≤ 2) = true := decide_eq_true c31
      clear c31
      by_cases c32 : 2 ≤ (t166.size : Int)
      ·
       rw [if_pos c32] at H
       have c32b0 := eq_true c32
       have c32b1 : decide (2 ≤ (t166.size : Int)) = true := decide_eq_true c32
       clear c32
       obtain ⟨sc33, hsc33⟩ : ∃ s_ : ByteArray, (t166.extract 0 2) = s_ := ⟨_, rfl⟩
       replace H : (graverlaw05_EhdrWords.j0 k a0 a1 (sc33.toList != ([48, 120] : List UInt8))) = some r := by first | (rw [hsc33] at H; exact H) | (simp only [hsc33] at H ⊢; exact H) | exact H
       (try (have hsc33n := hsc33; simp only [Int.toNat_natCast] at hsc33n))
       have H' := aS H
       clear H
       try go_wp2
       have n0_ := aS (Kd.R_drew HO162.out)
       have n1_ := aS (below_drew1 HB.out)
       clear HO162
       clear HB
       have HO162 := n0_
       have HB := n1_
       clear n0_ n1_
       refine start_ (n := 21) (S := fun w' => True) (ds := []) #[false, false, false, false, false, false, false, false, false, false, false, false, false, false, false, false, false, false, false, false, false] (by kernel_rfl) rfl rfl trivial (fun hHeld => ?_); refine with_tabW graverlaw05_EhdrWords.tab4 graverlaw05_EhdrWords.bits4 (fun HT_ HW_ => ?_)
       generalize w7.drew = w34 at HO162 HB hHeld ⊢
       refine pure_ (i := 0) (N := some 13) (v := ?_) (a' := ?_) (bm 21 1) rfl rfl (any_of HT_.out (by kernel_rfl)) (fun _ _ _ h => h) (Or.inl ⟨by rfl, ?_⟩) ?_ ?_
       rotate_left
       ·
        intro w'
        go_simp
        with_reducible rfl
       rotate_left
       ·
        simp only [Act.put, aput]
        rfl
       refine pure_ (i := 1) (N := some 14) (v := ?_) (a' := ?_) (bm 21 3) rfl rfl (any_of HT_.out (by kernel_rfl)) (fun _ _ _ h => h) (Or.inl ⟨by rfl, ?_⟩) ?_ ?_
       rotate_left
       ·
        intro w'
        go_simp
        with_reducible rfl
       rotate_left
       ·
        simp only [Act.put, aput]
        rfl
       refine pure_ (i := 2) (N := some 15) (v := ?_) (a' := ?_) (bm 21 7) rfl rfl (any_of HT_.out (by kernel_rfl)) (fun _ _ _ h => h) (Or.inl ⟨by rfl, ?_⟩) ?_ ?_
       rotate_left
       ·
        intro w'
        go_simp
        with_reducible rfl
       rotate_left
       ·
        simp only [Act.put, aput]
        rfl
       refine pure_ (i := 3) (N := some 16) (v := undef) (a' := ?_) (bm 21 15) rfl rfl (any_of HT_.out (by kernel_rfl)) (fun _ _ _ h => h) (Or.inr ⟨by rfl, rfl⟩) ?_ ?_
       rotate_left
       ·
        simp only [Act.put, aput]
        rfl
       refine pure_ (i := 4) (N := some 17) (v := undef) (a' := ?_) (bm 21 31) rfl rfl (any_of HT_.out (by kernel_rfl)) (fun _ _ _ h => h) (Or.inr ⟨by rfl, rfl⟩) ?_ ?_
       rotate_left
       ·
        simp only [Act.put, aput]
        rfl
       refine pure_ (i := 5) (N := some 18) (v := undef) (a' := ?_) (bm 21 63) rfl rfl (any_of HT_.out (by kernel_rfl)) (fun _ _ _ h => h) (Or.inr ⟨by rfl, rfl⟩) ?_ ?_
       rotate_left
       ·
        simp only [Act.put, aput]
        rfl
       refine pure_ (i := 6) (N := some 19) (v := undef) (a' := ?_) (bm 21 127) rfl rfl (any_of HT_.out (by kernel_rfl)) (fun _ _ _ h => h) (Or.inr ⟨by rfl, rfl⟩) ?_ ?_
       rotate_left
       ·
        simp only [Act.put, aput]
        rfl
       refine pure_ (i := 7) (N := some 20) (v := undef) (a' := ?_) (bm 21 255) rfl rfl (any_of HT_.out (by kernel_rfl)) (fun _ _ _ h => h) (Or.inr ⟨by rfl, rfl⟩) ?_ ?_
       rotate_left
       ·
        simp only [Act.put, aput]
        rfl
       refine pure_ (i := 8) (N := some 21) (v := undef) (a' := ?_) (bm 21 511) rfl rfl (any_of HT_.out (by kernel_rfl)) (fun _ _ _ h => h) (Or.inr ⟨by rfl, rfl⟩) ?_ ?_
       rotate_left
       ·
        simp only [Act.put, aput]
        rfl
       refine pure_ (i := 9) (N := some 22) (v := undef) (a' := ?_) (bm 21 1023) rfl rfl (any_of HT_.out (by kernel_rfl)) (fun _ _ _ h => h) (Or.inr ⟨by rfl, rfl⟩) ?_ ?_
       rotate_left
       ·
        simp only [Act.put, aput]
        rfl
       refine pure_ (i := 10) (N := some 23) (v := ?_) (a' := ?_) (bm 21 2047) rfl rfl (any_of HT_.out (by kernel_rfl)) (fun _ _ _ h => h) (Or.inl ⟨by rfl, ?_⟩) ?_ ?_
       rotate_left
       ·
        intro w'
        go_simp
        with_reducible rfl
       rotate_left
       ·
        simp only [Act.put, aput]
        rfl
       refine pure_ (i := 11) (N := some 24) (v := ?_) (a' := ?_) (bm 21 4095) rfl rfl (any_of HT_.out (by kernel_rfl)) (fun _ _ _ h => h) (Or.inl ⟨by rfl, ?_⟩) ?_ ?_
       rotate_left
       ·
        intro w'
        go_simp
        with_reducible rfl
       rotate_left
       ·
        simp only [Act.put, aput]
        rfl
       refine pure_ (i := 12) (N := some 25) (v := ?_) (a' := ?_) (bm 21 8191) rfl rfl (any_of HT_.out (by kernel_rfl)) (fun _ _ _ h => h) (Or.inl ⟨by rfl, ?_⟩) ?_ ?_
       rotate_left
       ·
        intro w'
        go_simp
        with_reducible rfl
       rotate_left
       ·
        simp only [Act.put, aput]
        rfl
       refine pure_ (i := 13) (N := some 26) (v := ?_) (a' := ?_) (bm 21 16383) rfl rfl (any_of HT_.out (by kernel_rfl)) (fun _ _ _ h => h) (Or.inl ⟨by rfl, ?_⟩) ?_ ?_
       rotate_left
       ·
        intro w'
        go_simp
        with_reducible rfl
       rotate_left
       ·
        simp only [Act.put, aput]
        rfl
       refine pure_ (i := 14) (N := some 27) (v := ?_) (a' := ?_) (bm 21 32767) rfl rfl (any_of HT_.out (by kernel_rfl)) (fun _ _ _ h => h) (Or.inl ⟨by rfl, ?_⟩) ?_ ?_
       rotate_left
       ·
        intro w'
        go_simp
        with_reducible rfl
       rotate_left
       ·
        simp only [Act.put, aput]
        rfl
       refine pure_ (i := 15) (N := some 28) (v := ?_) (a' := ?_) (bm 21 65535) rfl rfl (any_of HT_.out (by kernel_rfl)) (fun _ _ _ h => h) (Or.inl ⟨by rfl, ?_⟩) ?_ ?_
       rotate_left
       ·
        intro w'
        go_simp
        with_reducible rfl
       rotate_left
       ·
        simp only [Act.put, aput]
        rfl
       refine one_ (i := 16) (N := some 29) (bm 21 131071) rfl rfl (one_of HT_.out (by kernel_rfl)) (by decide) (fun K hK => ?_)
       refine goes_ Tryd.func27 (by kernel_rfl) rfl #[.int .u64 a0] (by rfl) rfl rfl (by (try simp only [List.map_toArray, List.map_cons, List.map_nil]); first | done | rfl | (simp only [List.length_drop, List.length_take]; rfl)) ?_
       with_reducible refine (ehdr_TypeName.calls a0 t166 _ ?side1 ?side2 A30.out).mono ?_
       (case side1 => exact Laid_ehdrn.below HLD_ehdrn.out (by repeat (first | (with_reducible first | exact HB.out | apply below_alloc | apply pw_below_drewN | apply below_drew1) | exact HB.out)))
       (case side2 => exact Laid_strconv.below HLD_strconv.out (by repeat (first | (with_reducible first | exact HB.out | apply below_alloc | apply pw_below_drewN | apply below_drew1) | exact HB.out)))
       rintro e w35 ⟨rfl, hb⟩
       refine ⟨_, rfl, ?_⟩
       have n0_ := aS (Kd.R_below (by (with_reducible repeat (first | apply Kd.R_alloc | apply Kd.R_drewN | apply Kd.R_drew)); exact HO162.out) hb)
       have n1_ := aS (below_step (by repeat (first | (with_reducible first | exact HB.out | apply below_alloc | apply pw_below_drewN | apply below_drew1) | exact HB.out)) hb)
       clear HO162
       clear HB
       have HO162 := n0_
       have HB := n1_
       clear n0_ n1_
       (try clear hb)
       (try clear hb2)
       (try clear hk)
       (try clear hi)
       refine hK.out _ _ trivial (fun hHeld => ?_)
       clear hK K
       refine norm_ (a' := ?_) ?_ ?_
       rotate_left
       ·
        show Act.put _ (some 29) _ = _
        simp only [Act.put, aput]
        rfl
       refine pure_ (i := 17) (N := some 30) (v := ?_) (a' := ?_) (bm 21 262143) rfl rfl (any_of HT_.out (by kernel_rfl)) (fun _ _ _ h => h) (Or.inl ⟨by rfl, ?_⟩) ?_ ?_
       rotate_left
       ·
        intro w'
        go_simp
        with_reducible rfl
       rotate_left
       ·
        simp only [Act.put, aput]
        rfl
       refine pure_ (i := 18) (N := some 31) (v := ?_) (a' := ?_) (bm 21 524287) rfl rfl (any_of HT_.out (by kernel_rfl)) (fun _ _ _ h => h) (Or.inl ⟨by rfl, ?_⟩) ?_ ?_
       rotate_left
       ·
        intro w'
        go_simp
        with_reducible rfl
       rotate_left
       ·
        simp only [Act.put, aput]
        rfl
       refine pure_ (i := 19) (N := some 32) (v := ?_) (a' := ?_) (bm 21 1048575) rfl rfl (any_of HT_.out (by kernel_rfl)) (fun _ _ _ h => h) (Or.inl ⟨by rfl, ?_⟩) ?_ ?_
       rotate_left
       ·
        intro w'
        go_simp
        with_reducible rfl
       rotate_left
       ·
        simp only [Act.put, aput]
        rfl
       refine pure_ (i := 20) (N := some 33) (v := ?_) (a' := ?_) (bm 21 2097151) rfl rfl (any_of HT_.out (by kernel_rfl)) (fun _ _ _ h => h) (Or.inl ⟨by rfl, ?_⟩) ?_ ?_
       rotate_left
       ·
        intro w'
        go_simp
        with_reducible rfl
       rotate_left
       ·
        simp only [Act.put, aput]
        rfl
       refine done_ (done_of HT_.out (by kernel_rfl)) ?_
       try go_wp2
       go_meet
       case rel => exact ⟨_, ((sc33.toList != ([48, 120] : List UInt8))), (by first | rfl | (simp; done) | (simp [*]; done)), H', ⟨by first | omega | exact Nat.le_refl _⟩, ⟨by repeat (first | (with_reducible first | exact HB.out | apply below_alloc | apply pw_below_drewN | apply below_drew1) | exact HB.out)⟩⟩
      ·
       rw [if_neg c32] at H
       exact absurd H (by simp)
     ·
      rw [if_neg c31] at H
      exact absurd H (by simp)
    ·
     rw [if_neg c29] at H
     have c29b0 : decide (5 ≤ a0) = false := decide_eq_false c29
     clear c29
     have H' := aS H
     clear H
     try go_wp2
     have n0_ := aS (Kd.R_drew HO162.out)
     have n1_ := aS (below_drew1 HB.out)
     clear HO162
     clear HB
     have HO162 := n0_
     have HB := n1_
     clear n0_ n1_
     refine start_ (n := 21) (S := fun w' => True) (ds := []) #[false, false, false, false, false, false, false, false, false, false, false, false, false, false, false, false, false, false, false, false, false] (by kernel_rfl) rfl rfl trivial (fun hHeld => ?_); refine with_tabW graverlaw05_EhdrWords.tab4 graverlaw05_EhdrWords.bits4 (fun HT_ HW_ => ?_)
     generalize w7.drew = w36 at HO162 HB hHeld ⊢
     refine pure_ (i := 0) (N := some 13) (v := ?_) (a' := ?_) (bm 21 1) rfl rfl (any_of HT_.out (by kernel_rfl)) (fun _ _ _ h => h) (Or.inl ⟨by rfl, ?_⟩) ?_ ?_
     rotate_left
     ·
      intro w'
      go_simp
      with_reducible rfl
     rotate_left
     ·
      simp only [Act.put, aput]
      rfl
     refine pure_ (i := 1) (N := some 14) (v := ?_) (a' := ?_) (bm 21 3) rfl rfl (any_of HT_.out (by kernel_rfl)) (fun _ _ _ h => h) (Or.inl ⟨by rfl, ?_⟩) ?_ ?_
     rotate_left
     ·
      intro w'
      go_simp
      with_reducible rfl
     rotate_left
     ·
      simp only [Act.put, aput]
      rfl
     refine pure_ (i := 2) (N := some 15) (v := ?_) (a' := ?_) (bm 21 7) rfl rfl (any_of HT_.out (by kernel_rfl)) (fun _ _ _ h => h) (Or.inl ⟨by rfl, ?_⟩) ?_ ?_
     rotate_left
     ·
      intro w'
      go_simp
      with_reducible rfl
     rotate_left
     ·
      simp only [Act.put, aput]
      rfl
     refine pure_ (i := 3) (N := some 16) (v := undef) (a' := ?_) (bm 21 15) rfl rfl (any_of HT_.out (by kernel_rfl)) (fun _ _ _ h => h) (Or.inr ⟨by rfl, rfl⟩) ?_ ?_
     rotate_left
     ·
      simp only [Act.put, aput]
      rfl
     refine pure_ (i := 4) (N := some 17) (v := undef) (a' := ?_) (bm 21 31) rfl rfl (any_of HT_.out (by kernel_rfl)) (fun _ _ _ h => h) (Or.inr ⟨by rfl, rfl⟩) ?_ ?_
     rotate_left
     ·
      simp only [Act.put, aput]
      rfl
     refine pure_ (i := 5) (N := some 18) (v := undef) (a' := ?_) (bm 21 63) rfl rfl (any_of HT_.out (by kernel_rfl)) (fun _ _ _ h => h) (Or.inr ⟨by rfl, rfl⟩) ?_ ?_
     rotate_left
     ·
      simp only [Act.put, aput]
      rfl
     refine pure_ (i := 6) (N := some 19) (v := undef) (a' := ?_) (bm 21 127) rfl rfl (any_of HT_.out (by kernel_rfl)) (fun _ _ _ h => h) (Or.inr ⟨by rfl, rfl⟩) ?_ ?_
     rotate_left
     ·
      simp only [Act.put, aput]
      rfl
     refine pure_ (i := 7) (N := some 20) (v := undef) (a' := ?_) (bm 21 255) rfl rfl (any_of HT_.out (by kernel_rfl)) (fun _ _ _ h => h) (Or.inr ⟨by rfl, rfl⟩) ?_ ?_
     rotate_left
     ·
      simp only [Act.put, aput]
      rfl
     refine pure_ (i := 8) (N := some 21) (v := undef) (a' := ?_) (bm 21 511) rfl rfl (any_of HT_.out (by kernel_rfl)) (fun _ _ _ h => h) (Or.inr ⟨by rfl, rfl⟩) ?_ ?_
     rotate_left
     ·
      simp only [Act.put, aput]
      rfl
     refine pure_ (i := 9) (N := some 22) (v := undef) (a' := ?_) (bm 21 1023) rfl rfl (any_of HT_.out (by kernel_rfl)) (fun _ _ _ h => h) (Or.inr ⟨by rfl, rfl⟩) ?_ ?_
     rotate_left
     ·
      simp only [Act.put, aput]
      rfl
     refine pure_ (i := 10) (N := some 23) (v := ?_) (a' := ?_) (bm 21 2047) rfl rfl (any_of HT_.out (by kernel_rfl)) (fun _ _ _ h => h) (Or.inl ⟨by rfl, ?_⟩) ?_ ?_
     rotate_left
     ·
      intro w'
      go_simp
      with_reducible rfl
     rotate_left
     ·
      simp only [Act.put, aput]
      rfl
     refine pure_ (i := 11) (N := some 24) (v := ?_) (a' := ?_) (bm 21 4095) rfl rfl (any_of HT_.out (by kernel_rfl)) (fun _ _ _ h => h) (Or.inl ⟨by rfl, ?_⟩) ?_ ?_
     rotate_left
     ·
      intro w'
      go_simp
      with_reducible rfl
     rotate_left
     ·
      simp only [Act.put, aput]
      rfl
     refine pure_ (i := 12) (N := some 25) (v := ?_) (a' := ?_) (bm 21 8191) rfl rfl (any_of HT_.out (by kernel_rfl)) (fun _ _ _ h => h) (Or.inl ⟨by rfl, ?_⟩) ?_ ?_
     rotate_left
     ·
      intro w'
      go_simp
      with_reducible rfl
     rotate_left
     ·
      simp only [Act.put, aput]
      rfl
     refine pure_ (i := 13) (N := some 26) (v := ?_) (a' := ?_) (bm 21 16383) rfl rfl (any_of HT_.out (by kernel_rfl)) (fun _ _ _ h => h) (Or.inl ⟨by rfl, ?_⟩) ?_ ?_
     rotate_left
     ·
      intro w'
      go_simp
      with_reducible rfl
     rotate_left
     ·
      simp only [Act.put, aput]
      rfl
     refine pure_ (i := 14) (N := some 27) (v := ?_) (a' := ?_) (bm 21 32767) rfl rfl (any_of HT_.out (by kernel_rfl)) (fun _ _ _ h => h) (Or.inl ⟨by rfl, ?_⟩) ?_ ?_
     rotate_left
     ·
      intro w'
      go_simp
      with_reducible rfl
     rotate_left
     ·
      simp only [Act.put, aput]
      rfl
     refine pure_ (i := 15) (N := some 28) (v := undef) (a' := ?_) (bm 21 65535) rfl rfl (any_of HT_.out (by kernel_rfl)) (fun _ _ _ h => h) (Or.inr ⟨by rfl, rfl⟩) ?_ ?_
     rotate_left
     ·
      simp only [Act.put, aput]
      rfl
     refine pure_ (i := 16) (N := some 29) (v := undef) (a' := ?_) (bm 21 131071) rfl rfl (any_of HT_.out (by kernel_rfl)) (fun _ _ _ h => h) (Or.inr ⟨by rfl, rfl⟩) ?_ ?_
     rotate_left
     ·
      simp only [Act.put, aput]
      rfl
     refine pure_ (i := 17) (N := some 30) (v := undef) (a' := ?_) (bm 21 262143) rfl rfl (any_of HT_.out (by kernel_rfl)) (fun _ _ _ h => h) (Or.inr ⟨by rfl, rfl⟩) ?_ ?_
     rotate_left
     ·
      simp only [Act.put, aput]
      rfl
     refine pure_ (i := 18) (N := some 31) (v := undef) (a' := ?_) (bm 21 524287) rfl rfl (any_of HT_.out (by kernel_rfl)) (fun _ _ _ h => h) (Or.inr ⟨by rfl, rfl⟩) ?_ ?_
     rotate_left
     ·
      simp only [Act.put, aput]
      rfl
     refine pure_ (i := 19) (N := some 32) (v := ?_) (a' := ?_) (bm 21 1048575) rfl rfl (any_of HT_.out (by kernel_rfl)) (fun _ _ _ h => h) (Or.inl ⟨by rfl, ?_⟩) ?_ ?_
     rotate_left
     ·
      intro w'
      go_simp
      with_reducible rfl
     rotate_left
     ·
      simp only [Act.put, aput]
      rfl
     refine pure_ (i := 20) (N := some 33) (v := ?_) (a' := ?_) (bm 21 2097151) rfl rfl (any_of HT_.out (by kernel_rfl)) (fun _ _ _ h => h) (Or.inl ⟨by rfl, ?_⟩) ?_ ?_
     rotate_left
     ·
      intro w'
      go_simp
      with_reducible rfl
     rotate_left
     ·
      simp only [Act.put, aput]
      rfl
     refine done_ (done_of HT_.out (by kernel_rfl)) ?_
     try go_wp2
     go_meet
     case rel => exact ⟨_, (false), (by first | rfl | (simp; done) | (simp [*]; done)), H', ⟨by first | omega | exact Nat.le_refl _⟩, ⟨by repeat (first | (with_reducible first | exact HB.out | apply below_alloc | apply pw_below_drewN | apply below_drew1) | exact HB.out)⟩⟩
  case rest =>
   clear HC5
   try clear c1
   try clear p1
   try clear q1
   try clear hx1
   try clear c2
   try clear p2
   try clear c3
   try clear c9
   try clear c9b0
   try clear c11
   try clear c12
   try clear c13
   try clear c13b0
   try clear c13b1
   try clear p16
   try clear q16
   try clear hx16
   try clear c27
   try clear c29
   try clear c29b0
   try clear c31
   try clear c31b0
   try clear c31b1
   try clear c32
   try clear c32b0
   try clear c32b1
   try clear c33
   try clear hx164_0
   try clear p164
   try clear q164
   obtain ⟨kq, x33_4, rfl, HA, HJ4, HB⟩ := hcut
   cases kq with
   | zero => exact absurd HA.out (by simp [graverlaw05_EhdrWords.j0])
   | succ kj4 =>
    have H := HA.out
    clear HA
    simp only [graverlaw05_EhdrWords.j0] at H
    by_cases c37 : x33_4 = true
    ·
     subst c37
     have H1 : (some false) = some r := by rw [if_pos rfl] at H; exact H
     clear H
     have H := H1
     clear H1
     exact absurd ((Option.some.inj H).trans HRT.out) (by decide)
    ·
     replace c37 := Bool.eq_false_iff.mpr c37
     subst c37
     have H1 : ((ehdr_MachineName.f a0).bind fun t167 => (if mapHas tabM_ehdr_machines a0 = true then (if t167.toList = (mapStr tabM_ehdr_machines a0).toList then ((ehdr_MachineName.f a1).bind fun t168 => (if t167.toList = t168.toList then (if a0 = a1 then ((ehdr_TypeName.f a0).bind fun t169 => ((ehdr_TypeName.f a1).bind fun t170 => (if t169.toList = t170.toList then (some (a0 == a1)) else (some (!(a0 == a1)))))) else (some false)) else (if a0 = a1 then (some false) else ((ehdr_TypeName.f a0).bind fun t171 => ((ehdr_TypeName.f a1).bind fun t172 => (if t171.toList = t172.toList then (some (a0 == a1)) else (some (!(a0 == a1))))))))) else (some false)) else (if 0 ≤ 2 then (if 2 ≤ (t167.size : Int) then (if (t167.extract 0 2).toList = ([48, 120] : List UInt8) then ((ehdr_MachineName.f a1).bind fun t173 => (if t167.toList = t173.toList then (if a0 = a1 then ((ehdr_TypeName.f a0).bind fun t174 => ((ehdr_TypeName.f a1).bind fun t175 => (if t174.toList = t175.toList then (some (a0 == a1)) else (some (!(a0 == a1)))))) else (some false)) else (if a0 = a1 then (some false) else ((ehdr_TypeName.f a0).bind fun t176 => ((ehdr_TypeName.f a1).bind fun t177 => (if t176.toList = t177.toList then (some (a0 == a1)) else (some (!(a0 == a1))))))))) else (some false)) else (none)) else (none)))) = some r := by rw [if_neg (show ¬ (false = true) by decide)] at H; exact H
     clear H
     have H := H1
     clear H1
     replace H := Option.bind_eq_some_iff.mp H
     obtain ⟨t167, A380, H⟩ := H
     replace H : (if mapHas tabM_ehdr_machines a0 = true then (if t167.toList = (mapStr tabM_ehdr_machines a0).toList then ((ehdr_MachineName.f a1).bind fun t168 => (if t167.toList = t168.toList then (if a0 = a1 then ((ehdr_TypeName.f a0).bind fun t169 => ((ehdr_TypeName.f a1).bind fun t170 => (if t169.toList = t170.toList then (some (a0 == a1)) else (some (!(a0 == a1)))))) else (some false)) else (if a0 = a1 then (some false) else ((ehdr_TypeName.f a0).bind fun t171 => ((ehdr_TypeName.f a1).bind fun t172 => (if t171.toList = t172.toList then (some (a0 == a1)) else (some (!(a0 == a1))))))))) else (some false)) else (if 0 ≤ 2 then (if 2 ≤ (t167.size : Int) then (if (t167.extract 0 2).toList = ([48, 120] : List UInt8) then ((ehdr_MachineName.f a1).bind fun t173 => (if t167.toList = t173.toList then (if a0 = a1 then ((ehdr_TypeName.f a0).bind fun t174 => ((ehdr_TypeName.f a1).bind fun t175 => (if t174.toList = t175.toList then (some (a0 == a1)) else (some (!(a0 == a1)))))) else (some false)) else (if a0 = a1 then (some false) else ((ehdr_TypeName.f a0).bind fun t176 => ((ehdr_TypeName.f a1).bind fun t177 => (if t176.toList = t177.toList then (some (a0 == a1)) else (some (!(a0 == a1))))))))) else (some false)) else (none)) else (none))) = some r := H
     have A38 := aS A380
     clear A380
     by_cases c39 : mapHas tabM_ehdr_machines a0 = true
     ·
      rw [if_pos c39] at H
      have c39b0 : mapHas tabM_ehdr_machines a0 = true := c39
      clear c39
      by_cases c40 : t167.toList = (mapStr tabM_ehdr_machines a0).toList
      ·
       rw [if_pos c40] at H
       have c40b0 : (t167.toList == (mapStr tabM_ehdr_machines a0).toList) = true := beq_iff_eq.mpr c40
       have c40b1 : (t167.toList != (mapStr tabM_ehdr_machines a0).toList) = false := bne_eq_false_iff_eq.mpr c40
       clear c40
       replace H := Option.bind_eq_some_iff.mp H
       obtain ⟨t168, A410, H⟩ := H
       replace H : (if t167.toList = t168.toList then (if a0 = a1 then ((ehdr_TypeName.f a0).bind fun t169 => ((ehdr_TypeName.f a1).bind fun t170 => (if t169.toList = t170.toList then (some (a0 == a1)) else (some (!(a0 == a1)))))) else (some false)) else (if a0 = a1 then (some false) else ((ehdr_TypeName.f a0).bind fun t171 => ((ehdr_TypeName.f a1).bind fun t172 => (if t171.toList = t172.toList then (some (a0 == a1)) else (some (!(a0 == a1)))))))) = some r := H
       have A41 := aS A410
       clear A410
       by_cases c42 : t167.toList = t168.toList
       ·
        rw [if_pos c42] at H
        have c42b0 : (t167.toList == t168.toList) = true := beq_iff_eq.mpr c42
        have c42b1 : (t167.toList != t168.toList) = false := bne_eq_false_iff_eq.mpr c42
        clear c42
        by_cases c43 : a0 = a1
        ·
         rw [if_pos c43] at H
         have c43b0 : (a0 == a1) = true := beq_iff_eq.mpr c43
         have c43b1 : (a0 != a1) = false := bne_eq_false_iff_eq.mpr c43
         clear c43
         (try simp only [c43b0] at H)
         (try rw [c43b0] at A38)
         (try rw [c43b0] at A41)
         replace H := Option.bind_eq_some_iff.mp H
         obtain ⟨t169, A440, H⟩ := H
         replace H : ((ehdr_TypeName.f a1).bind fun t170 => (if t169.toList = t170.toList then (some true) else (some (!true)))) = some r := H
         have A44 := aS A440
         clear A440
         replace H := Option.bind_eq_some_iff.mp H
         obtain ⟨t170, A450, H⟩ := H
         replace H : (if t169.toList = t170.toList then (some true) else (some (!true))) = some r := H
         have A45 := aS A450
         clear A450
         by_cases c46 : t169.toList = t170.toList
         ·
          rw [if_pos c46] at H
          have c46b0 : (t169.toList == t170.toList) = true := beq_iff_eq.mpr c46
          have c46b1 : (t169.toList != t170.toList) = false := bne_eq_false_iff_eq.mpr c46
          clear c46
          obtain rfl := Option.some.inj H
          go_wp2_with (first | ((with_reducible refine gate_dst (N := 34) rfl ?_); refine Mpl.lit rfl rfl rfl 11 tabM_ehdr_machines Tryd.underlying60 Tryd.underlying22 ?os (by decide) (fun _ => rfl) (by repeat (first | (with_reducible first | exact HB.out | apply below_alloc | apply pw_below_drewN | apply below_drew1) | exact HB.out)) (below_size (by repeat (first | (with_reducible first | exact HB.out | apply below_alloc | apply pw_below_drewN | apply below_drew1) | exact HB.out))) ?_; (case os => (repeat (refine And.intro (And.intro rfl (And.intro rfl rfl)) ?_)); exact trivial); intro bm wm him hbm; have n0_ := aS hbm; clear HB; have HB := n0_; clear n0_ hbm; dsimp only [List.drop]) | ((with_reducible refine gate_dst (N := 39) rfl ?_); refine Mpl.look_event rfl rfl rfl Tryd.underlying60 Tryd.underlying22 rfl him rfl a0 rfl ?_) | ((with_reducible refine gate_callee (f := 28) rfl ?_); refine goesL_ (some 43) rfl rfl Tryd.func28 (by kernel_rfl) rfl #[.int .u64 a0] rfl (by (try simp only [List.map_toArray, List.map_cons, List.map_nil]); first | done | rfl | (simp only [List.length_drop, List.length_take]; rfl)) ?_; (with_reducible refine (ehdr_MachineName.calls a0 t167 _ ?side1 ?side2 A38.out).mono ?_); (case side1 => exact Laid_ehdrn.below HLD_ehdrn.out (by repeat (first | (with_reducible first | exact HB.out | apply below_alloc | apply pw_below_drewN | apply below_drew1) | exact HB.out))); (case side2 => exact Laid_strconv.below HLD_strconv.out (by repeat (first | (with_reducible first | exact HB.out | apply below_alloc | apply pw_below_drewN | apply below_drew1) | exact HB.out))); rintro e w47 ⟨rfl, hb⟩; refine ⟨_, rfl, ?_⟩; have n0_ := aS (below_step (by repeat (first | (with_reducible first | exact HB.out | apply below_alloc | apply pw_below_drewN | apply below_drew1) | exact HB.out)) hb); clear HB; have HB := n0_; clear n0_; (try clear hb); (try clear hb2); (try clear hk); (try clear hi)) | (go_at_call 28; (with_reducible refine (ehdr_MachineName.calls a1 t168 _ ?side1 ?side2 A41.out).mono ?_); (case side1 => exact Laid_ehdrn.below HLD_ehdrn.out (by repeat (first | (with_reducible first | exact HB.out | apply below_alloc | apply pw_below_drewN | apply below_drew1) | exact HB.out))); (case side2 => exact Laid_strconv.below HLD_strconv.out (by repeat (first | (with_reducible first | exact HB.out | apply below_alloc | apply pw_below_drewN | apply below_drew1) | exact HB.out))); rintro e w48 ⟨rfl, hb⟩; have n0_ := aS (below_step (by repeat (first | (with_reducible first | exact HB.out | apply below_alloc | apply pw_below_drewN | apply below_drew1) | exact HB.out)) hb); clear HB; have HB := n0_; clear n0_; (try clear hb); (try clear hb2); (try clear hk); (try clear hi)) | (go_at_call 27; (with_reducible refine (ehdr_TypeName.calls a0 t169 _ ?side1 ?side2 A44.out).mono ?_); (case side1 => exact Laid_ehdrn.below HLD_ehdrn.out (by repeat (first | (with_reducible first | exact HB.out | apply below_alloc | apply pw_below_drewN | apply below_drew1) | exact HB.out))); (case side2 => exact Laid_strconv.below HLD_strconv.out (by repeat (first | (with_reducible first | exact HB.out | apply below_alloc | apply pw_below_drewN | apply below_drew1) | exact HB.out))); rintro e w49 ⟨rfl, hb⟩; have n0_ := aS (below_step (by repeat (first | (with_reducible first | exact HB.out | apply below_alloc | apply pw_below_drewN | apply below_drew1) | exact HB.out)) hb); clear HB; have HB := n0_; clear n0_; (try clear hb); (try clear hb2); (try clear hk); (try clear hi)) | (go_at_call 27; (with_reducible refine (ehdr_TypeName.calls a1 t170 _ ?side1 ?side2 A45.out).mono ?_); (case side1 => exact Laid_ehdrn.below HLD_ehdrn.out (by repeat (first | (with_reducible first | exact HB.out | apply below_alloc | apply pw_below_drewN | apply below_drew1) | exact HB.out))); (case side2 => exact Laid_strconv.below HLD_strconv.out (by repeat (first | (with_reducible first | exact HB.out | apply below_alloc | apply pw_below_drewN | apply below_drew1) | exact HB.out))); rintro e w50 ⟨rfl, hb⟩; have n0_ := aS (below_step (by repeat (first | (with_reducible first | exact HB.out | apply below_alloc | apply pw_below_drewN | apply below_drew1) | exact HB.out)) hb); clear HB; have HB := n0_; clear n0_; (try clear hb); (try clear hb2); (try clear hk); (try clear hi)))
          go_ret
          exact ⟨by first | rfl | (simp [errW_none, errW_some] <;> rfl) | (simp [*, errW_none, errW_some] <;> rfl), by repeat (first | (with_reducible first | exact HB.out | apply below_alloc | apply pw_below_drewN | apply below_drew1) | exact HB.out)⟩
         ·
          rw [if_neg c46] at H
          have c46b0 : (t169.toList == t170.toList) = false := beq_eq_false_iff_ne.mpr c46
          have c46b1 : (t169.toList != t170.toList) = true := bne_iff_ne.mpr c46
          obtain rfl := Option.some.inj H
          go_wp2_with (first | ((with_reducible refine gate_dst (N := 34) rfl ?_); refine Mpl.lit rfl rfl rfl 11 tabM_ehdr_machines Tryd.underlying60 Tryd.underlying22 ?os (by decide) (fun _ => rfl) (by repeat (first | (with_reducible first | exact HB.out | apply below_alloc | apply pw_below_drewN | apply below_drew1) | exact HB.out)) (below_size (by repeat (first | (with_reducible first | exact HB.out | apply below_alloc | apply pw_below_drewN | apply below_drew1) | exact HB.out))) ?_; (case os => (repeat (refine And.intro (And.intro rfl (And.intro rfl rfl)) ?_)); exact trivial); intro bm wm him hbm; have n0_ := aS hbm; clear HB; have HB := n0_; clear n0_ hbm; dsimp only [List.drop]) | ((with_reducible refine gate_dst (N := 39) rfl ?_); refine Mpl.look_event rfl rfl rfl Tryd.underlying60 Tryd.underlying22 rfl him rfl a0 rfl ?_) | ((with_reducible refine gate_callee (f := 28) rfl ?_); refine goesL_ (some 43) rfl rfl Tryd.func28 (by kernel_rfl) rfl #[.int .u64 a0] rfl (by (try simp only [List.map_toArray, List.map_cons, List.map_nil]); first | done | rfl | (simp only [List.length_drop, List.length_take]; rfl)) ?_; (with_reducible refine (ehdr_MachineName.calls a0 t167 _ ?side1 ?side2 A38.out).mono ?_); (case side1 => exact Laid_ehdrn.below HLD_ehdrn.out (by repeat (first | (with_reducible first | exact HB.out | apply below_alloc | apply pw_below_drewN | apply below_drew1) | exact HB.out))); (case side2 => exact Laid_strconv.below HLD_strconv.out (by repeat (first | (with_reducible first | exact HB.out | apply below_alloc | apply pw_below_drewN | apply below_drew1) | exact HB.out))); rintro e w51 ⟨rfl, hb⟩; refine ⟨_, rfl, ?_⟩; have n0_ := aS (below_step (by repeat (first | (with_reducible first | exact HB.out | apply below_alloc | apply pw_below_drewN | apply below_drew1) | exact HB.out)) hb); clear HB; have HB := n0_; clear n0_; (try clear hb); (try clear hb2); (try clear hk); (try clear hi)) | (go_at_call 28; (with_reducible refine (ehdr_MachineName.calls a1 t168 _ ?side1 ?side2 A41.out).mono ?_); (case side1 => exact Laid_ehdrn.below HLD_ehdrn.out (by repeat (first | (with_reducible first | exact HB.out | apply below_alloc | apply pw_below_drewN | apply below_drew1) | exact HB.out))); (case side2 => exact Laid_strconv.below HLD_strconv.out (by repeat (first | (with_reducible first | exact HB.out | apply below_alloc | apply pw_below_drewN | apply below_drew1) | exact HB.out))); rintro e w52 ⟨rfl, hb⟩; have n0_ := aS (below_step (by repeat (first | (with_reducible first | exact HB.out | apply below_alloc | apply pw_below_drewN | apply below_drew1) | exact HB.out)) hb); clear HB; have HB := n0_; clear n0_; (try clear hb); (try clear hb2); (try clear hk); (try clear hi)) | (go_at_call 27; (with_reducible refine (ehdr_TypeName.calls a0 t169 _ ?side1 ?side2 A44.out).mono ?_); (case side1 => exact Laid_ehdrn.below HLD_ehdrn.out (by repeat (first | (with_reducible first | exact HB.out | apply below_alloc | apply pw_below_drewN | apply below_drew1) | exact HB.out))); (case side2 => exact Laid_strconv.below HLD_strconv.out (by repeat (first | (with_reducible first | exact HB.out | apply below_alloc | apply pw_below_drewN | apply below_drew1) | exact HB.out))); rintro e w53 ⟨rfl, hb⟩; have n0_ := aS (below_step (by repeat (first | (with_reducible first | exact HB.out | apply below_alloc | apply pw_below_drewN | apply below_drew1) | exact HB.out)) hb); clear HB; have HB := n0_; clear n0_; (try clear hb); (try clear hb2); (try clear hk); (try clear hi)) | (go_at_call 27; (with_reducible refine (ehdr_TypeName.calls a1 t170 _ ?side1 ?side2 A45.out).mono ?_); (case side1 => exact Laid_ehdrn.below HLD_ehdrn.out (by repeat (first | (with_reducible first | exact HB.out | apply below_alloc | apply pw_below_drewN | apply below_drew1) | exact HB.out))); (case side2 => exact Laid_strconv.below HLD_strconv.out (by repeat (first | (with_reducible first | exact HB.out | apply below_alloc | apply pw_below_drewN | apply below_drew1) | exact HB.out))); rintro e w54 ⟨rfl, hb⟩; have n0_ := aS (below_step (by repeat (first | (with_reducible first | exact HB.out | apply below_alloc | apply pw_below_drewN | apply below_drew1) | exact HB.out)) hb); clear HB; have HB := n0_; clear n0_; (try clear hb); (try clear hb2); (try clear hk); (try clear hi)))
          go_ret
          exact ⟨by first | rfl | (simp [errW_none, errW_some] <;> rfl) | (simp [*, errW_none, errW_some] <;> rfl), by repeat (first | (with_reducible first | exact HB.out | apply below_alloc | apply pw_below_drewN | apply below_drew1) | exact HB.out)⟩
        ·
         rw [if_neg c43] at H
         have c43b0 : (a0 == a1) = false := beq_eq_false_iff_ne.mpr c43
         have c43b1 : (a0 != a1) = true := bne_iff_ne.mpr c43
         exact absurd ((Option.some.inj H).trans HRT.out) (by decide)
       ·
        rw [if_neg c42] at H
        have c42b0 : (t167.toList == t168.toList) = false := beq_eq_false_iff_ne.mpr c42
        have c42b1 : (t167.toList != t168.toList) = true := bne_iff_ne.mpr c42
        by_cases c55 : a0 = a1
        ·
         rw [if_pos c55] at H
         have c55b0 : (a0 == a1) = true := beq_iff_eq.mpr c55
         have c55b1 : (a0 != a1) = false := bne_eq_false_iff_eq.mpr c55
         clear c55
         exact absurd ((Option.some.inj H).trans HRT.out) (by decide)
        ·
         rw [if_neg c55] at H
         have c55b0 : (a0 == a1) = false := beq_eq_false_iff_ne.mpr c55
         have c55b1 : (a0 != a1) = true := bne_iff_ne.mpr c55
         (try simp only [c55b0] at H)
         (try rw [c55b0] at A38)
         (try rw [c55b0] at A41)
         replace H := Option.bind_eq_some_iff.mp H
         obtain ⟨t171, A560, H⟩ := H
         replace H : ((ehdr_TypeName.f a1).bind fun t172 => (if t171.toList = t172.toList then (some false) else (some (!false)))) = some r := H
         have A56 := aS A560
         clear A560
         replace H := Option.bind_eq_some_iff.mp H
         obtain ⟨t172, A570, H⟩ := H
         replace H : (if t171.toList = t172.toList then (some false) else (some (!false))) = some r := H
         have A57 := aS A570
         clear A570
         by_cases c58 : t171.toList = t172.toList
         ·
          rw [if_pos c58] at H
          have c58b0 : (t171.toList == t172.toList) = true := beq_iff_eq.mpr c58
          have c58b1 : (t171.toList != t172.toList) = false := bne_eq_false_iff_eq.mpr c58
          clear c58
          exact absurd ((Option.some.inj H).trans HRT.out) (by decide)
         ·
          rw [if_neg c58] at H
          have c58b0 : (t171.toList == t172.toList) = false := beq_eq_false_iff_ne.mpr c58
          have c58b1 : (t171.toList != t172.toList) = true := bne_iff_ne.mpr c58
          obtain rfl := Option.some.inj H
          go_wp2_with (first | ((with_reducible refine gate_dst (N := 34) rfl ?_); refine Mpl.lit rfl rfl rfl 11 tabM_ehdr_machines Tryd.underlying60 Tryd.underlying22 ?os (by decide) (fun _ => rfl) (by repeat (first | (with_reducible first | exact HB.out | apply below_alloc | apply pw_below_drewN | apply below_drew1) | exact HB.out)) (below_size (by repeat (first | (with_reducible first | exact HB.out | apply below_alloc | apply pw_below_drewN | apply below_drew1) | exact HB.out))) ?_; (case os => (repeat (refine And.intro (And.intro rfl (And.intro rfl rfl)) ?_)); exact trivial); intro bm wm him hbm; have n0_ := aS hbm; clear HB; have HB := n0_; clear n0_ hbm; dsimp only [List.drop]) | ((with_reducible refine gate_dst (N := 39) rfl ?_); refine Mpl.look_event rfl rfl rfl Tryd.underlying60 Tryd.underlying22 rfl him rfl a0 rfl ?_) | ((with_reducible refine gate_callee (f := 28) rfl ?_); refine goesL_ (some 43) rfl rfl Tryd.func28 (by kernel_rfl) rfl #[.int .u64 a0] rfl (by (try simp only [List.map_toArray, List.map_cons, List.map_nil]); first | done | rfl | (simp only [List.length_drop, List.length_take]; rfl)) ?_; (with_reducible refine (ehdr_MachineName.calls a0 t167 _ ?side1 ?side2 A38.out).mono ?_); (case side1 => exact Laid_ehdrn.below HLD_ehdrn.out (by repeat (first | (with_reducible first | exact HB.out | apply below_alloc | apply pw_below_drewN | apply below_drew1) | exact HB.out))); (case side2 => exact Laid_strconv.below HLD_strconv.out (by repeat (first | (with_reducible first | exact HB.out | apply below_alloc | apply pw_below_drewN | apply below_drew1) | exact HB.out))); rintro e w59 ⟨rfl, hb⟩; refine ⟨_, rfl, ?_⟩; have n0_ := aS (below_step (by repeat (first | (with_reducible first | exact HB.out | apply below_alloc | apply pw_below_drewN | apply below_drew1) | exact HB.out)) hb); clear HB; have HB := n0_; clear n0_; (try clear hb); (try clear hb2); (try clear hk); (try clear hi)) | (go_at_call 28; (with_reducible refine (ehdr_MachineName.calls a1 t168 _ ?side1 ?side2 A41.out).mono ?_); (case side1 => exact Laid_ehdrn.below HLD_ehdrn.out (by repeat (first | (with_reducible first | exact HB.out | apply below_alloc | apply pw_below_drewN | apply below_drew1) | exact HB.out))); (case side2 => exact Laid_strconv.below HLD_strconv.out (by repeat (first | (with_reducible first | exact HB.out | apply below_alloc | apply pw_below_drewN | apply below_drew1) | exact HB.out))); rintro e w60 ⟨rfl, hb⟩; have n0_ := aS (below_step (by repeat (first | (with_reducible first | exact HB.out | apply below_alloc | apply pw_below_drewN | apply below_drew1) | exact HB.out)) hb); clear HB; have HB := n0_; clear n0_; (try clear hb); (try clear hb2); (try clear hk); (try clear hi)) | (go_at_call 27; (with_reducible refine (ehdr_TypeName.calls a0 t171 _ ?side1 ?side2 A56.out).mono ?_); (case side1 => exact Laid_ehdrn.below HLD_ehdrn.out (by repeat (first | (with_reducible first | exact HB.out | apply below_alloc | apply pw_below_drewN | apply below_drew1) | exact HB.out))); (case side2 => exact Laid_strconv.below HLD_strconv.out (by repeat (first | (with_reducible first | exact HB.out | apply below_alloc | apply pw_below_drewN | apply below_drew1) | exact HB.out))); rintro e w61 ⟨rfl, hb⟩; have n0_ := aS (below_step (by repeat (first | (with_reducible first | exact HB.out | apply below_alloc | apply pw_below_drewN | apply below_drew1) | exact HB.out)) hb); clear HB; have HB := n0_; clear n0_; (try clear hb); (try clear hb2); (try clear hk); (try clear hi)) | (go_at_call 27; (with_reducible refine (ehdr_TypeName.calls a1 t172 _ ?side1 ?side2 A57.out).mono ?_); (case side1 => exact Laid_ehdrn.below HLD_ehdrn.out (by repeat (first | (with_reducible first | exact HB.out | apply below_alloc | apply pw_below_drewN | apply below_drew1) | exact HB.out))); (case side2 => exact Laid_strconv.below HLD_strconv.out (by repeat (first | (with_reducible first | exact HB.out | apply below_alloc | apply pw_below_drewN | apply below_drew1) | exact HB.out))); rintro e w62 ⟨rfl, hb⟩; have n0_ := aS (below_step (by repeat (first | (with_reducible first | exact HB.out | apply below_alloc | apply pw_below_drewN | apply below_drew1) | exact HB.out)) hb); clear HB; have HB := n0_; clear n0_; (try clear hb); (try clear hb2); (try clear hk); (try clear hi)))
          go_ret
          exact ⟨by first | rfl | (simp [errW_none, errW_some] <;> rfl) | (simp [*, errW_none, errW_some] <;> rfl), by repeat (first | (with_reducible first | exact HB.out | apply below_alloc | apply pw_below_drewN | apply below_drew1) | exact HB.out)⟩
      ·
       rw [if_neg c40] at H
       have c40b0 : (t167.toList == (mapStr tabM_ehdr_machines a0).toList) = false := beq_eq_false_iff_ne.mpr c40
       have c40b1 : (t167.toList != (mapStr tabM_ehdr_machines a0).toList) = true := bne_iff_ne.mpr c40
       exact absurd ((Option.some.inj H).trans HRT.out) (by decide)
     ·
      rw [if_neg c39] at H
      have c39b0 : mapHas tabM_ehdr_machines a0 = false := by simpa using c39
      clear c39
      by_cases c63 : 0 ≤ 2
      ·
       rw [if_pos c63] at H
       have c63b0 := eq_true c63
       have c63b1 : decide (0 ≤ 2) = true := decide_eq_true c63
       clear c63
       by_cases c64 : 2 ≤ (t167.size : Int)
       ·
        rw [if_pos c64] at H
        have c64b0 := eq_true c64
        have c64b1 : decide (2 ≤ (t167.size : Int)) = true := decide_eq_true c64
        clear c64
        obtain ⟨sc65, hsc65⟩ : ∃ s_ : ByteArray, (t167.extract 0 2) = s_ := ⟨_, rfl⟩
        replace H : (if sc65.toList = ([48, 120] : List UInt8) then ((ehdr_MachineName.f a1).bind fun t173 => (if t167.toList = t173.toList then (if a0 = a1 then ((ehdr_TypeName.f a0).bind fun t174 => ((ehdr_TypeName.f a1).bind fun t175 => (if t174.toList = t175.toList then (some (a0 == a1)) else (some (!(a0 == a1)))))) else (some false)) else (if a0 = a1 then (some false) else ((ehdr_TypeName.f a0).bind fun t176 => ((ehdr_TypeName.f a1).bind fun t177 => (if t176.toList = t177.toList then (some (a0 == a1)) else (some (!(a0 == a1))))))))) else (some false)) = some r := by first | (rw [hsc65] at H; exact H) | (simp only [hsc65] at H ⊢; exact H) | exact H
        (try (have hsc65n := hsc65; simp only [Int.toNat_natCast] at hsc65n))
        by_cases c66 : sc65.toList = ([48, 120] : List UInt8)
        ·
         rw [if_pos c66] at H
         have c66b0 : (sc65.toList == ([48, 120] : List UInt8)) = true := beq_iff_eq.mpr c66
         have c66b1 : (sc65.toList != ([48, 120] : List UInt8)) = false := bne_eq_false_iff_eq.mpr c66
         clear c66
         replace H := Option.bind_eq_some_iff.mp H
         obtain ⟨t173, A670, H⟩ := H
         replace H : (if t167.toList = t173.toList then (if a0 = a1 then ((ehdr_TypeName.f a0).bind fun t174 => ((ehdr_TypeName.f a1).bind fun t175 => (if t174.toList = t175.toList then (some (a0 == a1)) else (some (!(a0 == a1)))))) else (some false)) else (if a0 = a1 then (some false) else ((ehdr_TypeName.f a0).bind fun t176 => ((ehdr_TypeName.f a1).bind fun t177 => (if t176.toList = t177.toList then (some (a0 == a1)) else (some (!(a0 == a1)))))))) = some r := H
         have A67 := aS A670
         clear A670
         by_cases c68 : t167.toList = t173.toList
         ·
          rw [if_pos c68] at H
          have c68b0 : (t167.toList == t173.toList) = true := beq_iff_eq.mpr c68
          have c68b1 : (t167.toList != t173.toList) = false := bne_eq_false_iff_eq.mpr c68
          clear c68
          by_cases c69 : a0 = a1
          ·
           rw [if_pos c69] at H
           have c69b0 : (a0 == a1) = true := beq_iff_eq.mpr c69
           have c69b1 : (a0 != a1) = false := bne_eq_false_iff_eq.mpr c69
           clear c69
           (try simp only [c69b0] at H)
           (try rw [c69b0] at A38)
           (try rw [c69b0] at A67)
           replace H := Option.bind_eq_some_iff.mp H
           obtain ⟨t174, A700, H⟩ := H
           replace H : ((ehdr_TypeName.f a1).bind fun t175 => (if t174.toList = t175.toList then (some true) else (some (!true)))) = some r := H
           have A70 := aS A700
           clear A700
           replace H := Option.bind_eq_some_iff.mp H
           obtain ⟨t175, A710, H⟩ := H
           replace H : (if t174.toList = t175.toList then (some true) else (some (!true))) = some r := H
           have A71 := aS A710
           clear A710
           by_cases c72 : t174.toList = t175.toList
           ·
            rw [if_pos c72] at H
            have c72b0 : (t174.toList == t175.toList) = true := beq_iff_eq.mpr c72
            have c72b1 : (t174.toList != t175.toList) = false := bne_eq_false_iff_eq.mpr c72
            clear c72
            obtain rfl := Option.some.inj H
            go_wp2_with (first | ((with_reducible refine gate_dst (N := 34) rfl ?_); refine Mpl.lit rfl rfl rfl 11 tabM_ehdr_machines Tryd.underlying60 Tryd.underlying22 ?os (by decide) (fun _ => rfl) (by repeat (first | (with_reducible first | exact HB.out | apply below_alloc | apply pw_below_drewN | apply below_drew1) | exact HB.out)) (below_size (by repeat (first | (with_reducible first | exact HB.out | apply below_alloc | apply pw_below_drewN | apply below_drew1) | exact HB.out))) ?_; (case os => (repeat (refine And.intro (And.intro rfl (And.intro rfl rfl)) ?_)); exact trivial); intro bm wm him hbm; have n0_ := aS hbm; clear HB; have HB := n0_; clear n0_ hbm; dsimp only [List.drop]) | ((with_reducible refine gate_dst (N := 39) rfl ?_); refine Mpl.look_event rfl rfl rfl Tryd.underlying60 Tryd.underlying22 rfl him rfl a0 rfl ?_) | ((with_reducible refine gate_callee (f := 28) rfl ?_); refine goesL_ (some 43) rfl rfl Tryd.func28 (by kernel_rfl) rfl #[.int .u64 a0] rfl (by (try simp only [List.map_toArray, List.map_cons, List.map_nil]); first | done | rfl | (simp only [List.length_drop, List.length_take]; rfl)) ?_; (with_reducible refine (ehdr_MachineName.calls a0 t167 _ ?side1 ?side2 A38.out).mono ?_); (case side1 => exact Laid_ehdrn.below HLD_ehdrn.out (by repeat (first | (with_reducible first | exact HB.out | apply below_alloc | apply pw_below_drewN | apply below_drew1) | exact HB.out))); (case side2 => exact Laid_strconv.below HLD_strconv.out (by repeat (first | (with_reducible first | exact HB.out | apply below_alloc | apply pw_below_drewN | apply below_drew1) | exact HB.out))); rintro e w73 ⟨rfl, hb⟩; refine ⟨_, rfl, ?_⟩; have n0_ := aS (below_step (by repeat (first | (with_reducible first | exact HB.out | apply below_alloc | apply pw_below_drewN | apply below_drew1) | exact HB.out)) hb); clear HB; have HB := n0_; clear n0_; (try clear hb); (try clear hb2); (try clear hk); (try clear hi)) | (go_at_call 28; (with_reducible refine (ehdr_MachineName.calls a1 t173 _ ?side1 ?side2 A67.out).mono ?_); (case side1 => exact Laid_ehdrn.below HLD_ehdrn.out (by repeat (first | (with_reducible first | exact HB.out | apply below_alloc | apply pw_below_drewN | apply below_drew1) | exact HB.out))); (case side2 => exact Laid_strconv.below HLD_strconv.out (by repeat (first | (with_reducible first | exact HB.out | apply below_alloc | apply pw_below_drewN | apply below_drew1) | exact HB.out))); rintro e w74 ⟨rfl, hb⟩; have n0_ := aS (below_step (by repeat (first | (with_reducible first | exact HB.out | apply below_alloc | apply pw_below_drewN | apply below_drew1) | exact HB.out)) hb); clear HB; have HB := n0_; clear n0_; (try clear hb); (try clear hb2); (try clear hk); (try clear hi)) | (go_at_call 27; (with_reducible refine (ehdr_TypeName.calls a0 t174 _ ?side1 ?side2 A70.out).mono ?_); (case side1 => exact Laid_ehdrn.below HLD_ehdrn.out (by repeat (first | (with_reducible first | exact HB.out | apply below_alloc | apply pw_below_drewN | apply below_drew1) | exact HB.out))); (case side2 => exact Laid_strconv.below HLD_strconv.out (by repeat (first | (with_reducible first | exact HB.out | apply below_alloc | apply pw_below_drewN | apply below_drew1) | exact HB.out))); rintro e w75 ⟨rfl, hb⟩; have n0_ := aS (below_step (by repeat (first | (with_reducible first | exact HB.out | apply below_alloc | apply pw_below_drewN | apply below_drew1) | exact HB.out)) hb); clear HB; have HB := n0_; clear n0_; (try clear hb); (try clear hb2); (try clear hk); (try clear hi)) | (go_at_call 27; (with_reducible refine (ehdr_TypeName.calls a1 t175 _ ?side1 ?side2 A71.out).mono ?_); (case side1 => exact Laid_ehdrn.below HLD_ehdrn.out (by repeat (first | (with_reducible first | exact HB.out | apply below_alloc | apply pw_below_drewN | apply below_drew1) | exact HB.out))); (case side2 => exact Laid_strconv.below HLD_strconv.out (by repeat (first | (with_reducible first | exact HB.out | apply below_alloc | apply pw_below_drewN | apply below_drew1) | exact HB.out))); rintro e w76 ⟨rfl, hb⟩; have n0_ := aS (below_step (by repeat (first | (with_reducible first | exact HB.out | apply below_alloc | apply pw_below_drewN | apply below_drew1) | exact HB.out)) hb); clear HB; have HB := n0_; clear n0_; (try clear hb); (try clear hb2); (try clear hk); (try clear hi)))
            go_ret
            exact ⟨by first | rfl | (simp [errW_none, errW_some] <;> rfl) | (simp [*, errW_none, errW_some] <;> rfl), by repeat (first | (with_reducible first | exact HB.out | apply below_alloc | apply pw_below_drewN | apply below_drew1) | exact HB.out)⟩
           ·
            rw [if_neg c72] at H
            have c72b0 : (t174.toList == t175.toList) = false := beq_eq_false_iff_ne.mpr c72
            have c72b1 : (t174.toList != t175.toList) = true := bne_iff_ne.mpr c72
            obtain rfl := Option.some.inj H
            go_wp2_with (first | ((with_reducible refine gate_dst (N := 34) rfl ?_); refine Mpl.lit rfl rfl rfl 11 tabM_ehdr_machines Tryd.underlying60 Tryd.underlying22 ?os (by decide) (fun _ => rfl) (by repeat (first | (with_reducible first | exact HB.out | apply below_alloc | apply pw_below_drewN | apply below_drew1) | exact HB.out)) (below_size (by repeat (first | (with_reducible first | exact HB.out | apply below_alloc | apply pw_below_drewN | apply below_drew1) | exact HB.out))) ?_; (case os => (repeat (refine And.intro (And.intro rfl (And.intro rfl rfl)) ?_)); exact trivial); intro bm wm him hbm; have n0_ := aS hbm; clear HB; have HB := n0_; clear n0_ hbm; dsimp only [List.drop]) | ((with_reducible refine gate_dst (N := 39) rfl ?_); refine Mpl.look_event rfl rfl rfl Tryd.underlying60 Tryd.underlying22 rfl him rfl a0 rfl ?_) | ((with_reducible refine gate_callee (f := 28) rfl ?_); refine goesL_ (some 43) rfl rfl Tryd.func28 (by kernel_rfl) rfl #[.int .u64 a0] rfl (by (try simp only [List.map_toArray, List.map_cons, List.map_nil]); first | done | rfl | (simp only [List.length_drop, List.length_take]; rfl)) ?_; (with_reducible refine (ehdr_MachineName.calls a0 t167 _ ?side1 ?side2 A38.out).mono ?_); (case side1 => exact Laid_ehdrn.below HLD_ehdrn.out (by repeat (first | (with_reducible first | exact HB.out | apply below_alloc | apply pw_below_drewN | apply below_drew1) | exact HB.out))); (case side2 => exact Laid_strconv.below HLD_strconv.out (by repeat (first | (with_reducible first | exact HB.out | apply below_alloc | apply pw_below_drewN | apply below_drew1) | exact HB.out))); rintro e w77 ⟨rfl, hb⟩; refine ⟨_, rfl, ?_⟩; have n0_ := aS (below_step (by repeat (first | (with_reducible first | exact HB.out | apply below_alloc | apply pw_below_drewN | apply below_drew1) | exact HB.out)) hb); clear HB; have HB := n0_; clear n0_; (try clear hb); (try clear hb2); (try clear hk); (try clear hi)) | (go_at_call 28; (with_reducible refine (ehdr_MachineName.calls a1 t173 _ ?side1 ?side2 A67.out).mono ?_); (case side1 => exact Laid_ehdrn.below HLD_ehdrn.out (by repeat (first | (with_reducible first | exact HB.out | apply below_alloc | apply pw_below_drewN | apply below_drew1) | exact HB.out))); (case side2 => exact Laid_strconv.below HLD_strconv.out (by repeat (first | (with_reducible first | exact HB.out | apply below_alloc | apply pw_below_drewN | apply below_drew1) | exact HB.out))); rintro e w78 ⟨rfl, hb⟩; have n0_ := aS (below_step (by repeat (first | (with_reducible first | exact HB.out | apply below_alloc | apply pw_below_drewN | apply below_drew1) | exact HB.out)) hb); clear HB; have HB := n0_; clear n0_; (try clear hb); (try clear hb2); (try clear hk); (try clear hi)) | (go_at_call 27; (with_reducible refine (ehdr_TypeName.calls a0 t174 _ ?side1 ?side2 A70.out).mono ?_); (case side1 => exact Laid_ehdrn.below HLD_ehdrn.out (by repeat (first | (with_reducible first | exact HB.out | apply below_alloc | apply pw_below_drewN | apply below_drew1) | exact HB.out))); (case side2 => exact Laid_strconv.below HLD_strconv.out (by repeat (first | (with_reducible first | exact HB.out | apply below_alloc | apply pw_below_drewN | apply below_drew1) | exact HB.out))); rintro e w79 ⟨rfl, hb⟩; have n0_ := aS (below_step (by repeat (first | (with_reducible first | exact HB.out | apply below_alloc | apply pw_below_drewN | apply below_drew1) | exact HB.out)) hb); clear HB; have HB := n0_; clear n0_; (try clear hb); (try clear hb2); (try clear hk); (try clear hi)) | (go_at_call 27; (with_reducible refine (ehdr_TypeName.calls a1 t175 _ ?side1 ?side2 A71.out).mono ?_); (case side1 => exact Laid_ehdrn.below HLD_ehdrn.out (by repeat (first | (with_reducible first | exact HB.out | apply below_alloc | apply pw_below_drewN | apply below_drew1) | exact HB.out))); (case side2 => exact Laid_strconv.below HLD_strconv.out (by repeat (first | (with_reducible first | exact HB.out | apply below_alloc | apply pw_below_drewN | apply below_drew1) | exact HB.out))); rintro e w80 ⟨rfl, hb⟩; have n0_ := aS (below_step (by repeat (first | (with_reducible first | exact HB.out | apply below_alloc | apply pw_below_drewN | apply below_drew1) | exact HB.out)) hb); clear HB; have HB := n0_; clear n0_; (try clear hb); (try clear hb2); (try clear hk); (try clear hi)))
            go_ret
            exact ⟨by first | rfl | (simp [errW_none, errW_some] <;> rfl) | (simp [*, errW_none, errW_some] <;> rfl), by repeat (first | (with_reducible first | exact HB.out | apply below_alloc | apply pw_below_drewN | apply below_drew1) | exact HB.out)⟩
          ·
           rw [if_neg c69] at H
           have c69b0 : (a0 == a1) = false := beq_eq_false_iff_ne.mpr c69
           have c69b1 : (a0 != a1) = true := bne_iff_ne.mpr c69
           exact absurd ((Option.some.inj H).trans HRT.out) (by decide)
         ·
          rw [if_neg c68] at H
          have c68b0 : (t167.toList == t173.toList) = false := beq_eq_false_iff_ne.mpr c68
          have c68b1 : (t167.toList != t173.toList) = true := bne_iff_ne.mpr c68
          by_cases c81 : a0 = a1
          ·
           rw [if_pos c81] at H
           have c81b0 : (a0 == a1) = true := beq_iff_eq.mpr c81
           have c81b1 : (a0 != a1) = false := bne_eq_false_iff_eq.mpr c81
           clear c81
           exact absurd ((Option.some.inj H).trans HRT.out) (by decide)
          ·
           rw [if_neg c81] at H
           have c81b0 : (a0 == a1) = false := beq_eq_false_iff_ne.mpr c81
           have c81b1 : (a0 != a1) = true := bne_iff_ne.mpr c81
           (try simp only [c81b0] at H)
           (try rw [c81b0] at A38)
           (try rw [c81b0] at A67)
           replace H := Option.bind_eq_some_iff.mp H
           obtain ⟨t176, A820, H⟩ := H
           replace H : ((ehdr_TypeName.f a1).bind fun t177 => (if t176.toList = t177.toList then (some false) else (some (!false)))) = some r := H
           have A82 := aS A820
           clear A820
           replace H := Option.bind_eq_some_iff.mp H
           obtain ⟨t177, A830, H⟩ := H
           replace H : (if t176.toList = t177.toList then (some false) else (some (!false))) = some r := H
           have A83 := aS A830
           clear A830
           by_cases c84 : t176.toList = t177.toList
           ·
            rw [if_pos c84] at H
            have c84b0 : (t176.toList == t177.toList) = true := beq_iff_eq.mpr c84
            have c84b1 : (t176.toList != t177.toList) = false := bne_eq_false_iff_eq.mpr c84
            clear c84
            exact absurd ((Option.some.inj H).trans HRT.out) (by decide)
           ·
            rw [if_neg c84] at H
            have c84b0 : (t176.toList == t177.toList) = false := beq_eq_false_iff_ne.mpr c84
            have c84b1 : (t176.toList != t177.toList) = true := bne_iff_ne.mpr c84
            obtain rfl := Option.some.inj H
            go_wp2_with (first | ((with_reducible refine gate_dst (N := 34) rfl ?_); refine Mpl.lit rfl rfl rfl 11 tabM_ehdr_machines Tryd.underlying60 Tryd.underlying22 ?os (by decide) (fun _ => rfl) (by repeat (first | (with_reducible first | exact HB.out | apply below_alloc | apply pw_below_drewN | apply below_drew1) | exact HB.out)) (below_size (by repeat (first | (with_reducible first | exact HB.out | apply below_alloc | apply pw_below_drewN | apply below_drew1) | exact HB.out))) ?_; (case os => (repeat (refine And.intro (And.intro rfl (And.intro rfl rfl)) ?_)); exact trivial); intro bm wm him hbm; have n0_ := aS hbm; clear HB; have HB := n0_; clear n0_ hbm; dsimp only [List.drop]) | ((with_reducible refine gate_dst (N := 39) rfl ?_); refine Mpl.look_event rfl rfl rfl Tryd.underlying60 Tryd.underlying22 rfl him rfl a0 rfl ?_) | ((with_reducible refine gate_callee (f := 28) rfl ?_); refine goesL_ (some 43) rfl rfl Tryd.func28 (by kernel_rfl) rfl #[.int .u64 a0] rfl (by (try simp only [List.map_toArray, List.map_cons, List.map_nil]); first | done | rfl | (simp only [List.length_drop, List.length_take]; rfl)) ?_; (with_reducible refine (ehdr_MachineName.calls a0 t167 _ ?side1 ?side2 A38.out).mono ?_); (case side1 => exact Laid_ehdrn.below HLD_ehdrn.out (by repeat (first | (with_reducible first | exact HB.out | apply below_alloc | apply pw_below_drewN | apply below_drew1) | exact HB.out))); (case side2 => exact Laid_strconv.below HLD_strconv.out (by repeat (first | (with_reducible first | exact HB.out | apply below_alloc | apply pw_below_drewN | apply below_drew1) | exact HB.out))); rintro e w85 ⟨rfl, hb⟩; refine ⟨_, rfl, ?_⟩; have n0_ := aS (below_step (by repeat (first | (with_reducible first | exact HB.out | apply below_alloc | apply pw_below_drewN | apply below_drew1) | exact HB.out)) hb); clear HB; have HB := n0_; clear n0_; (try clear hb); (try clear hb2); (try clear hk); (try clear hi)) | (go_at_call 28; (with_reducible refine (ehdr_MachineName.calls a1 t173 _ ?side1 ?side2 A67.out).mono ?_); (case side1 => exact Laid_ehdrn.below HLD_ehdrn.out (by repeat (first | (with_reducible first | exact HB.out | apply below_alloc | apply pw_below_drewN | apply below_drew1) | exact HB.out))); (case side2 => exact Laid_strconv.below HLD_strconv.out (by repeat (first | (with_reducible first | exact HB.out | apply below_alloc | apply pw_below_drewN | apply below_drew1) | exact HB.out))); rintro e w86 ⟨rfl, hb⟩; have n0_ := aS (below_step (by repeat (first | (with_reducible first | exact HB.out | apply below_alloc | apply pw_below_drewN | apply below_drew1) | exact HB.out)) hb); clear HB; have HB := n0_; clear n0_; (try clear hb); (try clear hb2); (try clear hk); (try clear hi)) | (go_at_call 27; (with_reducible refine (ehdr_TypeName.calls a0 t176 _ ?side1 ?side2 A82.out).mono ?_); (case side1 => exact Laid_ehdrn.below HLD_ehdrn.out (by repeat (first | (with_reducible first | exact HB.out | apply below_alloc | apply pw_below_drewN | apply below_drew1) | exact HB.out))); (case side2 => exact Laid_strconv.below HLD_strconv.out (by repeat (first | (with_reducible first | exact HB.out | apply below_alloc | apply pw_below_drewN | apply below_drew1) | exact HB.out))); rintro e w87 ⟨rfl, hb⟩; have n0_ := aS (below_step (by repeat (first | (with_reducible first | exact HB.out | apply below_alloc | apply pw_below_drewN | apply below_drew1) | exact HB.out)) hb); clear HB; have HB := n0_; clear n0_; (try clear hb); (try clear hb2); (try clear hk); (try clear hi)) | (go_at_call 27; (with_reducible refine (ehdr_TypeName.calls a1 t177 _ ?side1 ?side2 A83.out).mono ?_); (case side1 => exact Laid_ehdrn.below HLD_ehdrn.out (by repeat (first | (with_reducible first | exact HB.out | apply below_alloc | apply pw_below_drewN | apply below_drew1) | exact HB.out))); (case side2 => exact Laid_strconv.below HLD_strconv.out (by repeat (first | (with_reducible first | exact HB.out | apply below_alloc | apply pw_below_drewN | apply below_drew1) | exact HB.out))); rintro e w88 ⟨rfl, hb⟩; have n0_ := aS (below_step (by repeat (first | (with_reducible first | exact HB.out | apply below_alloc | apply pw_below_drewN | apply below_drew1) | exact HB.out)) hb); clear HB; have HB := n0_; clear n0_; (try clear hb); (try clear hb2); (try clear hk); (try clear hi)))
            go_ret
            exact ⟨by first | rfl | (simp [errW_none, errW_some] <;> rfl) | (simp [*, errW_none, errW_some] <;> rfl), by repeat (first | (with_reducible first | exact HB.out | apply below_alloc | apply pw_below_drewN | apply below_drew1) | exact HB.out)⟩
        ·
         rw [if_neg c66] at H
         have c66b0 : (sc65.toList == ([48, 120] : List UInt8)) = false := beq_eq_false_iff_ne.mpr c66
         have c66b1 : (sc65.toList != ([48, 120] : List UInt8)) = true := bne_iff_ne.mpr c66
         exact absurd ((Option.some.inj H).trans HRT.out) (by decide)
       ·
        rw [if_neg c64] at H
        exact absurd H (by simp)
      ·
       rw [if_neg c63] at H
       exact absurd H (by simp)
 ·
  replace c4 := Bool.eq_false_iff.mpr c4
  subst c4
  have H1 : (some false) = some r := by rw [if_neg (show ¬ (false = true) by decide)] at H; exact H
  clear H
  have H := H1
  clear H1
  exact absurd ((Option.some.inj H).trans HRT.out) (by decide)

/-- THE ONE PURE STATEMENT of graverlaw05_EhdrWords: yours. -/
def graverlaw05_EhdrWords.Pure : Prop := ∀ (a0 : Int) (a1 : Int), (Lit.int .u64 a0).wf = true → (Lit.int .u64 a1).wf = true → ∃ k, graverlaw05_EhdrWords.f k a0 a1 = some true
theorem graverlaw05_EhdrWords.walk (P : graverlaw05_EhdrWords.Pure) (a0 : Int) (a1 : Int) (w : World) (hlaid_ehdr : Laid_ehdr w) (hlaid_ehdrn : Laid_ehdrn w) (hlaid_strconv : Laid_strconv w) (w0 : (Lit.int .u64 a0).wf = true) (w1 : (Lit.int .u64 a1).wf = true) :
  Calls Tryd.prog 8 #[.int .u64 a0, .int .u64 a1] w fun e w' => e = .returned (.bool true) ∧ Below w.heap.size w w' := by
 obtain ⟨k, h⟩ := P a0 a1 w0 w1
 refine (graverlaw05_EhdrWords.calls k a0 a1 true w hlaid_ehdr hlaid_ehdrn hlaid_strconv rfl h).mono ?_
 rintro e w' ⟨rfl, hd⟩
 exact ⟨rfl, hd⟩

end Go.Proofs.YtjmjebbjfjgbeaaDoor.Q
