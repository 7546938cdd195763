/- What Go functions of the program compute, each as a Lean function with the proof that the call returns just that. No condition but those in the statements. -/
import Derived.Test.YteoeohkjomehoaaDoorQ0
import Derived.Test.YteoeohkjomehoaaDoorQ1
import Derived.Test.YteoeohkjomehoaaDoorQ3
import Derived.Test.YteoeohkjomehoaaDoorPts
import Derived.Test.YteoeohkjomehoaaDoorPts
namespace Go.Proofs.YteoeohkjomehoaaDoor.Q
open Go.RowKit Go.Proofs.YteoeohkjomehoaaDoorW.PrintWords Go.Proofs.YteoeohkjomehoaaDoorW.PrintLast Go.Proofs.YteoeohkjomehoaaDoorW.PrintMore
attribute [local go_sem] max2_int min2_int max_two min_two max_three min_three max_four min_four   -- for this text's walks alone
set_option linter.unusedVariables false
set_option linter.unusedSimpArgs false

/-! ### shdr_Section_shape: function 58 -/
def shdr_Section_shape.f (k : Nat) (a0 a1 : Bool) : Option (List Int × Int) := class_Form_Sizes.f k a0 a1 tab_shdr_sizes
theorem shdr_Section_shape.mono : ∀ a0 a1 k, LeO (shdr_Section_shape.f k a0 a1) (shdr_Section_shape.f (k + 1) a0 a1) := fun a0 a1 k => class_Form_Sizes.mono a0 a1 tab_shdr_sizes k
def shdr_Section_shape.pts (a1 : Bool) (bx : Nat) : List (Option Addr) := [some ⟨bx, 0, none⟩, some ⟨bx, 1, none⟩, some ⟨bx, 2, none⟩, some ⟨bx, 3, none⟩, some ⟨bx, 4, none⟩, some ⟨bx, 5, none⟩, some ⟨bx, 6, none⟩, some ⟨bx, 7, none⟩, some ⟨bx, 8, none⟩, some ⟨bx, 9, none⟩]
def shdr_Section_numbers.T1 : Bool × List (List Nat × List Nat) := (true, [([], []), ([0], [0]), ([1], [1]), ([], []), ([3], [3]), ([4], [4]), ([], []), ([6], [6]), ([7], [7]), ([], []), ([9], [9]), ([10], [10]), ([], []), ([12], [12]), ([13], [13]), ([], []), ([15], [15]), ([16], [16]), ([], []), ([18], [18]), ([19], [19]), ([], []), ([21], [21]), ([22], [22]), ([], []), ([24], [24]), ([25], [25]), ([], []), ([27], [27]), ([28], [28]), ([2, 5, 8, 11, 14, 17, 20, 23, 26, 29], [2, 5, 8, 11, 14, 17, 20, 23, 26, 29]), ([30, 0, 1, 2, 3, 4, 5, 6, 7, 8, 9, 10, 11, 12, 13, 14, 15, 16, 17, 18, 19, 20, 21, 22, 23, 24, 25, 26, 27, 28, 29, 30], [30])])
def shdr_Section_numbers.B1 : List Nat := [0, 1, 3, 0, 8, 24, 0, 64, 192, 0, 512, 1536, 0, 4096, 12288, 0, 32768, 98304, 0, 262144, 786432, 0, 2097152, 6291456, 0, 16777216, 50331648, 0, 134217728, 402653184, 1073741823, 2147483647]
theorem shdr_Section_numbers.tab1 : rtab .any (opsOf Tryd.f101 1) = shdr_Section_numbers.T1 := by kernel_rfl
theorem shdr_Section_numbers.bits1 : waitsOk shdr_Section_numbers.T1.2 shdr_Section_numbers.B1 = true := by kernel_rfl
set_option maxHeartbeats 4000000 in
set_option maxRecDepth 100000 in
theorem shdr_Section_numbers.calls (bx : Nat) (w : World) : Calls Tryd.prog 101 #[.pointer (some ⟨bx, 0, none⟩)] w fun e w' => ∃ v, e = .returned v ∧ Kd.R kAddr 135 w' w.heap.size (fun _ => True) v (shdr_Section_shape.pts true bx) ∧ Below w.heap.size w w' := by
  go_enter Tryd.func101, Tryd.ntmps101
  go_wp2
  refine start_ (n := 32) (S := (fun _ => True)) (ds := []) #[false, false, false, false, false, false, false, false, false, false, false, false, false, false, false, false, false, false, false, false, false, false, false, false, false, false, false, false, false, false, false, false] (by kernel_rfl) rfl rfl (trivial) (fun hHeld => ?_); refine with_tabW shdr_Section_numbers.tab1 shdr_Section_numbers.bits1 (fun HT_ HW_ => ?_)
  have HB := Aside0.mk (below_drew1 (Below.refl w.heap.size w))
  generalize w.drew = W at HB hHeld ⊢
  refine pure_ (i := 0) (N := some 3) (v := ?_) (a' := ?_) #[true, false, false, false, false, false, false, false, false, false, false, false, false, false, false, false, false, false, false, false, false, false, false, false, false, false, false, false, false, false, false, false] rfl rfl (any_of HT_.out (by kernel_rfl)) (fun _ _ _ h => h) (Or.inl ⟨by rfl, ?_⟩) ?_ ?_
  rotate_left
  · intro w'
    go_simp
    with_reducible rfl
  rotate_left
  · simp only [Act.put, List.setIfInBounds_toArray, List.set_cons_zero, List.set_cons_succ, i64_w, i32_w]
    rfl
  refine pure_ (i := 1) (N := some 4) (v := ?_) (a' := ?_) #[true, true, false, false, false, false, false, false, false, false, false, false, false, false, false, false, false, false, false, false, false, false, false, false, false, false, false, false, false, false, false, false] rfl rfl (any_of HT_.out (by kernel_rfl)) (fun _ _ _ h => h) (Or.inl ⟨by rfl, ?_⟩) ?_ ?_
  rotate_left
  · intro w'
    go_simp
    with_reducible rfl
  rotate_left
  · simp only [Act.put, List.setIfInBounds_toArray, List.set_cons_zero, List.set_cons_succ, i64_w, i32_w]
    rfl
  refine pure_ (i := 2) (N := some 5) (v := ?_) (a' := ?_) #[true, true, true, false, false, false, false, false, false, false, false, false, false, false, false, false, false, false, false, false, false, false, false, false, false, false, false, false, false, false, false, false] rfl rfl (any_of HT_.out (by kernel_rfl)) (fun _ _ _ h => h) (Or.inl ⟨by rfl, ?_⟩) ?_ ?_
  rotate_left
  · intro w'
    go_simp
    with_reducible rfl
  rotate_left
  · simp only [Act.put, List.setIfInBounds_toArray, List.set_cons_zero, List.set_cons_succ, i64_w, i32_w]
    rfl
  refine pure_ (i := 3) (N := some 6) (v := ?_) (a' := ?_) #[true, true, true, true, false, false, false, false, false, false, false, false, false, false, false, false, false, false, false, false, false, false, false, false, false, false, false, false, false, false, false, false] rfl rfl (any_of HT_.out (by kernel_rfl)) (fun _ _ _ h => h) (Or.inl ⟨by rfl, ?_⟩) ?_ ?_
  rotate_left
  · intro w'
    go_simp
    with_reducible rfl
  rotate_left
  · simp only [Act.put, List.setIfInBounds_toArray, List.set_cons_zero, List.set_cons_succ, i64_w, i32_w]
    rfl
  refine pure_ (i := 4) (N := some 7) (v := ?_) (a' := ?_) #[true, true, true, true, true, false, false, false, false, false, false, false, false, false, false, false, false, false, false, false, false, false, false, false, false, false, false, false, false, false, false, false] rfl rfl (any_of HT_.out (by kernel_rfl)) (fun _ _ _ h => h) (Or.inl ⟨by rfl, ?_⟩) ?_ ?_
  rotate_left
  · intro w'
    go_simp
    with_reducible rfl
  rotate_left
  · simp only [Act.put, List.setIfInBounds_toArray, List.set_cons_zero, List.set_cons_succ, i64_w, i32_w]
    rfl
  refine pure_ (i := 5) (N := some 8) (v := ?_) (a' := ?_) #[true, true, true, true, true, true, false, false, false, false, false, false, false, false, false, false, false, false, false, false, false, false, false, false, false, false, false, false, false, false, false, false] rfl rfl (any_of HT_.out (by kernel_rfl)) (fun _ _ _ h => h) (Or.inl ⟨by rfl, ?_⟩) ?_ ?_
  rotate_left
  · intro w'
    go_simp
    with_reducible rfl
  rotate_left
  · simp only [Act.put, List.setIfInBounds_toArray, List.set_cons_zero, List.set_cons_succ, i64_w, i32_w]
    rfl
  refine pure_ (i := 6) (N := some 9) (v := ?_) (a' := ?_) #[true, true, true, true, true, true, true, false, false, false, false, false, false, false, false, false, false, false, false, false, false, false, false, false, false, false, false, false, false, false, false, false] rfl rfl (any_of HT_.out (by kernel_rfl)) (fun _ _ _ h => h) (Or.inl ⟨by rfl, ?_⟩) ?_ ?_
  rotate_left
  · intro w'
    go_simp
    with_reducible rfl
  rotate_left
  · simp only [Act.put, List.setIfInBounds_toArray, List.set_cons_zero, List.set_cons_succ, i64_w, i32_w]
    rfl
  refine pure_ (i := 7) (N := some 10) (v := ?_) (a' := ?_) #[true, true, true, true, true, true, true, true, false, false, false, false, false, false, false, false, false, false, false, false, false, false, false, false, false, false, false, false, false, false, false, false] rfl rfl (any_of HT_.out (by kernel_rfl)) (fun _ _ _ h => h) (Or.inl ⟨by rfl, ?_⟩) ?_ ?_
  rotate_left
  · intro w'
    go_simp
    with_reducible rfl
  rotate_left
  · simp only [Act.put, List.setIfInBounds_toArray, List.set_cons_zero, List.set_cons_succ, i64_w, i32_w]
    rfl
  refine pure_ (i := 8) (N := some 11) (v := ?_) (a' := ?_) #[true, true, true, true, true, true, true, true, true, false, false, false, false, false, false, false, false, false, false, false, false, false, false, false, false, false, false, false, false, false, false, false] rfl rfl (any_of HT_.out (by kernel_rfl)) (fun _ _ _ h => h) (Or.inl ⟨by rfl, ?_⟩) ?_ ?_
  rotate_left
  · intro w'
    go_simp
    with_reducible rfl
  rotate_left
  · simp only [Act.put, List.setIfInBounds_toArray, List.set_cons_zero, List.set_cons_succ, i64_w, i32_w]
    rfl
  refine pure_ (i := 9) (N := some 12) (v := ?_) (a' := ?_) #[true, true, true, true, true, true, true, true, true, true, false, false, false, false, false, false, false, false, false, false, false, false, false, false, false, false, false, false, false, false, false, false] rfl rfl (any_of HT_.out (by kernel_rfl)) (fun _ _ _ h => h) (Or.inl ⟨by rfl, ?_⟩) ?_ ?_
  rotate_left
  · intro w'
    go_simp
    with_reducible rfl
  rotate_left
  · simp only [Act.put, List.setIfInBounds_toArray, List.set_cons_zero, List.set_cons_succ, i64_w, i32_w]
    rfl
  refine pure_ (i := 10) (N := some 13) (v := ?_) (a' := ?_) #[true, true, true, true, true, true, true, true, true, true, true, false, false, false, false, false, false, false, false, false, false, false, false, false, false, false, false, false, false, false, false, false] rfl rfl (any_of HT_.out (by kernel_rfl)) (fun _ _ _ h => h) (Or.inl ⟨by rfl, ?_⟩) ?_ ?_
  rotate_left
  · intro w'
    go_simp
    with_reducible rfl
  rotate_left
  · simp only [Act.put, List.setIfInBounds_toArray, List.set_cons_zero, List.set_cons_succ, i64_w, i32_w]
    rfl
  refine pure_ (i := 11) (N := some 14) (v := ?_) (a' := ?_) #[true, true, true, true, true, true, true, true, true, true, true, true, false, false, false, false, false, false, false, false, false, false, false, false, false, false, false, false, false, false, false, false] rfl rfl (any_of HT_.out (by kernel_rfl)) (fun _ _ _ h => h) (Or.inl ⟨by rfl, ?_⟩) ?_ ?_
  rotate_left
  · intro w'
    go_simp
    with_reducible rfl
  rotate_left
  · simp only [Act.put, List.setIfInBounds_toArray, List.set_cons_zero, List.set_cons_succ, i64_w, i32_w]
    rfl
  refine pure_ (i := 12) (N := some 15) (v := ?_) (a' := ?_) #[true, true, true, true, true, true, true, true, true, true, true, true, true, false, false, false, false, false, false, false, false, false, false, false, false, false, false, false, false, false, false, false] rfl rfl (any_of HT_.out (by kernel_rfl)) (fun _ _ _ h => h) (Or.inl ⟨by rfl, ?_⟩) ?_ ?_
  rotate_left
  · intro w'
    go_simp
    with_reducible rfl
  rotate_left
  · simp only [Act.put, List.setIfInBounds_toArray, List.set_cons_zero, List.set_cons_succ, i64_w, i32_w]
    rfl
  refine pure_ (i := 13) (N := some 16) (v := ?_) (a' := ?_) #[true, true, true, true, true, true, true, true, true, true, true, true, true, true, false, false, false, false, false, false, false, false, false, false, false, false, false, false, false, false, false, false] rfl rfl (any_of HT_.out (by kernel_rfl)) (fun _ _ _ h => h) (Or.inl ⟨by rfl, ?_⟩) ?_ ?_
  rotate_left
  · intro w'
    go_simp
    with_reducible rfl
  rotate_left
  · simp only [Act.put, List.setIfInBounds_toArray, List.set_cons_zero, List.set_cons_succ, i64_w, i32_w]
    rfl
  refine pure_ (i := 14) (N := some 17) (v := ?_) (a' := ?_) #[true, true, true, true, true, true, true, true, true, true, true, true, true, true, true, false, false, false, false, false, false, false, false, false, false, false, false, false, false, false, false, false] rfl rfl (any_of HT_.out (by kernel_rfl)) (fun _ _ _ h => h) (Or.inl ⟨by rfl, ?_⟩) ?_ ?_
  rotate_left
  · intro w'
    go_simp
    with_reducible rfl
  rotate_left
  · simp only [Act.put, List.setIfInBounds_toArray, List.set_cons_zero, List.set_cons_succ, i64_w, i32_w]
    rfl
  refine pure_ (i := 15) (N := some 18) (v := ?_) (a' := ?_) #[true, true, true, true, true, true, true, true, true, true, true, true, true, true, true, true, false, false, false, false, false, false, false, false, false, false, false, false, false, false, false, false] rfl rfl (any_of HT_.out (by kernel_rfl)) (fun _ _ _ h => h) (Or.inl ⟨by rfl, ?_⟩) ?_ ?_
  rotate_left
  · intro w'
    go_simp
    with_reducible rfl
  rotate_left
  · simp only [Act.put, List.setIfInBounds_toArray, List.set_cons_zero, List.set_cons_succ, i64_w, i32_w]
    rfl
  refine pure_ (i := 16) (N := some 19) (v := ?_) (a' := ?_) #[true, true, true, true, true, true, true, true, true, true, true, true, true, true, true, true, true, false, false, false, false, false, false, false, false, false, false, false, false, false, false, false] rfl rfl (any_of HT_.out (by kernel_rfl)) (fun _ _ _ h => h) (Or.inl ⟨by rfl, ?_⟩) ?_ ?_
  rotate_left
  · intro w'
    go_simp
    with_reducible rfl
  rotate_left
  · simp only [Act.put, List.setIfInBounds_toArray, List.set_cons_zero, List.set_cons_succ, i64_w, i32_w]
    rfl
  refine pure_ (i := 17) (N := some 20) (v := ?_) (a' := ?_) #[true, true, true, true, true, true, true, true, true, true, true, true, true, true, true, true, true, true, false, false, false, false, false, false, false, false, false, false, false, false, false, false] rfl rfl (any_of HT_.out (by kernel_rfl)) (fun _ _ _ h => h) (Or.inl ⟨by rfl, ?_⟩) ?_ ?_
  rotate_left
  · intro w'
    go_simp
    with_reducible rfl
  rotate_left
  · simp only [Act.put, List.setIfInBounds_toArray, List.set_cons_zero, List.set_cons_succ, i64_w, i32_w]
    rfl
  refine pure_ (i := 18) (N := some 21) (v := ?_) (a' := ?_) #[true, true, true, true, true, true, true, true, true, true, true, true, true, true, true, true, true, true, true, false, false, false, false, false, false, false, false, false, false, false, false, false] rfl rfl (any_of HT_.out (by kernel_rfl)) (fun _ _ _ h => h) (Or.inl ⟨by rfl, ?_⟩) ?_ ?_
  rotate_left
  · intro w'
    go_simp
    with_reducible rfl
  rotate_left
  · simp only [Act.put, List.setIfInBounds_toArray, List.set_cons_zero, List.set_cons_succ, i64_w, i32_w]
    rfl
  refine pure_ (i := 19) (N := some 22) (v := ?_) (a' := ?_) #[true, true, true, true, true, true, true, true, true, true, true, true, true, true, true, true, true, true, true, true, false, false, false, false, false, false, false, false, false, false, false, false] rfl rfl (any_of HT_.out (by kernel_rfl)) (fun _ _ _ h => h) (Or.inl ⟨by rfl, ?_⟩) ?_ ?_
  rotate_left
  · intro w'
    go_simp
    with_reducible rfl
  rotate_left
  · simp only [Act.put, List.setIfInBounds_toArray, List.set_cons_zero, List.set_cons_succ, i64_w, i32_w]
    rfl
  refine pure_ (i := 20) (N := some 23) (v := ?_) (a' := ?_) #[true, true, true, true, true, true, true, true, true, true, true, true, true, true, true, true, true, true, true, true, true, false, false, false, false, false, false, false, false, false, false, false] rfl rfl (any_of HT_.out (by kernel_rfl)) (fun _ _ _ h => h) (Or.inl ⟨by rfl, ?_⟩) ?_ ?_
  rotate_left
  · intro w'
    go_simp
    with_reducible rfl
  rotate_left
  · simp only [Act.put, List.setIfInBounds_toArray, List.set_cons_zero, List.set_cons_succ, i64_w, i32_w]
    rfl
  refine pure_ (i := 21) (N := some 24) (v := ?_) (a' := ?_) #[true, true, true, true, true, true, true, true, true, true, true, true, true, true, true, true, true, true, true, true, true, true, false, false, false, false, false, false, false, false, false, false] rfl rfl (any_of HT_.out (by kernel_rfl)) (fun _ _ _ h => h) (Or.inl ⟨by rfl, ?_⟩) ?_ ?_
  rotate_left
  · intro w'
    go_simp
    with_reducible rfl
  rotate_left
  · simp only [Act.put, List.setIfInBounds_toArray, List.set_cons_zero, List.set_cons_succ, i64_w, i32_w]
    rfl
  refine pure_ (i := 22) (N := some 25) (v := ?_) (a' := ?_) #[true, true, true, true, true, true, true, true, true, true, true, true, true, true, true, true, true, true, true, true, true, true, true, false, false, false, false, false, false, false, false, false] rfl rfl (any_of HT_.out (by kernel_rfl)) (fun _ _ _ h => h) (Or.inl ⟨by rfl, ?_⟩) ?_ ?_
  rotate_left
  · intro w'
    go_simp
    with_reducible rfl
  rotate_left
  · simp only [Act.put, List.setIfInBounds_toArray, List.set_cons_zero, List.set_cons_succ, i64_w, i32_w]
    rfl
  refine pure_ (i := 23) (N := some 26) (v := ?_) (a' := ?_) #[true, true, true, true, true, true, true, true, true, true, true, true, true, true, true, true, true, true, true, true, true, true, true, true, false, false, false, false, false, false, false, false] rfl rfl (any_of HT_.out (by kernel_rfl)) (fun _ _ _ h => h) (Or.inl ⟨by rfl, ?_⟩) ?_ ?_
  rotate_left
  · intro w'
    go_simp
    with_reducible rfl
  rotate_left
  · simp only [Act.put, List.setIfInBounds_toArray, List.set_cons_zero, List.set_cons_succ, i64_w, i32_w]
    rfl
  refine pure_ (i := 24) (N := some 27) (v := ?_) (a' := ?_) #[true, true, true, true, true, true, true, true, true, true, true, true, true, true, true, true, true, true, true, true, true, true, true, true, true, false, false, false, false, false, false, false] rfl rfl (any_of HT_.out (by kernel_rfl)) (fun _ _ _ h => h) (Or.inl ⟨by rfl, ?_⟩) ?_ ?_
  rotate_left
  · intro w'
    go_simp
    with_reducible rfl
  rotate_left
  · simp only [Act.put, List.setIfInBounds_toArray, List.set_cons_zero, List.set_cons_succ, i64_w, i32_w]
    rfl
  refine pure_ (i := 25) (N := some 28) (v := ?_) (a' := ?_) #[true, true, true, true, true, true, true, true, true, true, true, true, true, true, true, true, true, true, true, true, true, true, true, true, true, true, false, false, false, false, false, false] rfl rfl (any_of HT_.out (by kernel_rfl)) (fun _ _ _ h => h) (Or.inl ⟨by rfl, ?_⟩) ?_ ?_
  rotate_left
  · intro w'
    go_simp
    with_reducible rfl
  rotate_left
  · simp only [Act.put, List.setIfInBounds_toArray, List.set_cons_zero, List.set_cons_succ, i64_w, i32_w]
    rfl
  refine pure_ (i := 26) (N := some 29) (v := ?_) (a' := ?_) #[true, true, true, true, true, true, true, true, true, true, true, true, true, true, true, true, true, true, true, true, true, true, true, true, true, true, true, false, false, false, false, false] rfl rfl (any_of HT_.out (by kernel_rfl)) (fun _ _ _ h => h) (Or.inl ⟨by rfl, ?_⟩) ?_ ?_
  rotate_left
  · intro w'
    go_simp
    with_reducible rfl
  rotate_left
  · simp only [Act.put, List.setIfInBounds_toArray, List.set_cons_zero, List.set_cons_succ, i64_w, i32_w]
    rfl
  refine pure_ (i := 27) (N := some 30) (v := ?_) (a' := ?_) #[true, true, true, true, true, true, true, true, true, true, true, true, true, true, true, true, true, true, true, true, true, true, true, true, true, true, true, true, false, false, false, false] rfl rfl (any_of HT_.out (by kernel_rfl)) (fun _ _ _ h => h) (Or.inl ⟨by rfl, ?_⟩) ?_ ?_
  rotate_left
  · intro w'
    go_simp
    with_reducible rfl
  rotate_left
  · simp only [Act.put, List.setIfInBounds_toArray, List.set_cons_zero, List.set_cons_succ, i64_w, i32_w]
    rfl
  refine pure_ (i := 28) (N := some 31) (v := ?_) (a' := ?_) #[true, true, true, true, true, true, true, true, true, true, true, true, true, true, true, true, true, true, true, true, true, true, true, true, true, true, true, true, true, false, false, false] rfl rfl (any_of HT_.out (by kernel_rfl)) (fun _ _ _ h => h) (Or.inl ⟨by rfl, ?_⟩) ?_ ?_
  rotate_left
  · intro w'
    go_simp
    with_reducible rfl
  rotate_left
  · simp only [Act.put, List.setIfInBounds_toArray, List.set_cons_zero, List.set_cons_succ, i64_w, i32_w]
    rfl
  refine pure_ (i := 29) (N := some 32) (v := ?_) (a' := ?_) #[true, true, true, true, true, true, true, true, true, true, true, true, true, true, true, true, true, true, true, true, true, true, true, true, true, true, true, true, true, true, false, false] rfl rfl (any_of HT_.out (by kernel_rfl)) (fun _ _ _ h => h) (Or.inl ⟨by rfl, ?_⟩) ?_ ?_
  rotate_left
  · intro w'
    go_simp
    with_reducible rfl
  rotate_left
  · simp only [Act.put, List.setIfInBounds_toArray, List.set_cons_zero, List.set_cons_succ, i64_w, i32_w]
    rfl
  refine one_ (i := 30) (N := some 33) #[true, true, true, true, true, true, true, true, true, true, true, true, true, true, true, true, true, true, true, true, true, true, true, true, true, true, true, true, true, true, true, false] rfl rfl (one_of HT_.out (by kernel_rfl)) (by decide) (fun K hK => ?_)
  refine Kd.R_lit_step kAddr _ 135 ?hg (N := 33) ?hd (xs := [some ⟨bx, 0, none⟩, some ⟨bx, 1, none⟩, some ⟨bx, 2, none⟩, some ⟨bx, 3, none⟩, some ⟨bx, 4, none⟩, some ⟨bx, 5, none⟩, some ⟨bx, 6, none⟩, some ⟨bx, 7, none⟩, some ⟨bx, 8, none⟩, some ⟨bx, 9, none⟩]) (inner := [.pointer (some ⟨bx, 0, none⟩), .pointer (some ⟨bx, 1, none⟩), .pointer (some ⟨bx, 2, none⟩), .pointer (some ⟨bx, 3, none⟩), .pointer (some ⟨bx, 4, none⟩), .pointer (some ⟨bx, 5, none⟩), .pointer (some ⟨bx, 6, none⟩), .pointer (some ⟨bx, 7, none⟩), .pointer (some ⟨bx, 8, none⟩), .pointer (some ⟨bx, 9, none⟩)]) (ok := fun _ => True) (okp := fun _ => True) ?hr ?hp (fun _ hk => hk) trivial (Below.refl _ _) (Nat.le_refl _) (by simp) ?_; (case hd => rfl); (case hg => rfl); (case hr => first | (go_simp; done) | (go_simp; rfl)); (case hp => exact Reps.one (show Kd.M kAddr _ _ _ (some ⟨bx, 0, none⟩) [.pointer (some ⟨bx, 0, none⟩)] from rfl) (Reps.one (show Kd.M kAddr _ _ _ (some ⟨bx, 1, none⟩) [.pointer (some ⟨bx, 1, none⟩)] from rfl) (Reps.one (show Kd.M kAddr _ _ _ (some ⟨bx, 2, none⟩) [.pointer (some ⟨bx, 2, none⟩)] from rfl) (Reps.one (show Kd.M kAddr _ _ _ (some ⟨bx, 3, none⟩) [.pointer (some ⟨bx, 3, none⟩)] from rfl) (Reps.one (show Kd.M kAddr _ _ _ (some ⟨bx, 4, none⟩) [.pointer (some ⟨bx, 4, none⟩)] from rfl) (Reps.one (show Kd.M kAddr _ _ _ (some ⟨bx, 5, none⟩) [.pointer (some ⟨bx, 5, none⟩)] from rfl) (Reps.one (show Kd.M kAddr _ _ _ (some ⟨bx, 6, none⟩) [.pointer (some ⟨bx, 6, none⟩)] from rfl) (Reps.one (show Kd.M kAddr _ _ _ (some ⟨bx, 7, none⟩) [.pointer (some ⟨bx, 7, none⟩)] from rfl) (Reps.one (show Kd.M kAddr _ _ _ (some ⟨bx, 8, none⟩) [.pointer (some ⟨bx, 8, none⟩)] from rfl) (Reps.one (show Kd.M kAddr _ _ _ (some ⟨bx, 9, none⟩) [.pointer (some ⟨bx, 9, none⟩)] from rfl) (Reps.none _ _)))))))))))
  intro v1 w1 hr1 hb1 _ _
  refine hK.out _ _ (trivial) (fun hHeld => ?_)
  clear hK K
  refine norm_ (a' := ?_) ?_ ?_
  rotate_left
  · show Act.put _ (some 33) _ = _
    simp only [Act.put, List.setIfInBounds_toArray, List.set_cons_zero, List.set_cons_succ, i64_w, i32_w]
    rfl
  refine pure_ (i := 31) (N := some 2) (v := ?_) (a' := ?_) #[true, true, true, true, true, true, true, true, true, true, true, true, true, true, true, true, true, true, true, true, true, true, true, true, true, true, true, true, true, true, true, true] rfl rfl (any_of HT_.out (by kernel_rfl)) (fun _ _ _ h => h) (Or.inl ⟨by rfl, ?_⟩) ?_ ?_
  rotate_left
  · intro w'
    go_simp
    with_reducible rfl
  rotate_left
  · simp only [Act.put, List.setIfInBounds_toArray, List.set_cons_zero, List.set_cons_succ, i64_w, i32_w]
    rfl
  refine done_ (done_of HT_.out (by kernel_rfl)) ?_
  go_wp2
  go_ret
  exact ⟨v1, rfl, Kd.R_lower hr1 (below_size HB.out), below_step HB.out hb1⟩
def shdr_Section_shape.T1 : Bool × List (List Nat × List Nat) := (true, [([], []), ([], []), ([0, 1], [0, 1]), ([2], [2]), ([3], [3]), ([3], [3]), ([4, 2, 0, 1, 2, 3, 4], [4]), ([5, 6, 0, 1, 2, 3, 4, 5, 6], [5])])
def shdr_Section_shape.B1 : List Nat := [0, 0, 3, 7, 15, 15, 31, 127]
theorem shdr_Section_shape.tab1 : rtab .any (opsOf Tryd.f58 1) = shdr_Section_shape.T1 := by kernel_rfl
theorem shdr_Section_shape.bits1 : waitsOk shdr_Section_shape.T1.2 shdr_Section_shape.B1 = true := by kernel_rfl
set_option maxHeartbeats 4000000 in
set_option maxRecDepth 100000 in
theorem shdr_Section_shape.calls (k bx : Nat) (a0 a1 : Bool) (r1 : List Int) (r2 : Int) (w : World) (hlaid : Laid_shdr w) (h : shdr_Section_shape.f k a0 a1 = some (r1, r2)) : Calls Tryd.prog 58 #[.pointer (some ⟨bx, 0, none⟩), .agg #[.bool a0, .bool a1]] w fun e w' => ∃ v0 v1 : Value, e = .returned (.tuple #[v0, v1, .int .i64 r2]) ∧ Kd.R kAddr 135 w' w.heap.size (fun _ => True) v0 (shdr_Section_shape.pts a1 bx) ∧ Kd.R (Kd.int .i64) 3 w' w.heap.size (fun k_ => some k_ ≠ v0.ownBlock) v1 r1 ∧ Below w.heap.size w w' := by
  have HL := Aside0.mk hlaid
  have H := Aside0.mk h
  clear hlaid h
  have hB0 : Below w.heap.size w (w.alloc (Obj.cells #[.bool a0, .bool a1] 27)) := (Below.refl _ _).alloc (Nat.le_refl _) _
  have hC0 : (w.alloc (Obj.cells #[.bool a0, .bool a1] 27)).heap[w.heap.size]? = some (.cells #[.bool a0, .bool a1] 27 (0, 0)) := blk_new w _
  have HB := Aside0.mk (below_drew1 hB0)
  have HC := Aside0.mk (blk_drew hC0)
  clear hB0 hC0
  have HS : Aside0 (∀ W : World, W.heap[w.heap.size]? = some (.cells #[.bool a0, .bool a1] 27 (0, 0)) → W.cell? ⟨w.heap.size, 0, none⟩ = some (.bool a0) ∧ W.cell? ⟨w.heap.size, 1, none⟩ = some (.bool a1)) := ⟨fun W hc => ⟨(blk_cell hc 0).trans rfl, (blk_cell hc 1).trans rfl⟩⟩
  go_enter Tryd.func58, Tryd.ntmps58
  go_wp2
  refine start_ (n := 8) (S := (fun w' => w'.cell? ⟨w.heap.size, 0, none⟩ = some (.bool a0) ∧ w'.cell? ⟨w.heap.size, 1, none⟩ = some (.bool a1))) (ds := []) #[false, false, false, false, false, false, false, false] (by kernel_rfl) rfl rfl ((HS.out _ HC.out)) (fun hHeld => ?_); refine with_tabW shdr_Section_shape.tab1 shdr_Section_shape.bits1 (fun HT_ HW_ => ?_)
  generalize (w.alloc (Obj.cells #[.bool a0, .bool a1] 27)).drew = W at HB HC hHeld ⊢
  refine take_ (i := 0) (N := some 10) (v := ?_) (a' := ?_) #[true, false, false, false, false, false, false, false] rfl rfl (take_ofW HT_.out HW_.out (by kernel_rfl)) (fun _ _ _ h => h) (Or.inl ⟨by rfl, ?_⟩) hHeld ?_ ?_
  rotate_left
  · intro w' s0
    go_simp
    with_reducible rfl
  rotate_left
  · simp only [Act.put, List.setIfInBounds_toArray, List.set_cons_zero, List.set_cons_succ, i64_w, i32_w]
    rfl
  refine pure_ (i := 1) (N := some 11) (v := ?_) (a' := ?_) #[true, true, false, false, false, false, false, false] rfl rfl (any_of HT_.out (by kernel_rfl)) (fun _ _ _ h => h) (Or.inl ⟨by rfl, ?_⟩) ?_ ?_
  rotate_left
  · intro w'
    go_simp
    with_reducible rfl
  rotate_left
  · simp only [Act.put, List.setIfInBounds_toArray, List.set_cons_zero, List.set_cons_succ, i64_w, i32_w]
    rfl
  have hC := class_Form_Sizes.calls k a0 a1 (some ⟨4, 0, none⟩) 10 tab_shdr_sizes r1 r2 W (Kd.C_below HL.out.shdr_sizes HB.out) (Nat.le_refl _) H.out
  rw [show tab_shdr_sizes.length = 10 from rfl] at hC
  have HCL := Aside0.mk hC
  clear hC
  refine one_ (i := 2) (N := (some 12)) #[true, true, true, false, false, false, false, false] rfl rfl (one_of HT_.out (by kernel_rfl)) (by decide) (fun K hK => ?_)
  refine goes_ Tryd.func97 (by kernel_rfl) rfl #[.agg #[.bool a0, .bool a1], .slice (some ⟨4, 0, none⟩) 10 10] (by rfl) rfl rfl (by (try simp only [List.map_toArray, List.map_cons, List.map_nil]); first | done | rfl) ?_
  refine HCL.out.mono ?_
  rintro e w2 ⟨v1, rfl, hr, hb⟩
  refine ⟨_, rfl, ?_⟩
  have HR := Aside0.mk (Kd.R_lower hr (below_size HB.out))
  have n0_ := Aside0.mk (below_step HB.out hb)
  have n1_ := Aside0.mk (blk_below HC.out hb)
  have n2_ := Aside0.mk (trivial)
  clear HB HC HCL
  have HB := n0_
  have HC := n1_
  have HK_ := n2_
  clear n0_ n1_ n2_
  clear hr hb HK_
  refine hK.out _ _ (HS.out _ HC.out) (fun hHeld => ?_)
  clear hK K
  refine norm_ (a' := ?_) ?_ ?_
  rotate_left
  · show Act.put _ (some 12) _ = _
    simp only [Act.put, List.setIfInBounds_toArray, List.set_cons_zero, List.set_cons_succ, i64_w, i32_w]
    rfl
  refine pure_ (i := 3) (N := some 9) (v := ?_) (a' := ?_) #[true, true, true, true, false, false, false, false] rfl rfl (any_of HT_.out (by kernel_rfl)) (fun _ _ _ h => h) (Or.inl ⟨by rfl, ?_⟩) ?_ ?_
  rotate_left
  · intro w'
    go_simp
    with_reducible rfl
  rotate_left
  · simp only [Act.put, List.setIfInBounds_toArray, List.set_cons_zero, List.set_cons_succ, i64_w, i32_w]
    rfl
  refine pure_ (i := 4) (N := some 13) (v := ?_) (a' := ?_) #[true, true, true, true, true, false, false, false] rfl rfl (any_of HT_.out (by kernel_rfl)) (fun _ _ _ h => h) (Or.inl ⟨by rfl, ?_⟩) ?_ ?_
  rotate_left
  · intro w'
    go_simp
    with_reducible rfl
  rotate_left
  · simp only [Act.put, List.setIfInBounds_toArray, List.set_cons_zero, List.set_cons_succ, i64_w, i32_w]
    rfl
  refine pure_ (i := 5) (N := some 14) (v := ?_) (a' := ?_) #[true, true, true, true, true, true, false, false] rfl rfl (any_of HT_.out (by kernel_rfl)) (fun _ _ _ h => h) (Or.inl ⟨by rfl, ?_⟩) ?_ ?_
  rotate_left
  · intro w'
    go_simp
    with_reducible rfl
  rotate_left
  · simp only [Act.put, List.setIfInBounds_toArray, List.set_cons_zero, List.set_cons_succ, i64_w, i32_w]
    rfl
  refine pure_ (i := 6) (N := some 7) (v := ?_) (a' := ?_) #[true, true, true, true, true, true, true, false] rfl rfl (any_of HT_.out (by kernel_rfl)) (fun _ _ _ h => h) (Or.inl ⟨by rfl, ?_⟩) ?_ ?_
  rotate_left
  · intro w'
    go_simp
    with_reducible rfl
  rotate_left
  · simp only [Act.put, List.setIfInBounds_toArray, List.set_cons_zero, List.set_cons_succ, i64_w, i32_w]
    rfl
  refine pure_ (i := 7) (N := some 8) (v := ?_) (a' := ?_) #[true, true, true, true, true, true, true, true] rfl rfl (any_of HT_.out (by kernel_rfl)) (fun _ _ _ h => h) (Or.inl ⟨by rfl, ?_⟩) ?_ ?_
  rotate_left
  · intro w'
    go_simp
    with_reducible rfl
  rotate_left
  · simp only [Act.put, List.setIfInBounds_toArray, List.set_cons_zero, List.set_cons_succ, i64_w, i32_w]
    rfl
  refine done_ (done_of HT_.out (by kernel_rfl)) ?_
  go_wp2_with (go_at_call 101; refine (shdr_Section_numbers.calls bx _).mono ?_; rintro e w3 ⟨v0, rfl, hr, hb⟩)
  go_ret3
  exact ⟨v0, v1, rfl, Kd.R_lower hr (below_size HB.out), Kd.R_below (Kd.R_mono (Kd.R_bound HR.out) (fun k_ hk_ he_ => by have h1_ := (Kd.R_bound hr).1 k_ he_.symm; have := hk_.2.2.1; have := h1_.2.1; omega)) hb, below_step HB.out hb⟩


/-! ### shdr_Put: function 16 -/
def shdr_Put.vals (a0_1 : Bool) (a1_0 a1_1 a1_2 a1_3 a1_4 a1_5 a1_6 a1_7 a1_8 a1_9 : Int) : List Int := [a1_0, a1_1, a1_2, a1_3, a1_4, a1_5, a1_6, a1_7, a1_8, a1_9]
def shdr_Put.f (k : Nat) (a0_0 a0_1 : Bool) (a1_0 a1_1 a1_2 a1_3 a1_4 a1_5 a1_6 a1_7 a1_8 a1_9 : Int) : Option (ByteArray × Bool) := (shdr_Section_shape.f k a0_0 a0_1).bind fun t => class_Form_Record.f k a0_0 a0_1 t.1 (shdr_Put.vals a0_1 a1_0 a1_1 a1_2 a1_3 a1_4 a1_5 a1_6 a1_7 a1_8 a1_9)
theorem shdr_Put.mono : ∀ a0 a1 a1_0 a1_1 a1_2 a1_3 a1_4 a1_5 a1_6 a1_7 a1_8 a1_9 k, LeO (shdr_Put.f k a0 a1 a1_0 a1_1 a1_2 a1_3 a1_4 a1_5 a1_6 a1_7 a1_8 a1_9) (shdr_Put.f (k + 1) a0 a1 a1_0 a1_1 a1_2 a1_3 a1_4 a1_5 a1_6 a1_7 a1_8 a1_9) := fun a0 a1 a1_0 a1_1 a1_2 a1_3 a1_4 a1_5 a1_6 a1_7 a1_8 a1_9 k => LeO.bind (shdr_Section_shape.mono a0 a1 k) (fun _ => class_Form_Record.mono _ _ _ _ k)
theorem shdr_Put.info : (Tryd.prog.info? 34).map (fun i => (i.zero, i.size, i.bytes)) = some (some (.int .u64 0), 1, 8) := by kernel_rfl
theorem shdr_Put.len (a0_1 : Bool) (a1_0 a1_1 a1_2 a1_3 a1_4 a1_5 a1_6 a1_7 a1_8 a1_9 : Int) : (shdr_Put.vals a0_1 a1_0 a1_1 a1_2 a1_3 a1_4 a1_5 a1_6 a1_7 a1_8 a1_9).length = 10 := by cases a0_1 <;> rfl
theorem shdr_Put.ptl (a0_1 : Bool) (bx : Nat) : (shdr_Section_shape.pts a0_1 bx).length = 10 := by cases a0_1 <;> rfl
theorem shdr_Put.more (l : List Int) (i : Nat) (h : i < l.length) : l.take i ++ [rd l i] = l.take (i + 1) := by
  rw [List.take_add_one, List.getElem?_eq_getElem h]
  simp [rd, rdOf, h]
theorem shdr_Put.at_ (a0_1 : Bool) (a1_0 a1_1 a1_2 a1_3 a1_4 a1_5 a1_6 a1_7 a1_8 a1_9 : Int) (bx : Nat) (A0 : Option Addr) (W : World) (hc : kAddr.C W A0 (shdr_Section_shape.pts a0_1 bx).length (shdr_Section_shape.pts a0_1 bx)) (hb : W.heap[bx]? = some (.cells #[Value.int IntKind.u64 a1_0, Value.int IntKind.u64 a1_1, Value.int IntKind.u64 a1_2, Value.int IntKind.u64 a1_3, Value.int IntKind.u64 a1_4, Value.int IntKind.u64 a1_5, Value.int IntKind.u64 a1_6, Value.int IntKind.u64 a1_7, Value.int IntKind.u64 a1_8, Value.int IntKind.u64 a1_9] 42 (0, 0))) (i : Nat) (hi : i < 10) :
    ∃ o : Nat, (∃ ad, A0 = some ad ∧ W.cell? (ad.add (i : Int).toNat) = some (.pointer (some ⟨bx, o, none⟩))) ∧ W.cell? ⟨bx, o, none⟩ = some (.int .u64 (rd (shdr_Put.vals a0_1 a1_0 a1_1 a1_2 a1_3 a1_4 a1_5 a1_6 a1_7 a1_8 a1_9) i)) := by
  obtain ⟨ad, e, h⟩ := at_addr hc (i : Int) (by omega) (by rw [shdr_Put.ptl]; omega)
  have hs : i = 0 ∨ i = 1 ∨ i = 2 ∨ i = 3 ∨ i = 4 ∨ i = 5 ∨ i = 6 ∨ i = 7 ∨ i = 8 ∨ i = 9 := by omega
  rcases hs with rfl | rfl | rfl | rfl | rfl | rfl | rfl | rfl | rfl | rfl <;> cases a0_1 <;> exact ⟨_, ⟨ad, e, h⟩, (blk_cell hb _).trans rfl⟩
set_option maxHeartbeats 4000000 in
set_option maxRecDepth 100000 in
theorem shdr_Put.calls (k : Nat) (a0_0 a0_1 : Bool) (a1_0 a1_1 a1_2 a1_3 a1_4 a1_5 a1_6 a1_7 a1_8 a1_9 : Int) (r1 : ByteArray) (r2 : Bool) (w : World) (hlaid : Laid_shdr w) (h : shdr_Put.f k a0_0 a0_1 a1_0 a1_1 a1_2 a1_3 a1_4 a1_5 a1_6 a1_7 a1_8 a1_9 = some (r1, r2)) : Calls Tryd.prog 16 #[.agg #[.bool a0_0, .bool a0_1], .agg #[.int .u64 a1_0, .int .u64 a1_1, .int .u64 a1_2, .int .u64 a1_3, .int .u64 a1_4, .int .u64 a1_5, .int .u64 a1_6, .int .u64 a1_7, .int .u64 a1_8, .int .u64 a1_9]] w fun e w' => e = .returned (.tuple #[.string r1, .bool r2]) ∧ Below w.heap.size w w' := by
  obtain ⟨⟨l, n⟩, hs, h⟩ := Option.bind_eq_some_iff.mp h
  have HS := Aside0.mk hs
  have HR := Aside0.mk h
  have HL := Aside0.mk hlaid
  clear hs h hlaid
  have hB0 : Below w.heap.size w ((w.alloc (Obj.cells #[Value.bool a0_0, Value.bool a0_1] 27)).alloc (Obj.cells #[Value.int IntKind.u64 a1_0, Value.int IntKind.u64 a1_1, Value.int IntKind.u64 a1_2, Value.int IntKind.u64 a1_3, Value.int IntKind.u64 a1_4, Value.int IntKind.u64 a1_5, Value.int IntKind.u64 a1_6, Value.int IntKind.u64 a1_7, Value.int IntKind.u64 a1_8, Value.int IntKind.u64 a1_9] 42)) := ((Below.refl _ _).alloc (Nat.le_refl _) _).alloc (by simp) _
  have hF0 : ((w.alloc (Obj.cells #[Value.bool a0_0, Value.bool a0_1] 27)).alloc (Obj.cells #[Value.int IntKind.u64 a1_0, Value.int IntKind.u64 a1_1, Value.int IntKind.u64 a1_2, Value.int IntKind.u64 a1_3, Value.int IntKind.u64 a1_4, Value.int IntKind.u64 a1_5, Value.int IntKind.u64 a1_6, Value.int IntKind.u64 a1_7, Value.int IntKind.u64 a1_8, Value.int IntKind.u64 a1_9] 42)).heap[w.heap.size]? = some (.cells #[.bool a0_0, .bool a0_1] 27 (0, 0)) := blk_alloc (blk_new w _) _
  have hX0 : ((w.alloc (Obj.cells #[Value.bool a0_0, Value.bool a0_1] 27)).alloc (Obj.cells #[Value.int IntKind.u64 a1_0, Value.int IntKind.u64 a1_1, Value.int IntKind.u64 a1_2, Value.int IntKind.u64 a1_3, Value.int IntKind.u64 a1_4, Value.int IntKind.u64 a1_5, Value.int IntKind.u64 a1_6, Value.int IntKind.u64 a1_7, Value.int IntKind.u64 a1_8, Value.int IntKind.u64 a1_9] 42)).heap[w.heap.size + 1]? = some (.cells #[Value.int IntKind.u64 a1_0, Value.int IntKind.u64 a1_1, Value.int IntKind.u64 a1_2, Value.int IntKind.u64 a1_3, Value.int IntKind.u64 a1_4, Value.int IntKind.u64 a1_5, Value.int IntKind.u64 a1_6, Value.int IntKind.u64 a1_7, Value.int IntKind.u64 a1_8, Value.int IntKind.u64 a1_9] 42 (0, 0)) := by have := blk_new (w.alloc (Obj.cells #[Value.bool a0_0, Value.bool a0_1] 27)) (Obj.cells #[Value.int IntKind.u64 a1_0, Value.int IntKind.u64 a1_1, Value.int IntKind.u64 a1_2, Value.int IntKind.u64 a1_3, Value.int IntKind.u64 a1_4, Value.int IntKind.u64 a1_5, Value.int IntKind.u64 a1_6, Value.int IntKind.u64 a1_7, Value.int IntKind.u64 a1_8, Value.int IntKind.u64 a1_9] 42); simpa using this
  have hc0 := (blk_cell hF0 0).trans rfl
  have hc1 := (blk_cell hF0 1).trans rfl
  have HB := Aside0.mk hB0
  have HF := Aside0.mk hF0
  have HX := Aside0.mk hX0
  clear hB0 hF0 hX0
  go_enter Tryd.func16, Tryd.ntmps16
  go_wp2_with (go_at_call 58; refine (shdr_Section_shape.calls k _ a0_0 a0_1 l n _ (Laid_shdr.below HL.out HB.out) HS.out).mono ?_; rintro e w3 ⟨v0, v1, rfl, hr0, hr1, hb⟩; obtain ⟨A0, c0, rfl, hl0, hq0⟩ := Kd.R_reads hr0; obtain ⟨A1, c1_, rfl, hl1, hq1⟩ := Kd.R_reads hr1; have hF := blk_below HF.out hb; have hX := blk_below HX.out hb; have hB := below_step HB.out hb; clear hr0 hr1 hb HB HF HX; have HB := Aside0.mk hB; have HF := Aside0.mk hF; have HV := Aside0.mk (shdr_Put.at_ a0_1 a1_0 a1_1 a1_2 a1_3 a1_4 a1_5 a1_6 a1_7 a1_8 a1_9 (w.heap.size + 1) A0 w3 hq0 hX); have HQ := Aside0.mk hq1; have HQL := Aside0.mk hl1; clear hB hF hX hq0 hq1 hl0 hl1; generalize hgL : (shdr_Section_shape.pts a0_1 (w.heap.size + 1)).length = L; rw [shdr_Put.ptl] at hgL; have HGL := Aside0.mk hgL; clear hgL)
  go_loopg [9, 20] 10 (fun kq v9 v20 w' => ∃ (i : Nat), v20 = .int .i64 (i : Int) ∧ Aside0 (kq + i = 10) ∧ Aside0 (Kd.R (Kd.int .u64) 34 w' w3.heap.size (fun _ => True) v9 ((shdr_Put.vals a0_1 a1_0 a1_1 a1_2 a1_3 a1_4 a1_5 a1_6 a1_7 a1_8 a1_9).take i)) ∧ Aside0 (Below w3.heap.size w3 w'))
  case atStart => exact ⟨0, rfl, ⟨rfl⟩, ⟨Kd.R_nil _ _ _ _ _⟩, ⟨Below.refl _ _⟩⟩
  case round =>
    obtain ⟨i, rfl, HI, HO, HW⟩ := hrel
    by_cases hi : i < 10
    · cases gk with
      | zero => exact absurd HI.out (by omega)
      | succ gk =>
      obtain ⟨o, ⟨ad, e, hx⟩, hv⟩ := HV.out i hi
      cases e
      replace hx := pw_cell_below HW.out hx
      rw [Int.toNat_natCast] at hx
      replace hv := pw_cell_below HW.out hv
      have p0 : (0 ≤ (i : Int)) = True := eq_true (by omega)
      have p1 : ((i : Int) < (L : Int)) = True := eq_true (by have := HGL.out; omega)
      have c1b : decide ((i : Int) < (L : Int)) = true := decide_eq_true (by have := HGL.out; omega)
      have hwr : IntKind.i64.wrap ((i : Int) + 1) = ((i + 1 : Nat) : Int) := by rw [IntKind.wrap_i64]; omega
      have HII := Aside0.mk hi
      clear hi
      go_wp2_with (first | ((with_reducible refine gate_builtin (b := .append) (xs := #[.tmp 24, .tmp 28]) rfl ?_); at_builtin; refine Kd.R_append (Kd.int .u64) (w0 := w3) w3.heap.size rfl (.tmp 24) (.tmp 28) 75 34 (.int .u64 0) 8 rfl Tryd.underlying75 shdr_Put.info rfl (by decide) (by omega) u9 ((shdr_Put.vals a0_1 a1_0 a1_1 a1_2 a1_3 a1_4 a1_5 a1_6 a1_7 a1_8 a1_9).take i) (rd (shdr_Put.vals a0_1 a1_0 a1_1 a1_2 a1_3 a1_4 a1_5 a1_6 a1_7 a1_8 a1_9) i) [.int .u64 (rd (shdr_Put.vals a0_1 a1_0 a1_1 a1_2 a1_3 a1_4 a1_5 a1_6 a1_7 a1_8 a1_9) i)] (fun _ => True) (fun _ => False) rfl rfl ?aP (fun _ hk => hk.elim) ?aF ?aO ?aB ?aS ?aL ?_; (case aP => exact rfl); (case aB => exact (by repeat (first | (with_reducible first | exact HW.out | apply below_alloc | apply pw_below_drewN | apply below_drew1) | exact HW.out))); (case aF => exact (fun _ _ => trivial)); (case aO => exact (by (with_reducible repeat (first | apply Kd.R_alloc | apply Kd.R_drewN | apply Kd.R_drew)); exact HO.out)); (case aS => exact (below_size (by repeat (first | (with_reducible first | exact HW.out | apply below_alloc | apply pw_below_drewN | apply below_drew1) | exact HW.out)))); (case aL => have := HII.out; simp only [List.length_take]; omega); intro v110 w14 ho hb hg hat; rw [shdr_Put.more _ _ (by rw [shdr_Put.len]; exact HII.out)] at ho; have n1_ := Aside0.mk (hb); have n2_ := Aside0.mk (ho); clear HW HO ho hb hg hat; have HW := n1_; have HO := n2_; clear n1_ n2_))
      go_roundg gk
      case measure => omega
      case rel => exact ⟨i + 1, rfl, ⟨by have := HI.out; omega⟩, HO, HW⟩
    · have hO := HO.out
      rw [List.take_of_length_le (by rw [shdr_Put.len]; omega)] at hO
      obtain ⟨A9, c9, rfl, hl9, hq9⟩ := Kd.R_reads hO
      have c1b : decide (i < L) = false := decide_eq_false (by have := HGL.out; omega)
      have hF := blk_below HF.out HW.out
      have hc0 := (blk_cell hF 0).trans rfl
      have hc1 := (blk_cell hF 1).trans rfl
      have HQ9 := Aside0.mk hq9
      have HL9 := Aside0.mk hl9
      clear hO hq9 hl9 hF hi
      go_wp2_with (go_at_call 57; refine (class_Form_Record.calls k a0_0 a0_1 A1 c1_ l A9 c9 (shdr_Put.vals a0_1 a1_0 a1_1 a1_2 a1_3 a1_4 a1_5 a1_6 a1_7 a1_8 a1_9) r1 r2 _ (Kd.C_below HQ.out HW.out) HQL.out HQ9.out HL9.out HR.out).mono ?_; rintro e w5 ⟨rfl, hb⟩)
      go_ret2
      exact ⟨rfl, below_step (below_step HB.out HW.out) hb⟩


end Go.Proofs.YteoeohkjomehoaaDoor.Q
