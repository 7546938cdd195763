/- What a package of records comes to: any numbers put, any bytes read: plain facts; no Go, no memory. -/
import Derived.Test.YthbkjppaimjpmaaDoorHdr
import Derived.Test.YthbkjppaimjpmaaDoorQ16
import Derived.Test.YthbkjppaimjpmaaDoorQ17
import Derived.Test.YthbkjppaimjpmaaDoorQ8
namespace Go.Proofs.YthbkjppaimjpmaaDoor.Q
open Go.RowKit Go.Proofs.YthbkjppaimjpmaaDoor.Q Go.Proofs.YthbkjppaimjpmaaDoorW.PrintWords Go.Proofs.YthbkjppaimjpmaaDoorW.PrintLast Go.Proofs.YthbkjppaimjpmaaDoorW.PrintMore Go.Proofs.YthbkjppaimjpmaaDoor.Mth
set_option linter.unusedVariables false
set_option linter.unusedSimpArgs false


def phdr_total (w : Bool) : Int := if w = true then 56 else 32
theorem phdr_len (w : Bool) : (phdr_Segment_shape.tab w).length = 8 := by cases w <;> rfl
theorem phdr_sumW (w : Bool) : sumW 0 (full w (phdr_Segment_shape.tab w)) = phdr_total w := by cases w <;> decide +kernel
theorem phdr_sum (w : Bool) : (full w (phdr_Segment_shape.tab w)).sum = phdr_total w := by cases w <;> decide +kernel
theorem phdr_in8 (w : Bool) : In8 (full w (phdr_Segment_shape.tab w)) := by unfold In8; cases w <;> decide +kernel
theorem phdr_full (w : Bool) : full w (full w (phdr_Segment_shape.tab w)) = full w (phdr_Segment_shape.tab w) := by cases w <;> decide +kernel
theorem phdr_tot (w : Bool) : 0 < phdr_total w ∧ phdr_total w ≤ 200 := by cases w <;> decide +kernel
theorem phdr_shape_ev (b w : Bool) : Ev (fun k => phdr_Segment_shape.f k b w) (full w (phdr_Segment_shape.tab w), phdr_total w) := by
  have h := sizes_ev b w (phdr_Segment_shape.tab w) (by rw [phdr_len w]; decide)
  rw [phdr_sumW] at h
  exact h
theorem phdr_size_ev (b w : Bool) : Ev (fun k => phdr_Size.f k b w) (phdr_total w) := Ev.congr (fun k => phdr_Size.f.eq_1 k b w) (Ev.bind (phdr_shape_ev b w) (Ev.now _))
theorem phdr_valen (w : Bool) (f0 f1 f2 f3 f4 f5 f6 f7 : Int) : (phdr_Put.vals w f0 f1 f2 f3 f4 f5 f6 f7).length = 8 := by cases w <;> rfl
theorem phdr_rec (b w : Bool) (f0 f1 f2 f3 f4 f5 f6 f7 : Int) : (recR b w (phdr_Segment_shape.tab w) (phdr_Put.vals w f0 f1 f2 f3 f4 f5 f6 f7) = (⟨(flat b (full w (phdr_Segment_shape.tab w)) (phdr_Put.vals w f0 f1 f2 f3 f4 f5 f6 f7)).toArray⟩, true) ∧ allF (full w (phdr_Segment_shape.tab w)) (phdr_Put.vals w f0 f1 f2 f3 f4 f5 f6 f7) = true) ∨ recR b w (phdr_Segment_shape.tab w) (phdr_Put.vals w f0 f1 f2 f3 f4 f5 f6 f7) = (⟨#[]⟩, false) := by
  unfold recR
  rw [if_pos (by rw [phdr_len w, phdr_valen])]
  by_cases h : allF (full w (phdr_Segment_shape.tab w)) (phdr_Put.vals w f0 f1 f2 f3 f4 f5 f6 f7) = true
  · rw [if_pos h]; exact .inl ⟨rfl, h⟩
  · rw [if_neg h]; exact .inr rfl
theorem phdr_recfull (b w : Bool) (f0 f1 f2 f3 f4 f5 f6 f7 : Int) : recR b w (full w (phdr_Segment_shape.tab w)) (phdr_Put.vals w f0 f1 f2 f3 f4 f5 f6 f7) = recR b w (phdr_Segment_shape.tab w) (phdr_Put.vals w f0 f1 f2 f3 f4 f5 f6 f7) := by
  unfold recR
  rw [full_length, phdr_full]
theorem phdr_put_ev (b w : Bool) (f0 f1 f2 f3 f4 f5 f6 f7 : Int) (hu : U64 (phdr_Put.vals w f0 f1 f2 f3 f4 f5 f6 f7)) : Ev (fun k => phdr_Put.f k b w f0 f1 f2 f3 f4 f5 f6 f7) (recR b w (phdr_Segment_shape.tab w) (phdr_Put.vals w f0 f1 f2 f3 f4 f5 f6 f7)) := by
  refine Ev.congr (fun k => phdr_Put.f.eq_1 k b w f0 f1 f2 f3 f4 f5 f6 f7) (Ev.bind (phdr_shape_ev b w) ?_)
  rw [← phdr_recfull]
  exact record_ev b w _ _ (by rw [full_length, phdr_len w]; decide) hu
theorem phdr_ref_ev (b w : Bool) (f0 f1 f2 f3 f4 f5 f6 f7 : Int) (hu : U64 (phdr_Put.vals w f0 f1 f2 f3 f4 f5 f6 f7)) : Ev (fun k => graverref07_Put.f k w b f0 f1 f2 f3 f4 f5 f6 f7) (recR b w (phdr_Segment_shape.tab w) (phdr_Put.vals w f0 f1 f2 f3 f4 f5 f6 f7)) := by
  refine Ev.congr (fun k => graverref07_Put.f.eq_1 k w b f0 f1 f2 f3 f4 f5 f6 f7) ?_
  cases w
  · exact ev_neg (by decide) (Ev.bind (refRecord_ev false b _ _ (by decide) hu) (ev_now rfl))
  · exact ev_pos rfl (Ev.bind (refRecord_ev true b _ _ (by decide) hu) (ev_now rfl))
def phdr_setG (p : List Nat) : Nat → List Int → List Int → List Int
  | _, [], m => m
  | i, x :: xs, m => phdr_setG p (i + 1) xs (m.set (p.getD i 0) x)
theorem phdr_go_ev (b w : Bool) (s : ByteArray) (hs : s.size ≤ 140737488351300) (A : List Int) (h8 : In8 A) : ∀ (ra pa : List Int), A = pa ++ ra → ∀ (at_ : Nat), (at_ : Int) + ra.sum ≤ s.size → ∀ m : List Int,
    Ev (fun k => phdr_Read.go k w A ra.length pa.length b s (at_ : Int) false m) (phdr_setG (phdr_Read.perm w) pa.length (nums b ra (s.data.toList.drop at_)) m) := by
  intro ra
  induction ra with
  | nil =>
    intro pa h at_ hat m
    exact Ev.congr (fun k => rfl) (Ev.now m)
  | cons n ra ih =>
    intro pa h at_ hat m
    have hn := h8 n (by rw [h]; simp)
    have h8r : In8 ra := fun y hy => h8 y (by rw [h]; simp [hy])
    have hsr := h8r.sum_ge
    rw [List.sum_cons] at hat
    have hlen : pa.length < A.length := by rw [h]; simp
    have e1 : rd A (pa.length : Int) = ((n.toNat : Nat) : Int) := by rw [Int.toNat_of_nonneg (by omega), h]; exact rd_at pa n ra
    have ih1 := ih (pa ++ [n]) (by rw [h]; simp) (at_ + n.toNat) (by omega) (m.set ((phdr_Read.perm w).getD pa.length 0) (numAt b s.data.toList at_ n.toNat))
    rw [List.length_append, List.length_singleton] at ih1
    refine Ev.congr (fun k => phdr_Read.go.eq_2 k w A pa.length b s _ false m ra.length) (ev_pos hlen ?_)
    rw [e1]
    refine Ev.bind (next_ev b s at_ n.toNat (by omega) (by omega) (by omega) hs) ?_
    rw [nums, phdr_setG, List.drop_drop]
    exact ih1
theorem phdr_read_short (b w : Bool) (s : ByteArray) (h : (s.size : Int) < phdr_total w) : Ev (fun k => phdr_Read.f k b w s) (0, 0, 0, 0, 0, 0, 0, 0, false) :=
  Ev.congr (fun k => phdr_Read.f.eq_1 k b w s) (Ev.bind (phdr_shape_ev b w) (ev_pos h (Ev.now _)))
theorem phdr_read_long (b w : Bool) (s : ByteArray) (hs : s.size ≤ 140737488351300) (h : phdr_total w ≤ (s.size : Int)) : ∃ f0 f1 f2 f3 f4 f5 f6 f7 : Int, Ev (fun k => phdr_Read.f k b w s) (f0, f1, f2, f3, f4, f5, f6, f7, true) ∧ (phdr_Put.vals w f0 f1 f2 f3 f4 f5 f6 f7) = nums b (full w (phdr_Segment_shape.tab w)) s.data.toList := by
  have hg := phdr_go_ev b w s hs (full w (phdr_Segment_shape.tab w)) (phdr_in8 w) (full w (phdr_Segment_shape.tab w)) [] rfl 0 (by rw [phdr_sum]; simpa using h) (List.replicate 8 0)
  have hl := nums_length b (full w (phdr_Segment_shape.tab w)) s.data.toList
  rw [full_length, phdr_len w] at hl
  rw [List.drop_zero, full_length, phdr_len w] at hg
  obtain ⟨y0, y1, y2, y3, y4, y5, y6, y7, hy⟩ : ∃ y0 y1 y2 y3 y4 y5 y6 y7, nums b (full w (phdr_Segment_shape.tab w)) s.data.toList = [y0, y1, y2, y3, y4, y5, y6, y7] := by
    revert hl
    generalize nums b (full w (phdr_Segment_shape.tab w)) s.data.toList = l
    intro hl
    match l, hl with
    | [y0, y1, y2, y3, y4, y5, y6, y7], _ => exact ⟨_, _, _, _, _, _, _, _, rfl⟩
  rw [hy] at hg ⊢
  cases w
  · rw [show phdr_setG (phdr_Read.perm false) ([] : List Int).length [y0, y1, y2, y3, y4, y5, y6, y7] (List.replicate 8 0) = [y0, y6, y1, y2, y3, y4, y5, y7] from rfl] at hg
    exact ⟨y0, y6, y1, y2, y3, y4, y5, y7, Ev.congr (fun k => phdr_Read.f.eq_1 k b false s) (Ev.bind (phdr_shape_ev b false) (ev_neg (by omega) (ev_const (order_Order_Read.f.eq_1 b s 0) (Ev.bind hg (ev_now rfl))))), rfl⟩
  · rw [show phdr_setG (phdr_Read.perm true) ([] : List Int).length [y0, y1, y2, y3, y4, y5, y6, y7] (List.replicate 8 0) = [y0, y1, y2, y3, y4, y5, y6, y7] from rfl] at hg
    exact ⟨y0, y1, y2, y3, y4, y5, y6, y7, Ev.congr (fun k => phdr_Read.f.eq_1 k b true s) (Ev.bind (phdr_shape_ev b true) (ev_neg (by omega) (ev_const (order_Order_Read.f.eq_1 b s 0) (Ev.bind hg (ev_now rfl))))), rfl⟩
theorem phdr_inj (w : Bool) (f0 f1 f2 f3 f4 f5 f6 f7 g0 g1 g2 g3 g4 g5 g6 g7 : Int) (h : phdr_Put.vals w f0 f1 f2 f3 f4 f5 f6 f7 = phdr_Put.vals w g0 g1 g2 g3 g4 g5 g6 g7) : f0 = g0 ∧ f1 = g1 ∧ f2 = g2 ∧ f3 = g3 ∧ f4 = g4 ∧ f5 = g5 ∧ f6 = g6 ∧ f7 = g7 := by
  cases w
  all_goals
    simp only [phdr_Put.vals, List.cons.injEq, if_true, if_false, Bool.false_eq_true] at h
    simp only [h, and_self]

end Go.Proofs.YthbkjppaimjpmaaDoor.Q
