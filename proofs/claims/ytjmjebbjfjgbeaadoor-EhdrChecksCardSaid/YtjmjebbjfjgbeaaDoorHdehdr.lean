/- What a package of records comes to: any numbers put, any bytes read: plain facts; no Go, no memory. -/
import Derived.Test.YtjmjebbjfjgbeaaDoorHdr
import Derived.Test.YtjmjebbjfjgbeaaDoorQ3
import Derived.Test.YtjmjebbjfjgbeaaDoorQ6
import Derived.Test.YtjmjebbjfjgbeaaDoorQ7
import Derived.Test.YtjmjebbjfjgbeaaDoorQ8
namespace Go.Proofs.YtjmjebbjfjgbeaaDoor.Q
open Go.RowKit Go.Proofs.YtjmjebbjfjgbeaaDoor.Q Go.Proofs.YtjmjebbjfjgbeaaDoorW.PrintWords Go.Proofs.YtjmjebbjfjgbeaaDoorW.PrintLast Go.Proofs.YtjmjebbjfjgbeaaDoorW.PrintMore Go.Proofs.YtjmjebbjfjgbeaaDoor.Mth
set_option linter.unusedVariables false
set_option linter.unusedSimpArgs false


def ehdr_total (w : Bool) : Int := if w = true then 48 else 36
theorem ehdr_len (w : Bool) : tab_ehdr_sizes.length = 13 := by cases w <;> rfl
theorem ehdr_sumW (w : Bool) : sumW 0 (full w tab_ehdr_sizes) = ehdr_total w := by cases w <;> decide +kernel
theorem ehdr_sum (w : Bool) : (full w tab_ehdr_sizes).sum = ehdr_total w := by cases w <;> decide +kernel
theorem ehdr_in8 (w : Bool) : In8 (full w tab_ehdr_sizes) := by unfold In8; cases w <;> decide +kernel
theorem ehdr_full (w : Bool) : full w (full w tab_ehdr_sizes) = full w tab_ehdr_sizes := by cases w <;> decide +kernel
theorem ehdr_tot (w : Bool) : 0 < ehdr_total w ∧ ehdr_total w ≤ 200 := by cases w <;> decide +kernel
theorem ehdr_shape_ev (b w : Bool) : Ev (fun k => ehdr_Head_shape.f k b w) (full w tab_ehdr_sizes, ehdr_total w) := by
  have h := sizes_ev b w tab_ehdr_sizes (by rw [ehdr_len w]; decide)
  rw [ehdr_sumW] at h
  exact h
theorem ehdr_size_ev (b w : Bool) : Ev (fun k => ehdr_Size.f k b w) (ehdr_total w) := Ev.congr (fun k => ehdr_Size.f.eq_1 k b w) (Ev.bind (ehdr_shape_ev b w) (Ev.now _))
theorem ehdr_valen (w : Bool) (f0 f1 f2 f3 f4 f5 f6 f7 f8 f9 f10 f11 f12 : Int) : (ehdr_Put.vals w f0 f1 f2 f3 f4 f5 f6 f7 f8 f9 f10 f11 f12).length = 13 := by cases w <;> rfl
theorem ehdr_rec (b w : Bool) (f0 f1 f2 f3 f4 f5 f6 f7 f8 f9 f10 f11 f12 : Int) : (recR b w tab_ehdr_sizes (ehdr_Put.vals w f0 f1 f2 f3 f4 f5 f6 f7 f8 f9 f10 f11 f12) = (⟨(flat b (full w tab_ehdr_sizes) (ehdr_Put.vals w f0 f1 f2 f3 f4 f5 f6 f7 f8 f9 f10 f11 f12)).toArray⟩, true) ∧ allF (full w tab_ehdr_sizes) (ehdr_Put.vals w f0 f1 f2 f3 f4 f5 f6 f7 f8 f9 f10 f11 f12) = true) ∨ recR b w tab_ehdr_sizes (ehdr_Put.vals w f0 f1 f2 f3 f4 f5 f6 f7 f8 f9 f10 f11 f12) = (⟨#[]⟩, false) := by
  unfold recR
  rw [if_pos (by rw [ehdr_len w, ehdr_valen])]
  by_cases h : allF (full w tab_ehdr_sizes) (ehdr_Put.vals w f0 f1 f2 f3 f4 f5 f6 f7 f8 f9 f10 f11 f12) = true
  · rw [if_pos h]; exact .inl ⟨rfl, h⟩
  · rw [if_neg h]; exact .inr rfl
theorem ehdr_recfull (b w : Bool) (f0 f1 f2 f3 f4 f5 f6 f7 f8 f9 f10 f11 f12 : Int) : recR b w (full w tab_ehdr_sizes) (ehdr_Put.vals w f0 f1 f2 f3 f4 f5 f6 f7 f8 f9 f10 f11 f12) = recR b w tab_ehdr_sizes (ehdr_Put.vals w f0 f1 f2 f3 f4 f5 f6 f7 f8 f9 f10 f11 f12) := by
  unfold recR
  rw [full_length, ehdr_full]
theorem ehdr_put_ev (b w : Bool) (f0 f1 f2 f3 f4 f5 f6 f7 f8 f9 f10 f11 f12 : Int) (hu : U64 (ehdr_Put.vals w f0 f1 f2 f3 f4 f5 f6 f7 f8 f9 f10 f11 f12)) : Ev (fun k => ehdr_Put.f k b w f0 f1 f2 f3 f4 f5 f6 f7 f8 f9 f10 f11 f12) (recR b w tab_ehdr_sizes (ehdr_Put.vals w f0 f1 f2 f3 f4 f5 f6 f7 f8 f9 f10 f11 f12)) := by
  refine Ev.congr (fun k => ehdr_Put.f.eq_1 k b w f0 f1 f2 f3 f4 f5 f6 f7 f8 f9 f10 f11 f12) (Ev.bind (ehdr_shape_ev b w) ?_)
  rw [← ehdr_recfull]
  exact record_ev b w _ _ (by rw [full_length, ehdr_len w]; decide) hu
def ehdr_setG (p : List Nat) : Nat → List Int → List Int → List Int
  | _, [], m => m
  | i, x :: xs, m => ehdr_setG p (i + 1) xs (m.set (p.getD i 0) x)
theorem ehdr_go_ev (b w : Bool) (s : ByteArray) (hs : s.size ≤ 140737488351300) (A : List Int) (h8 : In8 A) : ∀ (ra pa : List Int), A = pa ++ ra → ∀ (at_ : Nat), (at_ : Int) + ra.sum ≤ s.size → ∀ m : List Int,
    Ev (fun k => ehdr_Read.go k w A ra.length pa.length b s (at_ : Int) false m) (ehdr_setG (ehdr_Read.perm w) pa.length (nums b ra (s.data.toList.drop at_)) m) := by
  intro ra
  induction ra with
  | nil =>
    intro pa h at_ hat m
    exact Ev.congr (fun k => rfl) (Ev.now m)
  | cons n ra ih =>
    intro pa h at_ hat m
    have hn := h8 n (by rw [h]; simp)
    have h8r : In8 ra := fun y hy => h8 y (by rw [h]; simp [hy])
    have hsr := h8r.sum_ge
    rw [List.sum_cons] at hat
    have hlen : pa.length < A.length := by rw [h]; simp
    have e1 : rd A (pa.length : Int) = ((n.toNat : Nat) : Int) := by rw [Int.toNat_of_nonneg (by omega), h]; exact rd_at pa n ra
    have ih1 := ih (pa ++ [n]) (by rw [h]; simp) (at_ + n.toNat) (by omega) (m.set ((ehdr_Read.perm w).getD pa.length 0) (numAt b s.data.toList at_ n.toNat))
    rw [List.length_append, List.length_singleton] at ih1
    refine Ev.congr (fun k => ehdr_Read.go.eq_2 k w A pa.length b s _ false m ra.length) (ev_pos hlen ?_)
    rw [e1]
    refine Ev.bind (next_ev b s at_ n.toNat (by omega) (by omega) (by omega) hs) ?_
    rw [nums, ehdr_setG, List.drop_drop]
    exact ih1
theorem ehdr_read_short (b w : Bool) (s : ByteArray) (h : (s.size : Int) < ehdr_total w) : Ev (fun k => ehdr_Read.f k b w s) (0, 0, 0, 0, 0, 0, 0, 0, 0, 0, 0, 0, 0, false) :=
  Ev.congr (fun k => ehdr_Read.f.eq_1 k b w s) (Ev.bind (ehdr_shape_ev b w) (ev_pos h (Ev.now _)))
theorem ehdr_read_long (b w : Bool) (s : ByteArray) (hs : s.size ≤ 140737488351300) (h : ehdr_total w ≤ (s.size : Int)) : ∃ f0 f1 f2 f3 f4 f5 f6 f7 f8 f9 f10 f11 f12 : Int, Ev (fun k => ehdr_Read.f k b w s) (f0, f1, f2, f3, f4, f5, f6, f7, f8, f9, f10, f11, f12, true) ∧ (ehdr_Put.vals w f0 f1 f2 f3 f4 f5 f6 f7 f8 f9 f10 f11 f12) = nums b (full w tab_ehdr_sizes) s.data.toList := by
  have hg := ehdr_go_ev b w s hs (full w tab_ehdr_sizes) (ehdr_in8 w) (full w tab_ehdr_sizes) [] rfl 0 (by rw [ehdr_sum]; simpa using h) (List.replicate 13 0)
  have hl := nums_length b (full w tab_ehdr_sizes) s.data.toList
  rw [full_length, ehdr_len w] at hl
  rw [List.drop_zero, full_length, ehdr_len w] at hg
  obtain ⟨y0, y1, y2, y3, y4, y5, y6, y7, y8, y9, y10, y11, y12, hy⟩ : ∃ y0 y1 y2 y3 y4 y5 y6 y7 y8 y9 y10 y11 y12, nums b (full w tab_ehdr_sizes) s.data.toList = [y0, y1, y2, y3, y4, y5, y6, y7, y8, y9, y10, y11, y12] := by
    revert hl
    generalize nums b (full w tab_ehdr_sizes) s.data.toList = l
    intro hl
    match l, hl with
    | [y0, y1, y2, y3, y4, y5, y6, y7, y8, y9, y10, y11, y12], _ => exact ⟨_, _, _, _, _, _, _, _, _, _, _, _, _, rfl⟩
  rw [hy] at hg ⊢
  cases w
  · rw [show ehdr_setG (ehdr_Read.perm false) ([] : List Int).length [y0, y1, y2, y3, y4, y5, y6, y7, y8, y9, y10, y11, y12] (List.replicate 13 0) = [y0, y1, y2, y3, y4, y5, y6, y7, y8, y9, y10, y11, y12] from rfl] at hg
    exact ⟨y0, y1, y2, y3, y4, y5, y6, y7, y8, y9, y10, y11, y12, Ev.congr (fun k => ehdr_Read.f.eq_1 k b false s) (Ev.bind (ehdr_shape_ev b false) (ev_neg (by omega) (ev_const (order_Order_Read.f.eq_1 b s 0) (Ev.bind hg (ev_now rfl))))), rfl⟩
  · rw [show ehdr_setG (ehdr_Read.perm true) ([] : List Int).length [y0, y1, y2, y3, y4, y5, y6, y7, y8, y9, y10, y11, y12] (List.replicate 13 0) = [y0, y1, y2, y3, y4, y5, y6, y7, y8, y9, y10, y11, y12] from rfl] at hg
    exact ⟨y0, y1, y2, y3, y4, y5, y6, y7, y8, y9, y10, y11, y12, Ev.congr (fun k => ehdr_Read.f.eq_1 k b true s) (Ev.bind (ehdr_shape_ev b true) (ev_neg (by omega) (ev_const (order_Order_Read.f.eq_1 b s 0) (Ev.bind hg (ev_now rfl))))), rfl⟩
theorem ehdr_inj (w : Bool) (f0 f1 f2 f3 f4 f5 f6 f7 f8 f9 f10 f11 f12 g0 g1 g2 g3 g4 g5 g6 g7 g8 g9 g10 g11 g12 : Int) (h : ehdr_Put.vals w f0 f1 f2 f3 f4 f5 f6 f7 f8 f9 f10 f11 f12 = ehdr_Put.vals w g0 g1 g2 g3 g4 g5 g6 g7 g8 g9 g10 g11 g12) : f0 = g0 ∧ f1 = g1 ∧ f2 = g2 ∧ f3 = g3 ∧ f4 = g4 ∧ f5 = g5 ∧ f6 = g6 ∧ f7 = g7 ∧ f8 = g8 ∧ f9 = g9 ∧ f10 = g10 ∧ f11 = g11 ∧ f12 = g12 := by
  cases w
  all_goals
    simp only [ehdr_Put.vals, List.cons.injEq, if_true, if_false, Bool.false_eq_true] at h
    simp only [h, and_self]

end Go.Proofs.YtjmjebbjfjgbeaaDoor.Q
