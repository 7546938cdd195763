/- What a package of records comes to: any numbers put, any bytes read: plain facts; no Go, no memory. -/
import Derived.Test.YtjmjebbjfjgbeaaDoorHdr
import Derived.Test.YtjmjebbjfjgbeaaDoorQ12
import Derived.Test.YtjmjebbjfjgbeaaDoorQ4
import Derived.Test.YtjmjebbjfjgbeaaDoorQ7
import Derived.Test.YtjmjebbjfjgbeaaDoorQ8
import Derived.Test.YtjmjebbjfjgbeaaDoorQ9
namespace Go.Proofs.YtjmjebbjfjgbeaaDoor.Q
open Go.RowKit Go.Proofs.YtjmjebbjfjgbeaaDoor.Q Go.Proofs.YtjmjebbjfjgbeaaDoorW.PrintWords Go.Proofs.YtjmjebbjfjgbeaaDoorW.PrintLast Go.Proofs.YtjmjebbjfjgbeaaDoorW.PrintMore Go.Proofs.YtjmjebbjfjgbeaaDoor.Mth
set_option linter.unusedVariables false
set_option linter.unusedSimpArgs false


def symrec_total (w : Bool) : Int := if w = true then 24 else 16
theorem symrec_len (w : Bool) : (symrec_Symbol_shape.tab w).length = 6 := by cases w <;> rfl
theorem symrec_sumW (w : Bool) : sumW 0 (full w (symrec_Symbol_shape.tab w)) = symrec_total w := by cases w <;> decide +kernel
theorem symrec_sum (w : Bool) : (full w (symrec_Symbol_shape.tab w)).sum = symrec_total w := by cases w <;> decide +kernel
theorem symrec_in8 (w : Bool) : In8 (full w (symrec_Symbol_shape.tab w)) := by unfold In8; cases w <;> decide +kernel
theorem symrec_full (w : Bool) : full w (full w (symrec_Symbol_shape.tab w)) = full w (symrec_Symbol_shape.tab w) := by cases w <;> decide +kernel
theorem symrec_tot (w : Bool) : 0 < symrec_total w ∧ symrec_total w ≤ 200 := by cases w <;> decide +kernel
theorem symrec_shape_ev (b w : Bool) : Ev (fun k => symrec_Symbol_shape.f k b w) (full w (symrec_Symbol_shape.tab w), symrec_total w) := by
  have h := sizes_ev b w (symrec_Symbol_shape.tab w) (by rw [symrec_len w]; decide)
  rw [symrec_sumW] at h
  exact h
theorem symrec_size_ev (b w : Bool) : Ev (fun k => symrec_Size.f k b w) (symrec_total w) := Ev.congr (fun k => symrec_Size.f.eq_1 k b w) (Ev.bind (symrec_shape_ev b w) (Ev.now _))
theorem symrec_valen (w : Bool) (f0 f1 f2 f3 f4 f5 : Int) : (symrec_Put.vals w f0 f1 f2 f3 f4 f5).length = 6 := by cases w <;> rfl
theorem symrec_rec (b w : Bool) (f0 f1 f2 f3 f4 f5 : Int) : (recR b w (symrec_Symbol_shape.tab w) (symrec_Put.vals w f0 f1 f2 f3 f4 f5) = (⟨(flat b (full w (symrec_Symbol_shape.tab w)) (symrec_Put.vals w f0 f1 f2 f3 f4 f5)).toArray⟩, true) ∧ allF (full w (symrec_Symbol_shape.tab w)) (symrec_Put.vals w f0 f1 f2 f3 f4 f5) = true) ∨ recR b w (symrec_Symbol_shape.tab w) (symrec_Put.vals w f0 f1 f2 f3 f4 f5) = (⟨#[]⟩, false) := by
  unfold recR
  rw [if_pos (by rw [symrec_len w, symrec_valen])]
  by_cases h : allF (full w (symrec_Symbol_shape.tab w)) (symrec_Put.vals w f0 f1 f2 f3 f4 f5) = true
  · rw [if_pos h]; exact .inl ⟨rfl, h⟩
  · rw [if_neg h]; exact .inr rfl
theorem symrec_recfull (b w : Bool) (f0 f1 f2 f3 f4 f5 : Int) : recR b w (full w (symrec_Symbol_shape.tab w)) (symrec_Put.vals w f0 f1 f2 f3 f4 f5) = recR b w (symrec_Symbol_shape.tab w) (symrec_Put.vals w f0 f1 f2 f3 f4 f5) := by
  unfold recR
  rw [full_length, symrec_full]
theorem symrec_put_ev (b w : Bool) (f0 f1 f2 f3 f4 f5 : Int) (hu : U64 (symrec_Put.vals w f0 f1 f2 f3 f4 f5)) : Ev (fun k => symrec_Put.f k b w f0 f1 f2 f3 f4 f5) (recR b w (symrec_Symbol_shape.tab w) (symrec_Put.vals w f0 f1 f2 f3 f4 f5)) := by
  refine Ev.congr (fun k => symrec_Put.f.eq_1 k b w f0 f1 f2 f3 f4 f5) (Ev.bind (symrec_shape_ev b w) ?_)
  rw [← symrec_recfull]
  exact record_ev b w _ _ (by rw [full_length, symrec_len w]; decide) hu
theorem symrec_ref_ev (b w : Bool) (f0 f1 f2 f3 f4 f5 : Int) (hu : U64 (symrec_Put.vals w f0 f1 f2 f3 f4 f5)) : Ev (fun k => graverref08_Put.f k w b f0 f1 f2 f3 f4 f5) (recR b w (symrec_Symbol_shape.tab w) (symrec_Put.vals w f0 f1 f2 f3 f4 f5)) := by
  refine Ev.congr (fun k => graverref08_Put.f.eq_1 k w b f0 f1 f2 f3 f4 f5) ?_
  cases w
  · exact ev_neg (by decide) (Ev.bind (refRecord_ev false b _ _ (by decide) hu) (ev_now rfl))
  · exact ev_pos rfl (Ev.bind (refRecord_ev true b _ _ (by decide) hu) (ev_now rfl))
def symrec_setG (p : List Nat) : Nat → List Int → List Int → List Int
  | _, [], m => m
  | i, x :: xs, m => symrec_setG p (i + 1) xs (m.set (p.getD i 0) x)
theorem symrec_go_ev (b w : Bool) (s : ByteArray) (hs : s.size ≤ 140737488351300) (A : List Int) (h8 : In8 A) : ∀ (ra pa : List Int), A = pa ++ ra → ∀ (at_ : Nat), (at_ : Int) + ra.sum ≤ s.size → ∀ m : List Int,
    Ev (fun k => symrec_Read.go k w A ra.length pa.length b s (at_ : Int) false m) (symrec_setG (symrec_Read.perm w) pa.length (nums b ra (s.data.toList.drop at_)) m) := by
  intro ra
  induction ra with
  | nil =>
    intro pa h at_ hat m
    exact Ev.congr (fun k => rfl) (Ev.now m)
  | cons n ra ih =>
    intro pa h at_ hat m
    have hn := h8 n (by rw [h]; simp)
    have h8r : In8 ra := fun y hy => h8 y (by rw [h]; simp [hy])
    have hsr := h8r.sum_ge
    rw [List.sum_cons] at hat
    have hlen : pa.length < A.length := by rw [h]; simp
    have e1 : rd A (pa.length : Int) = ((n.toNat : Nat) : Int) := by rw [Int.toNat_of_nonneg (by omega), h]; exact rd_at pa n ra
    have ih1 := ih (pa ++ [n]) (by rw [h]; simp) (at_ + n.toNat) (by omega) (m.set ((symrec_Read.perm w).getD pa.length 0) (numAt b s.data.toList at_ n.toNat))
    rw [List.length_append, List.length_singleton] at ih1
    refine Ev.congr (fun k => symrec_Read.go.eq_2 k w A pa.length b s _ false m ra.length) (ev_pos hlen ?_)
    rw [e1]
    refine Ev.bind (next_ev b s at_ n.toNat (by omega) (by omega) (by omega) hs) ?_
    rw [nums, symrec_setG, List.drop_drop]
    exact ih1
theorem symrec_read_short (b w : Bool) (s : ByteArray) (h : (s.size : Int) < symrec_total w) : Ev (fun k => symrec_Read.f k b w s) (0, 0, 0, 0, 0, 0, false) :=
  Ev.congr (fun k => symrec_Read.f.eq_1 k b w s) (Ev.bind (symrec_shape_ev b w) (ev_pos h (Ev.now _)))
theorem symrec_read_long (b w : Bool) (s : ByteArray) (hs : s.size ≤ 140737488351300) (h : symrec_total w ≤ (s.size : Int)) : ∃ f0 f1 f2 f3 f4 f5 : Int, Ev (fun k => symrec_Read.f k b w s) (f0, f1, f2, f3, f4, f5, true) ∧ (symrec_Put.vals w f0 f1 f2 f3 f4 f5) = nums b (full w (symrec_Symbol_shape.tab w)) s.data.toList := by
  have hg := symrec_go_ev b w s hs (full w (symrec_Symbol_shape.tab w)) (symrec_in8 w) (full w (symrec_Symbol_shape.tab w)) [] rfl 0 (by rw [symrec_sum]; simpa using h) (List.replicate 6 0)
  have hl := nums_length b (full w (symrec_Symbol_shape.tab w)) s.data.toList
  rw [full_length, symrec_len w] at hl
  rw [List.drop_zero, full_length, symrec_len w] at hg
  obtain ⟨y0, y1, y2, y3, y4, y5, hy⟩ : ∃ y0 y1 y2 y3 y4 y5, nums b (full w (symrec_Symbol_shape.tab w)) s.data.toList = [y0, y1, y2, y3, y4, y5] := by
    revert hl
    generalize nums b (full w (symrec_Symbol_shape.tab w)) s.data.toList = l
    intro hl
    match l, hl with
    | [y0, y1, y2, y3, y4, y5], _ => exact ⟨_, _, _, _, _, _, rfl⟩
  rw [hy] at hg ⊢
  cases w
  · rw [show symrec_setG (symrec_Read.perm false) ([] : List Int).length [y0, y1, y2, y3, y4, y5] (List.replicate 6 0) = [y0, y3, y4, y5, y1, y2] from rfl] at hg
    exact ⟨y0, y3, y4, y5, y1, y2, Ev.congr (fun k => symrec_Read.f.eq_1 k b false s) (Ev.bind (symrec_shape_ev b false) (ev_neg (by omega) (ev_const (order_Order_Read.f.eq_1 b s 0) (Ev.bind hg (ev_now rfl))))), rfl⟩
  · rw [show symrec_setG (symrec_Read.perm true) ([] : List Int).length [y0, y1, y2, y3, y4, y5] (List.replicate 6 0) = [y0, y1, y2, y3, y4, y5] from rfl] at hg
    exact ⟨y0, y1, y2, y3, y4, y5, Ev.congr (fun k => symrec_Read.f.eq_1 k b true s) (Ev.bind (symrec_shape_ev b true) (ev_neg (by omega) (ev_const (order_Order_Read.f.eq_1 b s 0) (Ev.bind hg (ev_now rfl))))), rfl⟩
theorem symrec_inj (w : Bool) (f0 f1 f2 f3 f4 f5 g0 g1 g2 g3 g4 g5 : Int) (h : symrec_Put.vals w f0 f1 f2 f3 f4 f5 = symrec_Put.vals w g0 g1 g2 g3 g4 g5) : f0 = g0 ∧ f1 = g1 ∧ f2 = g2 ∧ f3 = g3 ∧ f4 = g4 ∧ f5 = g5 := by
  cases w
  all_goals
    simp only [symrec_Put.vals, List.cons.injEq, if_true, if_false, Bool.false_eq_true] at h
    simp only [h, and_self]

end Go.Proofs.YtjmjebbjfjgbeaaDoor.Q
