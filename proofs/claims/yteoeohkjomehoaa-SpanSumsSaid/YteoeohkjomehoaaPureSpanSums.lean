/- Sums, products and multiples that stay numbers, or that tell that they don't: for every input; no condition. -/
import Derived.Test.YteoeohkjomehoaaSp03
import Derived.Test.YteoeohkjomehoaaQ8
namespace Go.Proofs.Yteoeohkjomehoaa.Pure
open Go.RowKit Go.Proofs.Yteoeohkjomehoaa.Q Go.Proofs.YteoeohkjomehoaaW.PrintWords Go.Proofs.YteoeohkjomehoaaW.PrintLast Go.Proofs.YteoeohkjomehoaaW.PrintMore Go.Proofs.Yteoeohkjomehoaa.Mth
set_option linter.unusedVariables false
set_option linter.unusedSimpArgs false

theorem sums_j2 {a b t : Int} {x : Bool} (h0 : 0 ≤ a) (h1 : a < 18446744073709551616) (h2 : 0 ≤ b) (h3 : b < 18446744073709551616) (hx : (t, x) = if a + b < 18446744073709551616 then (a + b, true) else (0, false)) :
    Ev (fun k => graverlaw02_SpanSums.j2 k a b t x false) true := by
  refine Ev.step (fun k => graverlaw02_SpanSums.j2.eq_2 a b t x false k) (ev_neg (by decide) (Ev.bind (round_ev h0 h1 h2 h3) ?_))
  by_cases c : b < 2
  · rw [if_pos c]
    exact ev_pos c (ev_pos rfl (ev_now (by simp)))
  · rw [if_neg c, show Int.tmod a b = a % b from Int.tmod_eq_emod_of_nonneg h0]
    refine ev_neg c (ev_neg (by omega) ?_)
    by_cases c2 : a % b = 0
    · rw [if_pos c2]
      exact ev_pos c2 (ev_pos rfl (ev_now (by simp)))
    · have hm := Int.emod_lt_of_pos a (show 0 < b by omega)
      have hm0 := Int.emod_nonneg a (show b ≠ 0 by omega)
      rw [if_neg c2, wrapu_id (n := b - a % b) (by omega) (by omega)]
      refine ev_neg c2 (ev_const (refAdd_eq h0 h1 (by omega) (by omega)) (Ev.bind (end_ev h0 h1 h2 h3) ?_))
      rw [← hx]
      by_cases c3 : a + (b - a % b) < 18446744073709551616
      · rw [if_pos c3]
        refine ev_pos rfl (ev_pos rfl (ev_pos rfl ?_))
        cases x
        · exact ev_neg (by simp) (ev_neg (by simp) (ev_now (by simp)))
        · exact ev_pos rfl (ev_pos rfl (ev_now (by simp)))
      · rw [if_neg c3]
        refine ev_neg (by simp) (ev_neg (by simp) (ev_pos rfl ?_))
        cases x
        · exact ev_neg (by simp) (ev_neg (by simp) (ev_now (by simp)))
        · exact ev_pos rfl (ev_pos rfl (ev_now (by simp)))
theorem sums_j0 {a b s t u : Int} {x y : Bool} (h0 : 0 ≤ a) (h1 : a < 18446744073709551616) (h2 : 0 ≤ b) (h3 : b < 18446744073709551616) (hx : (t, x) = if a + b < 18446744073709551616 then (a + b, true) else (0, false)) :
    Ev (fun k => graverlaw02_SpanSums.j0 k a b u y t x u y) true := by
  refine Ev.step (fun k => graverlaw02_SpanSums.j0.eq_2 a b u y t x u y k) (ev_const (mul_eq h0 h1 h2 h3) ?_)
  have hj := sums_j2 h0 h1 h2 h3 hx
  have key : ∀ fits : Bool, (fits = true ↔ a * b < 18446744073709551616) → Ev (fun k => graverlaw02_SpanSums.j1 k a b u y t x u y (if a * b < 18446744073709551616 then (a * b, true) else (0, false)).1 (if a * b < 18446744073709551616 then (a * b, true) else (0, false)).2 fits) true := by
    intro fits hf
    have hp := Int.mul_nonneg h0 h2
    refine Ev.step (fun k => graverlaw02_SpanSums.j1.eq_2 a b u y t x u y _ _ fits k) ?_
    have inner : Ev (fun k => if fits = true then (if (if a * b < 18446744073709551616 then (a * b, true) else (0, false)).2 = true then (if (if a * b < 18446744073709551616 then (a * b, true) else (0, false)).1 = (IntKind.u64.wrap (a * b)) then (graverlaw02_SpanSums.j2 k a b t x false) else (graverlaw02_SpanSums.j2 k a b t x true)) else (graverlaw02_SpanSums.j2 k a b t x true)) else (if (if a * b < 18446744073709551616 then (a * b, true) else (0, false)).2 = true then (graverlaw02_SpanSums.j2 k a b t x true) else (graverlaw02_SpanSums.j2 k a b t x ((if a * b < 18446744073709551616 then (a * b, true) else (0, false)).1 != 0)))) true := by
      by_cases c : a * b < 18446744073709551616
      · rw [if_pos c]
        exact ev_pos (hf.2 c) (ev_pos rfl (ev_pos (wrapu_id hp c).symm hj))
      · rw [if_neg c]
        exact ev_neg (fun h => c (hf.1 h)) (ev_neg (by simp) hj)
    cases y
    · exact ev_neg (by simp) (ev_neg (by simp) (ev_pos rfl inner))
    · exact ev_pos rfl (ev_pos rfl (ev_pos rfl inner))
  by_cases c : a = 0
  · refine ev_pos c (key true ?_)
    subst c
    simp
  · refine ev_neg c (key _ ?_)
    rw [wrapu_id (Int.ediv_nonneg (by decide) h0) (Int.lt_of_le_of_lt (Int.ediv_le_self _ (by decide)) (by decide))]
    rw [decide_eq_true_iff, Int.le_ediv_iff_mul_le (by omega), Int.mul_comm b a]
    omega
theorem SpanSums : graverlaw02_SpanSums.Pure := by
  intro a b c ha hb hc
  obtain ⟨h0, h1⟩ := wf_u64 ha
  obtain ⟨h2, h3⟩ := wf_u64 hb
  obtain ⟨h4, h5⟩ := wf_u64 hc
  refine Ev.rounds (Ev.congr (fun k => graverlaw02_SpanSums.f.eq_1 k a b c) ?_)
  refine Ev.bind speaks02 (ev_pos rfl ?_)
  have hu : ∀ x ∈ [a, b, c], 0 ≤ x ∧ x < 18446744073709551616 := fun x hx => by
    simp at hx
    rcases hx with rfl | rfl | rfl <;> exact ⟨by assumption, by assumption⟩
  refine Ev.bind (add_ev [a, b, c] (by simp) hu) (ev_const (refAdd_eq h0 h1 h2 h3) ?_)
  by_cases q : a + b < 18446744073709551616
  · rw [if_pos q]
    refine ev_pos rfl (ev_const (refAdd_eq (by omega) q h4 h5) ?_)
    have e : tot 0 [a, b, c] = if a + b + c < 18446744073709551616 then (a + b + c, true) else (0, false) := by
      unfold tot tot tot tot
      rw [if_pos (by omega), Int.zero_add, if_pos q]
    rw [e]
    exact sums_j0 (s := 0) h0 h1 h2 h3 (by rw [if_pos q])
  · rw [if_neg q]
    have e : tot 0 [a, b, c] = (0, false) := by
      unfold tot tot
      rw [if_pos (by omega), Int.zero_add, if_neg q]
    rw [e]
    exact ev_neg (by simp) (sums_j0 (s := 0) h0 h1 h2 h3 (by rw [if_neg q]))
end Go.Proofs.Yteoeohkjomehoaa.Pure
