/- Any span of any text is that part of it, or it tells that it is not within it: for every input; no condition. -/
import Derived.Test.YteoeohkjomehoaaSp03
import Derived.Test.YteoeohkjomehoaaQ6
namespace Go.Proofs.Yteoeohkjomehoaa.Pure
open Go.RowKit Go.Proofs.Yteoeohkjomehoaa.Q Go.Proofs.YteoeohkjomehoaaW.PrintWords Go.Proofs.YteoeohkjomehoaaW.PrintLast Go.Proofs.YteoeohkjomehoaaW.PrintMore Go.Proofs.Yteoeohkjomehoaa.Mth
set_option linter.unusedVariables false
set_option linter.unusedSimpArgs false

theorem SpanParts : graverlaw02_SpanParts.Pure := by
  intro a n s ha hn hs
  obtain ⟨h0, h1⟩ := wf_u64 ha
  obtain ⟨h2, h3⟩ := wf_u64 hn
  refine Ev.rounds (Ev.congr (fun k => graverlaw02_SpanParts.f.eq_1 k a n s) ?_)
  refine Ev.bind speaks02 (ev_pos rfl ?_)
  rw [wrapu_id (n := (s.size : Int)) (by omega) (by omega)]
  by_cases c : a ≤ (s.size : Int)
  · refine ev_pos c (Ev.bind (part_ev s hs h0 h1 h2 h3) (Ev.bind (in_ev h0 h1 h2 h3 (by omega)) ?_))
    rw [wrapu_id (n := (s.size : Int) - a) (by omega) (by omega)]
    by_cases c2 : n ≤ (s.size : Int) - a
    · rw [if_pos (show a + n ≤ (s.size : Int) by omega), wrapu_id (n := a + n) (by omega) (by omega)]
      refine ev_pos c2 (ev_pos (decide_eq_true (by omega)) (ev_pos rfl (ev_pos h0 (ev_pos (by omega) (ev_pos (by omega) (ev_pos rfl (ev_now rfl)))))))
    · rw [if_neg (show ¬ a + n ≤ (s.size : Int) by omega)]
      exact ev_neg c2 (ev_neg (by simp; omega) (ev_neg (by simp) (ev_now (by show ((⟨#[]⟩ : ByteArray).toList == []) = true; rw [toList_data]; rfl))))
  · refine ev_neg c (Ev.bind (part_ev s hs h0 h1 h2 h3) (Ev.bind (in_ev h0 h1 h2 h3 (by omega)) ?_))
    rw [if_neg (show ¬ a + n ≤ (s.size : Int) by omega)]
    exact ev_neg (by simp; omega) (ev_neg (by simp) (ev_now (by show ((⟨#[]⟩ : ByteArray).toList == []) = true; rw [toList_data]; rfl)))
end Go.Proofs.Yteoeohkjomehoaa.Pure
