/- The sizes of relocations in all forms are as many words as the document says: for every input; no condition. -/
import Derived.Test.YthbkjppaimjpmaaRel
import Derived.Test.YthbkjppaimjpmaaQ40
namespace Go.Proofs.Ythbkjppaimjpmaa.Pure
open Go.RowKit Go.Proofs.Ythbkjppaimjpmaa.Q Go.Proofs.YthbkjppaimjpmaaW.PrintWords Go.Proofs.YthbkjppaimjpmaaW.PrintLast Go.Proofs.YthbkjppaimjpmaaW.PrintMore Go.Proofs.Ythbkjppaimjpmaa.Mth
set_option linter.unusedVariables false
set_option linter.unusedSimpArgs false

theorem word_wrap (w : Bool) (n : Nat) (hn : n ≤ 3) : wrap64 ((n : Int) * word w) = (n : Int) * word w := by
  unfold word
  split <;> exact wrap64_id (by omega) (by omega)
theorem RelrecSizes : graverlaw09_RelrecSizes.Pure := by
  intro n hn
  refine Ev.rounds (Ev.congr (fun k => graverlaw09_RelrecSizes.f.eq_1 k n) ?_)
  refine Ev.bind speaks09 (ev_pos rfl (ev_const (formOf_is n) ?_))
  by_cases h : (Go.bits .and .i64 n 4) = 4
  · refine ev_pos h ?_
    rw [show ((Go.bits .and .i64 n 4) == 4) = true from beq_iff_eq.2 h]
    refine ev_const (relSize_is _ _ _) (ev_const (word_is _ _) (ev_now ?_))
    have := word_wrap ((Go.bits .and .i64 n 2) == 2) 3 (by omega)
    exact beq_iff_eq.2 this.symm
  · refine ev_neg h ?_
    rw [show ((Go.bits .and .i64 n 4) == 4) = false from beq_eq_false_iff_ne.2 h]
    refine ev_const (relSize_is _ _ _) (ev_const (word_is _ _) (ev_now ?_))
    have := word_wrap ((Go.bits .and .i64 n 2) == 2) 2 (by omega)
    exact beq_iff_eq.2 this.symm

end Go.Proofs.Ythbkjppaimjpmaa.Pure
