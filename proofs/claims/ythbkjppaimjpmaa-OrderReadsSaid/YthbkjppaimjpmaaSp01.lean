/- The first words of layer 1's statements: plain. -/
import Derived.Test.YthbkjppaimjpmaaOrd
import Derived.Test.YthbkjppaimjpmaaQ2
namespace Go.Proofs.Ythbkjppaimjpmaa.Q
open Go.RowKit Go.Proofs.YthbkjppaimjpmaaW.PrintWords Go.Proofs.YthbkjppaimjpmaaW.PrintMore Go.Proofs.Ythbkjppaimjpmaa.Mth
set_option linter.unusedVariables false
set_option linter.unusedSimpArgs false

theorem speaks01 : Ev (fun k => graverlaw01_speaks.f k) true := by
  refine Ev.congr (fun k => graverlaw01_speaks.f.eq_1 k) ?_
  refine Ev.bind (put_ev false 258 4 (by decide)) (ev_pos (by rw [toList_data]; decide) ?_)
  refine Ev.bind (put_ev true 258 4 (by decide)) (ev_pos (by rw [toList_data]; decide) ?_)
  exact Ev.bind (get_ev true _) (ev_now (by decide))
end Go.Proofs.Ythbkjppaimjpmaa.Q
