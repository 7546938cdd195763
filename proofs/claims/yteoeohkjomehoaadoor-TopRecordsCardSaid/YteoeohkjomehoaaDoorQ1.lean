/- What Go functions of the program compute, each as a Lean function with the proof that the call returns just that. No condition but those in the statements. -/
import Derived.Test.YteoeohkjomehoaaDoorQ0
namespace Go.Proofs.YteoeohkjomehoaaDoor.Q
open Go.RowKit Go.Proofs.YteoeohkjomehoaaDoorW.PrintWords Go.Proofs.YteoeohkjomehoaaDoorW.PrintLast Go.Proofs.YteoeohkjomehoaaDoorW.PrintMore
attribute [local go_sem] max2_int min2_int max_two min_two max_three min_three max_four min_four   -- for this text's walks alone
set_option linter.unusedVariables false
set_option linter.unusedSimpArgs false

theorem eqA25 (d : Nat) (w : World) (x0 y0 : Bool) :
    (Op.equalIn (d + 2) 25 (.agg #[.bool x0]) (.agg #[.bool y0])).run Tryd.prog w = .ok (x0 == y0) w := by
  (refine eqA_of Tryd.underlying25 (by kernel_rfl) ?_); exact eqf_last (by rfl) (by go_simp; rfl) (by go_simp; rfl) (by go_simp)
theorem eqA27 (d : Nat) (w : World) (x0 y0 : Bool) (x1 y1 : Bool) :
    (Op.equalIn (d + 3) 27 (.agg #[.bool x0, .bool x1]) (.agg #[.bool y0, .bool y1])).run Tryd.prog w = .ok ((x0 == y0) && (x1 == y1)) w := by
  (refine eqA_of Tryd.underlying27 (by kernel_rfl) ?_); (refine eqf_cons (by rfl) (by go_simp) (by go_simp) (eqA25 (d + 0) w _ _) ?_); exact eqf_last (by rfl) (by go_simp; rfl) (by go_simp; rfl) (by go_simp)
end Go.Proofs.YteoeohkjomehoaaDoor.Q
