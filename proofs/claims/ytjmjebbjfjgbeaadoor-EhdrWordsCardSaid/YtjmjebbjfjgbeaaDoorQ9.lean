/- What Go functions of the program compute, each as a Lean function with the proof that the call returns just that. No condition but those in the statements. -/
import Derived.Test.YtjmjebbjfjgbeaaDoorQ0
import Derived.Test.YtjmjebbjfjgbeaaDoorPts
import Derived.Test.YtjmjebbjfjgbeaaDoorFmt
namespace Go.Proofs.YtjmjebbjfjgbeaaDoor.Q
open Go.RowKit Go.Proofs.YtjmjebbjfjgbeaaDoorW.PrintWords Go.Proofs.YtjmjebbjfjgbeaaDoorW.PrintLast Go.Proofs.YtjmjebbjfjgbeaaDoorW.PrintMore
attribute [local go_sem] max2_int min2_int max_two min_two max_three min_three max_four min_four   -- for this text's walks alone
set_option linter.unusedVariables false
set_option linter.unusedSimpArgs false

/-! ### strconv_FormatUint: function 52 -/
def strconv_FormatUint.f (a0 a1 : Int) : Option (ByteArray) := if 0 ≤ a0 ∧ a0 < 18446744073709551616 ∧ (a1 = 10 ∨ a1 = 16) then some ⟨(Fmt.fmtOf a0 a1).toArray⟩ else none
theorem strconv_FormatUint.calls (a0 a1 : Int) (r : ByteArray) (w : World) (hlaid_strconv : Laid_strconv w) (h : strconv_FormatUint.f a0 a1 = some r) :
    Calls Tryd.prog 52 #[.int .u64 a0, .int .i64 a1] w fun e w' => e = .returned (.string r) ∧ Below w.heap.size w w' := by
  unfold strconv_FormatUint.f at h
  by_cases c : 0 ≤ a0 ∧ a0 < 18446744073709551616 ∧ (a1 = 10 ∨ a1 = 16)
  · rw [if_pos c] at h
    obtain rfl := Option.some.inj h
    exact Fmt.format a0 a1 c.1 c.2.1 c.2.2 w hlaid_strconv.pow10 hlaid_strconv.bruijn
  · rw [if_neg c] at h
    cases h


end Go.Proofs.YtjmjebbjfjgbeaaDoor.Q
