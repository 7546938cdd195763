/- What Go functions of the program compute, each as a Lean function with the proof that the call returns just that. No condition but those in the statements. -/
import Derived.Test.YtjmjebbjfjgbeaaDoorQ0
import Derived.Test.YtjmjebbjfjgbeaaDoorQ1
import Derived.Test.YtjmjebbjfjgbeaaDoorQ3
import Derived.Test.YtjmjebbjfjgbeaaDoorQ8
import Derived.Test.YtjmjebbjfjgbeaaDoorQ9
import Derived.Test.YtjmjebbjfjgbeaaDoorQ10d
namespace Go.Proofs.YtjmjebbjfjgbeaaDoor.Q
open Go.RowKit Go.Proofs.YtjmjebbjfjgbeaaDoorW.PrintWords Go.Proofs.YtjmjebbjfjgbeaaDoorW.PrintLast Go.Proofs.YtjmjebbjfjgbeaaDoorW.PrintMore
attribute [local go_sem] max2_int min2_int max_two min_two max_three min_three max_four min_four   -- for this text's walks alone
set_option linter.unusedVariables false
set_option linter.unusedSimpArgs false

/-! ### graverlaw05_EhdrChecks: function 7 -/
set_option maxHeartbeats 8000000 in
set_option maxRecDepth 100000 in
theorem graverlaw05_EhdrChecks.calls (k : Nat) (a0 : Int) (a1_0 : Int) (a1_1 : Int) (a1_2 : Int) (a1_3 : Int) (a2_0 : Int) (a2_1 : Int) (r : Bool) (w : World) (hlaid_ehdr : Laid_ehdr w) (hrt : r = true) (h : graverlaw05_EhdrChecks.f k a0 a1_0 a1_1 a1_2 a1_3 a2_0 a2_1 = some r) :
  Calls Tryd.prog 7 #[.int .i64 a0, .agg #[.int .u64 a1_0, .int .u64 a1_1, .int .u64 a1_2, .int .u64 a1_3], .agg #[.int .u64 a2_0, .int .u64 a2_1]] w fun e w' => e = .returned (.bool r) ∧ Below w.heap.size w w' := by
 have hu51 := Tryd.underlying51
 have hu52 := Tryd.underlying52
 have hu29 := Tryd.underlying29
 have hu54 := Tryd.underlying54
 have HB := aS (Below.refl w.heap.size w)
 have HLD_ehdr := aS hlaid_ehdr
 clear hlaid_ehdr
 have HRT := aS hrt
 clear hrt
 have H : ((graverlaw05_speaks.f k).bind fun t182 => (if t182 = true then ((graverlaw05_formOf.f a0).bind fun bt183 => ((ehdr_Plain.f k bt183.1 bt183.2).bind fun bt186 => ((ehdr_Head_Check.f k bt186.1 bt186.2.1 bt186.2.2.1 bt186.2.2.2.1 bt186.2.2.2.2.1 bt186.2.2.2.2.2.1 bt186.2.2.2.2.2.2.1 bt186.2.2.2.2.2.2.2.1 bt186.2.2.2.2.2.2.2.2.1 bt186.2.2.2.2.2.2.2.2.2.1 bt186.2.2.2.2.2.2.2.2.2.2.1 bt186.2.2.2.2.2.2.2.2.2.2.2.1 bt186.2.2.2.2.2.2.2.2.2.2.2.2 bt183.1 bt183.2).bind fun t200 => (if t200 = 0 then ((ehdr_Size.f k bt183.1 bt183.2).bind fun t201 => (if bt186.2.2.2.2.2.2.2.1 = (IntKind.u64.wrap (wrap64 (16 + t201))) then (if bt186.2.2.2.2.2.2.2.2.1 = (IntKind.u64.wrap (wrap64 (32 + (wrap64 (24 * (Go.bits .and .i64 (a0 / 2) 1)))))) then (graverlaw05_EhdrChecks.j0 k (bt186.2.2.2.2.2.2.2.2.2.2.1 != (IntKind.u64.wrap (wrap64 (40 + (wrap64 (24 * (Go.bits .and .i64 (a0 / 2) 1))))))) a1_0 a1_1 a1_2 a1_3 a2_0 a2_1 bt183.1 bt183.2 bt186.1 bt186.2.1 bt186.2.2.1 bt186.2.2.2.1 bt186.2.2.2.2.1 bt186.2.2.2.2.2.1 bt186.2.2.2.2.2.2.1 bt186.2.2.2.2.2.2.2.1 bt186.2.2.2.2.2.2.2.2.1 bt186.2.2.2.2.2.2.2.2.2.1 bt186.2.2.2.2.2.2.2.2.2.2.1 bt186.2.2.2.2.2.2.2.2.2.2.2.1 bt186.2.2.2.2.2.2.2.2.2.2.2.2) else (graverlaw05_EhdrChecks.j0 k true a1_0 a1_1 a1_2 a1_3 a2_0 a2_1 bt183.1 bt183.2 bt186.1 bt186.2.1 bt186.2.2.1 bt186.2.2.2.1 bt186.2.2.2.2.1 bt186.2.2.2.2.2.1 bt186.2.2.2.2.2.2.1 bt186.2.2.2.2.2.2.2.1 bt186.2.2.2.2.2.2.2.2.1 bt186.2.2.2.2.2.2.2.2.2.1 bt186.2.2.2.2.2.2.2.2.2.2.1 bt186.2.2.2.2.2.2.2.2.2.2.2.1 bt186.2.2.2.2.2.2.2.2.2.2.2.2)) else (graverlaw05_EhdrChecks.j0 k true a1_0 a1_1 a1_2 a1_3 a2_0 a2_1 bt183.1 bt183.2 bt186.1 bt186.2.1 bt186.2.2.1 bt186.2.2.2.1 bt186.2.2.2.2.1 bt186.2.2.2.2.2.1 bt186.2.2.2.2.2.2.1 bt186.2.2.2.2.2.2.2.1 bt186.2.2.2.2.2.2.2.2.1 bt186.2.2.2.2.2.2.2.2.2.1 bt186.2.2.2.2.2.2.2.2.2.2.1 bt186.2.2.2.2.2.2.2.2.2.2.2.1 bt186.2.2.2.2.2.2.2.2.2.2.2.2))) else (graverlaw05_EhdrChecks.j0 k true a1_0 a1_1 a1_2 a1_3 a2_0 a2_1 bt183.1 bt183.2 bt186.1 bt186.2.1 bt186.2.2.1 bt186.2.2.2.1 bt186.2.2.2.2.1 bt186.2.2.2.2.2.1 bt186.2.2.2.2.2.2.1 bt186.2.2.2.2.2.2.2.1 bt186.2.2.2.2.2.2.2.2.1 bt186.2.2.2.2.2.2.2.2.2.1 bt186.2.2.2.2.2.2.2.2.2.2.1 bt186.2.2.2.2.2.2.2.2.2.2.2.1 bt186.2.2.2.2.2.2.2.2.2.2.2.2))))) else (some false))) = some r := h
 clear h
 replace H := Option.bind_eq_some_iff.mp H
 obtain ⟨t182, A40, H⟩ := H
 replace H : (if t182 = true then ((graverlaw05_formOf.f a0).bind fun bt183 => ((ehdr_Plain.f k bt183.1 bt183.2).bind fun bt186 => ((ehdr_Head_Check.f k bt186.1 bt186.2.1 bt186.2.2.1 bt186.2.2.2.1 bt186.2.2.2.2.1 bt186.2.2.2.2.2.1 bt186.2.2.2.2.2.2.1 bt186.2.2.2.2.2.2.2.1 bt186.2.2.2.2.2.2.2.2.1 bt186.2.2.2.2.2.2.2.2.2.1 bt186.2.2.2.2.2.2.2.2.2.2.1 bt186.2.2.2.2.2.2.2.2.2.2.2.1 bt186.2.2.2.2.2.2.2.2.2.2.2.2 bt183.1 bt183.2).bind fun t200 => (if t200 = 0 then ((ehdr_Size.f k bt183.1 bt183.2).bind fun t201 => (if bt186.2.2.2.2.2.2.2.1 = (IntKind.u64.wrap (wrap64 (16 + t201))) then (if bt186.2.2.2.2.2.2.2.2.1 = (IntKind.u64.wrap (wrap64 (32 + (wrap64 (24 * (Go.bits .and .i64 (a0 / 2) 1)))))) then (graverlaw05_EhdrChecks.j0 k (bt186.2.2.2.2.2.2.2.2.2.2.1 != (IntKind.u64.wrap (wrap64 (40 + (wrap64 (24 * (Go.bits .and .i64 (a0 / 2) 1))))))) a1_0 a1_1 a1_2 a1_3 a2_0 a2_1 bt183.1 bt183.2 bt186.1 bt186.2.1 bt186.2.2.1 bt186.2.2.2.1 bt186.2.2.2.2.1 bt186.2.2.2.2.2.1 bt186.2.2.2.2.2.2.1 bt186.2.2.2.2.2.2.2.1 bt186.2.2.2.2.2.2.2.2.1 bt186.2.2.2.2.2.2.2.2.2.1 bt186.2.2.2.2.2.2.2.2.2.2.1 bt186.2.2.2.2.2.2.2.2.2.2.2.1 bt186.2.2.2.2.2.2.2.2.2.2.2.2) else (graverlaw05_EhdrChecks.j0 k true a1_0 a1_1 a1_2 a1_3 a2_0 a2_1 bt183.1 bt183.2 bt186.1 bt186.2.1 bt186.2.2.1 bt186.2.2.2.1 bt186.2.2.2.2.1 bt186.2.2.2.2.2.1 bt186.2.2.2.2.2.2.1 bt186.2.2.2.2.2.2.2.1 bt186.2.2.2.2.2.2.2.2.1 bt186.2.2.2.2.2.2.2.2.2.1 bt186.2.2.2.2.2.2.2.2.2.2.1 bt186.2.2.2.2.2.2.2.2.2.2.2.1 bt186.2.2.2.2.2.2.2.2.2.2.2.2)) else (graverlaw05_EhdrChecks.j0 k true a1_0 a1_1 a1_2 a1_3 a2_0 a2_1 bt183.1 bt183.2 bt186.1 bt186.2.1 bt186.2.2.1 bt186.2.2.2.1 bt186.2.2.2.2.1 bt186.2.2.2.2.2.1 bt186.2.2.2.2.2.2.1 bt186.2.2.2.2.2.2.2.1 bt186.2.2.2.2.2.2.2.2.1 bt186.2.2.2.2.2.2.2.2.2.1 bt186.2.2.2.2.2.2.2.2.2.2.1 bt186.2.2.2.2.2.2.2.2.2.2.2.1 bt186.2.2.2.2.2.2.2.2.2.2.2.2))) else (graverlaw05_EhdrChecks.j0 k true a1_0 a1_1 a1_2 a1_3 a2_0 a2_1 bt183.1 bt183.2 bt186.1 bt186.2.1 bt186.2.2.1 bt186.2.2.2.1 bt186.2.2.2.2.1 bt186.2.2.2.2.2.1 bt186.2.2.2.2.2.2.1 bt186.2.2.2.2.2.2.2.1 bt186.2.2.2.2.2.2.2.2.1 bt186.2.2.2.2.2.2.2.2.2.1 bt186.2.2.2.2.2.2.2.2.2.2.1 bt186.2.2.2.2.2.2.2.2.2.2.2.1 bt186.2.2.2.2.2.2.2.2.2.2.2.2))))) else (some false)) = some r := H
 have A4 := aS A40
 clear A40
 by_cases c5 : t182 = true
 ·
  subst c5
  have H1 : ((graverlaw05_formOf.f a0).bind fun bt183 => ((ehdr_Plain.f k bt183.1 bt183.2).bind fun bt186 => ((ehdr_Head_Check.f k bt186.1 bt186.2.1 bt186.2.2.1 bt186.2.2.2.1 bt186.2.2.2.2.1 bt186.2.2.2.2.2.1 bt186.2.2.2.2.2.2.1 bt186.2.2.2.2.2.2.2.1 bt186.2.2.2.2.2.2.2.2.1 bt186.2.2.2.2.2.2.2.2.2.1 bt186.2.2.2.2.2.2.2.2.2.2.1 bt186.2.2.2.2.2.2.2.2.2.2.2.1 bt186.2.2.2.2.2.2.2.2.2.2.2.2 bt183.1 bt183.2).bind fun t200 => (if t200 = 0 then ((ehdr_Size.f k bt183.1 bt183.2).bind fun t201 => (if bt186.2.2.2.2.2.2.2.1 = (IntKind.u64.wrap (wrap64 (16 + t201))) then (if bt186.2.2.2.2.2.2.2.2.1 = (IntKind.u64.wrap (wrap64 (32 + (wrap64 (24 * (Go.bits .and .i64 (a0 / 2) 1)))))) then (graverlaw05_EhdrChecks.j0 k (bt186.2.2.2.2.2.2.2.2.2.2.1 != (IntKind.u64.wrap (wrap64 (40 + (wrap64 (24 * (Go.bits .and .i64 (a0 / 2) 1))))))) a1_0 a1_1 a1_2 a1_3 a2_0 a2_1 bt183.1 bt183.2 bt186.1 bt186.2.1 bt186.2.2.1 bt186.2.2.2.1 bt186.2.2.2.2.1 bt186.2.2.2.2.2.1 bt186.2.2.2.2.2.2.1 bt186.2.2.2.2.2.2.2.1 bt186.2.2.2.2.2.2.2.2.1 bt186.2.2.2.2.2.2.2.2.2.1 bt186.2.2.2.2.2.2.2.2.2.2.1 bt186.2.2.2.2.2.2.2.2.2.2.2.1 bt186.2.2.2.2.2.2.2.2.2.2.2.2) else (graverlaw05_EhdrChecks.j0 k true a1_0 a1_1 a1_2 a1_3 a2_0 a2_1 bt183.1 bt183.2 bt186.1 bt186.2.1 bt186.2.2.1 bt186.2.2.2.1 bt186.2.2.2.2.1 bt186.2.2.2.2.2.1 bt186.2.2.2.2.2.2.1 bt186.2.2.2.2.2.2.2.1 bt186.2.2.2.2.2.2.2.2.1 bt186.2.2.2.2.2.2.2.2.2.1 bt186.2.2.2.2.2.2.2.2.2.2.1 bt186.2.2.2.2.2.2.2.2.2.2.2.1 bt186.2.2.2.2.2.2.2.2.2.2.2.2)) else (graverlaw05_EhdrChecks.j0 k true a1_0 a1_1 a1_2 a1_3 a2_0 a2_1 bt183.1 bt183.2 bt186.1 bt186.2.1 bt186.2.2.1 bt186.2.2.2.1 bt186.2.2.2.2.1 bt186.2.2.2.2.2.1 bt186.2.2.2.2.2.2.1 bt186.2.2.2.2.2.2.2.1 bt186.2.2.2.2.2.2.2.2.1 bt186.2.2.2.2.2.2.2.2.2.1 bt186.2.2.2.2.2.2.2.2.2.2.1 bt186.2.2.2.2.2.2.2.2.2.2.2.1 bt186.2.2.2.2.2.2.2.2.2.2.2.2))) else (graverlaw05_EhdrChecks.j0 k true a1_0 a1_1 a1_2 a1_3 a2_0 a2_1 bt183.1 bt183.2 bt186.1 bt186.2.1 bt186.2.2.1 bt186.2.2.2.1 bt186.2.2.2.2.1 bt186.2.2.2.2.2.1 bt186.2.2.2.2.2.2.1 bt186.2.2.2.2.2.2.2.1 bt186.2.2.2.2.2.2.2.2.1 bt186.2.2.2.2.2.2.2.2.2.1 bt186.2.2.2.2.2.2.2.2.2.2.1 bt186.2.2.2.2.2.2.2.2.2.2.2.1 bt186.2.2.2.2.2.2.2.2.2.2.2.2))))) = some r := by rw [if_pos rfl] at H; exact H
  clear H
  have H := H1
  clear H1
  replace H := Option.bind_eq_some_iff.mp H
  obtain ⟨⟨t183, t184⟩, A60, H⟩ := H
  replace H : ((ehdr_Plain.f k t183 t184).bind fun bt186 => ((ehdr_Head_Check.f k bt186.1 bt186.2.1 bt186.2.2.1 bt186.2.2.2.1 bt186.2.2.2.2.1 bt186.2.2.2.2.2.1 bt186.2.2.2.2.2.2.1 bt186.2.2.2.2.2.2.2.1 bt186.2.2.2.2.2.2.2.2.1 bt186.2.2.2.2.2.2.2.2.2.1 bt186.2.2.2.2.2.2.2.2.2.2.1 bt186.2.2.2.2.2.2.2.2.2.2.2.1 bt186.2.2.2.2.2.2.2.2.2.2.2.2 t183 t184).bind fun t200 => (if t200 = 0 then ((ehdr_Size.f k t183 t184).bind fun t201 => (if bt186.2.2.2.2.2.2.2.1 = (IntKind.u64.wrap (wrap64 (16 + t201))) then (if bt186.2.2.2.2.2.2.2.2.1 = (IntKind.u64.wrap (wrap64 (32 + (wrap64 (24 * (Go.bits .and .i64 (a0 / 2) 1)))))) then (graverlaw05_EhdrChecks.j0 k (bt186.2.2.2.2.2.2.2.2.2.2.1 != (IntKind.u64.wrap (wrap64 (40 + (wrap64 (24 * (Go.bits .and .i64 (a0 / 2) 1))))))) a1_0 a1_1 a1_2 a1_3 a2_0 a2_1 t183 t184 bt186.1 bt186.2.1 bt186.2.2.1 bt186.2.2.2.1 bt186.2.2.2.2.1 bt186.2.2.2.2.2.1 bt186.2.2.2.2.2.2.1 bt186.2.2.2.2.2.2.2.1 bt186.2.2.2.2.2.2.2.2.1 bt186.2.2.2.2.2.2.2.2.2.1 bt186.2.2.2.2.2.2.2.2.2.2.1 bt186.2.2.2.2.2.2.2.2.2.2.2.1 bt186.2.2.2.2.2.2.2.2.2.2.2.2) else (graverlaw05_EhdrChecks.j0 k true a1_0 a1_1 a1_2 a1_3 a2_0 a2_1 t183 t184 bt186.1 bt186.2.1 bt186.2.2.1 bt186.2.2.2.1 bt186.2.2.2.2.1 bt186.2.2.2.2.2.1 bt186.2.2.2.2.2.2.1 bt186.2.2.2.2.2.2.2.1 bt186.2.2.2.2.2.2.2.2.1 bt186.2.2.2.2.2.2.2.2.2.1 bt186.2.2.2.2.2.2.2.2.2.2.1 bt186.2.2.2.2.2.2.2.2.2.2.2.1 bt186.2.2.2.2.2.2.2.2.2.2.2.2)) else (graverlaw05_EhdrChecks.j0 k true a1_0 a1_1 a1_2 a1_3 a2_0 a2_1 t183 t184 bt186.1 bt186.2.1 bt186.2.2.1 bt186.2.2.2.1 bt186.2.2.2.2.1 bt186.2.2.2.2.2.1 bt186.2.2.2.2.2.2.1 bt186.2.2.2.2.2.2.2.1 bt186.2.2.2.2.2.2.2.2.1 bt186.2.2.2.2.2.2.2.2.2.1 bt186.2.2.2.2.2.2.2.2.2.2.1 bt186.2.2.2.2.2.2.2.2.2.2.2.1 bt186.2.2.2.2.2.2.2.2.2.2.2.2))) else (graverlaw05_EhdrChecks.j0 k true a1_0 a1_1 a1_2 a1_3 a2_0 a2_1 t183 t184 bt186.1 bt186.2.1 bt186.2.2.1 bt186.2.2.2.1 bt186.2.2.2.2.1 bt186.2.2.2.2.2.1 bt186.2.2.2.2.2.2.1 bt186.2.2.2.2.2.2.2.1 bt186.2.2.2.2.2.2.2.2.1 bt186.2.2.2.2.2.2.2.2.2.1 bt186.2.2.2.2.2.2.2.2.2.2.1 bt186.2.2.2.2.2.2.2.2.2.2.2.1 bt186.2.2.2.2.2.2.2.2.2.2.2.2)))) = some r := H
  have A6 := aS A60
  clear A60
  replace H := Option.bind_eq_some_iff.mp H
  obtain ⟨⟨t186, t187, t188, t189, t190, t191, t192, t193, t194, t195, t196, t197, t198⟩, A70, H⟩ := H
  replace H : ((ehdr_Head_Check.f k t186 t187 t188 t189 t190 t191 t192 t193 t194 t195 t196 t197 t198 t183 t184).bind fun t200 => (if t200 = 0 then ((ehdr_Size.f k t183 t184).bind fun t201 => (if t193 = (IntKind.u64.wrap (wrap64 (16 + t201))) then (if t194 = (IntKind.u64.wrap (wrap64 (32 + (wrap64 (24 * (Go.bits .and .i64 (a0 / 2) 1)))))) then (graverlaw05_EhdrChecks.j0 k (t196 != (IntKind.u64.wrap (wrap64 (40 + (wrap64 (24 * (Go.bits .and .i64 (a0 / 2) 1))))))) a1_0 a1_1 a1_2 a1_3 a2_0 a2_1 t183 t184 t186 t187 t188 t189 t190 t191 t192 t193 t194 t195 t196 t197 t198) else (graverlaw05_EhdrChecks.j0 k true a1_0 a1_1 a1_2 a1_3 a2_0 a2_1 t183 t184 t186 t187 t188 t189 t190 t191 t192 t193 t194 t195 t196 t197 t198)) else (graverlaw05_EhdrChecks.j0 k true a1_0 a1_1 a1_2 a1_3 a2_0 a2_1 t183 t184 t186 t187 t188 t189 t190 t191 t192 t193 t194 t195 t196 t197 t198))) else (graverlaw05_EhdrChecks.j0 k true a1_0 a1_1 a1_2 a1_3 a2_0 a2_1 t183 t184 t186 t187 t188 t189 t190 t191 t192 t193 t194 t195 t196 t197 t198))) = some r := H
  have A7 := aS A70
  clear A70
  have HC8 := aS H
  clear H
  go_enter Tryd.func7, Tryd.ntmps7
  go_upto_region 5 with (first|((with_reducible refine gate_dst (N := 4) rfl ?_); refine box_event ?hg (N := 4) ?hd (cs := #[.int .u64 a1_0, .int .u64 a1_1, .int .u64 a1_2, .int .u64 a1_3]) (t := 51) ?hr ?_; (case hd => rfl); (case hg => rfl); (case hr => (go_simp; try rfl)); intro gb180 hg w9 hbox hb; have n0_ := aS (below_step (by repeat (first|(with_reducible first|exact HB.out|apply below_alloc|apply pw_below_drewN|apply below_drew1)|exact HB.out)) hb); have n1_ := aS (hbox); have n2_ := aS ((by rw [hg]; exact (below_size (by repeat (first|(with_reducible first|exact HB.out|apply below_alloc|apply pw_below_drewN|apply below_drew1)|exact HB.out))) : w.heap.size ≤ gb180)); have n3_ := aS ((by rw [hg]; exact (below_size (by repeat (first|(with_reducible first|exact HB.out|apply below_alloc|apply pw_below_drewN|apply below_drew1)|exact HB.out))) : w.heap.size ≤ gb180)); clear HB; have HB := n0_; have BK180 := n1_; have GW180 := n2_; have GE180 := n3_; clear n0_ n1_ n2_ n3_; clear hb hbox hg)|((with_reducible refine gate_dst (N := 5) rfl ?_); refine box_event ?hg (N := 5) ?hd (cs := #[.int .u64 a2_0, .int .u64 a2_1]) (t := 52) ?hr ?_; (case hd => rfl); (case hg => rfl); (case hr => (go_simp; try rfl)); intro gb181 hg w10 hbox hb; have n0_ := aS (blk_below (g := gb180) (o := .cells #[.int .u64 a1_0, .int .u64 a1_1, .int .u64 a1_2, .int .u64 a1_3] 51 (0, 0)) (by (with_reducible repeat (first|apply bN|apply bD|apply bA)); exact BK180.out) hb); have n1_ := aS (below_step (by repeat (first|(with_reducible first|exact HB.out|apply eA|apply eN|apply eD|refine below_set ?_ GE180.out)|exact HB.out)) hb); have n2_ := aS (hbox); have n3_ := aS ((by rw [hg]; exact (below_size (by repeat (first|(with_reducible first|exact HB.out|apply eA|apply eN|apply eD|refine below_set ?_ GE180.out)|exact HB.out))) : w.heap.size ≤ gb181)); have n4_ := aS ((by rw [hg]; exact (below_size (by repeat (first|(with_reducible first|exact HB.out|apply eA|apply eN|apply eD|refine below_set ?_ GE180.out)|exact HB.out))) : w.heap.size ≤ gb181)); have n5_ := aS ((by rw [hg]; exact Nat.ne_of_lt (blk_lt (g := gb180) (o := .cells #[.int .u64 a1_0, .int .u64 a1_1, .int .u64 a1_2, .int .u64 a1_3] 51 (0, 0)) (by (with_reducible repeat (first|apply bN|apply bD|apply bA)); exact BK180.out)) : gb180 ≠ gb181)); have n6_ := aS ((by rw [hg]; exact Nat.ne_of_gt (blk_lt (g := gb180) (o := .cells #[.int .u64 a1_0, .int .u64 a1_1, .int .u64 a1_2, .int .u64 a1_3] 51 (0, 0)) (by (with_reducible repeat (first|apply bN|apply bD|apply bA)); exact BK180.out)) : gb181 ≠ gb180)); clear BK180; clear HB; have BK180 := n0_; have HB := n1_; have BK181 := n2_; have GW181 := n3_; have GE181 := n4_; have NB180_181 := n5_; have NB181_180 := n6_; clear n0_ n1_ n2_ n3_ n4_ n5_ n6_; clear hb hbox hg)|((with_reducible refine gate_callee (f := 22) rfl ?_); refine goesL_ (some 11) rfl rfl Tryd.func22 (by kernel_rfl) rfl #[] rfl (by (try simp only [List.map_toArray, List.map_cons, List.map_nil]); first|done|rfl|(simp only [List.length_drop, List.length_take]; rfl)) ?_; (with_reducible refine (graverlaw05_speaks.calls k  true _ ?side1 A4.out).mono ?_); (case side1 => exact Laid_ehdr.below HLD_ehdr.out (by repeat (first|(with_reducible first|exact HB.out|apply eA|apply eN|apply eD|refine below_set ?_ GE180.out|refine below_set ?_ GE181.out)|exact HB.out))); rintro e w11 ⟨rfl, hb⟩; refine ⟨_, rfl, ?_⟩; have n0_ := aS (blk_below (g := gb180) (o := .cells #[.int .u64 a1_0, .int .u64 a1_1, .int .u64 a1_2, .int .u64 a1_3] 51 (0, 0)) (by (with_reducible repeat (first|apply bN|apply bD|apply bA)); exact BK180.out) hb); have n1_ := aS (blk_below (g := gb181) (o := .cells #[.int .u64 a2_0, .int .u64 a2_1] 52 (0, 0)) (by (with_reducible repeat (first|apply bN|apply bD|apply bA)); exact BK181.out) hb); have n2_ := aS (below_step (by repeat (first|(with_reducible first|exact HB.out|apply eA|apply eN|apply eD|refine below_set ?_ GE180.out|refine below_set ?_ GE181.out)|exact HB.out)) hb); clear BK180; clear BK181; clear HB; have BK180 := n0_; have BK181 := n1_; have HB := n2_; clear n0_ n1_ n2_; (try clear hb); (try clear hb2); (try clear hk); (try clear hi))|((with_reducible refine gate_callee (f := 23) rfl ?_); refine goesL_ (some 14) rfl rfl Tryd.func23 (by kernel_rfl) rfl #[.int .i64 a0] rfl (by (try simp only [List.map_toArray, List.map_cons, List.map_nil]); first|done|rfl|(simp only [List.length_drop, List.length_take]; rfl)) ?_; (with_reducible refine (graverlaw05_formOf.calls a0 t183 t184 _ A6.out).mono ?_); rintro e w12 ⟨rfl, hb⟩; refine ⟨_, rfl, ?_⟩; have n0_ := aS (blk_below (g := gb180) (o := .cells #[.int .u64 a1_0, .int .u64 a1_1, .int .u64 a1_2, .int .u64 a1_3] 51 (0, 0)) (by (with_reducible repeat (first|apply bN|apply bD|apply bA)); exact BK180.out) hb); have n1_ := aS (blk_below (g := gb181) (o := .cells #[.int .u64 a2_0, .int .u64 a2_1] 52 (0, 0)) (by (with_reducible repeat (first|apply bN|apply bD|apply bA)); exact BK181.out) hb); have n2_ := aS (below_step (by repeat (first|(with_reducible first|exact HB.out|apply eA|apply eN|apply eD|refine below_set ?_ GE180.out|refine below_set ?_ GE181.out)|exact HB.out)) hb); clear BK180; clear BK181; clear HB; have BK180 := n0_; have BK181 := n1_; have HB := n2_; clear n0_ n1_ n2_; (try clear hb); (try clear hb2); (try clear hk); (try clear hi))|((with_reducible refine gate_dst (N := 7) rfl ?_); refine box_event ?hg (N := 7) ?hd (cs := #[.bool false, .bool false]) (t := 29) ?hr ?_; (case hd => rfl); (case hg => rfl); (case hr => (go_simp; try rfl)); intro gb185 hg w13 hbox hb; have n0_ := aS (blk_below (g := gb180) (o := .cells #[.int .u64 a1_0, .int .u64 a1_1, .int .u64 a1_2, .int .u64 a1_3] 51 (0, 0)) (by (with_reducible repeat (first|apply bN|apply bD|apply bA)); exact BK180.out) hb); have n1_ := aS (blk_below (g := gb181) (o := .cells #[.int .u64 a2_0, .int .u64 a2_1] 52 (0, 0)) (by (with_reducible repeat (first|apply bN|apply bD|apply bA)); exact BK181.out) hb); have n2_ := aS (below_step (by repeat (first|(with_reducible first|exact HB.out|apply eA|apply eN|apply eD|refine below_set ?_ GE180.out|refine below_set ?_ GE181.out)|exact HB.out)) hb); have n3_ := aS (hbox); have n4_ := aS ((by rw [hg]; exact (below_size (by repeat (first|(with_reducible first|exact HB.out|apply eA|apply eN|apply eD|refine below_set ?_ GE180.out|refine below_set ?_ GE181.out)|exact HB.out))) : w.heap.size ≤ gb185)); have n5_ := aS ((by rw [hg]; exact (below_size (by repeat (first|(with_reducible first|exact HB.out|apply eA|apply eN|apply eD|refine below_set ?_ GE180.out|refine below_set ?_ GE181.out)|exact HB.out))) : w.heap.size ≤ gb185)); have n6_ := aS ((by rw [hg]; exact Nat.ne_of_lt (blk_lt (g := gb180) (o := .cells #[.int .u64 a1_0, .int .u64 a1_1, .int .u64 a1_2, .int .u64 a1_3] 51 (0, 0)) (by (with_reducible repeat (first|apply bN|apply bD|apply bA)); exact BK180.out)) : gb180 ≠ gb185)); have n7_ := aS ((by rw [hg]; exact Nat.ne_of_gt (blk_lt (g := gb180) (o := .cells #[.int .u64 a1_0, .int .u64 a1_1, .int .u64 a1_2, .int .u64 a1_3] 51 (0, 0)) (by (with_reducible repeat (first|apply bN|apply bD|apply bA)); exact BK180.out)) : gb185 ≠ gb180)); have n8_ := aS ((by rw [hg]; exact Nat.ne_of_lt (blk_lt (g := gb181) (o := .cells #[.int .u64 a2_0, .int .u64 a2_1] 52 (0, 0)) (by (with_reducible repeat (first|apply bN|apply bD|apply bA)); exact BK181.out)) : gb181 ≠ gb185)); have n9_ := aS ((by rw [hg]; exact Nat.ne_of_gt (blk_lt (g := gb181) (o := .cells #[.int .u64 a2_0, .int .u64 a2_1] 52 (0, 0)) (by (with_reducible repeat (first|apply bN|apply bD|apply bA)); exact BK181.out)) : gb185 ≠ gb181)); clear BK180; clear BK181; clear HB; have BK180 := n0_; have BK181 := n1_; have HB := n2_; have BK185 := n3_; have GW185 := n4_; have GE185 := n5_; have NB180_185 := n6_; have NB185_180 := n7_; have NB181_185 := n8_; have NB185_181 := n9_; clear n0_ n1_ n2_ n3_ n4_ n5_ n6_ n7_ n8_ n9_; clear hb hbox hg; have hnb14 := NB185_180.out; have hnc14 := NB180_185.out; have hnb15 := NB185_181.out; have hnc15 := NB181_185.out; have hcz16_0 : w13.cell? ⟨gb185, 0, none⟩ = some (.bool false) := (blk_cell BK185.out 0).trans rfl; have hcz16_1 : w13.cell? ⟨gb185, 1, none⟩ = some (.bool false) := (blk_cell BK185.out 1).trans rfl; have hfz16_0 := blk_frozen BK185.out 0; have hfz16_1 := blk_frozen BK185.out 1)|((with_reducible refine gate_callee (f := 24) rfl ?_); refine goesL_ (some 16) rfl rfl Tryd.func24 (by kernel_rfl) rfl #[.agg #[.bool t183, .bool t184]] rfl (by (try simp only [List.map_toArray, List.map_cons, List.map_nil]); first|done|rfl|(simp only [List.length_drop, List.length_take]; rfl)) ?_; (with_reducible refine (ehdr_Plain.calls k t183 t184 t186 t187 t188 t189 t190 t191 t192 t193 t194 t195 t196 t197 t198 _ ?side1 A7.out).mono ?_); (case side1 => exact Laid_ehdr.below HLD_ehdr.out (by repeat (first|(with_reducible first|exact HB.out|apply eA|apply eN|apply eD|refine below_set ?_ GE180.out|refine below_set ?_ GE181.out|refine below_set ?_ GE185.out)|exact HB.out))); rintro e w17 ⟨rfl, hb⟩; refine ⟨_, rfl, ?_⟩; have n0_ := aS (blk_below (g := gb180) (o := .cells #[.int .u64 a1_0, .int .u64 a1_1, .int .u64 a1_2, .int .u64 a1_3] 51 (0, 0)) (by (with_reducible repeat (first|apply bN|apply bD|apply bA)); refine blk_far ?_ NB180_185.out _; (with_reducible repeat (first|apply bN|apply bD|apply bA)); refine blk_far ?_ NB180_185.out _; (with_reducible repeat (first|apply bN|apply bD|apply bA)); exact BK180.out) hb); have n1_ := aS (blk_below (g := gb181) (o := .cells #[.int .u64 a2_0, .int .u64 a2_1] 52 (0, 0)) (by (with_reducible repeat (first|apply bN|apply bD|apply bA)); refine blk_far ?_ NB181_185.out _; (with_reducible repeat (first|apply bN|apply bD|apply bA)); refine blk_far ?_ NB181_185.out _; (with_reducible repeat (first|apply bN|apply bD|apply bA)); exact BK181.out) hb); have n2_ := aS (blk_below (g := gb185) (o := .cells #[.bool t183, .bool t184] 29 (0, 0)) (by (with_reducible repeat (first|apply bN|apply bD|apply bA)); refine blk_put (cs := #[.bool t183, .bool false]) ?_ 1 _ rfl; (with_reducible repeat (first|apply bN|apply bD|apply bA)); refine blk_put (cs := #[.bool false, .bool false]) ?_ 0 _ rfl; (with_reducible repeat (first|apply bN|apply bD|apply bA)); exact BK185.out) hb); have n3_ := aS (below_step (by repeat (first|(with_reducible first|exact HB.out|apply eA|apply eN|apply eD|refine below_set ?_ GE180.out|refine below_set ?_ GE181.out|refine below_set ?_ GE185.out)|exact HB.out)) hb); clear BK180; clear BK181; clear BK185; clear HB; have BK180 := n0_; have BK181 := n1_; have BK185 := n2_; have HB := n3_; clear n0_ n1_ n2_ n3_; (try clear hb); (try clear hb2); (try clear hk); (try clear hi))|((with_reducible refine gate_dst (N := 8) rfl ?_); refine box_event ?hg (N := 8) ?hd (cs := #[.int .u64 0, .int .u64 0, .int .u64 0, .int .u64 0, .int .u64 0, .int .u64 0, .int .u64 0, .int .u64 0, .int .u64 0, .int .u64 0, .int .u64 0, .int .u64 0, .int .u64 0]) (t := 54) ?hr ?_; (case hd => rfl); (case hg => rfl); (case hr => (go_simp; try rfl)); intro gb199 hg w18 hbox hb; have n0_ := aS (blk_below (g := gb180) (o := .cells #[.int .u64 a1_0, .int .u64 a1_1, .int .u64 a1_2, .int .u64 a1_3] 51 (0, 0)) (by (with_reducible repeat (first|apply bN|apply bD|apply bA)); exact BK180.out) hb); have n1_ := aS (blk_below (g := gb181) (o := .cells #[.int .u64 a2_0, .int .u64 a2_1] 52 (0, 0)) (by (with_reducible repeat (first|apply bN|apply bD|apply bA)); exact BK181.out) hb); have n2_ := aS (blk_below (g := gb185) (o := .cells #[.bool t183, .bool t184] 29 (0, 0)) (by (with_reducible repeat (first|apply bN|apply bD|apply bA)); exact BK185.out) hb); have n3_ := aS (below_step (by repeat (first|(with_reducible first|exact HB.out|apply eA|apply eN|apply eD|refine below_set ?_ GE180.out|refine below_set ?_ GE181.out|refine below_set ?_ GE185.out)|exact HB.out)) hb); have n4_ := aS (hbox); have n5_ := aS ((by rw [hg]; exact (below_size (by repeat (first|(with_reducible first|exact HB.out|apply eA|apply eN|apply eD|refine below_set ?_ GE180.out|refine below_set ?_ GE181.out|refine below_set ?_ GE185.out)|exact HB.out))) : w.heap.size ≤ gb199)); have n6_ := aS ((by rw [hg]; exact (below_size (by repeat (first|(with_reducible first|exact HB.out|apply eA|apply eN|apply eD|refine below_set ?_ GE180.out|refine below_set ?_ GE181.out|refine below_set ?_ GE185.out)|exact HB.out))) : w.heap.size ≤ gb199)); have n7_ := aS ((by rw [hg]; exact Nat.ne_of_lt (blk_lt (g := gb180) (o := .cells #[.int .u64 a1_0, .int .u64 a1_1, .int .u64 a1_2, .int .u64 a1_3] 51 (0, 0)) (by (with_reducible repeat (first|apply bN|apply bD|apply bA)); exact BK180.out)) : gb180 ≠ gb199)); have n8_ := aS ((by rw [hg]; exact Nat.ne_of_gt (blk_lt (g := gb180) (o := .cells #[.int .u64 a1_0, .int .u64 a1_1, .int .u64 a1_2, .int .u64 a1_3] 51 (0, 0)) (by (with_reducible repeat (first|apply bN|apply bD|apply bA)); exact BK180.out)) : gb199 ≠ gb180)); have n9_ := aS ((by rw [hg]; exact Nat.ne_of_lt (blk_lt (g := gb181) (o := .cells #[.int .u64 a2_0, .int .u64 a2_1] 52 (0, 0)) (by (with_reducible repeat (first|apply bN|apply bD|apply bA)); exact BK181.out)) : gb181 ≠ gb199)); have n10_ := aS ((by rw [hg]; exact Nat.ne_of_gt (blk_lt (g := gb181) (o := .cells #[.int .u64 a2_0, .int .u64 a2_1] 52 (0, 0)) (by (with_reducible repeat (first|apply bN|apply bD|apply bA)); exact BK181.out)) : gb199 ≠ gb181)); have n11_ := aS ((by rw [hg]; exact Nat.ne_of_lt (blk_lt (g := gb185) (o := .cells #[.bool t183, .bool t184] 29 (0, 0)) (by (with_reducible repeat (first|apply bN|apply bD|apply bA)); exact BK185.out)) : gb185 ≠ gb199)); have n12_ := aS ((by rw [hg]; exact Nat.ne_of_gt (blk_lt (g := gb185) (o := .cells #[.bool t183, .bool t184] 29 (0, 0)) (by (with_reducible repeat (first|apply bN|apply bD|apply bA)); exact BK185.out)) : gb199 ≠ gb185)); clear BK180; clear BK181; clear BK185; clear HB; have BK180 := n0_; have BK181 := n1_; have BK185 := n2_; have HB := n3_; have BK199 := n4_; have GW199 := n5_; have GE199 := n6_; have NB180_199 := n7_; have NB199_180 := n8_; have NB181_199 := n9_; have NB199_181 := n10_; have NB185_199 := n11_; have NB199_185 := n12_; clear n0_ n1_ n2_ n3_ n4_ n5_ n6_ n7_ n8_ n9_ n10_ n11_ n12_; clear hb hbox hg; have hnb19 := NB199_180.out; have hnc19 := NB180_199.out; have hnb20 := NB199_181.out; have hnc20 := NB181_199.out; have hnb21 := NB199_185.out; have hnc21 := NB185_199.out; have hcz22_0 : w18.cell? ⟨gb199, 0, none⟩ = some (.int .u64 0) := (blk_cell BK199.out 0).trans rfl; have hcz22_1 : w18.cell? ⟨gb199, 1, none⟩ = some (.int .u64 0) := (blk_cell BK199.out 1).trans rfl; have hcz22_2 : w18.cell? ⟨gb199, 2, none⟩ = some (.int .u64 0) := (blk_cell BK199.out 2).trans rfl; have hcz22_3 : w18.cell? ⟨gb199, 3, none⟩ = some (.int .u64 0) := (blk_cell BK199.out 3).trans rfl; have hcz22_4 : w18.cell? ⟨gb199, 4, none⟩ = some (.int .u64 0) := (blk_cell BK199.out 4).trans rfl; have hcz22_5 : w18.cell? ⟨gb199, 5, none⟩ = some (.int .u64 0) := (blk_cell BK199.out 5).trans rfl; have hcz22_6 : w18.cell? ⟨gb199, 6, none⟩ = some (.int .u64 0) := (blk_cell BK199.out 6).trans rfl; have hcz22_7 : w18.cell? ⟨gb199, 7, none⟩ = some (.int .u64 0) := (blk_cell BK199.out 7).trans rfl; have hcz22_8 : w18.cell? ⟨gb199, 8, none⟩ = some (.int .u64 0) := (blk_cell BK199.out 8).trans rfl; have hcz22_9 : w18.cell? ⟨gb199, 9, none⟩ = some (.int .u64 0) := (blk_cell BK199.out 9).trans rfl; have hcz22_10 : w18.cell? ⟨gb199, 10, none⟩ = some (.int .u64 0) := (blk_cell BK199.out 10).trans rfl; have hcz22_11 : w18.cell? ⟨gb199, 11, none⟩ = some (.int .u64 0) := (blk_cell BK199.out 11).trans rfl; have hcz22_12 : w18.cell? ⟨gb199, 12, none⟩ = some (.int .u64 0) := (blk_cell BK199.out 12).trans rfl; have hfz22_0 := blk_frozen BK199.out 0; have hfz22_1 := blk_frozen BK199.out 1; have hfz22_2 := blk_frozen BK199.out 2; have hfz22_3 := blk_frozen BK199.out 3; have hfz22_4 := blk_frozen BK199.out 4; have hfz22_5 := blk_frozen BK199.out 5; have hfz22_6 := blk_frozen BK199.out 6; have hfz22_7 := blk_frozen BK199.out 7; have hfz22_8 := blk_frozen BK199.out 8; have hfz22_9 := blk_frozen BK199.out 9; have hfz22_10 := blk_frozen BK199.out 10; have hfz22_11 := blk_frozen BK199.out 11; have hfz22_12 := blk_frozen BK199.out 12))
  (try simp only [Act.put, List.setIfInBounds_toArray, List.set_cons_zero, List.set_cons_succ])
  go_cut [51] (fun v51 wc => ∃ (kq : Nat) (x51_7 : Bool), v51 = .bool x51_7 ∧ Aside0 (graverlaw05_EhdrChecks.j0 kq x51_7 a1_0 a1_1 a1_2 a1_3 a2_0 a2_1 t183 t184 t186 t187 t188 t189 t190 t191 t192 t193 t194 t195 t196 t197 t198 = some r) ∧ Aside0 (kq ≤ k) ∧ Aside0 (wc.heap[gb180]? = some (.cells #[.int .u64 a1_0, .int .u64 a1_1, .int .u64 a1_2, .int .u64 a1_3] 51 (0, 0))) ∧ Aside0 (wc.heap[gb181]? = some (.cells #[.int .u64 a2_0, .int .u64 a2_1] 52 (0, 0))) ∧ Aside0 (wc.heap[gb185]? = some (.cells #[.bool t183, .bool t184] 29 (0, 0))) ∧ Aside0 (wc.heap[gb199]? = some (.cells #[.int .u64 t186, .int .u64 t187, .int .u64 t188, .int .u64 t189, .int .u64 t190, .int .u64 t191, .int .u64 t192, .int .u64 t193, .int .u64 t194, .int .u64 t195, .int .u64 t196, .int .u64 t197, .int .u64 t198] 54 (0, 0))) ∧ Aside0 (Below w.heap.size w wc))
  case first =>
   have H := HC8.out
   clear HC8
   replace H := Option.bind_eq_some_iff.mp H
   obtain ⟨t200, A230, H⟩ := H
   replace H : (if t200 = 0 then ((ehdr_Size.f k t183 t184).bind fun t201 => (if t193 = (IntKind.u64.wrap (wrap64 (16 + t201))) then (if t194 = (IntKind.u64.wrap (wrap64 (32 + (wrap64 (24 * (Go.bits .and .i64 (a0 / 2) 1)))))) then (graverlaw05_EhdrChecks.j0 k (t196 != (IntKind.u64.wrap (wrap64 (40 + (wrap64 (24 * (Go.bits .and .i64 (a0 / 2) 1))))))) a1_0 a1_1 a1_2 a1_3 a2_0 a2_1 t183 t184 t186 t187 t188 t189 t190 t191 t192 t193 t194 t195 t196 t197 t198) else (graverlaw05_EhdrChecks.j0 k true a1_0 a1_1 a1_2 a1_3 a2_0 a2_1 t183 t184 t186 t187 t188 t189 t190 t191 t192 t193 t194 t195 t196 t197 t198)) else (graverlaw05_EhdrChecks.j0 k true a1_0 a1_1 a1_2 a1_3 a2_0 a2_1 t183 t184 t186 t187 t188 t189 t190 t191 t192 t193 t194 t195 t196 t197 t198))) else (graverlaw05_EhdrChecks.j0 k true a1_0 a1_1 a1_2 a1_3 a2_0 a2_1 t183 t184 t186 t187 t188 t189 t190 t191 t192 t193 t194 t195 t196 t197 t198)) = some r := H
   have A23 := aS A230
   clear A230
   by_cases c24 : t200 = 0
   ·
    rw [if_pos c24] at H
    have c24b0 : (t200 == 0) = true := beq_iff_eq.mpr c24
    have c24b1 : (t200 != 0) = false := bne_eq_false_iff_eq.mpr c24
    clear c24
    (first | rw [c24b0] | (simp only [i64_w, i32_w]; rw [c24b0]) | skip)
    replace H := Option.bind_eq_some_iff.mp H
    obtain ⟨t201, A250, H⟩ := H
    replace H : (if t193 = (IntKind.u64.wrap (wrap64 (16 + t201))) then (if t194 = (IntKind.u64.wrap (wrap64 (32 + (wrap64 (24 * (Go.bits .and .i64 (a0 / 2) 1)))))) then (graverlaw05_EhdrChecks.j0 k (t196 != (IntKind.u64.wrap (wrap64 (40 + (wrap64 (24 * (Go.bits .and .i64 (a0 / 2) 1))))))) a1_0 a1_1 a1_2 a1_3 a2_0 a2_1 t183 t184 t186 t187 t188 t189 t190 t191 t192 t193 t194 t195 t196 t197 t198) else (graverlaw05_EhdrChecks.j0 k true a1_0 a1_1 a1_2 a1_3 a2_0 a2_1 t183 t184 t186 t187 t188 t189 t190 t191 t192 t193 t194 t195 t196 t197 t198)) else (graverlaw05_EhdrChecks.j0 k true a1_0 a1_1 a1_2 a1_3 a2_0 a2_1 t183 t184 t186 t187 t188 t189 t190 t191 t192 t193 t194 t195 t196 t197 t198)) = some r := H
    have A25 := aS A250
    clear A250
    by_cases c26 : t193 = (IntKind.u64.wrap (wrap64 (16 + t201)))
    ·
     rw [if_pos c26] at H
     have c26b0 : (t193 == (IntKind.u64.wrap (wrap64 (16 + t201)))) = true := beq_iff_eq.mpr c26
     have c26b1 : (t193 != (IntKind.u64.wrap (wrap64 (16 + t201)))) = false := bne_eq_false_iff_eq.mpr c26
     clear c26
     by_cases c27 : t194 = (IntKind.u64.wrap (wrap64 (32 + (wrap64 (24 * (Go.bits .and .i64 (a0 / 2) 1))))))
     ·
      rw [if_pos c27] at H
      have c27b0 : (t194 == (IntKind.u64.wrap (wrap64 (32 + (wrap64 (24 * (Go.bits .and .i64 (a0 / 2) 1))))))) = true := beq_iff_eq.mpr c27
      have c27b1 : (t194 != (IntKind.u64.wrap (wrap64 (32 + (wrap64 (24 * (Go.bits .and .i64 (a0 / 2) 1))))))) = false := bne_eq_false_iff_eq.mpr c27
      clear c27
      obtain ⟨bl28, hbl28⟩ : ∃ s_ : Bool, ((t196 != (IntKind.u64.wrap (wrap64 (40 + (wrap64 (24 * (Go.bits .and .i64 (a0 / 2) 1)))))))) = s_ := ⟨_, rfl⟩
      replace H : (graverlaw05_EhdrChecks.j0 k bl28 a1_0 a1_1 a1_2 a1_3 a2_0 a2_1 t183 t184 t186 t187 t188 t189 t190 t191 t192 t193 t194 t195 t196 t197 t198) = some r := by first | (rw [hbl28] at H; exact H) | (simp only [hbl28] at H ⊢; exact H) | exact H
      have H' := aS H
      clear H
      try go_wp2
      have n0_ : Aside0 ((((((((((((((w18.setCell ⟨gb199, 0, none⟩ (.int .u64 t186)).setCell ⟨gb199, 1, none⟩ (.int .u64 t187)).setCell ⟨gb199, 2, none⟩ (.int .u64 t188)).setCell ⟨gb199, 3, none⟩ (.int .u64 t189)).setCell ⟨gb199, 4, none⟩ (.int .u64 t190)).setCell ⟨gb199, 5, none⟩ (.int .u64 t191)).setCell ⟨gb199, 6, none⟩ (.int .u64 t192)).setCell ⟨gb199, 7, none⟩ (.int .u64 t193)).setCell ⟨gb199, 8, none⟩ (.int .u64 t194)).setCell ⟨gb199, 9, none⟩ (.int .u64 t195)).setCell ⟨gb199, 10, none⟩ (.int .u64 t196)).setCell ⟨gb199, 11, none⟩ (.int .u64 t197)).setCell ⟨gb199, 12, none⟩ (.int .u64 t198)).heap[gb180]? = some (.cells #[.int .u64 a1_0, .int .u64 a1_1, .int .u64 a1_2, .int .u64 a1_3] 51 (0, 0))) := ⟨by (with_reducible repeat (first|apply bN|apply bD|apply bA)); refine blk_far ?_ NB180_199.out _; (with_reducible repeat (first|apply bN|apply bD|apply bA)); refine blk_far ?_ NB180_199.out _; (with_reducible repeat (first|apply bN|apply bD|apply bA)); refine blk_far ?_ NB180_199.out _; (with_reducible repeat (first|apply bN|apply bD|apply bA)); refine blk_far ?_ NB180_199.out _; (with_reducible repeat (first|apply bN|apply bD|apply bA)); refine blk_far ?_ NB180_199.out _; (with_reducible repeat (first|apply bN|apply bD|apply bA)); refine blk_far ?_ NB180_199.out _; (with_reducible repeat (first|apply bN|apply bD|apply bA)); refine blk_far ?_ NB180_199.out _; (with_reducible repeat (first|apply bN|apply bD|apply bA)); refine blk_far ?_ NB180_199.out _; (with_reducible repeat (first|apply bN|apply bD|apply bA)); refine blk_far ?_ NB180_199.out _; (with_reducible repeat (first|apply bN|apply bD|apply bA)); refine blk_far ?_ NB180_199.out _; (with_reducible repeat (first|apply bN|apply bD|apply bA)); refine blk_far ?_ NB180_199.out _; (with_reducible repeat (first|apply bN|apply bD|apply bA)); refine blk_far ?_ NB180_199.out _; (with_reducible repeat (first|apply bN|apply bD|apply bA)); refine blk_far ?_ NB180_199.out _; (with_reducible repeat (first|apply bN|apply bD|apply bA)); exact BK180.out⟩
      have n1_ : Aside0 ((((((((((((((w18.setCell ⟨gb199, 0, none⟩ (.int .u64 t186)).setCell ⟨gb199, 1, none⟩ (.int .u64 t187)).setCell ⟨gb199, 2, none⟩ (.int .u64 t188)).setCell ⟨gb199, 3, none⟩ (.int .u64 t189)).setCell ⟨gb199, 4, none⟩ (.int .u64 t190)).setCell ⟨gb199, 5, none⟩ (.int .u64 t191)).setCell ⟨gb199, 6, none⟩ (.int .u64 t192)).setCell ⟨gb199, 7, none⟩ (.int .u64 t193)).setCell ⟨gb199, 8, none⟩ (.int .u64 t194)).setCell ⟨gb199, 9, none⟩ (.int .u64 t195)).setCell ⟨gb199, 10, none⟩ (.int .u64 t196)).setCell ⟨gb199, 11, none⟩ (.int .u64 t197)).setCell ⟨gb199, 12, none⟩ (.int .u64 t198)).heap[gb181]? = some (.cells #[.int .u64 a2_0, .int .u64 a2_1] 52 (0, 0))) := ⟨by (with_reducible repeat (first|apply bN|apply bD|apply bA)); refine blk_far ?_ NB181_199.out _; (with_reducible repeat (first|apply bN|apply bD|apply bA)); refine blk_far ?_ NB181_199.out _; (with_reducible repeat (first|apply bN|apply bD|apply bA)); refine blk_far ?_ NB181_199.out _; (with_reducible repeat (first|apply bN|apply bD|apply bA)); refine blk_far ?_ NB181_199.out _; (with_reducible repeat (first|apply bN|apply bD|apply bA)); refine blk_far ?_ NB181_199.out _; (with_reducible repeat (first|apply bN|apply bD|apply bA)); refine blk_far ?_ NB181_199.out _; (with_reducible repeat (first|apply bN|apply bD|apply bA)); refine blk_far ?_ NB181_199.out _; (with_reducible repeat (first|apply bN|apply bD|apply bA)); refine blk_far ?_ NB181_199.out _; (with_reducible repeat (first|apply bN|apply bD|apply bA)); refine blk_far ?_ NB181_199.out _; (with_reducible repeat (first|apply bN|apply bD|apply bA)); refine blk_far ?_ NB181_199.out _; (with_reducible repeat (first|apply bN|apply bD|apply bA)); refine blk_far ?_ NB181_199.out _; (with_reducible repeat (first|apply bN|apply bD|apply bA)); refine blk_far ?_ NB181_199.out _; (with_reducible repeat (first|apply bN|apply bD|apply bA)); refine blk_far ?_ NB181_199.out _; (with_reducible repeat (first|apply bN|apply bD|apply bA)); exact BK181.out⟩
      have n2_ : Aside0 ((((((((((((((w18.setCell ⟨gb199, 0, none⟩ (.int .u64 t186)).setCell ⟨gb199, 1, none⟩ (.int .u64 t187)).setCell ⟨gb199, 2, none⟩ (.int .u64 t188)).setCell ⟨gb199, 3, none⟩ (.int .u64 t189)).setCell ⟨gb199, 4, none⟩ (.int .u64 t190)).setCell ⟨gb199, 5, none⟩ (.int .u64 t191)).setCell ⟨gb199, 6, none⟩ (.int .u64 t192)).setCell ⟨gb199, 7, none⟩ (.int .u64 t193)).setCell ⟨gb199, 8, none⟩ (.int .u64 t194)).setCell ⟨gb199, 9, none⟩ (.int .u64 t195)).setCell ⟨gb199, 10, none⟩ (.int .u64 t196)).setCell ⟨gb199, 11, none⟩ (.int .u64 t197)).setCell ⟨gb199, 12, none⟩ (.int .u64 t198)).heap[gb185]? = some (.cells #[.bool t183, .bool t184] 29 (0, 0))) := ⟨by (with_reducible repeat (first|apply bN|apply bD|apply bA)); refine blk_far ?_ NB185_199.out _; (with_reducible repeat (first|apply bN|apply bD|apply bA)); refine blk_far ?_ NB185_199.out _; (with_reducible repeat (first|apply bN|apply bD|apply bA)); refine blk_far ?_ NB185_199.out _; (with_reducible repeat (first|apply bN|apply bD|apply bA)); refine blk_far ?_ NB185_199.out _; (with_reducible repeat (first|apply bN|apply bD|apply bA)); refine blk_far ?_ NB185_199.out _; (with_reducible repeat (first|apply bN|apply bD|apply bA)); refine blk_far ?_ NB185_199.out _; (with_reducible repeat (first|apply bN|apply bD|apply bA)); refine blk_far ?_ NB185_199.out _; (with_reducible repeat (first|apply bN|apply bD|apply bA)); refine blk_far ?_ NB185_199.out _; (with_reducible repeat (first|apply bN|apply bD|apply bA)); refine blk_far ?_ NB185_199.out _; (with_reducible repeat (first|apply bN|apply bD|apply bA)); refine blk_far ?_ NB185_199.out _; (with_reducible repeat (first|apply bN|apply bD|apply bA)); refine blk_far ?_ NB185_199.out _; (with_reducible repeat (first|apply bN|apply bD|apply bA)); refine blk_far ?_ NB185_199.out _; (with_reducible repeat (first|apply bN|apply bD|apply bA)); refine blk_far ?_ NB185_199.out _; (with_reducible repeat (first|apply bN|apply bD|apply bA)); exact BK185.out⟩
      have n3_ : Aside0 ((((((((((((((w18.setCell ⟨gb199, 0, none⟩ (.int .u64 t186)).setCell ⟨gb199, 1, none⟩ (.int .u64 t187)).setCell ⟨gb199, 2, none⟩ (.int .u64 t188)).setCell ⟨gb199, 3, none⟩ (.int .u64 t189)).setCell ⟨gb199, 4, none⟩ (.int .u64 t190)).setCell ⟨gb199, 5, none⟩ (.int .u64 t191)).setCell ⟨gb199, 6, none⟩ (.int .u64 t192)).setCell ⟨gb199, 7, none⟩ (.int .u64 t193)).setCell ⟨gb199, 8, none⟩ (.int .u64 t194)).setCell ⟨gb199, 9, none⟩ (.int .u64 t195)).setCell ⟨gb199, 10, none⟩ (.int .u64 t196)).setCell ⟨gb199, 11, none⟩ (.int .u64 t197)).setCell ⟨gb199, 12, none⟩ (.int .u64 t198)).heap[gb199]? = some (.cells #[.int .u64 t186, .int .u64 t187, .int .u64 t188, .int .u64 t189, .int .u64 t190, .int .u64 t191, .int .u64 t192, .int .u64 t193, .int .u64 t194, .int .u64 t195, .int .u64 t196, .int .u64 t197, .int .u64 t198] 54 (0, 0))) := ⟨by (with_reducible repeat (first|apply bN|apply bD|apply bA)); refine blk_put (cs := #[.int .u64 t186, .int .u64 t187, .int .u64 t188, .int .u64 t189, .int .u64 t190, .int .u64 t191, .int .u64 t192, .int .u64 t193, .int .u64 t194, .int .u64 t195, .int .u64 t196, .int .u64 t197, .int .u64 0]) ?_ 12 _ rfl; (with_reducible repeat (first|apply bN|apply bD|apply bA)); refine blk_put (cs := #[.int .u64 t186, .int .u64 t187, .int .u64 t188, .int .u64 t189, .int .u64 t190, .int .u64 t191, .int .u64 t192, .int .u64 t193, .int .u64 t194, .int .u64 t195, .int .u64 t196, .int .u64 0, .int .u64 0]) ?_ 11 _ rfl; (with_reducible repeat (first|apply bN|apply bD|apply bA)); refine blk_put (cs := #[.int .u64 t186, .int .u64 t187, .int .u64 t188, .int .u64 t189, .int .u64 t190, .int .u64 t191, .int .u64 t192, .int .u64 t193, .int .u64 t194, .int .u64 t195, .int .u64 0, .int .u64 0, .int .u64 0]) ?_ 10 _ rfl; (with_reducible repeat (first|apply bN|apply bD|apply bA)); refine blk_put (cs := #[.int .u64 t186, .int .u64 t187, .int .u64 t188, .int .u64 t189, .int .u64 t190, .int .u64 t191, .int .u64 t192, .int .u64 t193, .int .u64 t194, .int .u64 0, .int .u64 0, .int .u64 0, .int .u64 0]) ?_ 9 _ rfl; (with_reducible repeat (first|apply bN|apply bD|apply bA)); refine blk_put (cs := #[.int .u64 t186, .int .u64 t187, .int .u64 t188, .int .u64 t189, .int .u64 t190, .int .u64 t191, .int .u64 t192, .int .u64 t193, .int .u64 0, .int .u64 0, .int .u64 0, .int .u64 0, .int .u64 0]) ?_ 8 _ rfl; (with_reducible repeat (first|apply bN|apply bD|apply bA)); refine blk_put (cs := #[.int .u64 t186, .int .u64 t187, .int .u64 t188, .int .u64 t189, .int .u64 t190, .int .u64 t191, .int .u64 t192, .int .u64 0, .int .u64 0, .int .u64 0, .int .u64 0, .int .u64 0, .int .u64 0]) ?_ 7 _ rfl; (with_reducible repeat (first|apply bN|apply bD|apply bA)); refine blk_put (cs := #[.int .u64 t186, .int .u64 t187, .int .u64 t188, .int .u64 t189, .int .u64 t190, .int .u64 t191, .int .u64 0, .int .u64 0, .int .u64 0, .int .u64 0, .int .u64 0, .int .u64 0, .int .u64 0]) ?_ 6 _ rfl; (with_reducible repeat (first|apply bN|apply bD|apply bA)); refine blk_put (cs := #[.int .u64 t186, .int .u64 t187, .int .u64 t188, .int .u64 t189, .int .u64 t190, .int .u64 0, .int .u64 0, .int .u64 0, .int .u64 0, .int .u64 0, .int .u64 0, .int .u64 0, .int .u64 0]) ?_ 5 _ rfl; (with_reducible repeat (first|apply bN|apply bD|apply bA)); refine blk_put (cs := #[.int .u64 t186, .int .u64 t187, .int .u64 t188, .int .u64 t189, .int .u64 0, .int .u64 0, .int .u64 0, .int .u64 0, .int .u64 0, .int .u64 0, .int .u64 0, .int .u64 0, .int .u64 0]) ?_ 4 _ rfl; (with_reducible repeat (first|apply bN|apply bD|apply bA)); refine blk_put (cs := #[.int .u64 t186, .int .u64 t187, .int .u64 t188, .int .u64 0, .int .u64 0, .int .u64 0, .int .u64 0, .int .u64 0, .int .u64 0, .int .u64 0, .int .u64 0, .int .u64 0, .int .u64 0]) ?_ 3 _ rfl; (with_reducible repeat (first|apply bN|apply bD|apply bA)); refine blk_put (cs := #[.int .u64 t186, .int .u64 t187, .int .u64 0, .int .u64 0, .int .u64 0, .int .u64 0, .int .u64 0, .int .u64 0, .int .u64 0, .int .u64 0, .int .u64 0, .int .u64 0, .int .u64 0]) ?_ 2 _ rfl; (with_reducible repeat (first|apply bN|apply bD|apply bA)); refine blk_put (cs := #[.int .u64 t186, .int .u64 0, .int .u64 0, .int .u64 0, .int .u64 0, .int .u64 0, .int .u64 0, .int .u64 0, .int .u64 0, .int .u64 0, .int .u64 0, .int .u64 0, .int .u64 0]) ?_ 1 _ rfl; (with_reducible repeat (first|apply bN|apply bD|apply bA)); refine blk_put (cs := #[.int .u64 0, .int .u64 0, .int .u64 0, .int .u64 0, .int .u64 0, .int .u64 0, .int .u64 0, .int .u64 0, .int .u64 0, .int .u64 0, .int .u64 0, .int .u64 0, .int .u64 0]) ?_ 0 _ rfl; (with_reducible repeat (first|apply bN|apply bD|apply bA)); exact BK199.out⟩
      have n4_ : Aside0 (Below w.heap.size w (((((((((((((w18.setCell ⟨gb199, 0, none⟩ (.int .u64 t186)).setCell ⟨gb199, 1, none⟩ (.int .u64 t187)).setCell ⟨gb199, 2, none⟩ (.int .u64 t188)).setCell ⟨gb199, 3, none⟩ (.int .u64 t189)).setCell ⟨gb199, 4, none⟩ (.int .u64 t190)).setCell ⟨gb199, 5, none⟩ (.int .u64 t191)).setCell ⟨gb199, 6, none⟩ (.int .u64 t192)).setCell ⟨gb199, 7, none⟩ (.int .u64 t193)).setCell ⟨gb199, 8, none⟩ (.int .u64 t194)).setCell ⟨gb199, 9, none⟩ (.int .u64 t195)).setCell ⟨gb199, 10, none⟩ (.int .u64 t196)).setCell ⟨gb199, 11, none⟩ (.int .u64 t197)).setCell ⟨gb199, 12, none⟩ (.int .u64 t198))) := ⟨by repeat (first|(with_reducible first|exact HB.out|apply eA|apply eN|apply eD|refine below_set ?_ GE180.out|refine below_set ?_ GE181.out|refine below_set ?_ GE185.out|refine below_set ?_ GE199.out)|exact HB.out)⟩
      (try clear BK180)
      (try clear BK181)
      (try clear BK185)
      (try clear BK199)
      (try clear HB)
      generalize (((((((((((((w18.setCell ⟨gb199, 0, none⟩ (.int .u64 t186)).setCell ⟨gb199, 1, none⟩ (.int .u64 t187)).setCell ⟨gb199, 2, none⟩ (.int .u64 t188)).setCell ⟨gb199, 3, none⟩ (.int .u64 t189)).setCell ⟨gb199, 4, none⟩ (.int .u64 t190)).setCell ⟨gb199, 5, none⟩ (.int .u64 t191)).setCell ⟨gb199, 6, none⟩ (.int .u64 t192)).setCell ⟨gb199, 7, none⟩ (.int .u64 t193)).setCell ⟨gb199, 8, none⟩ (.int .u64 t194)).setCell ⟨gb199, 9, none⟩ (.int .u64 t195)).setCell ⟨gb199, 10, none⟩ (.int .u64 t196)).setCell ⟨gb199, 11, none⟩ (.int .u64 t197)).setCell ⟨gb199, 12, none⟩ (.int .u64 t198)) = w29 at n0_ n1_ n2_ n3_ n4_ ⊢
      have BK180 := n0_
      have BK181 := n1_
      have BK185 := n2_
      have BK199 := n3_
      have HB := n4_
      clear n0_ n1_ n2_ n3_ n4_
      have n0_ := aS (blk_drew BK180.out)
      have n1_ := aS (blk_drew BK181.out)
      have n2_ := aS (blk_drew BK185.out)
      have n3_ := aS (blk_drew BK199.out)
      have n4_ := aS (below_drew1 HB.out)
      clear BK180
      clear BK181
      clear BK185
      clear BK199
      clear HB
      have BK180 := n0_
      have BK181 := n1_
      have BK185 := n2_
      have BK199 := n3_
      have HB := n4_
      clear n0_ n1_ n2_ n3_ n4_
      refine start_ (n := 35) (S := fun w' => w'.cell? ⟨gb199, 0, none⟩ = some (.int .u64 t186) ∧ w'.cell? ⟨gb199, 1, none⟩ = some (.int .u64 t187) ∧ w'.cell? ⟨gb199, 2, none⟩ = some (.int .u64 t188) ∧ w'.cell? ⟨gb199, 3, none⟩ = some (.int .u64 t189) ∧ w'.cell? ⟨gb199, 4, none⟩ = some (.int .u64 t190) ∧ w'.cell? ⟨gb199, 5, none⟩ = some (.int .u64 t191) ∧ w'.cell? ⟨gb199, 6, none⟩ = some (.int .u64 t192) ∧ w'.cell? ⟨gb199, 7, none⟩ = some (.int .u64 t193) ∧ w'.cell? ⟨gb199, 8, none⟩ = some (.int .u64 t194) ∧ w'.cell? ⟨gb199, 9, none⟩ = some (.int .u64 t195) ∧ w'.cell? ⟨gb199, 10, none⟩ = some (.int .u64 t196) ∧ w'.cell? ⟨gb199, 11, none⟩ = some (.int .u64 t197) ∧ w'.cell? ⟨gb199, 12, none⟩ = some (.int .u64 t198) ∧ w'.cell? ⟨gb185, 0, none⟩ = some (.bool t183) ∧ w'.cell? ⟨gb185, 1, none⟩ = some (.bool t184)) (ds := []) #[false, false, false, false, false, false, false, false, false, false, false, false, false, false, false, false, false, false, false, false, false, false, false, false, false, false, false, false, false, false, false, false, false, false, false] (by kernel_rfl) rfl rfl ⟨(blk_cell BK199.out 0).trans rfl, (blk_cell BK199.out 1).trans rfl, (blk_cell BK199.out 2).trans rfl, (blk_cell BK199.out 3).trans rfl, (blk_cell BK199.out 4).trans rfl, (blk_cell BK199.out 5).trans rfl, (blk_cell BK199.out 6).trans rfl, (blk_cell BK199.out 7).trans rfl, (blk_cell BK199.out 8).trans rfl, (blk_cell BK199.out 9).trans rfl, (blk_cell BK199.out 10).trans rfl, (blk_cell BK199.out 11).trans rfl, (blk_cell BK199.out 12).trans rfl, (blk_cell BK185.out 0).trans rfl, (blk_cell BK185.out 1).trans rfl⟩ (fun hH => ?_); refine with_tabW graverlaw05_EhdrChecks.tab5 graverlaw05_EhdrChecks.bits5 (fun HT_ HW_ => ?_)
      generalize w29.drew = w30 at BK180 BK181 BK185 BK199 HB hH ⊢
      refine take_ (i := 0) (N := some 17) (v := ?_) (a' := ?_) (bm 35 1) rfl rfl (take_ofW HT_.out HW_.out (by kernel_rfl)) (fun _ _ _ h => h) (Or.inl ⟨by rfl, ?_⟩) hH ?_ ?_
      rotate_left
      ·
       intro w' s0
       go_simp
       with_reducible rfl
      rotate_left
      ·
       simp only [Act.put, aput]
       rfl
      refine take_ (i := 1) (N := some 18) (v := ?_) (a' := ?_) (bm 35 3) rfl rfl (take_ofW HT_.out HW_.out (by kernel_rfl)) (fun _ _ _ h => h) (Or.inl ⟨by rfl, ?_⟩) hH ?_ ?_
      rotate_left
      ·
       intro w' s0
       go_simp
       with_reducible rfl
      rotate_left
      ·
       simp only [Act.put, aput]
       rfl
      refine one_ (i := 2) (N := some 19) (bm 35 7) rfl rfl (one_of HT_.out (by kernel_rfl)) (by decide) (fun K hK => ?_)
      refine goes_ Tryd.func25 (by kernel_rfl) rfl #[.agg #[.int .u64 t186, .int .u64 t187, .int .u64 t188, .int .u64 t189, .int .u64 t190, .int .u64 t191, .int .u64 t192, .int .u64 t193, .int .u64 t194, .int .u64 t195, .int .u64 t196, .int .u64 t197, .int .u64 t198], .agg #[.bool t183, .bool t184]] (by rfl) rfl rfl (by (try simp only [List.map_toArray, List.map_cons, List.map_nil]); first | done | rfl | (simp only [List.length_drop, List.length_take]; rfl)) ?_
      with_reducible refine (ehdr_Head_Check.calls k t186 t187 t188 t189 t190 t191 t192 t193 t194 t195 t196 t197 t198 t183 t184 t200 _ ?side1 A23.out).mono ?_
      (case side1 => exact Laid_ehdr.below HLD_ehdr.out (by repeat (first|(with_reducible first|exact HB.out|apply eA|apply eN|apply eD|refine below_set ?_ GE180.out|refine below_set ?_ GE181.out|refine below_set ?_ GE185.out|refine below_set ?_ GE199.out)|exact HB.out)))
      rintro e w31 ⟨rfl, hb⟩
      refine ⟨_, rfl, ?_⟩
      have n0_ := aS (blk_below (g := gb180) (o := .cells #[.int .u64 a1_0, .int .u64 a1_1, .int .u64 a1_2, .int .u64 a1_3] 51 (0, 0)) (by (with_reducible repeat (first|apply bN|apply bD|apply bA)); exact BK180.out) hb)
      have n1_ := aS (blk_below (g := gb181) (o := .cells #[.int .u64 a2_0, .int .u64 a2_1] 52 (0, 0)) (by (with_reducible repeat (first|apply bN|apply bD|apply bA)); exact BK181.out) hb)
      have n2_ := aS (blk_below (g := gb185) (o := .cells #[.bool t183, .bool t184] 29 (0, 0)) (by (with_reducible repeat (first|apply bN|apply bD|apply bA)); exact BK185.out) hb)
      have n3_ := aS (blk_below (g := gb199) (o := .cells #[.int .u64 t186, .int .u64 t187, .int .u64 t188, .int .u64 t189, .int .u64 t190, .int .u64 t191, .int .u64 t192, .int .u64 t193, .int .u64 t194, .int .u64 t195, .int .u64 t196, .int .u64 t197, .int .u64 t198] 54 (0, 0)) (by (with_reducible repeat (first|apply bN|apply bD|apply bA)); exact BK199.out) hb)
      have n4_ := aS (below_step (by repeat (first|(with_reducible first|exact HB.out|apply eA|apply eN|apply eD|refine below_set ?_ GE180.out|refine below_set ?_ GE181.out|refine below_set ?_ GE185.out|refine below_set ?_ GE199.out)|exact HB.out)) hb)
      clear BK180
      clear BK181
      clear BK185
      clear BK199
      clear HB
      have BK180 := n0_
      have BK181 := n1_
      have BK185 := n2_
      have BK199 := n3_
      have HB := n4_
      clear n0_ n1_ n2_ n3_ n4_
      (try clear hb)
      (try clear hb2)
      (try clear hk)
      (try clear hi)
      refine hK.out _ _ ⟨(blk_cell BK199.out 0).trans rfl, (blk_cell BK199.out 1).trans rfl, (blk_cell BK199.out 2).trans rfl, (blk_cell BK199.out 3).trans rfl, (blk_cell BK199.out 4).trans rfl, (blk_cell BK199.out 5).trans rfl, (blk_cell BK199.out 6).trans rfl, (blk_cell BK199.out 7).trans rfl, (blk_cell BK199.out 8).trans rfl, (blk_cell BK199.out 9).trans rfl, (blk_cell BK199.out 10).trans rfl, (blk_cell BK199.out 11).trans rfl, (blk_cell BK199.out 12).trans rfl, (blk_cell BK185.out 0).trans rfl, (blk_cell BK185.out 1).trans rfl⟩ (fun hH => ?_)
      clear hK K
      refine norm_ (a' := ?_) ?_ ?_
      rotate_left
      ·
       show Act.put _ (some 19) _ = _
       simp only [Act.put, aput]
       rfl
      refine pure_ (i := 3) (N := some 20) (v := ?_) (a' := ?_) (bm 35 15) rfl rfl (any_of HT_.out (by kernel_rfl)) (fun _ _ _ h => h) (Or.inl ⟨by rfl, ?_⟩) ?_ ?_
      rotate_left
      ·
       intro w'
       go_simp
       with_reducible rfl
      rotate_left
      ·
       simp only [Act.put, aput]
       rfl
      refine pure_ (i := 4) (N := some 21) (v := ?_) (a' := ?_) (bm 35 31) rfl rfl (any_of HT_.out (by kernel_rfl)) (fun _ _ _ h => h) (Or.inl ⟨by rfl, ?_⟩) ?_ ?_
      rotate_left
      ·
       intro w'
       go_simp
       with_reducible rfl
      rotate_left
      ·
       simp only [Act.put, aput]
       rfl
      refine pure_ (i := 5) (N := some 22) (v := ?_) (a' := ?_) (bm 35 63) rfl rfl (any_of HT_.out (by kernel_rfl)) (fun _ _ _ h => h) (Or.inl ⟨by rfl, ?_⟩) ?_ ?_
      rotate_left
      ·
       intro w'
       go_simp
       with_reducible rfl
      rotate_left
      ·
       simp only [Act.put, aput]
       rfl
      refine take_ (i := 6) (N := some 23) (v := ?_) (a' := ?_) (bm 35 127) rfl rfl (take_ofW HT_.out HW_.out (by kernel_rfl)) (fun _ _ _ h => h) (Or.inl ⟨by rfl, ?_⟩) hH ?_ ?_
      rotate_left
      ·
       intro w' s0
       go_simp
       with_reducible rfl
      rotate_left
      ·
       simp only [Act.put, aput]
       rfl
      refine take_ (i := 7) (N := some 24) (v := ?_) (a' := ?_) (bm 35 255) rfl rfl (take_ofW HT_.out HW_.out (by kernel_rfl)) (fun _ _ _ h => h) (Or.inl ⟨by rfl, ?_⟩) hH ?_ ?_
      rotate_left
      ·
       intro w' s0
       go_simp
       with_reducible rfl
      rotate_left
      ·
       simp only [Act.put, aput]
       rfl
      refine one_ (i := 8) (N := some 25) (bm 35 511) rfl rfl (one_of HT_.out (by kernel_rfl)) (by decide) (fun K hK => ?_)
      refine goes_ Tryd.func26 (by kernel_rfl) rfl #[.agg #[.bool t183, .bool t184]] (by rfl) rfl rfl (by (try simp only [List.map_toArray, List.map_cons, List.map_nil]); first | done | rfl | (simp only [List.length_drop, List.length_take]; rfl)) ?_
      with_reducible refine (ehdr_Size.calls k t183 t184 t201 _ ?side1 A25.out).mono ?_
      (case side1 => exact Laid_ehdr.below HLD_ehdr.out (by repeat (first|(with_reducible first|exact HB.out|apply eA|apply eN|apply eD|refine below_set ?_ GE180.out|refine below_set ?_ GE181.out|refine below_set ?_ GE185.out|refine below_set ?_ GE199.out)|exact HB.out)))
      rintro e w32 ⟨rfl, hb⟩
      refine ⟨_, rfl, ?_⟩
      have n0_ := aS (blk_below (g := gb180) (o := .cells #[.int .u64 a1_0, .int .u64 a1_1, .int .u64 a1_2, .int .u64 a1_3] 51 (0, 0)) (by (with_reducible repeat (first|apply bN|apply bD|apply bA)); exact BK180.out) hb)
      have n1_ := aS (blk_below (g := gb181) (o := .cells #[.int .u64 a2_0, .int .u64 a2_1] 52 (0, 0)) (by (with_reducible repeat (first|apply bN|apply bD|apply bA)); exact BK181.out) hb)
      have n2_ := aS (blk_below (g := gb185) (o := .cells #[.bool t183, .bool t184] 29 (0, 0)) (by (with_reducible repeat (first|apply bN|apply bD|apply bA)); exact BK185.out) hb)
      have n3_ := aS (blk_below (g := gb199) (o := .cells #[.int .u64 t186, .int .u64 t187, .int .u64 t188, .int .u64 t189, .int .u64 t190, .int .u64 t191, .int .u64 t192, .int .u64 t193, .int .u64 t194, .int .u64 t195, .int .u64 t196, .int .u64 t197, .int .u64 t198] 54 (0, 0)) (by (with_reducible repeat (first|apply bN|apply bD|apply bA)); exact BK199.out) hb)
      have n4_ := aS (below_step (by repeat (first|(with_reducible first|exact HB.out|apply eA|apply eN|apply eD|refine below_set ?_ GE180.out|refine below_set ?_ GE181.out|refine below_set ?_ GE185.out|refine below_set ?_ GE199.out)|exact HB.out)) hb)
      clear BK180
      clear BK181
      clear BK185
      clear BK199
      clear HB
      have BK180 := n0_
      have BK181 := n1_
      have BK185 := n2_
      have BK199 := n3_
      have HB := n4_
      clear n0_ n1_ n2_ n3_ n4_
      (try clear hb)
      (try clear hb2)
      (try clear hk)
      (try clear hi)
      refine hK.out _ _ ⟨(blk_cell BK199.out 0).trans rfl, (blk_cell BK199.out 1).trans rfl, (blk_cell BK199.out 2).trans rfl, (blk_cell BK199.out 3).trans rfl, (blk_cell BK199.out 4).trans rfl, (blk_cell BK199.out 5).trans rfl, (blk_cell BK199.out 6).trans rfl, (blk_cell BK199.out 7).trans rfl, (blk_cell BK199.out 8).trans rfl, (blk_cell BK199.out 9).trans rfl, (blk_cell BK199.out 10).trans rfl, (blk_cell BK199.out 11).trans rfl, (blk_cell BK199.out 12).trans rfl, (blk_cell BK185.out 0).trans rfl, (blk_cell BK185.out 1).trans rfl⟩ (fun hH => ?_)
      clear hK K
      refine norm_ (a' := ?_) ?_ ?_
      rotate_left
      ·
       show Act.put _ (some 25) _ = _
       simp only [Act.put, aput]
       rfl
      refine pure_ (i := 9) (N := some 26) (v := ?_) (a' := ?_) (bm 35 1023) rfl rfl (any_of HT_.out (by kernel_rfl)) (fun _ _ _ h => h) (Or.inl ⟨by rfl, ?_⟩) ?_ ?_
      rotate_left
      ·
       intro w'
       go_simp
       with_reducible rfl
      rotate_left
      ·
       simp only [Act.put, aput]
       rfl
      refine pure_ (i := 10) (N := some 27) (v := ?_) (a' := ?_) (bm 35 2047) rfl rfl (any_of HT_.out (by kernel_rfl)) (fun _ _ _ h => h) (Or.inl ⟨by rfl, ?_⟩) ?_ ?_
      rotate_left
      ·
       intro w'
       go_simp
       with_reducible rfl
      rotate_left
      ·
       simp only [Act.put, aput]
       rfl
      refine pure_ (i := 11) (N := some 28) (v := ?_) (a' := ?_) (bm 35 4095) rfl rfl (any_of HT_.out (by kernel_rfl)) (fun _ _ _ h => h) (Or.inl ⟨by rfl, ?_⟩) ?_ ?_
      rotate_left
      ·
       intro w'
       go_simp
       with_reducible rfl
      rotate_left
      ·
       simp only [Act.put, aput]
       rfl
      refine pure_ (i := 12) (N := some 29) (v := ?_) (a' := ?_) (bm 35 8191) rfl rfl (any_of HT_.out (by kernel_rfl)) (fun _ _ _ h => h) (Or.inl ⟨by rfl, ?_⟩) ?_ ?_
      rotate_left
      ·
       intro w'
       go_simp
       with_reducible rfl
      rotate_left
      ·
       simp only [Act.put, aput]
       rfl
      refine pure_ (i := 13) (N := some 30) (v := ?_) (a' := ?_) (bm 35 16383) rfl rfl (any_of HT_.out (by kernel_rfl)) (fun _ _ _ h => h) (Or.inl ⟨by rfl, ?_⟩) ?_ ?_
      rotate_left
      ·
       intro w'
       go_simp
       with_reducible rfl
      rotate_left
      ·
       simp only [Act.put, aput]
       rfl
      refine pure_ (i := 14) (N := some 31) (v := ?_) (a' := ?_) (bm 35 32767) rfl rfl (any_of HT_.out (by kernel_rfl)) (fun _ _ _ h => h) (Or.inl ⟨by rfl, ?_⟩) ?_ ?_
      rotate_left
      ·
       intro w'
       go_simp
       with_reducible rfl
      rotate_left
      ·
       simp only [Act.put, aput]
       rfl
      refine pure_ (i := 16) (N := some 33) (v := ?_) (a' := ?_) (bm 35 98303) rfl rfl (any_of HT_.out (by kernel_rfl)) (fun _ _ _ h => h) (Or.inl ⟨by rfl, ?_⟩) ?_ ?_
      rotate_left
      ·
       intro w'
       go_simp
       with_reducible rfl
      rotate_left
      ·
       simp only [Act.put, aput]
       rfl
      refine pure_ (i := 17) (N := some 34) (v := ?_) (a' := ?_) (bm 35 229375) rfl rfl (any_of HT_.out (by kernel_rfl)) (fun _ _ _ h => h) (Or.inl ⟨by rfl, ?_⟩) ?_ ?_
      rotate_left
      ·
       intro w'
       go_simp
       with_reducible rfl
      rotate_left
      ·
       simp only [Act.put, aput]
       rfl
      refine pure_ (i := 18) (N := some 35) (v := ?_) (a' := ?_) (bm 35 491519) rfl rfl (any_of HT_.out (by kernel_rfl)) (fun _ _ _ h => h) (Or.inl ⟨by rfl, ?_⟩) ?_ ?_
      rotate_left
      ·
       intro w'
       go_simp
       with_reducible rfl
      rotate_left
      ·
       simp only [Act.put, aput]
       rfl
      refine pure_ (i := 19) (N := some 36) (v := ?_) (a' := ?_) (bm 35 1015807) rfl rfl (any_of HT_.out (by kernel_rfl)) (fun _ _ _ h => h) (Or.inl ⟨by rfl, ?_⟩) ?_ ?_
      rotate_left
      ·
       intro w'
       go_simp
       with_reducible rfl
      rotate_left
      ·
       simp only [Act.put, aput]
       rfl
      refine pure_ (i := 20) (N := some 37) (v := ?_) (a' := ?_) (bm 35 2064383) rfl rfl (any_of HT_.out (by kernel_rfl)) (fun _ _ _ h => h) (Or.inl ⟨by rfl, ?_⟩) ?_ ?_
      rotate_left
      ·
       intro w'
       go_simp
       with_reducible rfl
      rotate_left
      ·
       simp only [Act.put, aput]
       rfl
      refine pure_ (i := 21) (N := some 38) (v := ?_) (a' := ?_) (bm 35 4161535) rfl rfl (any_of HT_.out (by kernel_rfl)) (fun _ _ _ h => h) (Or.inl ⟨by rfl, ?_⟩) ?_ ?_
      rotate_left
      ·
       intro w'
       go_simp
       with_reducible rfl
      rotate_left
      ·
       simp only [Act.put, aput]
       rfl
      refine take_ (i := 15) (N := some 32) (v := ?_) (a' := ?_) (bm 35 4194303) rfl rfl (take_ofW HT_.out HW_.out (by kernel_rfl)) (fun _ _ _ h => h) (Or.inl ⟨by rfl, ?_⟩) hH ?_ ?_
      rotate_left
      ·
       intro w' s0
       go_simp
       with_reducible rfl
      rotate_left
      ·
       simp only [Act.put, aput]
       rfl
      refine pure_ (i := 22) (N := some 39) (v := ?_) (a' := ?_) (bm 35 8388607) rfl rfl (any_of HT_.out (by kernel_rfl)) (fun _ _ _ h => h) (Or.inl ⟨by rfl, ?_⟩) ?_ ?_
      rotate_left
      ·
       intro w'
       go_simp
       with_reducible rfl
      rotate_left
      ·
       simp only [Act.put, aput]
       rfl
      refine pure_ (i := 23) (N := some 40) (v := ?_) (a' := ?_) (bm 35 16777215) rfl rfl (any_of HT_.out (by kernel_rfl)) (fun _ _ _ h => h) (Or.inl ⟨by rfl, ?_⟩) ?_ ?_
      rotate_left
      ·
       intro w'
       go_simp
       with_reducible rfl
      rotate_left
      ·
       simp only [Act.put, aput]
       rfl
      refine pure_ (i := 24) (N := some 41) (v := ?_) (a' := ?_) (bm 35 33554431) rfl rfl (any_of HT_.out (by kernel_rfl)) (fun _ _ _ h => h) (Or.inl ⟨by rfl, ?_⟩) ?_ ?_
      rotate_left
      ·
       intro w'
       go_simp
       with_reducible rfl
      rotate_left
      ·
       simp only [Act.put, aput]
       rfl
      refine pure_ (i := 25) (N := some 42) (v := ?_) (a' := ?_) (bm 35 67108863) rfl rfl (any_of HT_.out (by kernel_rfl)) (fun _ _ _ h => h) (Or.inl ⟨by rfl, ?_⟩) ?_ ?_
      rotate_left
      ·
       intro w'
       go_simp
       with_reducible rfl
      rotate_left
      ·
       simp only [Act.put, aput]
       rfl
      refine pure_ (i := 27) (N := some 44) (v := ?_) (a' := ?_) (bm 35 201326591) rfl rfl (any_of HT_.out (by kernel_rfl)) (fun _ _ _ h => h) (Or.inl ⟨by rfl, ?_⟩) ?_ ?_
      rotate_left
      ·
       intro w'
       go_simp
       with_reducible rfl
      rotate_left
      ·
       simp only [Act.put, aput]
       rfl
      refine pure_ (i := 28) (N := some 45) (v := ?_) (a' := ?_) (bm 35 469762047) rfl rfl (any_of HT_.out (by kernel_rfl)) (fun _ _ _ h => h) (Or.inl ⟨by rfl, ?_⟩) ?_ ?_
      rotate_left
      ·
       intro w'
       go_simp
       with_reducible rfl
      rotate_left
      ·
       simp only [Act.put, aput]
       rfl
      refine pure_ (i := 29) (N := some 46) (v := ?_) (a' := ?_) (bm 35 1006632959) rfl rfl (any_of HT_.out (by kernel_rfl)) (fun _ _ _ h => h) (Or.inl ⟨by rfl, ?_⟩) ?_ ?_
      rotate_left
      ·
       intro w'
       go_simp
       with_reducible rfl
      rotate_left
      ·
       simp only [Act.put, aput]
       rfl
      refine pure_ (i := 30) (N := some 47) (v := ?_) (a' := ?_) (bm 35 2080374783) rfl rfl (any_of HT_.out (by kernel_rfl)) (fun _ _ _ h => h) (Or.inl ⟨by rfl, ?_⟩) ?_ ?_
      rotate_left
      ·
       intro w'
       go_simp
       with_reducible rfl
      rotate_left
      ·
       simp only [Act.put, aput]
       rfl
      refine pure_ (i := 31) (N := some 48) (v := ?_) (a' := ?_) (bm 35 4227858431) rfl rfl (any_of HT_.out (by kernel_rfl)) (fun _ _ _ h => h) (Or.inl ⟨by rfl, ?_⟩) ?_ ?_
      rotate_left
      ·
       intro w'
       go_simp
       with_reducible rfl
      rotate_left
      ·
       simp only [Act.put, aput]
       rfl
      refine pure_ (i := 32) (N := some 49) (v := ?_) (a' := ?_) (bm 35 8522825727) rfl rfl (any_of HT_.out (by kernel_rfl)) (fun _ _ _ h => h) (Or.inl ⟨by rfl, ?_⟩) ?_ ?_
      rotate_left
      ·
       intro w'
       go_simp
       with_reducible rfl
      rotate_left
      ·
       simp only [Act.put, aput]
       rfl
      refine take_ (i := 26) (N := some 43) (v := ?_) (a' := ?_) (bm 35 8589934591) rfl rfl (take_ofW HT_.out HW_.out (by kernel_rfl)) (fun _ _ _ h => h) (Or.inl ⟨by rfl, ?_⟩) hH ?_ ?_
      rotate_left
      ·
       intro w' s0
       go_simp
       with_reducible rfl
      rotate_left
      ·
       simp only [Act.put, aput]
       rfl
      refine pure_ (i := 33) (N := some 50) (v := ?_) (a' := ?_) (bm 35 17179869183) rfl rfl (any_of HT_.out (by kernel_rfl)) (fun _ _ _ h => h) (Or.inl ⟨by rfl, ?_⟩) ?_ ?_
      rotate_left
      ·
       intro w'
       go_simp
       with_reducible rfl
      rotate_left
      ·
       simp only [Act.put, aput]
       rfl
      refine pure_ (i := 34) (N := some 51) (v := ?_) (a' := ?_) (bm 35 34359738367) rfl rfl (any_of HT_.out (by kernel_rfl)) (fun _ _ _ h => h) (Or.inl ⟨by rfl, ?_⟩) ?_ ?_
      rotate_left
      ·
       intro w'
       go_simp
       with_reducible rfl
      rotate_left
      ·
       simp only [Act.put, aput]
       rfl
      refine done_ (done_of HT_.out (by kernel_rfl)) ?_
      try go_wp2
      go_meet
      case rel => exact ⟨_, (bl28), (by first|rfl|(simp; done)|(simp [*]; done)), H', ⟨by first|omega|exact Nat.le_refl _⟩, ⟨by (with_reducible repeat (first|apply bN|apply bD|apply bA)); exact BK180.out⟩, ⟨by (with_reducible repeat (first|apply bN|apply bD|apply bA)); exact BK181.out⟩, ⟨by (with_reducible repeat (first|apply bN|apply bD|apply bA)); exact BK185.out⟩, ⟨by (with_reducible repeat (first|apply bN|apply bD|apply bA)); exact BK199.out⟩, ⟨by repeat (first|(with_reducible first|exact HB.out|apply eA|apply eN|apply eD|refine below_set ?_ GE180.out|refine below_set ?_ GE181.out|refine below_set ?_ GE185.out|refine below_set ?_ GE199.out)|exact HB.out)⟩⟩
     ·
      rw [if_neg c27] at H
      have c27b0 : (t194 == (IntKind.u64.wrap (wrap64 (32 + (wrap64 (24 * (Go.bits .and .i64 (a0 / 2) 1))))))) = false := beq_eq_false_iff_ne.mpr c27
      have c27b1 : (t194 != (IntKind.u64.wrap (wrap64 (32 + (wrap64 (24 * (Go.bits .and .i64 (a0 / 2) 1))))))) = true := bne_iff_ne.mpr c27
      have H' := aS H
      clear H
      try go_wp2
      have n0_ : Aside0 ((((((((((((((w18.setCell ⟨gb199, 0, none⟩ (.int .u64 t186)).setCell ⟨gb199, 1, none⟩ (.int .u64 t187)).setCell ⟨gb199, 2, none⟩ (.int .u64 t188)).setCell ⟨gb199, 3, none⟩ (.int .u64 t189)).setCell ⟨gb199, 4, none⟩ (.int .u64 t190)).setCell ⟨gb199, 5, none⟩ (.int .u64 t191)).setCell ⟨gb199, 6, none⟩ (.int .u64 t192)).setCell ⟨gb199, 7, none⟩ (.int .u64 t193)).setCell ⟨gb199, 8, none⟩ (.int .u64 t194)).setCell ⟨gb199, 9, none⟩ (.int .u64 t195)).setCell ⟨gb199, 10, none⟩ (.int .u64 t196)).setCell ⟨gb199, 11, none⟩ (.int .u64 t197)).setCell ⟨gb199, 12, none⟩ (.int .u64 t198)).heap[gb180]? = some (.cells #[.int .u64 a1_0, .int .u64 a1_1, .int .u64 a1_2, .int .u64 a1_3] 51 (0, 0))) := ⟨by (with_reducible repeat (first|apply bN|apply bD|apply bA)); refine blk_far ?_ NB180_199.out _; (with_reducible repeat (first|apply bN|apply bD|apply bA)); refine blk_far ?_ NB180_199.out _; (with_reducible repeat (first|apply bN|apply bD|apply bA)); refine blk_far ?_ NB180_199.out _; (with_reducible repeat (first|apply bN|apply bD|apply bA)); refine blk_far ?_ NB180_199.out _; (with_reducible repeat (first|apply bN|apply bD|apply bA)); refine blk_far ?_ NB180_199.out _; (with_reducible repeat (first|apply bN|apply bD|apply bA)); refine blk_far ?_ NB180_199.out _; (with_reducible repeat (first|apply bN|apply bD|apply bA)); refine blk_far ?_ NB180_199.out _; (with_reducible repeat (first|apply bN|apply bD|apply bA)); refine blk_far ?_ NB180_199.out _; (with_reducible repeat (first|apply bN|apply bD|apply bA)); refine blk_far ?_ NB180_199.out _; (with_reducible repeat (first|apply bN|apply bD|apply bA)); refine blk_far ?_ NB180_199.out _; (with_reducible repeat (first|apply bN|apply bD|apply bA)); refine blk_far ?_ NB180_199.out _; (with_reducible repeat (first|apply bN|apply bD|apply bA)); refine blk_far ?_ NB180_199.out _; (with_reducible repeat (first|apply bN|apply bD|apply bA)); refine blk_far ?_ NB180_199.out _; (with_reducible repeat (first|apply bN|apply bD|apply bA)); exact BK180.out⟩
      have n1_ : Aside0 ((((((((((((((w18.setCell ⟨gb199, 0, none⟩ (.int .u64 t186)).setCell ⟨gb199, 1, none⟩ (.int .u64 t187)).setCell ⟨gb199, 2, none⟩ (.int .u64 t188)).setCell ⟨gb199, 3, none⟩ (.int .u64 t189)).setCell ⟨gb199, 4, none⟩ (.int .u64 t190)).setCell ⟨gb199, 5, none⟩ (.int .u64 t191)).setCell ⟨gb199, 6, none⟩ (.int .u64 t192)).setCell ⟨gb199, 7, none⟩ (.int .u64 t193)).setCell ⟨gb199, 8, none⟩ (.int .u64 t194)).setCell ⟨gb199, 9, none⟩ (.int .u64 t195)).setCell ⟨gb199, 10, none⟩ (.int .u64 t196)).setCell ⟨gb199, 11, none⟩ (.int .u64 t197)).setCell ⟨gb199, 12, none⟩ (.int .u64 t198)).heap[gb181]? = some (.cells #[.int .u64 a2_0, .int .u64 a2_1] 52 (0, 0))) := ⟨by (with_reducible repeat (first|apply bN|apply bD|apply bA)); refine blk_far ?_ NB181_199.out _; (with_reducible repeat (first|apply bN|apply bD|apply bA)); refine blk_far ?_ NB181_199.out _; (with_reducible repeat (first|apply bN|apply bD|apply bA)); refine blk_far ?_ NB181_199.out _; (with_reducible repeat (first|apply bN|apply bD|apply bA)); refine blk_far ?_ NB181_199.out _; (with_reducible repeat (first|apply bN|apply bD|apply bA)); refine blk_far ?_ NB181_199.out _; (with_reducible repeat (first|apply bN|apply bD|apply bA)); refine blk_far ?_ NB181_199.out _; (with_reducible repeat (first|apply bN|apply bD|apply bA)); refine blk_far ?_ NB181_199.out _; (with_reducible repeat (first|apply bN|apply bD|apply bA)); refine blk_far ?_ NB181_199.out _; (with_reducible repeat (first|apply bN|apply bD|apply bA)); refine blk_far ?_ NB181_199.out _; (with_reducible repeat (first|apply bN|apply bD|apply bA)); refine blk_far ?_ NB181_199.out _; (with_reducible repeat (first|apply bN|apply bD|apply bA)); refine blk_far ?_ NB181_199.out _; (with_reducible repeat (first|apply bN|apply bD|apply bA)); refine blk_far ?_ NB181_199.out _; (with_reducible repeat (first|apply bN|apply bD|apply bA)); refine blk_far ?_ NB181_199.out _; (with_reducible repeat (first|apply bN|apply bD|apply bA)); exact BK181.out⟩
      have n2_ : Aside0 ((((((((((((((w18.setCell ⟨gb199, 0, none⟩ (.int .u64 t186)).setCell ⟨gb199, 1, none⟩ (.int .u64 t187)).setCell ⟨gb199, 2, none⟩ (.int .u64 t188)).setCell ⟨gb199, 3, none⟩ (.int .u64 t189)).setCell ⟨gb199, 4, none⟩ (.int .u64 t190)).setCell ⟨gb199, 5, none⟩ (.int .u64 t191)).setCell ⟨gb199, 6, none⟩ (.int .u64 t192)).setCell ⟨gb199, 7, none⟩ (.int .u64 t193)).setCell ⟨gb199, 8, none⟩ (.int .u64 t194)).setCell ⟨gb199, 9, none⟩ (.int .u64 t195)).setCell ⟨gb199, 10, none⟩ (.int .u64 t196)).setCell ⟨gb199, 11, none⟩ (.int .u64 t197)).setCell ⟨gb199, 12, none⟩ (.int .u64 t198)).heap[gb185]? = some (.cells #[.bool t183, .bool t184] 29 (0, 0))) := ⟨by (with_reducible repeat (first|apply bN|apply bD|apply bA)); refine blk_far ?_ NB185_199.out _; (with_reducible repeat (first|apply bN|apply bD|apply bA)); refine blk_far ?_ NB185_199.out _; (with_reducible repeat (first|apply bN|apply bD|apply bA)); refine blk_far ?_ NB185_199.out _; (with_reducible repeat (first|apply bN|apply bD|apply bA)); refine blk_far ?_ NB185_199.out _; (with_reducible repeat (first|apply bN|apply bD|apply bA)); refine blk_far ?_ NB185_199.out _; (with_reducible repeat (first|apply bN|apply bD|apply bA)); refine blk_far ?_ NB185_199.out _; (with_reducible repeat (first|apply bN|apply bD|apply bA)); refine blk_far ?_ NB185_199.out _; (with_reducible repeat (first|apply bN|apply bD|apply bA)); refine blk_far ?_ NB185_199.out _; (with_reducible repeat (first|apply bN|apply bD|apply bA)); refine blk_far ?_ NB185_199.out _; (with_reducible repeat (first|apply bN|apply bD|apply bA)); refine blk_far ?_ NB185_199.out _; (with_reducible repeat (first|apply bN|apply bD|apply bA)); refine blk_far ?_ NB185_199.out _; (with_reducible repeat (first|apply bN|apply bD|apply bA)); refine blk_far ?_ NB185_199.out _; (with_reducible repeat (first|apply bN|apply bD|apply bA)); refine blk_far ?_ NB185_199.out _; (with_reducible repeat (first|apply bN|apply bD|apply bA)); exact BK185.out⟩
      have n3_ : Aside0 ((((((((((((((w18.setCell ⟨gb199, 0, none⟩ (.int .u64 t186)).setCell ⟨gb199, 1, none⟩ (.int .u64 t187)).setCell ⟨gb199, 2, none⟩ (.int .u64 t188)).setCell ⟨gb199, 3, none⟩ (.int .u64 t189)).setCell ⟨gb199, 4, none⟩ (.int .u64 t190)).setCell ⟨gb199, 5, none⟩ (.int .u64 t191)).setCell ⟨gb199, 6, none⟩ (.int .u64 t192)).setCell ⟨gb199, 7, none⟩ (.int .u64 t193)).setCell ⟨gb199, 8, none⟩ (.int .u64 t194)).setCell ⟨gb199, 9, none⟩ (.int .u64 t195)).setCell ⟨gb199, 10, none⟩ (.int .u64 t196)).setCell ⟨gb199, 11, none⟩ (.int .u64 t197)).setCell ⟨gb199, 12, none⟩ (.int .u64 t198)).heap[gb199]? = some (.cells #[.int .u64 t186, .int .u64 t187, .int .u64 t188, .int .u64 t189, .int .u64 t190, .int .u64 t191, .int .u64 t192, .int .u64 t193, .int .u64 t194, .int .u64 t195, .int .u64 t196, .int .u64 t197, .int .u64 t198] 54 (0, 0))) := ⟨by (with_reducible repeat (first|apply bN|apply bD|apply bA)); refine blk_put (cs := #[.int .u64 t186, .int .u64 t187, .int .u64 t188, .int .u64 t189, .int .u64 t190, .int .u64 t191, .int .u64 t192, .int .u64 t193, .int .u64 t194, .int .u64 t195, .int .u64 t196, .int .u64 t197, .int .u64 0]) ?_ 12 _ rfl; (with_reducible repeat (first|apply bN|apply bD|apply bA)); refine blk_put (cs := #[.int .u64 t186, .int .u64 t187, .int .u64 t188, .int .u64 t189, .int .u64 t190, .int .u64 t191, .int .u64 t192, .int .u64 t193, .int .u64 t194, .int .u64 t195, .int .u64 t196, .int .u64 0, .int .u64 0]) ?_ 11 _ rfl; (with_reducible repeat (first|apply bN|apply bD|apply bA)); refine blk_put (cs := #[.int .u64 t186, .int .u64 t187, .int .u64 t188, .int .u64 t189, .int .u64 t190, .int .u64 t191, .int .u64 t192, .int .u64 t193, .int .u64 t194, .int .u64 t195, .int .u64 0, .int .u64 0, .int .u64 0]) ?_ 10 _ rfl; (with_reducible repeat (first|apply bN|apply bD|apply bA)); refine blk_put (cs := #[.int .u64 t186, .int .u64 t187, .int .u64 t188, .int .u64 t189, .int .u64 t190, .int .u64 t191, .int .u64 t192, .int .u64 t193, .int .u64 t194, .int .u64 0, .int .u64 0, .int .u64 0, .int .u64 0]) ?_ 9 _ rfl; (with_reducible repeat (first|apply bN|apply bD|apply bA)); refine blk_put (cs := #[.int .u64 t186, .int .u64 t187, .int .u64 t188, .int .u64 t189, .int .u64 t190, .int .u64 t191, .int .u64 t192, .int .u64 t193, .int .u64 0, .int .u64 0, .int .u64 0, .int .u64 0, .int .u64 0]) ?_ 8 _ rfl; (with_reducible repeat (first|apply bN|apply bD|apply bA)); refine blk_put (cs := #[.int .u64 t186, .int .u64 t187, .int .u64 t188, .int .u64 t189, .int .u64 t190, .int .u64 t191, .int .u64 t192, .int .u64 0, .int .u64 0, .int .u64 0, .int .u64 0, .int .u64 0, .int .u64 0]) ?_ 7 _ rfl; (with_reducible repeat (first|apply bN|apply bD|apply bA)); refine blk_put (cs := #[.int .u64 t186, .int .u64 t187, .int .u64 t188, .int .u64 t189, .int .u64 t190, .int .u64 t191, .int .u64 0, .int .u64 0, .int .u64 0, .int .u64 0, .int .u64 0, .int .u64 0, .int .u64 0]) ?_ 6 _ rfl; (with_reducible repeat (first|apply bN|apply bD|apply bA)); refine blk_put (cs := #[.int .u64 t186, .int .u64 t187, .int .u64 t188, .int .u64 t189, .int .u64 t190, .int .u64 0, .int .u64 0, .int .u64 0, .int .u64 0, .int .u64 0, .int .u64 0, .int .u64 0, .int .u64 0]) ?_ 5 _ rfl; (with_reducible repeat (first|apply bN|apply bD|apply bA)); refine blk_put (cs := #[.int .u64 t186, .int .u64 t187, .int .u64 t188, .int .u64 t189, .int .u64 0, .int .u64 0, .int .u64 0, .int .u64 0, .int .u64 0, .int .u64 0, .int .u64 0, .int .u64 0, .int .u64 0]) ?_ 4 _ rfl; (with_reducible repeat (first|apply bN|apply bD|apply bA)); refine blk_put (cs := #[.int .u64 t186, .int .u64 t187, .int .u64 t188, .int .u64 0, .int .u64 0, .int .u64 0, .int .u64 0, .int .u64 0, .int .u64 0, .int .u64 0, .int .u64 0, .int .u64 0, .int .u64 0]) ?_ 3 _ rfl; (with_reducible repeat (first|apply bN|apply bD|apply bA)); refine blk_put (cs := #[.int .u64 t186, .int .u64 t187, .int .u64 0, .int .u64 0, .int .u64 0, .int .u64 0, .int .u64 0, .int .u64 0, .int .u64 0, .int .u64 0, .int .u64 0, .int .u64 0, .int .u64 0]) ?_ 2 _ rfl; (with_reducible repeat (first|apply bN|apply bD|apply bA)); refine blk_put (cs := #[.int .u64 t186, .int .u64 0, .int .u64 0, .int .u64 0, .int .u64 0, .int .u64 0, .int .u64 0, .int .u64 0, .int .u64 0, .int .u64 0, .int .u64 0, .int .u64 0, .int .u64 0]) ?_ 1 _ rfl; (with_reducible repeat (first|apply bN|apply bD|apply bA)); refine blk_put (cs := #[.int .u64 0, .int .u64 0, .int .u64 0, .int .u64 0, .int .u64 0, .int .u64 0, .int .u64 0, .int .u64 0, .int .u64 0, .int .u64 0, .int .u64 0, .int .u64 0, .int .u64 0]) ?_ 0 _ rfl; (with_reducible repeat (first|apply bN|apply bD|apply bA)); exact BK199.out⟩
      have n4_ : Aside0 (Below w.heap.size w (((((((((((((w18.setCell ⟨gb199, 0, none⟩ (.int .u64 t186)).setCell ⟨gb199, 1, none⟩ (.int .u64 t187)).setCell ⟨gb199, 2, none⟩ (.int .u64 t188)).setCell ⟨gb199, 3, none⟩ (.int .u64 t189)).setCell ⟨gb199, 4, none⟩ (.int .u64 t190)).setCell ⟨gb199, 5, none⟩ (.int .u64 t191)).setCell ⟨gb199, 6, none⟩ (.int .u64 t192)).setCell ⟨gb199, 7, none⟩ (.int .u64 t193)).setCell ⟨gb199, 8, none⟩ (.int .u64 t194)).setCell ⟨gb199, 9, none⟩ (.int .u64 t195)).setCell ⟨gb199, 10, none⟩ (.int .u64 t196)).setCell ⟨gb199, 11, none⟩ (.int .u64 t197)).setCell ⟨gb199, 12, none⟩ (.int .u64 t198))) := ⟨by repeat (first|(with_reducible first|exact HB.out|apply eA|apply eN|apply eD|refine below_set ?_ GE180.out|refine below_set ?_ GE181.out|refine below_set ?_ GE185.out|refine below_set ?_ GE199.out)|exact HB.out)⟩
      (try clear BK180)
      (try clear BK181)
      (try clear BK185)
      (try clear BK199)
      (try clear HB)
      generalize (((((((((((((w18.setCell ⟨gb199, 0, none⟩ (.int .u64 t186)).setCell ⟨gb199, 1, none⟩ (.int .u64 t187)).setCell ⟨gb199, 2, none⟩ (.int .u64 t188)).setCell ⟨gb199, 3, none⟩ (.int .u64 t189)).setCell ⟨gb199, 4, none⟩ (.int .u64 t190)).setCell ⟨gb199, 5, none⟩ (.int .u64 t191)).setCell ⟨gb199, 6, none⟩ (.int .u64 t192)).setCell ⟨gb199, 7, none⟩ (.int .u64 t193)).setCell ⟨gb199, 8, none⟩ (.int .u64 t194)).setCell ⟨gb199, 9, none⟩ (.int .u64 t195)).setCell ⟨gb199, 10, none⟩ (.int .u64 t196)).setCell ⟨gb199, 11, none⟩ (.int .u64 t197)).setCell ⟨gb199, 12, none⟩ (.int .u64 t198)) = w33 at n0_ n1_ n2_ n3_ n4_ ⊢
      have BK180 := n0_
      have BK181 := n1_
      have BK185 := n2_
      have BK199 := n3_
      have HB := n4_
      clear n0_ n1_ n2_ n3_ n4_
      have n0_ := aS (blk_drew BK180.out)
      have n1_ := aS (blk_drew BK181.out)
      have n2_ := aS (blk_drew BK185.out)
      have n3_ := aS (blk_drew BK199.out)
      have n4_ := aS (below_drew1 HB.out)
      clear BK180
      clear BK181
      clear BK185
      clear BK199
      clear HB
      have BK180 := n0_
      have BK181 := n1_
      have BK185 := n2_
      have BK199 := n3_
      have HB := n4_
      clear n0_ n1_ n2_ n3_ n4_
      refine start_ (n := 35) (S := fun w' => w'.cell? ⟨gb199, 0, none⟩ = some (.int .u64 t186) ∧ w'.cell? ⟨gb199, 1, none⟩ = some (.int .u64 t187) ∧ w'.cell? ⟨gb199, 2, none⟩ = some (.int .u64 t188) ∧ w'.cell? ⟨gb199, 3, none⟩ = some (.int .u64 t189) ∧ w'.cell? ⟨gb199, 4, none⟩ = some (.int .u64 t190) ∧ w'.cell? ⟨gb199, 5, none⟩ = some (.int .u64 t191) ∧ w'.cell? ⟨gb199, 6, none⟩ = some (.int .u64 t192) ∧ w'.cell? ⟨gb199, 7, none⟩ = some (.int .u64 t193) ∧ w'.cell? ⟨gb199, 8, none⟩ = some (.int .u64 t194) ∧ w'.cell? ⟨gb199, 9, none⟩ = some (.int .u64 t195) ∧ w'.cell? ⟨gb199, 10, none⟩ = some (.int .u64 t196) ∧ w'.cell? ⟨gb199, 11, none⟩ = some (.int .u64 t197) ∧ w'.cell? ⟨gb199, 12, none⟩ = some (.int .u64 t198) ∧ w'.cell? ⟨gb185, 0, none⟩ = some (.bool t183) ∧ w'.cell? ⟨gb185, 1, none⟩ = some (.bool t184)) (ds := []) #[false, false, false, false, false, false, false, false, false, false, false, false, false, false, false, false, false, false, false, false, false, false, false, false, false, false, false, false, false, false, false, false, false, false, false] (by kernel_rfl) rfl rfl ⟨(blk_cell BK199.out 0).trans rfl, (blk_cell BK199.out 1).trans rfl, (blk_cell BK199.out 2).trans rfl, (blk_cell BK199.out 3).trans rfl, (blk_cell BK199.out 4).trans rfl, (blk_cell BK199.out 5).trans rfl, (blk_cell BK199.out 6).trans rfl, (blk_cell BK199.out 7).trans rfl, (blk_cell BK199.out 8).trans rfl, (blk_cell BK199.out 9).trans rfl, (blk_cell BK199.out 10).trans rfl, (blk_cell BK199.out 11).trans rfl, (blk_cell BK199.out 12).trans rfl, (blk_cell BK185.out 0).trans rfl, (blk_cell BK185.out 1).trans rfl⟩ (fun hH => ?_); refine with_tabW graverlaw05_EhdrChecks.tab5 graverlaw05_EhdrChecks.bits5 (fun HT_ HW_ => ?_)
      generalize w33.drew = w34 at BK180 BK181 BK185 BK199 HB hH ⊢
      refine take_ (i := 0) (N := some 17) (v := ?_) (a' := ?_) (bm 35 1) rfl rfl (take_ofW HT_.out HW_.out (by kernel_rfl)) (fun _ _ _ h => h) (Or.inl ⟨by rfl, ?_⟩) hH ?_ ?_
      rotate_left
      ·
       intro w' s0
       go_simp
       with_reducible rfl
      rotate_left
      ·
       simp only [Act.put, aput]
       rfl
      refine take_ (i := 1) (N := some 18) (v := ?_) (a' := ?_) (bm 35 3) rfl rfl (take_ofW HT_.out HW_.out (by kernel_rfl)) (fun _ _ _ h => h) (Or.inl ⟨by rfl, ?_⟩) hH ?_ ?_
      rotate_left
      ·
       intro w' s0
       go_simp
       with_reducible rfl
      rotate_left
      ·
       simp only [Act.put, aput]
       rfl
      refine one_ (i := 2) (N := some 19) (bm 35 7) rfl rfl (one_of HT_.out (by kernel_rfl)) (by decide) (fun K hK => ?_)
      refine goes_ Tryd.func25 (by kernel_rfl) rfl #[.agg #[.int .u64 t186, .int .u64 t187, .int .u64 t188, .int .u64 t189, .int .u64 t190, .int .u64 t191, .int .u64 t192, .int .u64 t193, .int .u64 t194, .int .u64 t195, .int .u64 t196, .int .u64 t197, .int .u64 t198], .agg #[.bool t183, .bool t184]] (by rfl) rfl rfl (by (try simp only [List.map_toArray, List.map_cons, List.map_nil]); first | done | rfl | (simp only [List.length_drop, List.length_take]; rfl)) ?_
      with_reducible refine (ehdr_Head_Check.calls k t186 t187 t188 t189 t190 t191 t192 t193 t194 t195 t196 t197 t198 t183 t184 t200 _ ?side1 A23.out).mono ?_
      (case side1 => exact Laid_ehdr.below HLD_ehdr.out (by repeat (first|(with_reducible first|exact HB.out|apply eA|apply eN|apply eD|refine below_set ?_ GE180.out|refine below_set ?_ GE181.out|refine below_set ?_ GE185.out|refine below_set ?_ GE199.out)|exact HB.out)))
      rintro e w35 ⟨rfl, hb⟩
      refine ⟨_, rfl, ?_⟩
      have n0_ := aS (blk_below (g := gb180) (o := .cells #[.int .u64 a1_0, .int .u64 a1_1, .int .u64 a1_2, .int .u64 a1_3] 51 (0, 0)) (by (with_reducible repeat (first|apply bN|apply bD|apply bA)); exact BK180.out) hb)
      have n1_ := aS (blk_below (g := gb181) (o := .cells #[.int .u64 a2_0, .int .u64 a2_1] 52 (0, 0)) (by (with_reducible repeat (first|apply bN|apply bD|apply bA)); exact BK181.out) hb)
      have n2_ := aS (blk_below (g := gb185) (o := .cells #[.bool t183, .bool t184] 29 (0, 0)) (by (with_reducible repeat (first|apply bN|apply bD|apply bA)); exact BK185.out) hb)
      have n3_ := aS (blk_below (g := gb199) (o := .cells #[.int .u64 t186, .int .u64 t187, .int .u64 t188, .int .u64 t189, .int .u64 t190, .int .u64 t191, .int .u64 t192, .int .u64 t193, .int .u64 t194, .int .u64 t195, .int .u64 t196, .int .u64 t197, .int .u64 t198] 54 (0, 0)) (by (with_reducible repeat (first|apply bN|apply bD|apply bA)); exact BK199.out) hb)
      have n4_ := aS (below_step (by repeat (first|(with_reducible first|exact HB.out|apply eA|apply eN|apply eD|refine below_set ?_ GE180.out|refine below_set ?_ GE181.out|refine below_set ?_ GE185.out|refine below_set ?_ GE199.out)|exact HB.out)) hb)
      clear BK180
      clear BK181
      clear BK185
      clear BK199
      clear HB
      have BK180 := n0_
      have BK181 := n1_
      have BK185 := n2_
      have BK199 := n3_
      have HB := n4_
      clear n0_ n1_ n2_ n3_ n4_
      (try clear hb)
      (try clear hb2)
      (try clear hk)
      (try clear hi)
      refine hK.out _ _ ⟨(blk_cell BK199.out 0).trans rfl, (blk_cell BK199.out 1).trans rfl, (blk_cell BK199.out 2).trans rfl, (blk_cell BK199.out 3).trans rfl, (blk_cell BK199.out 4).trans rfl, (blk_cell BK199.out 5).trans rfl, (blk_cell BK199.out 6).trans rfl, (blk_cell BK199.out 7).trans rfl, (blk_cell BK199.out 8).trans rfl, (blk_cell BK199.out 9).trans rfl, (blk_cell BK199.out 10).trans rfl, (blk_cell BK199.out 11).trans rfl, (blk_cell BK199.out 12).trans rfl, (blk_cell BK185.out 0).trans rfl, (blk_cell BK185.out 1).trans rfl⟩ (fun hH => ?_)
      clear hK K
      refine norm_ (a' := ?_) ?_ ?_
      rotate_left
      ·
       show Act.put _ (some 19) _ = _
       simp only [Act.put, aput]
       rfl
      refine pure_ (i := 3) (N := some 20) (v := ?_) (a' := ?_) (bm 35 15) rfl rfl (any_of HT_.out (by kernel_rfl)) (fun _ _ _ h => h) (Or.inl ⟨by rfl, ?_⟩) ?_ ?_
      rotate_left
      ·
       intro w'
       go_simp
       with_reducible rfl
      rotate_left
      ·
       simp only [Act.put, aput]
       rfl
      refine pure_ (i := 4) (N := some 21) (v := ?_) (a' := ?_) (bm 35 31) rfl rfl (any_of HT_.out (by kernel_rfl)) (fun _ _ _ h => h) (Or.inl ⟨by rfl, ?_⟩) ?_ ?_
      rotate_left
      ·
       intro w'
       go_simp
       with_reducible rfl
      rotate_left
      ·
       simp only [Act.put, aput]
       rfl
      refine pure_ (i := 5) (N := some 22) (v := ?_) (a' := ?_) (bm 35 63) rfl rfl (any_of HT_.out (by kernel_rfl)) (fun _ _ _ h => h) (Or.inl ⟨by rfl, ?_⟩) ?_ ?_
      rotate_left
      ·
       intro w'
       go_simp
       with_reducible rfl
      rotate_left
      ·
       simp only [Act.put, aput]
       rfl
      refine take_ (i := 6) (N := some 23) (v := ?_) (a' := ?_) (bm 35 127) rfl rfl (take_ofW HT_.out HW_.out (by kernel_rfl)) (fun _ _ _ h => h) (Or.inl ⟨by rfl, ?_⟩) hH ?_ ?_
      rotate_left
      ·
       intro w' s0
       go_simp
       with_reducible rfl
      rotate_left
      ·
       simp only [Act.put, aput]
       rfl
      refine take_ (i := 7) (N := some 24) (v := ?_) (a' := ?_) (bm 35 255) rfl rfl (take_ofW HT_.out HW_.out (by kernel_rfl)) (fun _ _ _ h => h) (Or.inl ⟨by rfl, ?_⟩) hH ?_ ?_
      rotate_left
      ·
       intro w' s0
       go_simp
       with_reducible rfl
      rotate_left
      ·
       simp only [Act.put, aput]
       rfl
      refine one_ (i := 8) (N := some 25) (bm 35 511) rfl rfl (one_of HT_.out (by kernel_rfl)) (by decide) (fun K hK => ?_)
      refine goes_ Tryd.func26 (by kernel_rfl) rfl #[.agg #[.bool t183, .bool t184]] (by rfl) rfl rfl (by (try simp only [List.map_toArray, List.map_cons, List.map_nil]); first | done | rfl | (simp only [List.length_drop, List.length_take]; rfl)) ?_
      with_reducible refine (ehdr_Size.calls k t183 t184 t201 _ ?side1 A25.out).mono ?_
      (case side1 => exact Laid_ehdr.below HLD_ehdr.out (by repeat (first|(with_reducible first|exact HB.out|apply eA|apply eN|apply eD|refine below_set ?_ GE180.out|refine below_set ?_ GE181.out|refine below_set ?_ GE185.out|refine below_set ?_ GE199.out)|exact HB.out)))
      rintro e w36 ⟨rfl, hb⟩
      refine ⟨_, rfl, ?_⟩
      have n0_ := aS (blk_below (g := gb180) (o := .cells #[.int .u64 a1_0, .int .u64 a1_1, .int .u64 a1_2, .int .u64 a1_3] 51 (0, 0)) (by (with_reducible repeat (first|apply bN|apply bD|apply bA)); exact BK180.out) hb)
      have n1_ := aS (blk_below (g := gb181) (o := .cells #[.int .u64 a2_0, .int .u64 a2_1] 52 (0, 0)) (by (with_reducible repeat (first|apply bN|apply bD|apply bA)); exact BK181.out) hb)
      have n2_ := aS (blk_below (g := gb185) (o := .cells #[.bool t183, .bool t184] 29 (0, 0)) (by (with_reducible repeat (first|apply bN|apply bD|apply bA)); exact BK185.out) hb)
      have n3_ := aS (blk_below (g := gb199) (o := .cells #[.int .u64 t186, .int .u64 t187, .int .u64 t188, .int .u64 t189, .int .u64 t190, .int .u64 t191, .int .u64 t192, .int .u64 t193, .int .u64 t194, .int .u64 t195, .int .u64 t196, .int .u64 t197, .int .u64 t198] 54 (0, 0)) (by (with_reducible repeat (first|apply bN|apply bD|apply bA)); exact BK199.out) hb)
      have n4_ := aS (below_step (by repeat (first|(with_reducible first|exact HB.out|apply eA|apply eN|apply eD|refine below_set ?_ GE180.out|refine below_set ?_ GE181.out|refine below_set ?_ GE185.out|refine below_set ?_ GE199.out)|exact HB.out)) hb)
      clear BK180
      clear BK181
      clear BK185
      clear BK199
      clear HB
      have BK180 := n0_
      have BK181 := n1_
      have BK185 := n2_
      have BK199 := n3_
      have HB := n4_
      clear n0_ n1_ n2_ n3_ n4_
      (try clear hb)
      (try clear hb2)
      (try clear hk)
      (try clear hi)
      refine hK.out _ _ ⟨(blk_cell BK199.out 0).trans rfl, (blk_cell BK199.out 1).trans rfl, (blk_cell BK199.out 2).trans rfl, (blk_cell BK199.out 3).trans rfl, (blk_cell BK199.out 4).trans rfl, (blk_cell BK199.out 5).trans rfl, (blk_cell BK199.out 6).trans rfl, (blk_cell BK199.out 7).trans rfl, (blk_cell BK199.out 8).trans rfl, (blk_cell BK199.out 9).trans rfl, (blk_cell BK199.out 10).trans rfl, (blk_cell BK199.out 11).trans rfl, (blk_cell BK199.out 12).trans rfl, (blk_cell BK185.out 0).trans rfl, (blk_cell BK185.out 1).trans rfl⟩ (fun hH => ?_)
      clear hK K
      refine norm_ (a' := ?_) ?_ ?_
      rotate_left
      ·
       show Act.put _ (some 25) _ = _
       simp only [Act.put, aput]
       rfl
      refine pure_ (i := 9) (N := some 26) (v := ?_) (a' := ?_) (bm 35 1023) rfl rfl (any_of HT_.out (by kernel_rfl)) (fun _ _ _ h => h) (Or.inl ⟨by rfl, ?_⟩) ?_ ?_
      rotate_left
      ·
       intro w'
       go_simp
       with_reducible rfl
      rotate_left
      ·
       simp only [Act.put, aput]
       rfl
      refine pure_ (i := 10) (N := some 27) (v := ?_) (a' := ?_) (bm 35 2047) rfl rfl (any_of HT_.out (by kernel_rfl)) (fun _ _ _ h => h) (Or.inl ⟨by rfl, ?_⟩) ?_ ?_
      rotate_left
      ·
       intro w'
       go_simp
       with_reducible rfl
      rotate_left
      ·
       simp only [Act.put, aput]
       rfl
      refine pure_ (i := 11) (N := some 28) (v := ?_) (a' := ?_) (bm 35 4095) rfl rfl (any_of HT_.out (by kernel_rfl)) (fun _ _ _ h => h) (Or.inl ⟨by rfl, ?_⟩) ?_ ?_
      rotate_left
      ·
       intro w'
       go_simp
       with_reducible rfl
      rotate_left
      ·
       simp only [Act.put, aput]
       rfl
      refine pure_ (i := 12) (N := some 29) (v := ?_) (a' := ?_) (bm 35 8191) rfl rfl (any_of HT_.out (by kernel_rfl)) (fun _ _ _ h => h) (Or.inl ⟨by rfl, ?_⟩) ?_ ?_
      rotate_left
      ·
       intro w'
       go_simp
       with_reducible rfl
      rotate_left
      ·
       simp only [Act.put, aput]
       rfl
      refine pure_ (i := 13) (N := some 30) (v := ?_) (a' := ?_) (bm 35 16383) rfl rfl (any_of HT_.out (by kernel_rfl)) (fun _ _ _ h => h) (Or.inl ⟨by rfl, ?_⟩) ?_ ?_
      rotate_left
      ·
       intro w'
       go_simp
       with_reducible rfl
      rotate_left
      ·
       simp only [Act.put, aput]
       rfl
      refine pure_ (i := 14) (N := some 31) (v := ?_) (a' := ?_) (bm 35 32767) rfl rfl (any_of HT_.out (by kernel_rfl)) (fun _ _ _ h => h) (Or.inl ⟨by rfl, ?_⟩) ?_ ?_
      rotate_left
      ·
       intro w'
       go_simp
       with_reducible rfl
      rotate_left
      ·
       simp only [Act.put, aput]
       rfl
      refine pure_ (i := 16) (N := some 33) (v := ?_) (a' := ?_) (bm 35 98303) rfl rfl (any_of HT_.out (by kernel_rfl)) (fun _ _ _ h => h) (Or.inl ⟨by rfl, ?_⟩) ?_ ?_
      rotate_left
      ·
       intro w'
       go_simp
       with_reducible rfl
      rotate_left
      ·
       simp only [Act.put, aput]
       rfl
      refine pure_ (i := 17) (N := some 34) (v := ?_) (a' := ?_) (bm 35 229375) rfl rfl (any_of HT_.out (by kernel_rfl)) (fun _ _ _ h => h) (Or.inl ⟨by rfl, ?_⟩) ?_ ?_
      rotate_left
      ·
       intro w'
       go_simp
       with_reducible rfl
      rotate_left
      ·
       simp only [Act.put, aput]
       rfl
      refine pure_ (i := 18) (N := some 35) (v := ?_) (a' := ?_) (bm 35 491519) rfl rfl (any_of HT_.out (by kernel_rfl)) (fun _ _ _ h => h) (Or.inl ⟨by rfl, ?_⟩) ?_ ?_
      rotate_left
      ·
       intro w'
       go_simp
       with_reducible rfl
      rotate_left
      ·
       simp only [Act.put, aput]
       rfl
      refine pure_ (i := 19) (N := some 36) (v := ?_) (a' := ?_) (bm 35 1015807) rfl rfl (any_of HT_.out (by kernel_rfl)) (fun _ _ _ h => h) (Or.inl ⟨by rfl, ?_⟩) ?_ ?_
      rotate_left
      ·
       intro w'
       go_simp
       with_reducible rfl
      rotate_left
      ·
       simp only [Act.put, aput]
       rfl
      refine pure_ (i := 20) (N := some 37) (v := ?_) (a' := ?_) (bm 35 2064383) rfl rfl (any_of HT_.out (by kernel_rfl)) (fun _ _ _ h => h) (Or.inl ⟨by rfl, ?_⟩) ?_ ?_
      rotate_left
      ·
       intro w'
       go_simp
       with_reducible rfl
      rotate_left
      ·
       simp only [Act.put, aput]
       rfl
      refine pure_ (i := 21) (N := some 38) (v := ?_) (a' := ?_) (bm 35 4161535) rfl rfl (any_of HT_.out (by kernel_rfl)) (fun _ _ _ h => h) (Or.inl ⟨by rfl, ?_⟩) ?_ ?_
      rotate_left
      ·
       intro w'
       go_simp
       with_reducible rfl
      rotate_left
      ·
       simp only [Act.put, aput]
       rfl
      refine take_ (i := 15) (N := some 32) (v := ?_) (a' := ?_) (bm 35 4194303) rfl rfl (take_ofW HT_.out HW_.out (by kernel_rfl)) (fun _ _ _ h => h) (Or.inl ⟨by rfl, ?_⟩) hH ?_ ?_
      rotate_left
      ·
       intro w' s0
       go_simp
       with_reducible rfl
      rotate_left
      ·
       simp only [Act.put, aput]
       rfl
      refine pure_ (i := 22) (N := some 39) (v := ?_) (a' := ?_) (bm 35 8388607) rfl rfl (any_of HT_.out (by kernel_rfl)) (fun _ _ _ h => h) (Or.inl ⟨by rfl, ?_⟩) ?_ ?_
      rotate_left
      ·
       intro w'
       go_simp
       with_reducible rfl
      rotate_left
      ·
       simp only [Act.put, aput]
       rfl
      refine pure_ (i := 23) (N := some 40) (v := ?_) (a' := ?_) (bm 35 16777215) rfl rfl (any_of HT_.out (by kernel_rfl)) (fun _ _ _ h => h) (Or.inl ⟨by rfl, ?_⟩) ?_ ?_
      rotate_left
      ·
       intro w'
       go_simp
       with_reducible rfl
      rotate_left
      ·
       simp only [Act.put, aput]
       rfl
      refine pure_ (i := 24) (N := some 41) (v := ?_) (a' := ?_) (bm 35 33554431) rfl rfl (any_of HT_.out (by kernel_rfl)) (fun _ _ _ h => h) (Or.inl ⟨by rfl, ?_⟩) ?_ ?_
      rotate_left
      ·
       intro w'
       go_simp
       with_reducible rfl
      rotate_left
      ·
       simp only [Act.put, aput]
       rfl
      refine pure_ (i := 25) (N := some 42) (v := undef) (a' := ?_) (bm 35 67108863) rfl rfl (any_of HT_.out (by kernel_rfl)) (fun _ _ _ h => h) (Or.inr ⟨by rfl, rfl⟩) ?_ ?_
      rotate_left
      ·
       simp only [Act.put, aput]
       rfl
      refine pure_ (i := 26) (N := some 43) (v := undef) (a' := ?_) (bm 35 134217727) rfl rfl (any_of HT_.out (by kernel_rfl)) (fun _ _ _ h => h) (Or.inr ⟨by rfl, rfl⟩) ?_ ?_
      rotate_left
      ·
       simp only [Act.put, aput]
       rfl
      refine pure_ (i := 27) (N := some 44) (v := undef) (a' := ?_) (bm 35 268435455) rfl rfl (any_of HT_.out (by kernel_rfl)) (fun _ _ _ h => h) (Or.inr ⟨by rfl, rfl⟩) ?_ ?_
      rotate_left
      ·
       simp only [Act.put, aput]
       rfl
      refine pure_ (i := 28) (N := some 45) (v := undef) (a' := ?_) (bm 35 536870911) rfl rfl (any_of HT_.out (by kernel_rfl)) (fun _ _ _ h => h) (Or.inr ⟨by rfl, rfl⟩) ?_ ?_
      rotate_left
      ·
       simp only [Act.put, aput]
       rfl
      refine pure_ (i := 29) (N := some 46) (v := undef) (a' := ?_) (bm 35 1073741823) rfl rfl (any_of HT_.out (by kernel_rfl)) (fun _ _ _ h => h) (Or.inr ⟨by rfl, rfl⟩) ?_ ?_
      rotate_left
      ·
       simp only [Act.put, aput]
       rfl
      refine pure_ (i := 30) (N := some 47) (v := undef) (a' := ?_) (bm 35 2147483647) rfl rfl (any_of HT_.out (by kernel_rfl)) (fun _ _ _ h => h) (Or.inr ⟨by rfl, rfl⟩) ?_ ?_
      rotate_left
      ·
       simp only [Act.put, aput]
       rfl
      refine pure_ (i := 31) (N := some 48) (v := undef) (a' := ?_) (bm 35 4294967295) rfl rfl (any_of HT_.out (by kernel_rfl)) (fun _ _ _ h => h) (Or.inr ⟨by rfl, rfl⟩) ?_ ?_
      rotate_left
      ·
       simp only [Act.put, aput]
       rfl
      refine pure_ (i := 32) (N := some 49) (v := undef) (a' := ?_) (bm 35 8589934591) rfl rfl (any_of HT_.out (by kernel_rfl)) (fun _ _ _ h => h) (Or.inr ⟨by rfl, rfl⟩) ?_ ?_
      rotate_left
      ·
       simp only [Act.put, aput]
       rfl
      refine pure_ (i := 33) (N := some 50) (v := undef) (a' := ?_) (bm 35 17179869183) rfl rfl (any_of HT_.out (by kernel_rfl)) (fun _ _ _ h => h) (Or.inr ⟨by rfl, rfl⟩) ?_ ?_
      rotate_left
      ·
       simp only [Act.put, aput]
       rfl
      refine pure_ (i := 34) (N := some 51) (v := ?_) (a' := ?_) (bm 35 34359738367) rfl rfl (any_of HT_.out (by kernel_rfl)) (fun _ _ _ h => h) (Or.inl ⟨by rfl, ?_⟩) ?_ ?_
      rotate_left
      ·
       intro w'
       go_simp
       with_reducible rfl
      rotate_left
      ·
       simp only [Act.put, aput]
       rfl
      refine done_ (done_of HT_.out (by kernel_rfl)) ?_
      try go_wp2
      go_meet
      case rel => exact ⟨_, (true), (by first|rfl|(simp; done)|(simp [*]; done)), H', ⟨by first|omega|exact Nat.le_refl _⟩, ⟨by (with_reducible repeat (first|apply bN|apply bD|apply bA)); exact BK180.out⟩, ⟨by (with_reducible repeat (first|apply bN|apply bD|apply bA)); exact BK181.out⟩, ⟨by (with_reducible repeat (first|apply bN|apply bD|apply bA)); exact BK185.out⟩, ⟨by (with_reducible repeat (first|apply bN|apply bD|apply bA)); exact BK199.out⟩, ⟨by repeat (first|(with_reducible first|exact HB.out|apply eA|apply eN|apply eD|refine below_set ?_ GE180.out|refine below_set ?_ GE181.out|refine below_set ?_ GE185.out|refine below_set ?_ GE199.out)|exact HB.out)⟩⟩
    ·
     rw [if_neg c26] at H
     have c26b0 : (t193 == (IntKind.u64.wrap (wrap64 (16 + t201)))) = false := beq_eq_false_iff_ne.mpr c26
     have c26b1 : (t193 != (IntKind.u64.wrap (wrap64 (16 + t201)))) = true := bne_iff_ne.mpr c26
     have H' := aS H
     clear H
     try go_wp2
     have n0_ : Aside0 ((((((((((((((w18.setCell ⟨gb199, 0, none⟩ (.int .u64 t186)).setCell ⟨gb199, 1, none⟩ (.int .u64 t187)).setCell ⟨gb199, 2, none⟩ (.int .u64 t188)).setCell ⟨gb199, 3, none⟩ (.int .u64 t189)).setCell ⟨gb199, 4, none⟩ (.int .u64 t190)).setCell ⟨gb199, 5, none⟩ (.int .u64 t191)).setCell ⟨gb199, 6, none⟩ (.int .u64 t192)).setCell ⟨gb199, 7, none⟩ (.int .u64 t193)).setCell ⟨gb199, 8, none⟩ (.int .u64 t194)).setCell ⟨gb199, 9, none⟩ (.int .u64 t195)).setCell ⟨gb199, 10, none⟩ (.int .u64 t196)).setCell ⟨gb199, 11, none⟩ (.int .u64 t197)).setCell ⟨gb199, 12, none⟩ (.int .u64 t198)).heap[gb180]? = some (.cells #[.int .u64 a1_0, .int .u64 a1_1, .int .u64 a1_2, .int .u64 a1_3] 51 (0, 0))) := ⟨by (with_reducible repeat (first|apply bN|apply bD|apply bA)); refine blk_far ?_ NB180_199.out _; (with_reducible repeat (first|apply bN|apply bD|apply bA)); refine blk_far ?_ NB180_199.out _; (with_reducible repeat (first|apply bN|apply bD|apply bA)); refine blk_far ?_ NB180_199.out _; (with_reducible repeat (first|apply bN|apply bD|apply bA)); refine blk_far ?_ NB180_199.out _; (with_reducible repeat (first|apply bN|apply bD|apply bA)); refine blk_far ?_ NB180_199.out _; (with_reducible repeat (first|apply bN|apply bD|apply bA)); refine blk_far ?_ NB180_199.out _; (with_reducible repeat (first|apply bN|apply bD|apply bA)); refine blk_far ?_ NB180_199.out _; (with_reducible repeat (first|apply bN|apply bD|apply bA)); refine blk_far ?_ NB180_199.out _; (with_reducible repeat (first|apply bN|apply bD|apply bA)); refine blk_far ?_ NB180_199.out _; (with_reducible repeat (first|apply bN|apply bD|apply bA)); refine blk_far ?_ NB180_199.out _; (with_reducible repeat (first|apply bN|apply bD|apply bA)); refine blk_far ?_ NB180_199.out _; (with_reducible repeat (first|apply bN|apply bD|apply bA)); refine blk_far ?_ NB180_199.out _; (with_reducible repeat (first|apply bN|apply bD|apply bA)); refine blk_far ?_ NB180_199.out _; (with_reducible repeat (first|apply bN|apply bD|apply bA)); exact BK180.out⟩
     have n1_ : Aside0 ((((((((((((((w18.setCell ⟨gb199, 0, none⟩ (.int .u64 t186)).setCell ⟨gb199, 1, none⟩ (.int .u64 t187)).setCell ⟨gb199, 2, none⟩ (.int .u64 t188)).setCell ⟨gb199, 3, none⟩ (.int .u64 t189)).setCell ⟨gb199, 4, none⟩ (.int .u64 t190)).setCell ⟨gb199, 5, none⟩ (.int .u64 t191)).setCell ⟨gb199, 6, none⟩ (.int .u64 t192)).setCell ⟨gb199, 7, none⟩ (.int .u64 t193)).setCell ⟨gb199, 8, none⟩ (.int .u64 t194)).setCell ⟨gb199, 9, none⟩ (.int .u64 t195)).setCell ⟨gb199, 10, none⟩ (.int .u64 t196)).setCell ⟨gb199, 11, none⟩ (.int .u64 t197)).setCell ⟨gb199, 12, none⟩ (.int .u64 t198)).heap[gb181]? = some (.cells #[.int .u64 a2_0, .int .u64 a2_1] 52 (0, 0))) := ⟨by (with_reducible repeat (first|apply bN|apply bD|apply bA)); refine blk_far ?_ NB181_199.out _; (with_reducible repeat (first|apply bN|apply bD|apply bA)); refine blk_far ?_ NB181_199.out _; (with_reducible repeat (first|apply bN|apply bD|apply bA)); refine blk_far ?_ NB181_199.out _; (with_reducible repeat (first|apply bN|apply bD|apply bA)); refine blk_far ?_ NB181_199.out _; (with_reducible repeat (first|apply bN|apply bD|apply bA)); refine blk_far ?_ NB181_199.out _; (with_reducible repeat (first|apply bN|apply bD|apply bA)); refine blk_far ?_ NB181_199.out _; (with_reducible repeat (first|apply bN|apply bD|apply bA)); refine blk_far ?_ NB181_199.out _; (with_reducible repeat (first|apply bN|apply bD|apply bA)); refine blk_far ?_ NB181_199.out _; (with_reducible repeat (first|apply bN|apply bD|apply bA)); refine blk_far ?_ NB181_199.out _; (with_reducible repeat (first|apply bN|apply bD|apply bA)); refine blk_far ?_ NB181_199.out _; (with_reducible repeat (first|apply bN|apply bD|apply bA)); refine blk_far ?_ NB181_199.out _; (with_reducible repeat (first|apply bN|apply bD|apply bA)); refine blk_far ?_ NB181_199.out _; (with_reducible repeat (first|apply bN|apply bD|apply bA)); refine blk_far ?_ NB181_199.out _; (with_reducible repeat (first|apply bN|apply bD|apply bA)); exact BK181.out⟩
     have n2_ : Aside0 ((((((((((((((w18.setCell ⟨gb199, 0, none⟩ (.int .u64 t186)).setCell ⟨gb199, 1, none⟩ (.int .u64 t187)).setCell ⟨gb199, 2, none⟩ (.int .u64 t188)).setCell ⟨gb199, 3, none⟩ (.int .u64 t189)).setCell ⟨gb199, 4, none⟩ (.int .u64 t190)).setCell ⟨gb199, 5, none⟩ (.int .u64 t191)).setCell ⟨gb199, 6, none⟩ (.int .u64 t192)).setCell ⟨gb199, 7, none⟩ (.int .u64 t193)).setCell ⟨gb199, 8, none⟩ (.int .u64 t194)).setCell ⟨gb199, 9, none⟩ (.int .u64 t195)).setCell ⟨gb199, 10, none⟩ (.int .u64 t196)).setCell ⟨gb199, 11, none⟩ (.int .u64 t197)).setCell ⟨gb199, 12, none⟩ (.int .u64 t198)).heap[gb185]? = some (.cells #[.bool t183, .bool t184] 29 (0, 0))) := ⟨by (with_reducible repeat (first|apply bN|apply bD|apply bA)); refine blk_far ?_ NB185_199.out _; (with_reducible repeat (first|apply bN|apply bD|apply bA)); refine blk_far ?_ NB185_199.out _; (with_reducible repeat (first|apply bN|apply bD|apply bA)); refine blk_far ?_ NB185_199.out _; (with_reducible repeat (first|apply bN|apply bD|apply bA)); refine blk_far ?_ NB185_199.out _; (with_reducible repeat (first|apply bN|apply bD|apply bA)); refine blk_far ?_ NB185_199.out _; (with_reducible repeat (first|apply bN|apply bD|apply bA)); refine blk_far ?_ NB185_199.out _; (with_reducible repeat (first|apply bN|apply bD|apply bA)); refine blk_far ?_ NB185_199.out _; (with_reducible repeat (first|apply bN|apply bD|apply bA)); refine blk_far ?_ NB185_199.out _; (with_reducible repeat (first|apply bN|apply bD|apply bA)); refine blk_far ?_ NB185_199.out _; (with_reducible repeat (first|apply bN|apply bD|apply bA)); refine blk_far ?_ NB185_199.out _; (with_reducible repeat (first|apply bN|apply bD|apply bA)); refine blk_far ?_ NB185_199.out _; (with_reducible repeat (first|apply bN|apply bD|apply bA)); refine blk_far ?_ NB185_199.out _; (with_reducible repeat (first|apply bN|apply bD|apply bA)); refine blk_far ?_ NB185_199.out _; (with_reducible repeat (first|apply bN|apply bD|apply bA)); exact BK185.out⟩
     have n3_ : Aside0 ((((((((((((((w18.setCell ⟨gb199, 0, none⟩ (.int .u64 t186)).setCell ⟨gb199, 1, none⟩ (.int .u64 t187)).setCell ⟨gb199, 2, none⟩ (.int .u64 t188)).setCell ⟨gb199, 3, none⟩ (.int .u64 t189)).setCell ⟨gb199, 4, none⟩ (.int .u64 t190)).setCell ⟨gb199, 5, none⟩ (.int .u64 t191)).setCell ⟨gb199, 6, none⟩ (.int .u64 t192)).setCell ⟨gb199, 7, none⟩ (.int .u64 t193)).setCell ⟨gb199, 8, none⟩ (.int .u64 t194)).setCell ⟨gb199, 9, none⟩ (.int .u64 t195)).setCell ⟨gb199, 10, none⟩ (.int .u64 t196)).setCell ⟨gb199, 11, none⟩ (.int .u64 t197)).setCell ⟨gb199, 12, none⟩ (.int .u64 t198)).heap[gb199]? = some (.cells #[.int .u64 t186, .int .u64 t187, .int .u64 t188, .int .u64 t189, .int .u64 t190, .int .u64 t191, .int .u64 t192, .int .u64 t193, .int .u64 t194, .int .u64 t195, .int .u64 t196, .int .u64 t197, .int .u64 t198] 54 (0, 0))) := ⟨by (with_reducible repeat (first|apply bN|apply bD|apply bA)); refine blk_put (cs := #[.int .u64 t186, .int .u64 t187, .int .u64 t188, .int .u64 t189, .int .u64 t190, .int .u64 t191, .int .u64 t192, .int .u64 t193, .int .u64 t194, .int .u64 t195, .int .u64 t196, .int .u64 t197, .int .u64 0]) ?_ 12 _ rfl; (with_reducible repeat (first|apply bN|apply bD|apply bA)); refine blk_put (cs := #[.int .u64 t186, .int .u64 t187, .int .u64 t188, .int .u64 t189, .int .u64 t190, .int .u64 t191, .int .u64 t192, .int .u64 t193, .int .u64 t194, .int .u64 t195, .int .u64 t196, .int .u64 0, .int .u64 0]) ?_ 11 _ rfl; (with_reducible repeat (first|apply bN|apply bD|apply bA)); refine blk_put (cs := #[.int .u64 t186, .int .u64 t187, .int .u64 t188, .int .u64 t189, .int .u64 t190, .int .u64 t191, .int .u64 t192, .int .u64 t193, .int .u64 t194, .int .u64 t195, .int .u64 0, .int .u64 0, .int .u64 0]) ?_ 10 _ rfl; (with_reducible repeat (first|apply bN|apply bD|apply bA)); refine blk_put (cs := #[.int .u64 t186, .int .u64 t187, .int .u64 t188, .int .u64 t189, .int .u64 t190, .int .u64 t191, .int .u64 t192, .int .u64 t193, .int .u64 t194, .int .u64 0, .int .u64 0, .int .u64 0, .int .u64 0]) ?_ 9 _ rfl; (with_reducible repeat (first|apply bN|apply bD|apply bA)); refine blk_put (cs := #[.int .u64 t186, .int .u64 t187, .int .u64 t188, .int .u64 t189, .int .u64 t190, .int .u64 t191, .int .u64 t192, .int .u64 t193, .int .u64 0, .int .u64 0, .int .u64 0, .int .u64 0, .int .u64 0]) ?_ 8 _ rfl; (with_reducible repeat (first|apply bN|apply bD|apply bA)); refine blk_put (cs := #[.int .u64 t186, .int .u64 t187, .int .u64 t188, .int .u64 t189, .int .u64 t190, .int .u64 t191, .int .u64 t192, .int .u64 0, .int .u64 0, .int .u64 0, .int .u64 0, .int .u64 0, .int .u64 0]) ?_ 7 _ rfl; (with_reducible repeat (first|apply bN|apply bD|apply bA)); refine blk_put (cs := #[.int .u64 t186, .int .u64 t187, .int .u64 t188, .int .u64 t189, .int .u64 t190, .int .u64 t191, .int .u64 0, .int .u64 0, .int .u64 0, .int .u64 0, .int .u64 0, .int .u64 0, .int .u64 0]) ?_ 6 _ rfl; (with_reducible repeat (first|apply bN|apply bD|apply bA)); refine blk_put (cs := #[.int .u64 t186, .int .u64 t187, .int .u64 t188, .int .u64 t189, .int .u64 t190, .int .u64 0, .int .u64 0, .int .u64 0, .int .u64 0, .int .u64 0, .int .u64 0, .int .u64 0, .int .u64 0]) ?_ 5 _ rfl; (with_reducible repeat (first|apply bN|apply bD|apply bA)); refine blk_put (cs := #[.int .u64 t186, .int .u64 t187, .int .u64 t188, .int .u64 t189, .int .u64 0, .int .u64 0, .int .u64 0, .int .u64 0, .int .u64 0, .int .u64 0, .int .u64 0, .int .u64 0, .int .u64 0]) ?_ 4 _ rfl; (with_reducible repeat (first|apply bN|apply bD|apply bA)); refine blk_put (cs := #[.int .u64 t186, .int .u64 t187, .int .u64 t188, .int .u64 0, .int .u64 0, .int .u64 0, .int .u64 0, .int .u64 0, .int .u64 0, .int .u64 0, .int .u64 0, .int .u64 0, .int .u64 0]) ?_ 3 _ rfl; (with_reducible repeat (first|apply bN|apply bD|apply bA)); refine blk_put (cs := #[.int .u64 t186, .int .u64 t187, .int .u64 0, .int .u64 0, .int .u64 0, .int .u64 0, .int .u64 0, .int .u64 0, .int .u64 0, .int .u64 0, .int .u64 0, .int .u64 0, .int .u64 0]) ?_ 2 _ rfl; (with_reducible repeat (first|apply bN|apply bD|apply bA)); refine blk_put (cs := #[.int .u64 t186, .int .u64 0, .int .u64 0, .int .u64 0, .int .u64 0, .int .u64 0, .int .u64 0, .int .u64 0, .int .u64 0, .int .u64 0, .int .u64 0, .int .u64 0, .int .u64 0]) ?_ 1 _ rfl; (with_reducible repeat (first|apply bN|apply bD|apply bA)); refine blk_put (cs := #[.int .u64 0, .int .u64 0, .int .u64 0, .int .u64 0, .int .u64 0, .int .u64 0, .int .u64 0, .int .u64 0, .int .u64 0, .int .u64 0, .int .u64 0, .int .u64 0, .int .u64 0]) ?_ 0 _ rfl; (with_reducible repeat (first|apply bN|apply bD|apply bA)); exact BK199.out⟩
     have n4_ : Aside0 (Below w.heap.size w (((((((((((((w18.setCell ⟨gb199, 0, none⟩ (.int .u64 t186)).setCell ⟨gb199, 1, none⟩ (.int .u64 t187)).setCell ⟨gb199, 2, none⟩ (.int .u64 t188)).setCell ⟨gb199, 3, none⟩ (.int .u64 t189)).setCell ⟨gb199, 4, none⟩ (.int .u64 t190)).setCell ⟨gb199, 5, none⟩ (.int .u64 t191)).setCell ⟨gb199, 6, none⟩ (.int .u64 t192)).setCell ⟨gb199, 7, none⟩ (.int .u64 t193)).setCell ⟨gb199, 8, none⟩ (.int .u64 t194)).setCell ⟨gb199, 9, none⟩ (.int .u64 t195)).setCell ⟨gb199, 10, none⟩ (.int .u64 t196)).setCell ⟨gb199, 11, none⟩ (.int .u64 t197)).setCell ⟨gb199, 12, none⟩ (.int .u64 t198))) := ⟨by repeat (first|(with_reducible first|exact HB.out|apply eA|apply eN|apply eD|refine below_set ?_ GE180.out|refine below_set ?_ GE181.out|refine below_set ?_ GE185.out|refine below_set ?_ GE199.out)|exact HB.out)⟩
     (try clear BK180)
     (try clear BK181)
     (try clear BK185)
     (try clear BK199)
     (try clear HB)
     generalize (((((((((((((w18.setCell ⟨gb199, 0, none⟩ (.int .u64 t186)).setCell ⟨gb199, 1, none⟩ (.int .u64 t187)).setCell ⟨gb199, 2, none⟩ (.int .u64 t188)).setCell ⟨gb199, 3, none⟩ (.int .u64 t189)).setCell ⟨gb199, 4, none⟩ (.int .u64 t190)).setCell ⟨gb199, 5, none⟩ (.int .u64 t191)).setCell ⟨gb199, 6, none⟩ (.int .u64 t192)).setCell ⟨gb199, 7, none⟩ (.int .u64 t193)).setCell ⟨gb199, 8, none⟩ (.int .u64 t194)).setCell ⟨gb199, 9, none⟩ (.int .u64 t195)).setCell ⟨gb199, 10, none⟩ (.int .u64 t196)).setCell ⟨gb199, 11, none⟩ (.int .u64 t197)).setCell ⟨gb199, 12, none⟩ (.int .u64 t198)) = w37 at n0_ n1_ n2_ n3_ n4_ ⊢
     have BK180 := n0_
     have BK181 := n1_
     have BK185 := n2_
     have BK199 := n3_
     have HB := n4_
     clear n0_ n1_ n2_ n3_ n4_
     have n0_ := aS (blk_drew BK180.out)
     have n1_ := aS (blk_drew BK181.out)
     have n2_ := aS (blk_drew BK185.out)
     have n3_ := aS (blk_drew BK199.out)
     have n4_ := aS (below_drew1 HB.out)
     clear BK180
     clear BK181
     clear BK185
     clear BK199
     clear HB
     have BK180 := n0_
     have BK181 := n1_
     have BK185 := n2_
     have BK199 := n3_
     have HB := n4_
     clear n0_ n1_ n2_ n3_ n4_
     refine start_ (n := 35) (S := fun w' => w'.cell? ⟨gb199, 0, none⟩ = some (.int .u64 t186) ∧ w'.cell? ⟨gb199, 1, none⟩ = some (.int .u64 t187) ∧ w'.cell? ⟨gb199, 2, none⟩ = some (.int .u64 t188) ∧ w'.cell? ⟨gb199, 3, none⟩ = some (.int .u64 t189) ∧ w'.cell? ⟨gb199, 4, none⟩ = some (.int .u64 t190) ∧ w'.cell? ⟨gb199, 5, none⟩ = some (.int .u64 t191) ∧ w'.cell? ⟨gb199, 6, none⟩ = some (.int .u64 t192) ∧ w'.cell? ⟨gb199, 7, none⟩ = some (.int .u64 t193) ∧ w'.cell? ⟨gb199, 8, none⟩ = some (.int .u64 t194) ∧ w'.cell? ⟨gb199, 9, none⟩ = some (.int .u64 t195) ∧ w'.cell? ⟨gb199, 10, none⟩ = some (.int .u64 t196) ∧ w'.cell? ⟨gb199, 11, none⟩ = some (.int .u64 t197) ∧ w'.cell? ⟨gb199, 12, none⟩ = some (.int .u64 t198) ∧ w'.cell? ⟨gb185, 0, none⟩ = some (.bool t183) ∧ w'.cell? ⟨gb185, 1, none⟩ = some (.bool t184)) (ds := []) #[false, false, false, false, false, false, false, false, false, false, false, false, false, false, false, false, false, false, false, false, false, false, false, false, false, false, false, false, false, false, false, false, false, false, false] (by kernel_rfl) rfl rfl ⟨(blk_cell BK199.out 0).trans rfl, (blk_cell BK199.out 1).trans rfl, (blk_cell BK199.out 2).trans rfl, (blk_cell BK199.out 3).trans rfl, (blk_cell BK199.out 4).trans rfl, (blk_cell BK199.out 5).trans rfl, (blk_cell BK199.out 6).trans rfl, (blk_cell BK199.out 7).trans rfl, (blk_cell BK199.out 8).trans rfl, (blk_cell BK199.out 9).trans rfl, (blk_cell BK199.out 10).trans rfl, (blk_cell BK199.out 11).trans rfl, (blk_cell BK199.out 12).trans rfl, (blk_cell BK185.out 0).trans rfl, (blk_cell BK185.out 1).trans rfl⟩ (fun hH => ?_); refine with_tabW graverlaw05_EhdrChecks.tab5 graverlaw05_EhdrChecks.bits5 (fun HT_ HW_ => ?_)
     generalize w37.drew = w38 at BK180 BK181 BK185 BK199 HB hH ⊢
     refine take_ (i := 0) (N := some 17) (v := ?_) (a' := ?_) (bm 35 1) rfl rfl (take_ofW HT_.out HW_.out (by kernel_rfl)) (fun _ _ _ h => h) (Or.inl ⟨by rfl, ?_⟩) hH ?_ ?_
     rotate_left
     ·
      intro w' s0
      go_simp
      with_reducible rfl
     rotate_left
     ·
      simp only [Act.put, aput]
      rfl
     refine take_ (i := 1) (N := some 18) (v := ?_) (a' := ?_) (bm 35 3) rfl rfl (take_ofW HT_.out HW_.out (by kernel_rfl)) (fun _ _ _ h => h) (Or.inl ⟨by rfl, ?_⟩) hH ?_ ?_
     rotate_left
     ·
      intro w' s0
      go_simp
      with_reducible rfl
     rotate_left
     ·
      simp only [Act.put, aput]
      rfl
     refine one_ (i := 2) (N := some 19) (bm 35 7) rfl rfl (one_of HT_.out (by kernel_rfl)) (by decide) (fun K hK => ?_)
     refine goes_ Tryd.func25 (by kernel_rfl) rfl #[.agg #[.int .u64 t186, .int .u64 t187, .int .u64 t188, .int .u64 t189, .int .u64 t190, .int .u64 t191, .int .u64 t192, .int .u64 t193, .int .u64 t194, .int .u64 t195, .int .u64 t196, .int .u64 t197, .int .u64 t198], .agg #[.bool t183, .bool t184]] (by rfl) rfl rfl (by (try simp only [List.map_toArray, List.map_cons, List.map_nil]); first | done | rfl | (simp only [List.length_drop, List.length_take]; rfl)) ?_
     with_reducible refine (ehdr_Head_Check.calls k t186 t187 t188 t189 t190 t191 t192 t193 t194 t195 t196 t197 t198 t183 t184 t200 _ ?side1 A23.out).mono ?_
     (case side1 => exact Laid_ehdr.below HLD_ehdr.out (by repeat (first|(with_reducible first|exact HB.out|apply eA|apply eN|apply eD|refine below_set ?_ GE180.out|refine below_set ?_ GE181.out|refine below_set ?_ GE185.out|refine below_set ?_ GE199.out)|exact HB.out)))
     rintro e w39 ⟨rfl, hb⟩
     refine ⟨_, rfl, ?_⟩
     have n0_ := aS (blk_below (g := gb180) (o := .cells #[.int .u64 a1_0, .int .u64 a1_1, .int .u64 a1_2, .int .u64 a1_3] 51 (0, 0)) (by (with_reducible repeat (first|apply bN|apply bD|apply bA)); exact BK180.out) hb)
     have n1_ := aS (blk_below (g := gb181) (o := .cells #[.int .u64 a2_0, .int .u64 a2_1] 52 (0, 0)) (by (with_reducible repeat (first|apply bN|apply bD|apply bA)); exact BK181.out) hb)
     have n2_ := aS (blk_below (g := gb185) (o := .cells #[.bool t183, .bool t184] 29 (0, 0)) (by (with_reducible repeat (first|apply bN|apply bD|apply bA)); exact BK185.out) hb)
     have n3_ := aS (blk_below (g := gb199) (o := .cells #[.int .u64 t186, .int .u64 t187, .int .u64 t188, .int .u64 t189, .int .u64 t190, .int .u64 t191, .int .u64 t192, .int .u64 t193, .int .u64 t194, .int .u64 t195, .int .u64 t196, .int .u64 t197, .int .u64 t198] 54 (0, 0)) (by (with_reducible repeat (first|apply bN|apply bD|apply bA)); exact BK199.out) hb)
     have n4_ := aS (below_step (by repeat (first|(with_reducible first|exact HB.out|apply eA|apply eN|apply eD|refine below_set ?_ GE180.out|refine below_set ?_ GE181.out|refine below_set ?_ GE185.out|refine below_set ?_ GE199.out)|exact HB.out)) hb)
     clear BK180
     clear BK181
     clear BK185
     clear BK199
     clear HB
     have BK180 := n0_
     have BK181 := n1_
     have BK185 := n2_
     have BK199 := n3_
     have HB := n4_
     clear n0_ n1_ n2_ n3_ n4_
     (try clear hb)
     (try clear hb2)
     (try clear hk)
     (try clear hi)
     refine hK.out _ _ ⟨(blk_cell BK199.out 0).trans rfl, (blk_cell BK199.out 1).trans rfl, (blk_cell BK199.out 2).trans rfl, (blk_cell BK199.out 3).trans rfl, (blk_cell BK199.out 4).trans rfl, (blk_cell BK199.out 5).trans rfl, (blk_cell BK199.out 6).trans rfl, (blk_cell BK199.out 7).trans rfl, (blk_cell BK199.out 8).trans rfl, (blk_cell BK199.out 9).trans rfl, (blk_cell BK199.out 10).trans rfl, (blk_cell BK199.out 11).trans rfl, (blk_cell BK199.out 12).trans rfl, (blk_cell BK185.out 0).trans rfl, (blk_cell BK185.out 1).trans rfl⟩ (fun hH => ?_)
     clear hK K
     refine norm_ (a' := ?_) ?_ ?_
     rotate_left
     ·
      show Act.put _ (some 19) _ = _
      simp only [Act.put, aput]
      rfl
     refine pure_ (i := 3) (N := some 20) (v := ?_) (a' := ?_) (bm 35 15) rfl rfl (any_of HT_.out (by kernel_rfl)) (fun _ _ _ h => h) (Or.inl ⟨by rfl, ?_⟩) ?_ ?_
     rotate_left
     ·
      intro w'
      go_simp
      with_reducible rfl
     rotate_left
     ·
      simp only [Act.put, aput]
      rfl
     refine pure_ (i := 4) (N := some 21) (v := ?_) (a' := ?_) (bm 35 31) rfl rfl (any_of HT_.out (by kernel_rfl)) (fun _ _ _ h => h) (Or.inl ⟨by rfl, ?_⟩) ?_ ?_
     rotate_left
     ·
      intro w'
      go_simp
      with_reducible rfl
     rotate_left
     ·
      simp only [Act.put, aput]
      rfl
     refine pure_ (i := 5) (N := some 22) (v := ?_) (a' := ?_) (bm 35 63) rfl rfl (any_of HT_.out (by kernel_rfl)) (fun _ _ _ h => h) (Or.inl ⟨by rfl, ?_⟩) ?_ ?_
     rotate_left
     ·
      intro w'
      go_simp
      with_reducible rfl
     rotate_left
     ·
      simp only [Act.put, aput]
      rfl
     refine take_ (i := 6) (N := some 23) (v := ?_) (a' := ?_) (bm 35 127) rfl rfl (take_ofW HT_.out HW_.out (by kernel_rfl)) (fun _ _ _ h => h) (Or.inl ⟨by rfl, ?_⟩) hH ?_ ?_
     rotate_left
     ·
      intro w' s0
      go_simp
      with_reducible rfl
     rotate_left
     ·
      simp only [Act.put, aput]
      rfl
     refine take_ (i := 7) (N := some 24) (v := ?_) (a' := ?_) (bm 35 255) rfl rfl (take_ofW HT_.out HW_.out (by kernel_rfl)) (fun _ _ _ h => h) (Or.inl ⟨by rfl, ?_⟩) hH ?_ ?_
     rotate_left
     ·
      intro w' s0
      go_simp
      with_reducible rfl
     rotate_left
     ·
      simp only [Act.put, aput]
      rfl
     refine one_ (i := 8) (N := some 25) (bm 35 511) rfl rfl (one_of HT_.out (by kernel_rfl)) (by decide) (fun K hK => ?_)
     refine goes_ Tryd.func26 (by kernel_rfl) rfl #[.agg #[.bool t183, .bool t184]] (by rfl) rfl rfl (by (try simp only [List.map_toArray, List.map_cons, List.map_nil]); first | done | rfl | (simp only [List.length_drop, List.length_take]; rfl)) ?_
     with_reducible refine (ehdr_Size.calls k t183 t184 t201 _ ?side1 A25.out).mono ?_
     (case side1 => exact Laid_ehdr.below HLD_ehdr.out (by repeat (first|(with_reducible first|exact HB.out|apply eA|apply eN|apply eD|refine below_set ?_ GE180.out|refine below_set ?_ GE181.out|refine below_set ?_ GE185.out|refine below_set ?_ GE199.out)|exact HB.out)))
     rintro e w40 ⟨rfl, hb⟩
     refine ⟨_, rfl, ?_⟩
     have n0_ := aS (blk_below (g := gb180) (o := .cells #[.int .u64 a1_0, .int .u64 a1_1, .int .u64 a1_2, .int .u64 a1_3] 51 (0, 0)) (by (with_reducible repeat (first|apply bN|apply bD|apply bA)); exact BK180.out) hb)
     have n1_ := aS (blk_below (g := gb181) (o := .cells #[.int .u64 a2_0, .int .u64 a2_1] 52 (0, 0)) (by (with_reducible repeat (first|apply bN|apply bD|apply bA)); exact BK181.out) hb)
     have n2_ := aS (blk_below (g := gb185) (o := .cells #[.bool t183, .bool t184] 29 (0, 0)) (by (with_reducible repeat (first|apply bN|apply bD|apply bA)); exact BK185.out) hb)
     have n3_ := aS (blk_below (g := gb199) (o := .cells #[.int .u64 t186, .int .u64 t187, .int .u64 t188, .int .u64 t189, .int .u64 t190, .int .u64 t191, .int .u64 t192, .int .u64 t193, .int .u64 t194, .int .u64 t195, .int .u64 t196, .int .u64 t197, .int .u64 t198] 54 (0, 0)) (by (with_reducible repeat (first|apply bN|apply bD|apply bA)); exact BK199.out) hb)
     have n4_ := aS (below_step (by repeat (first|(with_reducible first|exact HB.out|apply eA|apply eN|apply eD|refine below_set ?_ GE180.out|refine below_set ?_ GE181.out|refine below_set ?_ GE185.out|refine below_set ?_ GE199.out)|exact HB.out)) hb)
     clear BK180
     clear BK181
     clear BK185
     clear BK199
     clear HB
     have BK180 := n0_
     have BK181 := n1_
     have BK185 := n2_
     have BK199 := n3_
     have HB := n4_
     clear n0_ n1_ n2_ n3_ n4_
     (try clear hb)
     (try clear hb2)
     (try clear hk)
     (try clear hi)
     refine hK.out _ _ ⟨(blk_cell BK199.out 0).trans rfl, (blk_cell BK199.out 1).trans rfl, (blk_cell BK199.out 2).trans rfl, (blk_cell BK199.out 3).trans rfl, (blk_cell BK199.out 4).trans rfl, (blk_cell BK199.out 5).trans rfl, (blk_cell BK199.out 6).trans rfl, (blk_cell BK199.out 7).trans rfl, (blk_cell BK199.out 8).trans rfl, (blk_cell BK199.out 9).trans rfl, (blk_cell BK199.out 10).trans rfl, (blk_cell BK199.out 11).trans rfl, (blk_cell BK199.out 12).trans rfl, (blk_cell BK185.out 0).trans rfl, (blk_cell BK185.out 1).trans rfl⟩ (fun hH => ?_)
     clear hK K
     refine norm_ (a' := ?_) ?_ ?_
     rotate_left
     ·
      show Act.put _ (some 25) _ = _
      simp only [Act.put, aput]
      rfl
     refine pure_ (i := 9) (N := some 26) (v := ?_) (a' := ?_) (bm 35 1023) rfl rfl (any_of HT_.out (by kernel_rfl)) (fun _ _ _ h => h) (Or.inl ⟨by rfl, ?_⟩) ?_ ?_
     rotate_left
     ·
      intro w'
      go_simp
      with_reducible rfl
     rotate_left
     ·
      simp only [Act.put, aput]
      rfl
     refine pure_ (i := 10) (N := some 27) (v := ?_) (a' := ?_) (bm 35 2047) rfl rfl (any_of HT_.out (by kernel_rfl)) (fun _ _ _ h => h) (Or.inl ⟨by rfl, ?_⟩) ?_ ?_
     rotate_left
     ·
      intro w'
      go_simp
      with_reducible rfl
     rotate_left
     ·
      simp only [Act.put, aput]
      rfl
     refine pure_ (i := 11) (N := some 28) (v := ?_) (a' := ?_) (bm 35 4095) rfl rfl (any_of HT_.out (by kernel_rfl)) (fun _ _ _ h => h) (Or.inl ⟨by rfl, ?_⟩) ?_ ?_
     rotate_left
     ·
      intro w'
      go_simp
      with_reducible rfl
     rotate_left
     ·
      simp only [Act.put, aput]
      rfl
     refine pure_ (i := 12) (N := some 29) (v := ?_) (a' := ?_) (bm 35 8191) rfl rfl (any_of HT_.out (by kernel_rfl)) (fun _ _ _ h => h) (Or.inl ⟨by rfl, ?_⟩) ?_ ?_
     rotate_left
     ·
      intro w'
      go_simp
      with_reducible rfl
     rotate_left
     ·
      simp only [Act.put, aput]
      rfl
     refine pure_ (i := 13) (N := some 30) (v := ?_) (a' := ?_) (bm 35 16383) rfl rfl (any_of HT_.out (by kernel_rfl)) (fun _ _ _ h => h) (Or.inl ⟨by rfl, ?_⟩) ?_ ?_
     rotate_left
     ·
      intro w'
      go_simp
      with_reducible rfl
     rotate_left
     ·
      simp only [Act.put, aput]
      rfl
     refine pure_ (i := 14) (N := some 31) (v := undef) (a' := ?_) (bm 35 32767) rfl rfl (any_of HT_.out (by kernel_rfl)) (fun _ _ _ h => h) (Or.inr ⟨by rfl, rfl⟩) ?_ ?_
     rotate_left
     ·
      simp only [Act.put, aput]
      rfl
     refine pure_ (i := 15) (N := some 32) (v := undef) (a' := ?_) (bm 35 65535) rfl rfl (any_of HT_.out (by kernel_rfl)) (fun _ _ _ h => h) (Or.inr ⟨by rfl, rfl⟩) ?_ ?_
     rotate_left
     ·
      simp only [Act.put, aput]
      rfl
     refine pure_ (i := 16) (N := some 33) (v := undef) (a' := ?_) (bm 35 131071) rfl rfl (any_of HT_.out (by kernel_rfl)) (fun _ _ _ h => h) (Or.inr ⟨by rfl, rfl⟩) ?_ ?_
     rotate_left
     ·
      simp only [Act.put, aput]
      rfl
     refine pure_ (i := 17) (N := some 34) (v := undef) (a' := ?_) (bm 35 262143) rfl rfl (any_of HT_.out (by kernel_rfl)) (fun _ _ _ h => h) (Or.inr ⟨by rfl, rfl⟩) ?_ ?_
     rotate_left
     ·
      simp only [Act.put, aput]
      rfl
     refine pure_ (i := 18) (N := some 35) (v := undef) (a' := ?_) (bm 35 524287) rfl rfl (any_of HT_.out (by kernel_rfl)) (fun _ _ _ h => h) (Or.inr ⟨by rfl, rfl⟩) ?_ ?_
     rotate_left
     ·
      simp only [Act.put, aput]
      rfl
     refine pure_ (i := 19) (N := some 36) (v := undef) (a' := ?_) (bm 35 1048575) rfl rfl (any_of HT_.out (by kernel_rfl)) (fun _ _ _ h => h) (Or.inr ⟨by rfl, rfl⟩) ?_ ?_
     rotate_left
     ·
      simp only [Act.put, aput]
      rfl
     refine pure_ (i := 20) (N := some 37) (v := undef) (a' := ?_) (bm 35 2097151) rfl rfl (any_of HT_.out (by kernel_rfl)) (fun _ _ _ h => h) (Or.inr ⟨by rfl, rfl⟩) ?_ ?_
     rotate_left
     ·
      simp only [Act.put, aput]
      rfl
     refine pure_ (i := 21) (N := some 38) (v := undef) (a' := ?_) (bm 35 4194303) rfl rfl (any_of HT_.out (by kernel_rfl)) (fun _ _ _ h => h) (Or.inr ⟨by rfl, rfl⟩) ?_ ?_
     rotate_left
     ·
      simp only [Act.put, aput]
      rfl
     refine pure_ (i := 22) (N := some 39) (v := undef) (a' := ?_) (bm 35 8388607) rfl rfl (any_of HT_.out (by kernel_rfl)) (fun _ _ _ h => h) (Or.inr ⟨by rfl, rfl⟩) ?_ ?_
     rotate_left
     ·
      simp only [Act.put, aput]
      rfl
     refine pure_ (i := 23) (N := some 40) (v := ?_) (a' := ?_) (bm 35 16777215) rfl rfl (any_of HT_.out (by kernel_rfl)) (fun _ _ _ h => h) (Or.inl ⟨by rfl, ?_⟩) ?_ ?_
     rotate_left
     ·
      intro w'
      go_simp
      with_reducible rfl
     rotate_left
     ·
      simp only [Act.put, aput]
      rfl
     refine pure_ (i := 24) (N := some 41) (v := ?_) (a' := ?_) (bm 35 33554431) rfl rfl (any_of HT_.out (by kernel_rfl)) (fun _ _ _ h => h) (Or.inl ⟨by rfl, ?_⟩) ?_ ?_
     rotate_left
     ·
      intro w'
      go_simp
      with_reducible rfl
     rotate_left
     ·
      simp only [Act.put, aput]
      rfl
     refine pure_ (i := 25) (N := some 42) (v := undef) (a' := ?_) (bm 35 67108863) rfl rfl (any_of HT_.out (by kernel_rfl)) (fun _ _ _ h => h) (Or.inr ⟨by rfl, rfl⟩) ?_ ?_
     rotate_left
     ·
      simp only [Act.put, aput]
      rfl
     refine pure_ (i := 26) (N := some 43) (v := undef) (a' := ?_) (bm 35 134217727) rfl rfl (any_of HT_.out (by kernel_rfl)) (fun _ _ _ h => h) (Or.inr ⟨by rfl, rfl⟩) ?_ ?_
     rotate_left
     ·
      simp only [Act.put, aput]
      rfl
     refine pure_ (i := 27) (N := some 44) (v := undef) (a' := ?_) (bm 35 268435455) rfl rfl (any_of HT_.out (by kernel_rfl)) (fun _ _ _ h => h) (Or.inr ⟨by rfl, rfl⟩) ?_ ?_
     rotate_left
     ·
      simp only [Act.put, aput]
      rfl
     refine pure_ (i := 28) (N := some 45) (v := undef) (a' := ?_) (bm 35 536870911) rfl rfl (any_of HT_.out (by kernel_rfl)) (fun _ _ _ h => h) (Or.inr ⟨by rfl, rfl⟩) ?_ ?_
     rotate_left
     ·
      simp only [Act.put, aput]
      rfl
     refine pure_ (i := 29) (N := some 46) (v := undef) (a' := ?_) (bm 35 1073741823) rfl rfl (any_of HT_.out (by kernel_rfl)) (fun _ _ _ h => h) (Or.inr ⟨by rfl, rfl⟩) ?_ ?_
     rotate_left
     ·
      simp only [Act.put, aput]
      rfl
     refine pure_ (i := 30) (N := some 47) (v := undef) (a' := ?_) (bm 35 2147483647) rfl rfl (any_of HT_.out (by kernel_rfl)) (fun _ _ _ h => h) (Or.inr ⟨by rfl, rfl⟩) ?_ ?_
     rotate_left
     ·
      simp only [Act.put, aput]
      rfl
     refine pure_ (i := 31) (N := some 48) (v := undef) (a' := ?_) (bm 35 4294967295) rfl rfl (any_of HT_.out (by kernel_rfl)) (fun _ _ _ h => h) (Or.inr ⟨by rfl, rfl⟩) ?_ ?_
     rotate_left
     ·
      simp only [Act.put, aput]
      rfl
     refine pure_ (i := 32) (N := some 49) (v := undef) (a' := ?_) (bm 35 8589934591) rfl rfl (any_of HT_.out (by kernel_rfl)) (fun _ _ _ h => h) (Or.inr ⟨by rfl, rfl⟩) ?_ ?_
     rotate_left
     ·
      simp only [Act.put, aput]
      rfl
     refine pure_ (i := 33) (N := some 50) (v := undef) (a' := ?_) (bm 35 17179869183) rfl rfl (any_of HT_.out (by kernel_rfl)) (fun _ _ _ h => h) (Or.inr ⟨by rfl, rfl⟩) ?_ ?_
     rotate_left
     ·
      simp only [Act.put, aput]
      rfl
     refine pure_ (i := 34) (N := some 51) (v := ?_) (a' := ?_) (bm 35 34359738367) rfl rfl (any_of HT_.out (by kernel_rfl)) (fun _ _ _ h => h) (Or.inl ⟨by rfl, ?_⟩) ?_ ?_
     rotate_left
     ·
      intro w'
      go_simp
      with_reducible rfl
     rotate_left
     ·
      simp only [Act.put, aput]
      rfl
     refine done_ (done_of HT_.out (by kernel_rfl)) ?_
     try go_wp2
     go_meet
     case rel => exact ⟨_, (true), (by first|rfl|(simp; done)|(simp [*]; done)), H', ⟨by first|omega|exact Nat.le_refl _⟩, ⟨by (with_reducible repeat (first|apply bN|apply bD|apply bA)); exact BK180.out⟩, ⟨by (with_reducible repeat (first|apply bN|apply bD|apply bA)); exact BK181.out⟩, ⟨by (with_reducible repeat (first|apply bN|apply bD|apply bA)); exact BK185.out⟩, ⟨by (with_reducible repeat (first|apply bN|apply bD|apply bA)); exact BK199.out⟩, ⟨by repeat (first|(with_reducible first|exact HB.out|apply eA|apply eN|apply eD|refine below_set ?_ GE180.out|refine below_set ?_ GE181.out|refine below_set ?_ GE185.out|refine below_set ?_ GE199.out)|exact HB.out)⟩⟩
   ·
    rw [if_neg c24] at H
    have c24b0 : (t200 == 0) = false := beq_eq_false_iff_ne.mpr c24
    have c24b1 : (t200 != 0) = true := bne_iff_ne.mpr c24
    (first | rw [c24b0] | (simp only [i64_w, i32_w]; rw [c24b0]) | skip)
    have H' := aS H
    clear H
    try go_wp2
    have n0_ : Aside0 ((((((((((((((w18.setCell ⟨gb199, 0, none⟩ (.int .u64 t186)).setCell ⟨gb199, 1, none⟩ (.int .u64 t187)).setCell ⟨gb199, 2, none⟩ (.int .u64 t188)).setCell ⟨gb199, 3, none⟩ (.int .u64 t189)).setCell ⟨gb199, 4, none⟩ (.int .u64 t190)).setCell ⟨gb199, 5, none⟩ (.int .u64 t191)).setCell ⟨gb199, 6, none⟩ (.int .u64 t192)).setCell ⟨gb199, 7, none⟩ (.int .u64 t193)).setCell ⟨gb199, 8, none⟩ (.int .u64 t194)).setCell ⟨gb199, 9, none⟩ (.int .u64 t195)).setCell ⟨gb199, 10, none⟩ (.int .u64 t196)).setCell ⟨gb199, 11, none⟩ (.int .u64 t197)).setCell ⟨gb199, 12, none⟩ (.int .u64 t198)).heap[gb180]? = some (.cells #[.int .u64 a1_0, .int .u64 a1_1, .int .u64 a1_2, .int .u64 a1_3] 51 (0, 0))) := ⟨by (with_reducible repeat (first|apply bN|apply bD|apply bA)); refine blk_far ?_ NB180_199.out _; (with_reducible repeat (first|apply bN|apply bD|apply bA)); refine blk_far ?_ NB180_199.out _; (with_reducible repeat (first|apply bN|apply bD|apply bA)); refine blk_far ?_ NB180_199.out _; (with_reducible repeat (first|apply bN|apply bD|apply bA)); refine blk_far ?_ NB180_199.out _; (with_reducible repeat (first|apply bN|apply bD|apply bA)); refine blk_far ?_ NB180_199.out _; (with_reducible repeat (first|apply bN|apply bD|apply bA)); refine blk_far ?_ NB180_199.out _; (with_reducible repeat (first|apply bN|apply bD|apply bA)); refine blk_far ?_ NB180_199.out _; (with_reducible repeat (first|apply bN|apply bD|apply bA)); refine blk_far ?_ NB180_199.out _; (with_reducible repeat (first|apply bN|apply bD|apply bA)); refine blk_far ?_ NB180_199.out _; (with_reducible repeat (first|apply bN|apply bD|apply bA)); refine blk_far ?_ NB180_199.out _; (with_reducible repeat (first|apply bN|apply bD|apply bA)); refine blk_far ?_ NB180_199.out _; (with_reducible repeat (first|apply bN|apply bD|apply bA)); refine blk_far ?_ NB180_199.out _; (with_reducible repeat (first|apply bN|apply bD|apply bA)); refine blk_far ?_ NB180_199.out _; (with_reducible repeat (first|apply bN|apply bD|apply bA)); exact BK180.out⟩
    have n1_ : Aside0 ((((((((((((((w18.setCell ⟨gb199, 0, none⟩ (.int .u64 t186)).setCell ⟨gb199, 1, none⟩ (.int .u64 t187)).setCell ⟨gb199, 2, none⟩ (.int .u64 t188)).setCell ⟨gb199, 3, none⟩ (.int .u64 t189)).setCell ⟨gb199, 4, none⟩ (.int .u64 t190)).setCell ⟨gb199, 5, none⟩ (.int .u64 t191)).setCell ⟨gb199, 6, none⟩ (.int .u64 t192)).setCell ⟨gb199, 7, none⟩ (.int .u64 t193)).setCell ⟨gb199, 8, none⟩ (.int .u64 t194)).setCell ⟨gb199, 9, none⟩ (.int .u64 t195)).setCell ⟨gb199, 10, none⟩ (.int .u64 t196)).setCell ⟨gb199, 11, none⟩ (.int .u64 t197)).setCell ⟨gb199, 12, none⟩ (.int .u64 t198)).heap[gb181]? = some (.cells #[.int .u64 a2_0, .int .u64 a2_1] 52 (0, 0))) := ⟨by (with_reducible repeat (first|apply bN|apply bD|apply bA)); refine blk_far ?_ NB181_199.out _; (with_reducible repeat (first|apply bN|apply bD|apply bA)); refine blk_far ?_ NB181_199.out _; (with_reducible repeat (first|apply bN|apply bD|apply bA)); refine blk_far ?_ NB181_199.out _; (with_reducible repeat (first|apply bN|apply bD|apply bA)); refine blk_far ?_ NB181_199.out _; (with_reducible repeat (first|apply bN|apply bD|apply bA)); refine blk_far ?_ NB181_199.out _; (with_reducible repeat (first|apply bN|apply bD|apply bA)); refine blk_far ?_ NB181_199.out _; (with_reducible repeat (first|apply bN|apply bD|apply bA)); refine blk_far ?_ NB181_199.out _; (with_reducible repeat (first|apply bN|apply bD|apply bA)); refine blk_far ?_ NB181_199.out _; (with_reducible repeat (first|apply bN|apply bD|apply bA)); refine blk_far ?_ NB181_199.out _; (with_reducible repeat (first|apply bN|apply bD|apply bA)); refine blk_far ?_ NB181_199.out _; (with_reducible repeat (first|apply bN|apply bD|apply bA)); refine blk_far ?_ NB181_199.out _; (with_reducible repeat (first|apply bN|apply bD|apply bA)); refine blk_far ?_ NB181_199.out _; (with_reducible repeat (first|apply bN|apply bD|apply bA)); refine blk_far ?_ NB181_199.out _; (with_reducible repeat (first|apply bN|apply bD|apply bA)); exact BK181.out⟩
    have n2_ : Aside0 ((((((((((((((w18.setCell ⟨gb199, 0, none⟩ (.int .u64 t186)).setCell ⟨gb199, 1, none⟩ (.int .u64 t187)).setCell ⟨gb199, 2, none⟩ (.int .u64 t188)).setCell ⟨gb199, 3, none⟩ (.int .u64 t189)).setCell ⟨gb199, 4, none⟩ (.int .u64 t190)).setCell ⟨gb199, 5, none⟩ (.int .u64 t191)).setCell ⟨gb199, 6, none⟩ (.int .u64 t192)).setCell ⟨gb199, 7, none⟩ (.int .u64 t193)).setCell ⟨gb199, 8, none⟩ (.int .u64 t194)).setCell ⟨gb199, 9, none⟩ (.int .u64 t195)).setCell ⟨gb199, 10, none⟩ (.int .u64 t196)).setCell ⟨gb199, 11, none⟩ (.int .u64 t197)).setCell ⟨gb199, 12, none⟩ (.int .u64 t198)).heap[gb185]? = some (.cells #[.bool t183, .bool t184] 29 (0, 0))) := ⟨by (with_reducible repeat (first|apply bN|apply bD|apply bA)); refine blk_far ?_ NB185_199.out _; (with_reducible repeat (first|apply bN|apply bD|apply bA)); refine blk_far ?_ NB185_199.out _; (with_reducible repeat (first|apply bN|apply bD|apply bA)); refine blk_far ?_ NB185_199.out _; (with_reducible repeat (first|apply bN|apply bD|apply bA)); refine blk_far ?_ NB185_199.out _; (with_reducible repeat (first|apply bN|apply bD|apply bA)); refine blk_far ?_ NB185_199.out _; (with_reducible repeat (first|apply bN|apply bD|apply bA)); refine blk_far ?_ NB185_199.out _; (with_reducible repeat (first|apply bN|apply bD|apply bA)); refine blk_far ?_ NB185_199.out _; (with_reducible repeat (first|apply bN|apply bD|apply bA)); refine blk_far ?_ NB185_199.out _; (with_reducible repeat (first|apply bN|apply bD|apply bA)); refine blk_far ?_ NB185_199.out _; (with_reducible repeat (first|apply bN|apply bD|apply bA)); refine blk_far ?_ NB185_199.out _; (with_reducible repeat (first|apply bN|apply bD|apply bA)); refine blk_far ?_ NB185_199.out _; (with_reducible repeat (first|apply bN|apply bD|apply bA)); refine blk_far ?_ NB185_199.out _; (with_reducible repeat (first|apply bN|apply bD|apply bA)); refine blk_far ?_ NB185_199.out _; (with_reducible repeat (first|apply bN|apply bD|apply bA)); exact BK185.out⟩
    have n3_ : Aside0 ((((((((((((((w18.setCell ⟨gb199, 0, none⟩ (.int .u64 t186)).setCell ⟨gb199, 1, none⟩ (.int .u64 t187)).setCell ⟨gb199, 2, none⟩ (.int .u64 t188)).setCell ⟨gb199, 3, none⟩ (.int .u64 t189)).setCell ⟨gb199, 4, none⟩ (.int .u64 t190)).setCell ⟨gb199, 5, none⟩ (.int .u64 t191)).setCell ⟨gb199, 6, none⟩ (.int .u64 t192)).setCell ⟨gb199, 7, none⟩ (.int .u64 t193)).setCell ⟨gb199, 8, none⟩ (.int .u64 t194)).setCell ⟨gb199, 9, none⟩ (.int .u64 t195)).setCell ⟨gb199, 10, none⟩ (.int .u64 t196)).setCell ⟨gb199, 11, none⟩ (.int .u64 t197)).setCell ⟨gb199, 12, none⟩ (.int .u64 t198)).heap[gb199]? = some (.cells #[.int .u64 t186, .int .u64 t187, .int .u64 t188, .int .u64 t189, .int .u64 t190, .int .u64 t191, .int .u64 t192, .int .u64 t193, .int .u64 t194, .int .u64 t195, .int .u64 t196, .int .u64 t197, .int .u64 t198] 54 (0, 0))) := ⟨by (with_reducible repeat (first|apply bN|apply bD|apply bA)); refine blk_put (cs := #[.int .u64 t186, .int .u64 t187, .int .u64 t188, .int .u64 t189, .int .u64 t190, .int .u64 t191, .int .u64 t192, .int .u64 t193, .int .u64 t194, .int .u64 t195, .int .u64 t196, .int .u64 t197, .int .u64 0]) ?_ 12 _ rfl; (with_reducible repeat (first|apply bN|apply bD|apply bA)); refine blk_put (cs := #[.int .u64 t186, .int .u64 t187, .int .u64 t188, .int .u64 t189, .int .u64 t190, .int .u64 t191, .int .u64 t192, .int .u64 t193, .int .u64 t194, .int .u64 t195, .int .u64 t196, .int .u64 0, .int .u64 0]) ?_ 11 _ rfl; (with_reducible repeat (first|apply bN|apply bD|apply bA)); refine blk_put (cs := #[.int .u64 t186, .int .u64 t187, .int .u64 t188, .int .u64 t189, .int .u64 t190, .int .u64 t191, .int .u64 t192, .int .u64 t193, .int .u64 t194, .int .u64 t195, .int .u64 0, .int .u64 0, .int .u64 0]) ?_ 10 _ rfl; (with_reducible repeat (first|apply bN|apply bD|apply bA)); refine blk_put (cs := #[.int .u64 t186, .int .u64 t187, .int .u64 t188, .int .u64 t189, .int .u64 t190, .int .u64 t191, .int .u64 t192, .int .u64 t193, .int .u64 t194, .int .u64 0, .int .u64 0, .int .u64 0, .int .u64 0]) ?_ 9 _ rfl; (with_reducible repeat (first|apply bN|apply bD|apply bA)); refine blk_put (cs := #[.int .u64 t186, .int .u64 t187, .int .u64 t188, .int .u64 t189, .int .u64 t190, .int .u64 t191, .int .u64 t192, .int .u64 t193, .int .u64 0, .int .u64 0, .int .u64 0, .int .u64 0, .int .u64 0]) ?_ 8 _ rfl; (with_reducible repeat (first|apply bN|apply bD|apply bA)); refine blk_put (cs := #[.int .u64 t186, .int .u64 t187, .int .u64 t188, .int .u64 t189, .int .u64 t190, .int .u64 t191, .int .u64 t192, .int .u64 0, .int .u64 0, .int .u64 0, .int .u64 0, .int .u64 0, .int .u64 0]) ?_ 7 _ rfl; (with_reducible repeat (first|apply bN|apply bD|apply bA)); refine blk_put (cs := #[.int .u64 t186, .int .u64 t187, .int .u64 t188, .int .u64 t189, .int .u64 t190, .int .u64 t191, .int .u64 0, .int .u64 0, .int .u64 0, .int .u64 0, .int .u64 0, .int .u64 0, .int .u64 0]) ?_ 6 _ rfl; (with_reducible repeat (first|apply bN|apply bD|apply bA)); refine blk_put (cs := #[.int .u64 t186, .int .u64 t187, .int .u64 t188, .int .u64 t189, .int .u64 t190, .int .u64 0, .int .u64 0, .int .u64 0, .int .u64 0, .int .u64 0, .int .u64 0, .int .u64 0, .int .u64 0]) ?_ 5 _ rfl; (with_reducible repeat (first|apply bN|apply bD|apply bA)); refine blk_put (cs := #[.int .u64 t186, .int .u64 t187, .int .u64 t188, .int .u64 t189, .int .u64 0, .int .u64 0, .int .u64 0, .int .u64 0, .int .u64 0, .int .u64 0, .int .u64 0, .int .u64 0, .int .u64 0]) ?_ 4 _ rfl; (with_reducible repeat (first|apply bN|apply bD|apply bA)); refine blk_put (cs := #[.int .u64 t186, .int .u64 t187, .int .u64 t188, .int .u64 0, .int .u64 0, .int .u64 0, .int .u64 0, .int .u64 0, .int .u64 0, .int .u64 0, .int .u64 0, .int .u64 0, .int .u64 0]) ?_ 3 _ rfl; (with_reducible repeat (first|apply bN|apply bD|apply bA)); refine blk_put (cs := #[.int .u64 t186, .int .u64 t187, .int .u64 0, .int .u64 0, .int .u64 0, .int .u64 0, .int .u64 0, .int .u64 0, .int .u64 0, .int .u64 0, .int .u64 0, .int .u64 0, .int .u64 0]) ?_ 2 _ rfl; (with_reducible repeat (first|apply bN|apply bD|apply bA)); refine blk_put (cs := #[.int .u64 t186, .int .u64 0, .int .u64 0, .int .u64 0, .int .u64 0, .int .u64 0, .int .u64 0, .int .u64 0, .int .u64 0, .int .u64 0, .int .u64 0, .int .u64 0, .int .u64 0]) ?_ 1 _ rfl; (with_reducible repeat (first|apply bN|apply bD|apply bA)); refine blk_put (cs := #[.int .u64 0, .int .u64 0, .int .u64 0, .int .u64 0, .int .u64 0, .int .u64 0, .int .u64 0, .int .u64 0, .int .u64 0, .int .u64 0, .int .u64 0, .int .u64 0, .int .u64 0]) ?_ 0 _ rfl; (with_reducible repeat (first|apply bN|apply bD|apply bA)); exact BK199.out⟩
    have n4_ : Aside0 (Below w.heap.size w (((((((((((((w18.setCell ⟨gb199, 0, none⟩ (.int .u64 t186)).setCell ⟨gb199, 1, none⟩ (.int .u64 t187)).setCell ⟨gb199, 2, none⟩ (.int .u64 t188)).setCell ⟨gb199, 3, none⟩ (.int .u64 t189)).setCell ⟨gb199, 4, none⟩ (.int .u64 t190)).setCell ⟨gb199, 5, none⟩ (.int .u64 t191)).setCell ⟨gb199, 6, none⟩ (.int .u64 t192)).setCell ⟨gb199, 7, none⟩ (.int .u64 t193)).setCell ⟨gb199, 8, none⟩ (.int .u64 t194)).setCell ⟨gb199, 9, none⟩ (.int .u64 t195)).setCell ⟨gb199, 10, none⟩ (.int .u64 t196)).setCell ⟨gb199, 11, none⟩ (.int .u64 t197)).setCell ⟨gb199, 12, none⟩ (.int .u64 t198))) := ⟨by repeat (first|(with_reducible first|exact HB.out|apply eA|apply eN|apply eD|refine below_set ?_ GE180.out|refine below_set ?_ GE181.out|refine below_set ?_ GE185.out|refine below_set ?_ GE199.out)|exact HB.out)⟩
    (try clear BK180)
    (try clear BK181)
    (try clear BK185)
    (try clear BK199)
    (try clear HB)
    generalize (((((((((((((w18.setCell ⟨gb199, 0, none⟩ (.int .u64 t186)).setCell ⟨gb199, 1, none⟩ (.int .u64 t187)).setCell ⟨gb199, 2, none⟩ (.int .u64 t188)).setCell ⟨gb199, 3, none⟩ (.int .u64 t189)).setCell ⟨gb199, 4, none⟩ (.int .u64 t190)).setCell ⟨gb199, 5, none⟩ (.int .u64 t191)).setCell ⟨gb199, 6, none⟩ (.int .u64 t192)).setCell ⟨gb199, 7, none⟩ (.int .u64 t193)).setCell ⟨gb199, 8, none⟩ (.int .u64 t194)).setCell ⟨gb199, 9, none⟩ (.int .u64 t195)).setCell ⟨gb199, 10, none⟩ (.int .u64 t196)).setCell ⟨gb199, 11, none⟩ (.int .u64 t197)).setCell ⟨gb199, 12, none⟩ (.int .u64 t198)) = w41 at n0_ n1_ n2_ n3_ n4_ ⊢
    have BK180 := n0_
    have BK181 := n1_
    have BK185 := n2_
    have BK199 := n3_
    have HB := n4_
    clear n0_ n1_ n2_ n3_ n4_
    have n0_ := aS (blk_drew BK180.out)
    have n1_ := aS (blk_drew BK181.out)
    have n2_ := aS (blk_drew BK185.out)
    have n3_ := aS (blk_drew BK199.out)
    have n4_ := aS (below_drew1 HB.out)
    clear BK180
    clear BK181
    clear BK185
    clear BK199
    clear HB
    have BK180 := n0_
    have BK181 := n1_
    have BK185 := n2_
    have BK199 := n3_
    have HB := n4_
    clear n0_ n1_ n2_ n3_ n4_
    refine start_ (n := 35) (S := fun w' => w'.cell? ⟨gb199, 0, none⟩ = some (.int .u64 t186) ∧ w'.cell? ⟨gb199, 1, none⟩ = some (.int .u64 t187) ∧ w'.cell? ⟨gb199, 2, none⟩ = some (.int .u64 t188) ∧ w'.cell? ⟨gb199, 3, none⟩ = some (.int .u64 t189) ∧ w'.cell? ⟨gb199, 4, none⟩ = some (.int .u64 t190) ∧ w'.cell? ⟨gb199, 5, none⟩ = some (.int .u64 t191) ∧ w'.cell? ⟨gb199, 6, none⟩ = some (.int .u64 t192) ∧ w'.cell? ⟨gb199, 7, none⟩ = some (.int .u64 t193) ∧ w'.cell? ⟨gb199, 8, none⟩ = some (.int .u64 t194) ∧ w'.cell? ⟨gb199, 9, none⟩ = some (.int .u64 t195) ∧ w'.cell? ⟨gb199, 10, none⟩ = some (.int .u64 t196) ∧ w'.cell? ⟨gb199, 11, none⟩ = some (.int .u64 t197) ∧ w'.cell? ⟨gb199, 12, none⟩ = some (.int .u64 t198) ∧ w'.cell? ⟨gb185, 0, none⟩ = some (.bool t183) ∧ w'.cell? ⟨gb185, 1, none⟩ = some (.bool t184)) (ds := []) #[false, false, false, false, false, false, false, false, false, false, false, false, false, false, false, false, false, false, false, false, false, false, false, false, false, false, false, false, false, false, false, false, false, false, false] (by kernel_rfl) rfl rfl ⟨(blk_cell BK199.out 0).trans rfl, (blk_cell BK199.out 1).trans rfl, (blk_cell BK199.out 2).trans rfl, (blk_cell BK199.out 3).trans rfl, (blk_cell BK199.out 4).trans rfl, (blk_cell BK199.out 5).trans rfl, (blk_cell BK199.out 6).trans rfl, (blk_cell BK199.out 7).trans rfl, (blk_cell BK199.out 8).trans rfl, (blk_cell BK199.out 9).trans rfl, (blk_cell BK199.out 10).trans rfl, (blk_cell BK199.out 11).trans rfl, (blk_cell BK199.out 12).trans rfl, (blk_cell BK185.out 0).trans rfl, (blk_cell BK185.out 1).trans rfl⟩ (fun hH => ?_); refine with_tabW graverlaw05_EhdrChecks.tab5 graverlaw05_EhdrChecks.bits5 (fun HT_ HW_ => ?_)
    generalize w41.drew = w42 at BK180 BK181 BK185 BK199 HB hH ⊢
    refine take_ (i := 0) (N := some 17) (v := ?_) (a' := ?_) (bm 35 1) rfl rfl (take_ofW HT_.out HW_.out (by kernel_rfl)) (fun _ _ _ h => h) (Or.inl ⟨by rfl, ?_⟩) hH ?_ ?_
    rotate_left
    ·
     intro w' s0
     go_simp
     with_reducible rfl
    rotate_left
    ·
     simp only [Act.put, aput]
     rfl
    refine take_ (i := 1) (N := some 18) (v := ?_) (a' := ?_) (bm 35 3) rfl rfl (take_ofW HT_.out HW_.out (by kernel_rfl)) (fun _ _ _ h => h) (Or.inl ⟨by rfl, ?_⟩) hH ?_ ?_
    rotate_left
    ·
     intro w' s0
     go_simp
     with_reducible rfl
    rotate_left
    ·
     simp only [Act.put, aput]
     rfl
    refine one_ (i := 2) (N := some 19) (bm 35 7) rfl rfl (one_of HT_.out (by kernel_rfl)) (by decide) (fun K hK => ?_)
    refine goes_ Tryd.func25 (by kernel_rfl) rfl #[.agg #[.int .u64 t186, .int .u64 t187, .int .u64 t188, .int .u64 t189, .int .u64 t190, .int .u64 t191, .int .u64 t192, .int .u64 t193, .int .u64 t194, .int .u64 t195, .int .u64 t196, .int .u64 t197, .int .u64 t198], .agg #[.bool t183, .bool t184]] (by rfl) rfl rfl (by (try simp only [List.map_toArray, List.map_cons, List.map_nil]); first | done | rfl | (simp only [List.length_drop, List.length_take]; rfl)) ?_
    with_reducible refine (ehdr_Head_Check.calls k t186 t187 t188 t189 t190 t191 t192 t193 t194 t195 t196 t197 t198 t183 t184 t200 _ ?side1 A23.out).mono ?_
    (case side1 => exact Laid_ehdr.below HLD_ehdr.out (by repeat (first|(with_reducible first|exact HB.out|apply eA|apply eN|apply eD|refine below_set ?_ GE180.out|refine below_set ?_ GE181.out|refine below_set ?_ GE185.out|refine below_set ?_ GE199.out)|exact HB.out)))
    rintro e w43 ⟨rfl, hb⟩
    refine ⟨_, rfl, ?_⟩
    have n0_ := aS (blk_below (g := gb180) (o := .cells #[.int .u64 a1_0, .int .u64 a1_1, .int .u64 a1_2, .int .u64 a1_3] 51 (0, 0)) (by (with_reducible repeat (first|apply bN|apply bD|apply bA)); exact BK180.out) hb)
    have n1_ := aS (blk_below (g := gb181) (o := .cells #[.int .u64 a2_0, .int .u64 a2_1] 52 (0, 0)) (by (with_reducible repeat (first|apply bN|apply bD|apply bA)); exact BK181.out) hb)
    have n2_ := aS (blk_below (g := gb185) (o := .cells #[.bool t183, .bool t184] 29 (0, 0)) (by (with_reducible repeat (first|apply bN|apply bD|apply bA)); exact BK185.out) hb)
    have n3_ := aS (blk_below (g := gb199) (o := .cells #[.int .u64 t186, .int .u64 t187, .int .u64 t188, .int .u64 t189, .int .u64 t190, .int .u64 t191, .int .u64 t192, .int .u64 t193, .int .u64 t194, .int .u64 t195, .int .u64 t196, .int .u64 t197, .int .u64 t198] 54 (0, 0)) (by (with_reducible repeat (first|apply bN|apply bD|apply bA)); exact BK199.out) hb)
    have n4_ := aS (below_step (by repeat (first|(with_reducible first|exact HB.out|apply eA|apply eN|apply eD|refine below_set ?_ GE180.out|refine below_set ?_ GE181.out|refine below_set ?_ GE185.out|refine below_set ?_ GE199.out)|exact HB.out)) hb)
    clear BK180
    clear BK181
    clear BK185
    clear BK199
    clear HB
    have BK180 := n0_
    have BK181 := n1_
    have BK185 := n2_
    have BK199 := n3_
    have HB := n4_
    clear n0_ n1_ n2_ n3_ n4_
    (try clear hb)
    (try clear hb2)
    (try clear hk)
    (try clear hi)
    refine hK.out _ _ ⟨(blk_cell BK199.out 0).trans rfl, (blk_cell BK199.out 1).trans rfl, (blk_cell BK199.out 2).trans rfl, (blk_cell BK199.out 3).trans rfl, (blk_cell BK199.out 4).trans rfl, (blk_cell BK199.out 5).trans rfl, (blk_cell BK199.out 6).trans rfl, (blk_cell BK199.out 7).trans rfl, (blk_cell BK199.out 8).trans rfl, (blk_cell BK199.out 9).trans rfl, (blk_cell BK199.out 10).trans rfl, (blk_cell BK199.out 11).trans rfl, (blk_cell BK199.out 12).trans rfl, (blk_cell BK185.out 0).trans rfl, (blk_cell BK185.out 1).trans rfl⟩ (fun hH => ?_)
    clear hK K
    refine norm_ (a' := ?_) ?_ ?_
    rotate_left
    ·
     show Act.put _ (some 19) _ = _
     simp only [Act.put, aput]
     rfl
    refine pure_ (i := 3) (N := some 20) (v := ?_) (a' := ?_) (bm 35 15) rfl rfl (any_of HT_.out (by kernel_rfl)) (fun _ _ _ h => h) (Or.inl ⟨by rfl, ?_⟩) ?_ ?_
    rotate_left
    ·
     intro w'
     go_simp
     with_reducible rfl
    rotate_left
    ·
     simp only [Act.put, aput]
     rfl
    refine pure_ (i := 4) (N := some 21) (v := ?_) (a' := ?_) (bm 35 31) rfl rfl (any_of HT_.out (by kernel_rfl)) (fun _ _ _ h => h) (Or.inl ⟨by rfl, ?_⟩) ?_ ?_
    rotate_left
    ·
     intro w'
     go_simp
     with_reducible rfl
    rotate_left
    ·
     simp only [Act.put, aput]
     rfl
    refine pure_ (i := 5) (N := some 22) (v := undef) (a' := ?_) (bm 35 63) rfl rfl (any_of HT_.out (by kernel_rfl)) (fun _ _ _ h => h) (Or.inr ⟨by rfl, rfl⟩) ?_ ?_
    rotate_left
    ·
     simp only [Act.put, aput]
     rfl
    refine pure_ (i := 6) (N := some 23) (v := undef) (a' := ?_) (bm 35 127) rfl rfl (any_of HT_.out (by kernel_rfl)) (fun _ _ _ h => h) (Or.inr ⟨by rfl, rfl⟩) ?_ ?_
    rotate_left
    ·
     simp only [Act.put, aput]
     rfl
    refine pure_ (i := 7) (N := some 24) (v := undef) (a' := ?_) (bm 35 255) rfl rfl (any_of HT_.out (by kernel_rfl)) (fun _ _ _ h => h) (Or.inr ⟨by rfl, rfl⟩) ?_ ?_
    rotate_left
    ·
     simp only [Act.put, aput]
     rfl
    refine pure_ (i := 8) (N := some 25) (v := undef) (a' := ?_) (bm 35 511) rfl rfl (any_of HT_.out (by kernel_rfl)) (fun _ _ _ h => h) (Or.inr ⟨by rfl, rfl⟩) ?_ ?_
    rotate_left
    ·
     simp only [Act.put, aput]
     rfl
    refine pure_ (i := 9) (N := some 26) (v := undef) (a' := ?_) (bm 35 1023) rfl rfl (any_of HT_.out (by kernel_rfl)) (fun _ _ _ h => h) (Or.inr ⟨by rfl, rfl⟩) ?_ ?_
    rotate_left
    ·
     simp only [Act.put, aput]
     rfl
    refine pure_ (i := 10) (N := some 27) (v := undef) (a' := ?_) (bm 35 2047) rfl rfl (any_of HT_.out (by kernel_rfl)) (fun _ _ _ h => h) (Or.inr ⟨by rfl, rfl⟩) ?_ ?_
    rotate_left
    ·
     simp only [Act.put, aput]
     rfl
    refine pure_ (i := 11) (N := some 28) (v := undef) (a' := ?_) (bm 35 4095) rfl rfl (any_of HT_.out (by kernel_rfl)) (fun _ _ _ h => h) (Or.inr ⟨by rfl, rfl⟩) ?_ ?_
    rotate_left
    ·
     simp only [Act.put, aput]
     rfl
    refine pure_ (i := 12) (N := some 29) (v := ?_) (a' := ?_) (bm 35 8191) rfl rfl (any_of HT_.out (by kernel_rfl)) (fun _ _ _ h => h) (Or.inl ⟨by rfl, ?_⟩) ?_ ?_
    rotate_left
    ·
     intro w'
     go_simp
     with_reducible rfl
    rotate_left
    ·
     simp only [Act.put, aput]
     rfl
    refine pure_ (i := 13) (N := some 30) (v := ?_) (a' := ?_) (bm 35 16383) rfl rfl (any_of HT_.out (by kernel_rfl)) (fun _ _ _ h => h) (Or.inl ⟨by rfl, ?_⟩) ?_ ?_
    rotate_left
    ·
     intro w'
     go_simp
     with_reducible rfl
    rotate_left
    ·
     simp only [Act.put, aput]
     rfl
    refine pure_ (i := 14) (N := some 31) (v := undef) (a' := ?_) (bm 35 32767) rfl rfl (any_of HT_.out (by kernel_rfl)) (fun _ _ _ h => h) (Or.inr ⟨by rfl, rfl⟩) ?_ ?_
    rotate_left
    ·
     simp only [Act.put, aput]
     rfl
    refine pure_ (i := 15) (N := some 32) (v := undef) (a' := ?_) (bm 35 65535) rfl rfl (any_of HT_.out (by kernel_rfl)) (fun _ _ _ h => h) (Or.inr ⟨by rfl, rfl⟩) ?_ ?_
    rotate_left
    ·
     simp only [Act.put, aput]
     rfl
    refine pure_ (i := 16) (N := some 33) (v := undef) (a' := ?_) (bm 35 131071) rfl rfl (any_of HT_.out (by kernel_rfl)) (fun _ _ _ h => h) (Or.inr ⟨by rfl, rfl⟩) ?_ ?_
    rotate_left
    ·
     simp only [Act.put, aput]
     rfl
    refine pure_ (i := 17) (N := some 34) (v := undef) (a' := ?_) (bm 35 262143) rfl rfl (any_of HT_.out (by kernel_rfl)) (fun _ _ _ h => h) (Or.inr ⟨by rfl, rfl⟩) ?_ ?_
    rotate_left
    ·
     simp only [Act.put, aput]
     rfl
    refine pure_ (i := 18) (N := some 35) (v := undef) (a' := ?_) (bm 35 524287) rfl rfl (any_of HT_.out (by kernel_rfl)) (fun _ _ _ h => h) (Or.inr ⟨by rfl, rfl⟩) ?_ ?_
    rotate_left
    ·
     simp only [Act.put, aput]
     rfl
    refine pure_ (i := 19) (N := some 36) (v := undef) (a' := ?_) (bm 35 1048575) rfl rfl (any_of HT_.out (by kernel_rfl)) (fun _ _ _ h => h) (Or.inr ⟨by rfl, rfl⟩) ?_ ?_
    rotate_left
    ·
     simp only [Act.put, aput]
     rfl
    refine pure_ (i := 20) (N := some 37) (v := undef) (a' := ?_) (bm 35 2097151) rfl rfl (any_of HT_.out (by kernel_rfl)) (fun _ _ _ h => h) (Or.inr ⟨by rfl, rfl⟩) ?_ ?_
    rotate_left
    ·
     simp only [Act.put, aput]
     rfl
    refine pure_ (i := 21) (N := some 38) (v := undef) (a' := ?_) (bm 35 4194303) rfl rfl (any_of HT_.out (by kernel_rfl)) (fun _ _ _ h => h) (Or.inr ⟨by rfl, rfl⟩) ?_ ?_
    rotate_left
    ·
     simp only [Act.put, aput]
     rfl
    refine pure_ (i := 22) (N := some 39) (v := undef) (a' := ?_) (bm 35 8388607) rfl rfl (any_of HT_.out (by kernel_rfl)) (fun _ _ _ h => h) (Or.inr ⟨by rfl, rfl⟩) ?_ ?_
    rotate_left
    ·
     simp only [Act.put, aput]
     rfl
    refine pure_ (i := 23) (N := some 40) (v := ?_) (a' := ?_) (bm 35 16777215) rfl rfl (any_of HT_.out (by kernel_rfl)) (fun _ _ _ h => h) (Or.inl ⟨by rfl, ?_⟩) ?_ ?_
    rotate_left
    ·
     intro w'
     go_simp
     with_reducible rfl
    rotate_left
    ·
     simp only [Act.put, aput]
     rfl
    refine pure_ (i := 24) (N := some 41) (v := ?_) (a' := ?_) (bm 35 33554431) rfl rfl (any_of HT_.out (by kernel_rfl)) (fun _ _ _ h => h) (Or.inl ⟨by rfl, ?_⟩) ?_ ?_
    rotate_left
    ·
     intro w'
     go_simp
     with_reducible rfl
    rotate_left
    ·
     simp only [Act.put, aput]
     rfl
    refine pure_ (i := 25) (N := some 42) (v := undef) (a' := ?_) (bm 35 67108863) rfl rfl (any_of HT_.out (by kernel_rfl)) (fun _ _ _ h => h) (Or.inr ⟨by rfl, rfl⟩) ?_ ?_
    rotate_left
    ·
     simp only [Act.put, aput]
     rfl
    refine pure_ (i := 26) (N := some 43) (v := undef) (a' := ?_) (bm 35 134217727) rfl rfl (any_of HT_.out (by kernel_rfl)) (fun _ _ _ h => h) (Or.inr ⟨by rfl, rfl⟩) ?_ ?_
    rotate_left
    ·
     simp only [Act.put, aput]
     rfl
    refine pure_ (i := 27) (N := some 44) (v := undef) (a' := ?_) (bm 35 268435455) rfl rfl (any_of HT_.out (by kernel_rfl)) (fun _ _ _ h => h) (Or.inr ⟨by rfl, rfl⟩) ?_ ?_
    rotate_left
    ·
     simp only [Act.put, aput]
     rfl
    refine pure_ (i := 28) (N := some 45) (v := undef) (a' := ?_) (bm 35 536870911) rfl rfl (any_of HT_.out (by kernel_rfl)) (fun _ _ _ h => h) (Or.inr ⟨by rfl, rfl⟩) ?_ ?_
    rotate_left
    ·
     simp only [Act.put, aput]
     rfl
    refine pure_ (i := 29) (N := some 46) (v := undef) (a' := ?_) (bm 35 1073741823) rfl rfl (any_of HT_.out (by kernel_rfl)) (fun _ _ _ h => h) (Or.inr ⟨by rfl, rfl⟩) ?_ ?_
    rotate_left
    ·
     simp only [Act.put, aput]
     rfl
    refine pure_ (i := 30) (N := some 47) (v := undef) (a' := ?_) (bm 35 2147483647) rfl rfl (any_of HT_.out (by kernel_rfl)) (fun _ _ _ h => h) (Or.inr ⟨by rfl, rfl⟩) ?_ ?_
    rotate_left
    ·
     simp only [Act.put, aput]
     rfl
    refine pure_ (i := 31) (N := some 48) (v := undef) (a' := ?_) (bm 35 4294967295) rfl rfl (any_of HT_.out (by kernel_rfl)) (fun _ _ _ h => h) (Or.inr ⟨by rfl, rfl⟩) ?_ ?_
    rotate_left
    ·
     simp only [Act.put, aput]
     rfl
    refine pure_ (i := 32) (N := some 49) (v := undef) (a' := ?_) (bm 35 8589934591) rfl rfl (any_of HT_.out (by kernel_rfl)) (fun _ _ _ h => h) (Or.inr ⟨by rfl, rfl⟩) ?_ ?_
    rotate_left
    ·
     simp only [Act.put, aput]
     rfl
    refine pure_ (i := 33) (N := some 50) (v := undef) (a' := ?_) (bm 35 17179869183) rfl rfl (any_of HT_.out (by kernel_rfl)) (fun _ _ _ h => h) (Or.inr ⟨by rfl, rfl⟩) ?_ ?_
    rotate_left
    ·
     simp only [Act.put, aput]
     rfl
    refine pure_ (i := 34) (N := some 51) (v := ?_) (a' := ?_) (bm 35 34359738367) rfl rfl (any_of HT_.out (by kernel_rfl)) (fun _ _ _ h => h) (Or.inl ⟨by rfl, ?_⟩) ?_ ?_
    rotate_left
    ·
     intro w'
     go_simp
     with_reducible rfl
    rotate_left
    ·
     simp only [Act.put, aput]
     rfl
    refine done_ (done_of HT_.out (by kernel_rfl)) ?_
    try go_wp2
    go_meet
    case rel => exact ⟨_, (true), (by first|rfl|(simp; done)|(simp [*]; done)), H', ⟨by first|omega|exact Nat.le_refl _⟩, ⟨by (with_reducible repeat (first|apply bN|apply bD|apply bA)); exact BK180.out⟩, ⟨by (with_reducible repeat (first|apply bN|apply bD|apply bA)); exact BK181.out⟩, ⟨by (with_reducible repeat (first|apply bN|apply bD|apply bA)); exact BK185.out⟩, ⟨by (with_reducible repeat (first|apply bN|apply bD|apply bA)); exact BK199.out⟩, ⟨by repeat (first|(with_reducible first|exact HB.out|apply eA|apply eN|apply eD|refine below_set ?_ GE180.out|refine below_set ?_ GE181.out|refine below_set ?_ GE185.out|refine below_set ?_ GE199.out)|exact HB.out)⟩⟩
  case rest =>
   clear HC8
   try clear c2
   try clear p2
   try clear p6
   try clear c24
   try clear c24b0
   try clear c24b1
   try clear c25
   try clear c26
   try clear c26b0
   try clear c26b1
   obtain ⟨kq, x51_7, rfl, HA, HJ7, BK180, BK181, BK185, BK199, HB⟩ := hcut
   cases kq with
   | zero => exact absurd HA.out (by simp [graverlaw05_EhdrChecks.j0])
   | succ kj7 =>
    have H := HA.out
    clear HA
    simp only [graverlaw05_EhdrChecks.j0] at H
    by_cases c44 : x51_7 = true
    ·
     subst c44
     have H1 : (some false) = some r := by rw [if_pos rfl] at H; exact H
     clear H
     have H := H1
     clear H1
     exact absurd ((Option.some.inj H).trans HRT.out) (by decide)
    ·
     replace c44 := Bool.eq_false_iff.mpr c44
     subst c44
     have H1 : (if a1_1 = t193 then (if a2_0 = 0 then (if a2_1 = 0 then (graverlaw05_EhdrChecks.j1 kj7 0 false a1_0 a1_1 a1_2 a1_3 t183 t184 t186 t187 a1_0 t189 a2_0 a2_1 t192 a1_1 a1_2 t195 a1_3 t197 t198) else (graverlaw05_EhdrChecks.j1 kj7 0 (a1_3 != t196) a1_0 a1_1 a1_2 a1_3 t183 t184 t186 t187 a1_0 t189 a2_0 a2_1 t192 a1_1 a1_2 t195 a1_3 t197 t198)) else (if a1_2 = t194 then (if a2_1 = 0 then (graverlaw05_EhdrChecks.j1 kj7 0 false a1_0 a1_1 a1_2 a1_3 t183 t184 t186 t187 a1_0 t189 a2_0 a2_1 t192 a1_1 a1_2 t195 a1_3 t197 t198) else (graverlaw05_EhdrChecks.j1 kj7 0 (a1_3 != t196) a1_0 a1_1 a1_2 a1_3 t183 t184 t186 t187 a1_0 t189 a2_0 a2_1 t192 a1_1 a1_2 t195 a1_3 t197 t198)) else (graverlaw05_EhdrChecks.j1 kj7 0 true a1_0 a1_1 a1_2 a1_3 t183 t184 t186 t187 a1_0 t189 a2_0 a2_1 t192 a1_1 a1_2 t195 a1_3 t197 t198))) else (graverlaw05_EhdrChecks.j1 kj7 0 true a1_0 a1_1 a1_2 a1_3 t183 t184 t186 t187 a1_0 t189 a2_0 a2_1 t192 a1_1 a1_2 t195 a1_3 t197 t198)) = some r := by rw [if_neg (show ¬ (false = true) by decide)] at H; exact H
     clear H
     have H := H1
     clear H1
     have HC45 := aS H
     clear H
     have hnb46 := NB199_180.out
     have hnc46 := NB180_199.out
     have hnb47 := NB199_181.out
     have hnc47 := NB181_199.out
     have hnb48 := NB199_185.out
     have hnc48 := NB185_199.out
     have hcz49_0 : wc.cell? ⟨gb199, 0, none⟩ = some (.int .u64 t186) := (blk_cell BK199.out 0).trans rfl
     have hcz49_1 : wc.cell? ⟨gb199, 1, none⟩ = some (.int .u64 t187) := (blk_cell BK199.out 1).trans rfl
     have hcz49_2 : wc.cell? ⟨gb199, 2, none⟩ = some (.int .u64 t188) := (blk_cell BK199.out 2).trans rfl
     have hcz49_3 : wc.cell? ⟨gb199, 3, none⟩ = some (.int .u64 t189) := (blk_cell BK199.out 3).trans rfl
     have hcz49_4 : wc.cell? ⟨gb199, 4, none⟩ = some (.int .u64 t190) := (blk_cell BK199.out 4).trans rfl
     have hcz49_5 : wc.cell? ⟨gb199, 5, none⟩ = some (.int .u64 t191) := (blk_cell BK199.out 5).trans rfl
     have hcz49_6 : wc.cell? ⟨gb199, 6, none⟩ = some (.int .u64 t192) := (blk_cell BK199.out 6).trans rfl
     have hcz49_7 : wc.cell? ⟨gb199, 7, none⟩ = some (.int .u64 t193) := (blk_cell BK199.out 7).trans rfl
     have hcz49_8 : wc.cell? ⟨gb199, 8, none⟩ = some (.int .u64 t194) := (blk_cell BK199.out 8).trans rfl
     have hcz49_9 : wc.cell? ⟨gb199, 9, none⟩ = some (.int .u64 t195) := (blk_cell BK199.out 9).trans rfl
     have hcz49_10 : wc.cell? ⟨gb199, 10, none⟩ = some (.int .u64 t196) := (blk_cell BK199.out 10).trans rfl
     have hcz49_11 : wc.cell? ⟨gb199, 11, none⟩ = some (.int .u64 t197) := (blk_cell BK199.out 11).trans rfl
     have hcz49_12 : wc.cell? ⟨gb199, 12, none⟩ = some (.int .u64 t198) := (blk_cell BK199.out 12).trans rfl
     have hfz49_0 := blk_frozen BK199.out 0
     have hfz49_1 := blk_frozen BK199.out 1
     have hfz49_2 := blk_frozen BK199.out 2
     have hfz49_3 := blk_frozen BK199.out 3
     have hfz49_4 := blk_frozen BK199.out 4
     have hfz49_5 := blk_frozen BK199.out 5
     have hfz49_6 := blk_frozen BK199.out 6
     have hfz49_7 := blk_frozen BK199.out 7
     have hfz49_8 := blk_frozen BK199.out 8
     have hfz49_9 := blk_frozen BK199.out 9
     have hfz49_10 := blk_frozen BK199.out 10
     have hfz49_11 := blk_frozen BK199.out 11
     have hfz49_12 := blk_frozen BK199.out 12
     try go_wp2_with (first|((with_reducible refine gate_dst (N := 9) rfl ?_); refine box_event ?hg (N := 9) ?hd (cs := #[.int .u64 0, .int .u64 0, .int .u64 0, .int .u64 0, .int .u64 0, .int .u64 0, .int .u64 0, .int .u64 0, .int .u64 0, .int .u64 0, .int .u64 0, .int .u64 0, .int .u64 0]) (t := 54) ?hr ?_; (case hd => rfl); (case hg => rfl); (case hr => (go_simp; try rfl)); intro gb202 hg w50 hbox hb; have n0_ := aS (blk_below (g := gb180) (o := .cells #[.int .u64 a1_0, .int .u64 a1_1, .int .u64 a1_2, .int .u64 a1_3] 51 (0, 0)) (by (with_reducible repeat (first|apply bN|apply bD|apply bA)); exact BK180.out) hb); have n1_ := aS (blk_below (g := gb181) (o := .cells #[.int .u64 a2_0, .int .u64 a2_1] 52 (0, 0)) (by (with_reducible repeat (first|apply bN|apply bD|apply bA)); exact BK181.out) hb); have n2_ := aS (blk_below (g := gb185) (o := .cells #[.bool t183, .bool t184] 29 (0, 0)) (by (with_reducible repeat (first|apply bN|apply bD|apply bA)); exact BK185.out) hb); have n3_ := aS (blk_below (g := gb199) (o := .cells #[.int .u64 t186, .int .u64 t187, .int .u64 t188, .int .u64 t189, .int .u64 t190, .int .u64 t191, .int .u64 t192, .int .u64 t193, .int .u64 t194, .int .u64 t195, .int .u64 t196, .int .u64 t197, .int .u64 t198] 54 (0, 0)) (by (with_reducible repeat (first|apply bN|apply bD|apply bA)); exact BK199.out) hb); have n4_ := aS (below_step (by repeat (first|(with_reducible first|exact HB.out|apply eA|apply eN|apply eD|refine below_set ?_ GE180.out|refine below_set ?_ GE181.out|refine below_set ?_ GE185.out|refine below_set ?_ GE199.out)|exact HB.out)) hb); have n5_ := aS (hbox); have n6_ := aS ((by rw [hg]; exact (below_size (by repeat (first|(with_reducible first|exact HB.out|apply eA|apply eN|apply eD|refine below_set ?_ GE180.out|refine below_set ?_ GE181.out|refine below_set ?_ GE185.out|refine below_set ?_ GE199.out)|exact HB.out))) : w.heap.size ≤ gb202)); have n7_ := aS ((by rw [hg]; exact (below_size (by repeat (first|(with_reducible first|exact HB.out|apply eA|apply eN|apply eD|refine below_set ?_ GE180.out|refine below_set ?_ GE181.out|refine below_set ?_ GE185.out|refine below_set ?_ GE199.out)|exact HB.out))) : w.heap.size ≤ gb202)); have n8_ := aS ((by rw [hg]; exact Nat.ne_of_lt (blk_lt (g := gb180) (o := .cells #[.int .u64 a1_0, .int .u64 a1_1, .int .u64 a1_2, .int .u64 a1_3] 51 (0, 0)) (by (with_reducible repeat (first|apply bN|apply bD|apply bA)); exact BK180.out)) : gb180 ≠ gb202)); have n9_ := aS ((by rw [hg]; exact Nat.ne_of_gt (blk_lt (g := gb180) (o := .cells #[.int .u64 a1_0, .int .u64 a1_1, .int .u64 a1_2, .int .u64 a1_3] 51 (0, 0)) (by (with_reducible repeat (first|apply bN|apply bD|apply bA)); exact BK180.out)) : gb202 ≠ gb180)); have n10_ := aS ((by rw [hg]; exact Nat.ne_of_lt (blk_lt (g := gb181) (o := .cells #[.int .u64 a2_0, .int .u64 a2_1] 52 (0, 0)) (by (with_reducible repeat (first|apply bN|apply bD|apply bA)); exact BK181.out)) : gb181 ≠ gb202)); have n11_ := aS ((by rw [hg]; exact Nat.ne_of_gt (blk_lt (g := gb181) (o := .cells #[.int .u64 a2_0, .int .u64 a2_1] 52 (0, 0)) (by (with_reducible repeat (first|apply bN|apply bD|apply bA)); exact BK181.out)) : gb202 ≠ gb181)); have n12_ := aS ((by rw [hg]; exact Nat.ne_of_lt (blk_lt (g := gb185) (o := .cells #[.bool t183, .bool t184] 29 (0, 0)) (by (with_reducible repeat (first|apply bN|apply bD|apply bA)); exact BK185.out)) : gb185 ≠ gb202)); have n13_ := aS ((by rw [hg]; exact Nat.ne_of_gt (blk_lt (g := gb185) (o := .cells #[.bool t183, .bool t184] 29 (0, 0)) (by (with_reducible repeat (first|apply bN|apply bD|apply bA)); exact BK185.out)) : gb202 ≠ gb185)); have n14_ := aS ((by rw [hg]; exact Nat.ne_of_lt (blk_lt (g := gb199) (o := .cells #[.int .u64 t186, .int .u64 t187, .int .u64 t188, .int .u64 t189, .int .u64 t190, .int .u64 t191, .int .u64 t192, .int .u64 t193, .int .u64 t194, .int .u64 t195, .int .u64 t196, .int .u64 t197, .int .u64 t198] 54 (0, 0)) (by (with_reducible repeat (first|apply bN|apply bD|apply bA)); exact BK199.out)) : gb199 ≠ gb202)); have n15_ := aS ((by rw [hg]; exact Nat.ne_of_gt (blk_lt (g := gb199) (o := .cells #[.int .u64 t186, .int .u64 t187, .int .u64 t188, .int .u64 t189, .int .u64 t190, .int .u64 t191, .int .u64 t192, .int .u64 t193, .int .u64 t194, .int .u64 t195, .int .u64 t196, .int .u64 t197, .int .u64 t198] 54 (0, 0)) (by (with_reducible repeat (first|apply bN|apply bD|apply bA)); exact BK199.out)) : gb202 ≠ gb199)); clear BK180; clear BK181; clear BK185; clear BK199; clear HB; have BK180 := n0_; have BK181 := n1_; have BK185 := n2_; have BK199 := n3_; have HB := n4_; have BK202 := n5_; have GW202 := n6_; have GE202 := n7_; have NB180_202 := n8_; have NB202_180 := n9_; have NB181_202 := n10_; have NB202_181 := n11_; have NB185_202 := n12_; have NB202_185 := n13_; have NB199_202 := n14_; have NB202_199 := n15_; clear n0_ n1_ n2_ n3_ n4_ n5_ n6_ n7_ n8_ n9_ n10_ n11_ n12_ n13_ n14_ n15_; clear hb hbox hg; have hnb51 := NB202_180.out; have hnc51 := NB180_202.out; have hnb52 := NB202_181.out; have hnc52 := NB181_202.out; have hnb53 := NB202_185.out; have hnc53 := NB185_202.out; have hnb54 := NB202_199.out; have hnc54 := NB199_202.out; have hcz55_0 : w50.cell? ⟨gb202, 0, none⟩ = some (.int .u64 0) := (blk_cell BK202.out 0).trans rfl; have hcz55_1 : w50.cell? ⟨gb202, 1, none⟩ = some (.int .u64 0) := (blk_cell BK202.out 1).trans rfl; have hcz55_2 : w50.cell? ⟨gb202, 2, none⟩ = some (.int .u64 0) := (blk_cell BK202.out 2).trans rfl; have hcz55_3 : w50.cell? ⟨gb202, 3, none⟩ = some (.int .u64 0) := (blk_cell BK202.out 3).trans rfl; have hcz55_4 : w50.cell? ⟨gb202, 4, none⟩ = some (.int .u64 0) := (blk_cell BK202.out 4).trans rfl; have hcz55_5 : w50.cell? ⟨gb202, 5, none⟩ = some (.int .u64 0) := (blk_cell BK202.out 5).trans rfl; have hcz55_6 : w50.cell? ⟨gb202, 6, none⟩ = some (.int .u64 0) := (blk_cell BK202.out 6).trans rfl; have hcz55_7 : w50.cell? ⟨gb202, 7, none⟩ = some (.int .u64 0) := (blk_cell BK202.out 7).trans rfl; have hcz55_8 : w50.cell? ⟨gb202, 8, none⟩ = some (.int .u64 0) := (blk_cell BK202.out 8).trans rfl; have hcz55_9 : w50.cell? ⟨gb202, 9, none⟩ = some (.int .u64 0) := (blk_cell BK202.out 9).trans rfl; have hcz55_10 : w50.cell? ⟨gb202, 10, none⟩ = some (.int .u64 0) := (blk_cell BK202.out 10).trans rfl; have hcz55_11 : w50.cell? ⟨gb202, 11, none⟩ = some (.int .u64 0) := (blk_cell BK202.out 11).trans rfl; have hcz55_12 : w50.cell? ⟨gb202, 12, none⟩ = some (.int .u64 0) := (blk_cell BK202.out 12).trans rfl; have hfz55_0 := blk_frozen BK202.out 0; have hfz55_1 := blk_frozen BK202.out 1; have hfz55_2 := blk_frozen BK202.out 2; have hfz55_3 := blk_frozen BK202.out 3; have hfz55_4 := blk_frozen BK202.out 4; have hfz55_5 := blk_frozen BK202.out 5; have hfz55_6 := blk_frozen BK202.out 6; have hfz55_7 := blk_frozen BK202.out 7; have hfz55_8 := blk_frozen BK202.out 8; have hfz55_9 := blk_frozen BK202.out 9; have hfz55_10 := blk_frozen BK202.out 10; have hfz55_11 := blk_frozen BK202.out 11; have hfz55_12 := blk_frozen BK202.out 12))
     have n0_ : Aside0 ((((((((((((((w50.setCell ⟨gb202, 0, none⟩ (.int .u64 t186)).setCell ⟨gb202, 1, none⟩ (.int .u64 t187)).setCell ⟨gb202, 2, none⟩ (.int .u64 t188)).setCell ⟨gb202, 3, none⟩ (.int .u64 t189)).setCell ⟨gb202, 4, none⟩ (.int .u64 t190)).setCell ⟨gb202, 5, none⟩ (.int .u64 t191)).setCell ⟨gb202, 6, none⟩ (.int .u64 t192)).setCell ⟨gb202, 7, none⟩ (.int .u64 t193)).setCell ⟨gb202, 8, none⟩ (.int .u64 t194)).setCell ⟨gb202, 9, none⟩ (.int .u64 t195)).setCell ⟨gb202, 10, none⟩ (.int .u64 t196)).setCell ⟨gb202, 11, none⟩ (.int .u64 t197)).setCell ⟨gb202, 12, none⟩ (.int .u64 t198)).heap[gb180]? = some (.cells #[.int .u64 a1_0, .int .u64 a1_1, .int .u64 a1_2, .int .u64 a1_3] 51 (0, 0))) := ⟨by (with_reducible repeat (first|apply bN|apply bD|apply bA)); refine blk_far ?_ NB180_202.out _; (with_reducible repeat (first|apply bN|apply bD|apply bA)); refine blk_far ?_ NB180_202.out _; (with_reducible repeat (first|apply bN|apply bD|apply bA)); refine blk_far ?_ NB180_202.out _; (with_reducible repeat (first|apply bN|apply bD|apply bA)); refine blk_far ?_ NB180_202.out _; (with_reducible repeat (first|apply bN|apply bD|apply bA)); refine blk_far ?_ NB180_202.out _; (with_reducible repeat (first|apply bN|apply bD|apply bA)); refine blk_far ?_ NB180_202.out _; (with_reducible repeat (first|apply bN|apply bD|apply bA)); refine blk_far ?_ NB180_202.out _; (with_reducible repeat (first|apply bN|apply bD|apply bA)); refine blk_far ?_ NB180_202.out _; (with_reducible repeat (first|apply bN|apply bD|apply bA)); refine blk_far ?_ NB180_202.out _; (with_reducible repeat (first|apply bN|apply bD|apply bA)); refine blk_far ?_ NB180_202.out _; (with_reducible repeat (first|apply bN|apply bD|apply bA)); refine blk_far ?_ NB180_202.out _; (with_reducible repeat (first|apply bN|apply bD|apply bA)); refine blk_far ?_ NB180_202.out _; (with_reducible repeat (first|apply bN|apply bD|apply bA)); refine blk_far ?_ NB180_202.out _; (with_reducible repeat (first|apply bN|apply bD|apply bA)); exact BK180.out⟩
     have n1_ : Aside0 ((((((((((((((w50.setCell ⟨gb202, 0, none⟩ (.int .u64 t186)).setCell ⟨gb202, 1, none⟩ (.int .u64 t187)).setCell ⟨gb202, 2, none⟩ (.int .u64 t188)).setCell ⟨gb202, 3, none⟩ (.int .u64 t189)).setCell ⟨gb202, 4, none⟩ (.int .u64 t190)).setCell ⟨gb202, 5, none⟩ (.int .u64 t191)).setCell ⟨gb202, 6, none⟩ (.int .u64 t192)).setCell ⟨gb202, 7, none⟩ (.int .u64 t193)).setCell ⟨gb202, 8, none⟩ (.int .u64 t194)).setCell ⟨gb202, 9, none⟩ (.int .u64 t195)).setCell ⟨gb202, 10, none⟩ (.int .u64 t196)).setCell ⟨gb202, 11, none⟩ (.int .u64 t197)).setCell ⟨gb202, 12, none⟩ (.int .u64 t198)).heap[gb181]? = some (.cells #[.int .u64 a2_0, .int .u64 a2_1] 52 (0, 0))) := ⟨by (with_reducible repeat (first|apply bN|apply bD|apply bA)); refine blk_far ?_ NB181_202.out _; (with_reducible repeat (first|apply bN|apply bD|apply bA)); refine blk_far ?_ NB181_202.out _; (with_reducible repeat (first|apply bN|apply bD|apply bA)); refine blk_far ?_ NB181_202.out _; (with_reducible repeat (first|apply bN|apply bD|apply bA)); refine blk_far ?_ NB181_202.out _; (with_reducible repeat (first|apply bN|apply bD|apply bA)); refine blk_far ?_ NB181_202.out _; (with_reducible repeat (first|apply bN|apply bD|apply bA)); refine blk_far ?_ NB181_202.out _; (with_reducible repeat (first|apply bN|apply bD|apply bA)); refine blk_far ?_ NB181_202.out _; (with_reducible repeat (first|apply bN|apply bD|apply bA)); refine blk_far ?_ NB181_202.out _; (with_reducible repeat (first|apply bN|apply bD|apply bA)); refine blk_far ?_ NB181_202.out _; (with_reducible repeat (first|apply bN|apply bD|apply bA)); refine blk_far ?_ NB181_202.out _; (with_reducible repeat (first|apply bN|apply bD|apply bA)); refine blk_far ?_ NB181_202.out _; (with_reducible repeat (first|apply bN|apply bD|apply bA)); refine blk_far ?_ NB181_202.out _; (with_reducible repeat (first|apply bN|apply bD|apply bA)); refine blk_far ?_ NB181_202.out _; (with_reducible repeat (first|apply bN|apply bD|apply bA)); exact BK181.out⟩
     have n2_ : Aside0 ((((((((((((((w50.setCell ⟨gb202, 0, none⟩ (.int .u64 t186)).setCell ⟨gb202, 1, none⟩ (.int .u64 t187)).setCell ⟨gb202, 2, none⟩ (.int .u64 t188)).setCell ⟨gb202, 3, none⟩ (.int .u64 t189)).setCell ⟨gb202, 4, none⟩ (.int .u64 t190)).setCell ⟨gb202, 5, none⟩ (.int .u64 t191)).setCell ⟨gb202, 6, none⟩ (.int .u64 t192)).setCell ⟨gb202, 7, none⟩ (.int .u64 t193)).setCell ⟨gb202, 8, none⟩ (.int .u64 t194)).setCell ⟨gb202, 9, none⟩ (.int .u64 t195)).setCell ⟨gb202, 10, none⟩ (.int .u64 t196)).setCell ⟨gb202, 11, none⟩ (.int .u64 t197)).setCell ⟨gb202, 12, none⟩ (.int .u64 t198)).heap[gb185]? = some (.cells #[.bool t183, .bool t184] 29 (0, 0))) := ⟨by (with_reducible repeat (first|apply bN|apply bD|apply bA)); refine blk_far ?_ NB185_202.out _; (with_reducible repeat (first|apply bN|apply bD|apply bA)); refine blk_far ?_ NB185_202.out _; (with_reducible repeat (first|apply bN|apply bD|apply bA)); refine blk_far ?_ NB185_202.out _; (with_reducible repeat (first|apply bN|apply bD|apply bA)); refine blk_far ?_ NB185_202.out _; (with_reducible repeat (first|apply bN|apply bD|apply bA)); refine blk_far ?_ NB185_202.out _; (with_reducible repeat (first|apply bN|apply bD|apply bA)); refine blk_far ?_ NB185_202.out _; (with_reducible repeat (first|apply bN|apply bD|apply bA)); refine blk_far ?_ NB185_202.out _; (with_reducible repeat (first|apply bN|apply bD|apply bA)); refine blk_far ?_ NB185_202.out _; (with_reducible repeat (first|apply bN|apply bD|apply bA)); refine blk_far ?_ NB185_202.out _; (with_reducible repeat (first|apply bN|apply bD|apply bA)); refine blk_far ?_ NB185_202.out _; (with_reducible repeat (first|apply bN|apply bD|apply bA)); refine blk_far ?_ NB185_202.out _; (with_reducible repeat (first|apply bN|apply bD|apply bA)); refine blk_far ?_ NB185_202.out _; (with_reducible repeat (first|apply bN|apply bD|apply bA)); refine blk_far ?_ NB185_202.out _; (with_reducible repeat (first|apply bN|apply bD|apply bA)); exact BK185.out⟩
     have n3_ : Aside0 ((((((((((((((w50.setCell ⟨gb202, 0, none⟩ (.int .u64 t186)).setCell ⟨gb202, 1, none⟩ (.int .u64 t187)).setCell ⟨gb202, 2, none⟩ (.int .u64 t188)).setCell ⟨gb202, 3, none⟩ (.int .u64 t189)).setCell ⟨gb202, 4, none⟩ (.int .u64 t190)).setCell ⟨gb202, 5, none⟩ (.int .u64 t191)).setCell ⟨gb202, 6, none⟩ (.int .u64 t192)).setCell ⟨gb202, 7, none⟩ (.int .u64 t193)).setCell ⟨gb202, 8, none⟩ (.int .u64 t194)).setCell ⟨gb202, 9, none⟩ (.int .u64 t195)).setCell ⟨gb202, 10, none⟩ (.int .u64 t196)).setCell ⟨gb202, 11, none⟩ (.int .u64 t197)).setCell ⟨gb202, 12, none⟩ (.int .u64 t198)).heap[gb199]? = some (.cells #[.int .u64 t186, .int .u64 t187, .int .u64 t188, .int .u64 t189, .int .u64 t190, .int .u64 t191, .int .u64 t192, .int .u64 t193, .int .u64 t194, .int .u64 t195, .int .u64 t196, .int .u64 t197, .int .u64 t198] 54 (0, 0))) := ⟨by (with_reducible repeat (first|apply bN|apply bD|apply bA)); refine blk_far ?_ NB199_202.out _; (with_reducible repeat (first|apply bN|apply bD|apply bA)); refine blk_far ?_ NB199_202.out _; (with_reducible repeat (first|apply bN|apply bD|apply bA)); refine blk_far ?_ NB199_202.out _; (with_reducible repeat (first|apply bN|apply bD|apply bA)); refine blk_far ?_ NB199_202.out _; (with_reducible repeat (first|apply bN|apply bD|apply bA)); refine blk_far ?_ NB199_202.out _; (with_reducible repeat (first|apply bN|apply bD|apply bA)); refine blk_far ?_ NB199_202.out _; (with_reducible repeat (first|apply bN|apply bD|apply bA)); refine blk_far ?_ NB199_202.out _; (with_reducible repeat (first|apply bN|apply bD|apply bA)); refine blk_far ?_ NB199_202.out _; (with_reducible repeat (first|apply bN|apply bD|apply bA)); refine blk_far ?_ NB199_202.out _; (with_reducible repeat (first|apply bN|apply bD|apply bA)); refine blk_far ?_ NB199_202.out _; (with_reducible repeat (first|apply bN|apply bD|apply bA)); refine blk_far ?_ NB199_202.out _; (with_reducible repeat (first|apply bN|apply bD|apply bA)); refine blk_far ?_ NB199_202.out _; (with_reducible repeat (first|apply bN|apply bD|apply bA)); refine blk_far ?_ NB199_202.out _; (with_reducible repeat (first|apply bN|apply bD|apply bA)); exact BK199.out⟩
     have n4_ : Aside0 ((((((((((((((w50.setCell ⟨gb202, 0, none⟩ (.int .u64 t186)).setCell ⟨gb202, 1, none⟩ (.int .u64 t187)).setCell ⟨gb202, 2, none⟩ (.int .u64 t188)).setCell ⟨gb202, 3, none⟩ (.int .u64 t189)).setCell ⟨gb202, 4, none⟩ (.int .u64 t190)).setCell ⟨gb202, 5, none⟩ (.int .u64 t191)).setCell ⟨gb202, 6, none⟩ (.int .u64 t192)).setCell ⟨gb202, 7, none⟩ (.int .u64 t193)).setCell ⟨gb202, 8, none⟩ (.int .u64 t194)).setCell ⟨gb202, 9, none⟩ (.int .u64 t195)).setCell ⟨gb202, 10, none⟩ (.int .u64 t196)).setCell ⟨gb202, 11, none⟩ (.int .u64 t197)).setCell ⟨gb202, 12, none⟩ (.int .u64 t198)).heap[gb202]? = some (.cells #[.int .u64 t186, .int .u64 t187, .int .u64 t188, .int .u64 t189, .int .u64 t190, .int .u64 t191, .int .u64 t192, .int .u64 t193, .int .u64 t194, .int .u64 t195, .int .u64 t196, .int .u64 t197, .int .u64 t198] 54 (0, 0))) := ⟨by (with_reducible repeat (first|apply bN|apply bD|apply bA)); refine blk_put (cs := #[.int .u64 t186, .int .u64 t187, .int .u64 t188, .int .u64 t189, .int .u64 t190, .int .u64 t191, .int .u64 t192, .int .u64 t193, .int .u64 t194, .int .u64 t195, .int .u64 t196, .int .u64 t197, .int .u64 0]) ?_ 12 _ rfl; (with_reducible repeat (first|apply bN|apply bD|apply bA)); refine blk_put (cs := #[.int .u64 t186, .int .u64 t187, .int .u64 t188, .int .u64 t189, .int .u64 t190, .int .u64 t191, .int .u64 t192, .int .u64 t193, .int .u64 t194, .int .u64 t195, .int .u64 t196, .int .u64 0, .int .u64 0]) ?_ 11 _ rfl; (with_reducible repeat (first|apply bN|apply bD|apply bA)); refine blk_put (cs := #[.int .u64 t186, .int .u64 t187, .int .u64 t188, .int .u64 t189, .int .u64 t190, .int .u64 t191, .int .u64 t192, .int .u64 t193, .int .u64 t194, .int .u64 t195, .int .u64 0, .int .u64 0, .int .u64 0]) ?_ 10 _ rfl; (with_reducible repeat (first|apply bN|apply bD|apply bA)); refine blk_put (cs := #[.int .u64 t186, .int .u64 t187, .int .u64 t188, .int .u64 t189, .int .u64 t190, .int .u64 t191, .int .u64 t192, .int .u64 t193, .int .u64 t194, .int .u64 0, .int .u64 0, .int .u64 0, .int .u64 0]) ?_ 9 _ rfl; (with_reducible repeat (first|apply bN|apply bD|apply bA)); refine blk_put (cs := #[.int .u64 t186, .int .u64 t187, .int .u64 t188, .int .u64 t189, .int .u64 t190, .int .u64 t191, .int .u64 t192, .int .u64 t193, .int .u64 0, .int .u64 0, .int .u64 0, .int .u64 0, .int .u64 0]) ?_ 8 _ rfl; (with_reducible repeat (first|apply bN|apply bD|apply bA)); refine blk_put (cs := #[.int .u64 t186, .int .u64 t187, .int .u64 t188, .int .u64 t189, .int .u64 t190, .int .u64 t191, .int .u64 t192, .int .u64 0, .int .u64 0, .int .u64 0, .int .u64 0, .int .u64 0, .int .u64 0]) ?_ 7 _ rfl; (with_reducible repeat (first|apply bN|apply bD|apply bA)); refine blk_put (cs := #[.int .u64 t186, .int .u64 t187, .int .u64 t188, .int .u64 t189, .int .u64 t190, .int .u64 t191, .int .u64 0, .int .u64 0, .int .u64 0, .int .u64 0, .int .u64 0, .int .u64 0, .int .u64 0]) ?_ 6 _ rfl; (with_reducible repeat (first|apply bN|apply bD|apply bA)); refine blk_put (cs := #[.int .u64 t186, .int .u64 t187, .int .u64 t188, .int .u64 t189, .int .u64 t190, .int .u64 0, .int .u64 0, .int .u64 0, .int .u64 0, .int .u64 0, .int .u64 0, .int .u64 0, .int .u64 0]) ?_ 5 _ rfl; (with_reducible repeat (first|apply bN|apply bD|apply bA)); refine blk_put (cs := #[.int .u64 t186, .int .u64 t187, .int .u64 t188, .int .u64 t189, .int .u64 0, .int .u64 0, .int .u64 0, .int .u64 0, .int .u64 0, .int .u64 0, .int .u64 0, .int .u64 0, .int .u64 0]) ?_ 4 _ rfl; (with_reducible repeat (first|apply bN|apply bD|apply bA)); refine blk_put (cs := #[.int .u64 t186, .int .u64 t187, .int .u64 t188, .int .u64 0, .int .u64 0, .int .u64 0, .int .u64 0, .int .u64 0, .int .u64 0, .int .u64 0, .int .u64 0, .int .u64 0, .int .u64 0]) ?_ 3 _ rfl; (with_reducible repeat (first|apply bN|apply bD|apply bA)); refine blk_put (cs := #[.int .u64 t186, .int .u64 t187, .int .u64 0, .int .u64 0, .int .u64 0, .int .u64 0, .int .u64 0, .int .u64 0, .int .u64 0, .int .u64 0, .int .u64 0, .int .u64 0, .int .u64 0]) ?_ 2 _ rfl; (with_reducible repeat (first|apply bN|apply bD|apply bA)); refine blk_put (cs := #[.int .u64 t186, .int .u64 0, .int .u64 0, .int .u64 0, .int .u64 0, .int .u64 0, .int .u64 0, .int .u64 0, .int .u64 0, .int .u64 0, .int .u64 0, .int .u64 0, .int .u64 0]) ?_ 1 _ rfl; (with_reducible repeat (first|apply bN|apply bD|apply bA)); refine blk_put (cs := #[.int .u64 0, .int .u64 0, .int .u64 0, .int .u64 0, .int .u64 0, .int .u64 0, .int .u64 0, .int .u64 0, .int .u64 0, .int .u64 0, .int .u64 0, .int .u64 0, .int .u64 0]) ?_ 0 _ rfl; (with_reducible repeat (first|apply bN|apply bD|apply bA)); exact BK202.out⟩
     have n5_ : Aside0 (Below w.heap.size w (((((((((((((w50.setCell ⟨gb202, 0, none⟩ (.int .u64 t186)).setCell ⟨gb202, 1, none⟩ (.int .u64 t187)).setCell ⟨gb202, 2, none⟩ (.int .u64 t188)).setCell ⟨gb202, 3, none⟩ (.int .u64 t189)).setCell ⟨gb202, 4, none⟩ (.int .u64 t190)).setCell ⟨gb202, 5, none⟩ (.int .u64 t191)).setCell ⟨gb202, 6, none⟩ (.int .u64 t192)).setCell ⟨gb202, 7, none⟩ (.int .u64 t193)).setCell ⟨gb202, 8, none⟩ (.int .u64 t194)).setCell ⟨gb202, 9, none⟩ (.int .u64 t195)).setCell ⟨gb202, 10, none⟩ (.int .u64 t196)).setCell ⟨gb202, 11, none⟩ (.int .u64 t197)).setCell ⟨gb202, 12, none⟩ (.int .u64 t198))) := ⟨by repeat (first|(with_reducible first|exact HB.out|apply eA|apply eN|apply eD|refine below_set ?_ GE180.out|refine below_set ?_ GE181.out|refine below_set ?_ GE185.out|refine below_set ?_ GE199.out|refine below_set ?_ GE202.out)|exact HB.out)⟩
     (try clear BK180)
     (try clear BK181)
     (try clear BK185)
     (try clear BK199)
     (try clear BK202)
     (try clear HB)
     generalize (((((((((((((w50.setCell ⟨gb202, 0, none⟩ (.int .u64 t186)).setCell ⟨gb202, 1, none⟩ (.int .u64 t187)).setCell ⟨gb202, 2, none⟩ (.int .u64 t188)).setCell ⟨gb202, 3, none⟩ (.int .u64 t189)).setCell ⟨gb202, 4, none⟩ (.int .u64 t190)).setCell ⟨gb202, 5, none⟩ (.int .u64 t191)).setCell ⟨gb202, 6, none⟩ (.int .u64 t192)).setCell ⟨gb202, 7, none⟩ (.int .u64 t193)).setCell ⟨gb202, 8, none⟩ (.int .u64 t194)).setCell ⟨gb202, 9, none⟩ (.int .u64 t195)).setCell ⟨gb202, 10, none⟩ (.int .u64 t196)).setCell ⟨gb202, 11, none⟩ (.int .u64 t197)).setCell ⟨gb202, 12, none⟩ (.int .u64 t198)) = w56 at n0_ n1_ n2_ n3_ n4_ n5_ ⊢
     have BK180 := n0_
     have BK181 := n1_
     have BK185 := n2_
     have BK199 := n3_
     have BK202 := n4_
     have HB := n5_
     clear n0_ n1_ n2_ n3_ n4_ n5_
     have n0_ := aS (blk_drew BK180.out)
     have n1_ := aS (blk_drew BK181.out)
     have n2_ := aS (blk_drew BK185.out)
     have n3_ := aS (blk_drew BK199.out)
     have n4_ := aS (blk_drew BK202.out)
     have n5_ := aS (below_drew1 HB.out)
     clear BK180
     clear BK181
     clear BK185
     clear BK199
     clear BK202
     clear HB
     have BK180 := n0_
     have BK181 := n1_
     have BK185 := n2_
     have BK199 := n3_
     have BK202 := n4_
     have HB := n5_
     clear n0_ n1_ n2_ n3_ n4_ n5_
     refine start_ (n := 24) (S := fun w' => w'.cell? ⟨gb180, 0, none⟩ = some (.int .u64 a1_0) ∧ w'.cell? ⟨gb180, 1, none⟩ = some (.int .u64 a1_1) ∧ w'.cell? ⟨gb180, 2, none⟩ = some (.int .u64 a1_2) ∧ w'.cell? ⟨gb180, 3, none⟩ = some (.int .u64 a1_3) ∧ w'.cell? ⟨gb181, 0, none⟩ = some (.int .u64 a2_0) ∧ w'.cell? ⟨gb181, 1, none⟩ = some (.int .u64 a2_1)) (ds := []) #[false, false, false, false, false, false, false, false, false, false, false, false, false, false, false, false, false, false, false, false, false, false, false, false] (by kernel_rfl) rfl rfl ⟨(blk_cell BK180.out 0).trans rfl, (blk_cell BK180.out 1).trans rfl, (blk_cell BK180.out 2).trans rfl, (blk_cell BK180.out 3).trans rfl, (blk_cell BK181.out 0).trans rfl, (blk_cell BK181.out 1).trans rfl⟩ (fun hH => ?_); refine with_tabW graverlaw05_EhdrChecks.tab8 graverlaw05_EhdrChecks.bits8 (fun HT_ HW_ => ?_)
     generalize w56.drew = w57 at BK180 BK181 BK185 BK199 BK202 HB hH ⊢
     refine pure_ (i := 0) (N := some 53) (v := ?_) (a' := ?_) (bm 24 1) rfl rfl (any_of HT_.out (by kernel_rfl)) (fun _ _ _ h => h) (Or.inl ⟨by rfl, ?_⟩) ?_ ?_
     rotate_left
     ·
      intro w'
      go_simp
      with_reducible rfl
     rotate_left
     ·
      simp only [Act.put, aput]
      rfl
     refine pure_ (i := 2) (N := some 55) (v := ?_) (a' := ?_) (bm 24 5) rfl rfl (any_of HT_.out (by kernel_rfl)) (fun _ _ _ h => h) (Or.inl ⟨by rfl, ?_⟩) ?_ ?_
     rotate_left
     ·
      intro w'
      go_simp
      with_reducible rfl
     rotate_left
     ·
      simp only [Act.put, aput]
      rfl
     refine pure_ (i := 4) (N := some 57) (v := ?_) (a' := ?_) (bm 24 21) rfl rfl (any_of HT_.out (by kernel_rfl)) (fun _ _ _ h => h) (Or.inl ⟨by rfl, ?_⟩) ?_ ?_
     rotate_left
     ·
      intro w'
      go_simp
      with_reducible rfl
     rotate_left
     ·
      simp only [Act.put, aput]
      rfl
     refine pure_ (i := 6) (N := some 59) (v := ?_) (a' := ?_) (bm 24 85) rfl rfl (any_of HT_.out (by kernel_rfl)) (fun _ _ _ h => h) (Or.inl ⟨by rfl, ?_⟩) ?_ ?_
     rotate_left
     ·
      intro w'
      go_simp
      with_reducible rfl
     rotate_left
     ·
      simp only [Act.put, aput]
      rfl
     refine pure_ (i := 8) (N := some 61) (v := ?_) (a' := ?_) (bm 24 341) rfl rfl (any_of HT_.out (by kernel_rfl)) (fun _ _ _ h => h) (Or.inl ⟨by rfl, ?_⟩) ?_ ?_
     rotate_left
     ·
      intro w'
      go_simp
      with_reducible rfl
     rotate_left
     ·
      simp only [Act.put, aput]
      rfl
     refine pure_ (i := 10) (N := some 63) (v := ?_) (a' := ?_) (bm 24 1365) rfl rfl (any_of HT_.out (by kernel_rfl)) (fun _ _ _ h => h) (Or.inl ⟨by rfl, ?_⟩) ?_ ?_
     rotate_left
     ·
      intro w'
      go_simp
      with_reducible rfl
     rotate_left
     ·
      simp only [Act.put, aput]
      rfl
     refine take_ (i := 1) (N := some 54) (v := ?_) (a' := ?_) (bm 24 1367) rfl rfl (take_ofW HT_.out HW_.out (by kernel_rfl)) (fun _ _ _ h => h) (Or.inl ⟨by rfl, ?_⟩) hH ?_ ?_
     rotate_left
     ·
      intro w' s0
      go_simp
      with_reducible rfl
     rotate_left
     ·
      simp only [Act.put, aput]
      rfl
     refine pure_ (i := 12) (N := some 65) (v := ?_) (a' := ?_) (bm 24 5463) rfl rfl (any_of HT_.out (by kernel_rfl)) (fun _ _ _ h => h) (Or.inl ⟨by rfl, ?_⟩) ?_ ?_
     rotate_left
     ·
      intro w'
      go_simp
      with_reducible rfl
     rotate_left
     ·
      simp only [Act.put, aput]
      rfl
     refine take_ (i := 3) (N := some 56) (v := ?_) (a' := ?_) (bm 24 5471) rfl rfl (take_ofW HT_.out HW_.out (by kernel_rfl)) (fun _ _ _ h => h) (Or.inl ⟨by rfl, ?_⟩) hH ?_ ?_
     rotate_left
     ·
      intro w' s0
      go_simp
      with_reducible rfl
     rotate_left
     ·
      simp only [Act.put, aput]
      rfl
     refine take_ (i := 5) (N := some 58) (v := ?_) (a' := ?_) (bm 24 5503) rfl rfl (take_ofW HT_.out HW_.out (by kernel_rfl)) (fun _ _ _ h => h) (Or.inl ⟨by rfl, ?_⟩) hH ?_ ?_
     rotate_left
     ·
      intro w' s0
      go_simp
      with_reducible rfl
     rotate_left
     ·
      simp only [Act.put, aput]
      rfl
     refine take_ (i := 7) (N := some 60) (v := ?_) (a' := ?_) (bm 24 5631) rfl rfl (take_ofW HT_.out HW_.out (by kernel_rfl)) (fun _ _ _ h => h) (Or.inl ⟨by rfl, ?_⟩) hH ?_ ?_
     rotate_left
     ·
      intro w' s0
      go_simp
      with_reducible rfl
     rotate_left
     ·
      simp only [Act.put, aput]
      rfl
     refine take_ (i := 9) (N := some 62) (v := ?_) (a' := ?_) (bm 24 6143) rfl rfl (take_ofW HT_.out HW_.out (by kernel_rfl)) (fun _ _ _ h => h) (Or.inl ⟨by rfl, ?_⟩) hH ?_ ?_
     rotate_left
     ·
      intro w' s0
      go_simp
      with_reducible rfl
     rotate_left
     ·
      simp only [Act.put, aput]
      rfl
     refine take_ (i := 11) (N := some 64) (v := ?_) (a' := ?_) (bm 24 8191) rfl rfl (take_ofW HT_.out HW_.out (by kernel_rfl)) (fun _ _ _ h => h) (Or.inl ⟨by rfl, ?_⟩) hH ?_ ?_
     rotate_left
     ·
      intro w' s0
      go_simp
      with_reducible rfl
     rotate_left
     ·
      simp only [Act.put, aput]
      rfl
     refine one_ (i := 13) (N := none) (bm 24 16383) rfl rfl (one_of HT_.out (by kernel_rfl)) (by decide) (fun K hK => ?_)
     have hs58 : w57.cell? ⟨gb199, 2, none⟩ = some (.int .u64 t188) := (blk_cell BK199.out 2).trans rfl
     have hfs58 := blk_frozen BK199.out 2
     have hns58_0 := NB180_199.out
     have hns58_1 := NB181_199.out
     have hns58_2 := NB185_199.out
     have hns58_4 := NB202_199.out
     have hms58_0 := NB199_180.out
     have hms58_1 := NB199_181.out
     have hms58_2 := NB199_185.out
     have hms58_4 := NB199_202.out
     refine skip_ (w1 := ?_) (by rfl) rfl ?_ ?_
     rotate_left
     ·
      go_simp
      rfl
     refine hK.out _ _ ⟨((cell_far (p := ⟨gb199, _, none⟩) NB180_199.out _).trans (hH.1)), ((cell_far (p := ⟨gb199, _, none⟩) NB180_199.out _).trans (hH.2.1)), ((cell_far (p := ⟨gb199, _, none⟩) NB180_199.out _).trans (hH.2.2.1)), ((cell_far (p := ⟨gb199, _, none⟩) NB180_199.out _).trans (hH.2.2.2.1)), ((cell_far (p := ⟨gb199, _, none⟩) NB181_199.out _).trans (hH.2.2.2.2.1)), ((cell_far (p := ⟨gb199, _, none⟩) NB181_199.out _).trans (hH.2.2.2.2.2))⟩ (fun hH => ?_)
     clear hK K
     refine pure_ (i := 14) (N := some 66) (v := ?_) (a' := ?_) (bm 24 32767) rfl rfl (any_of HT_.out (by kernel_rfl)) (fun _ _ _ h => h) (Or.inl ⟨by rfl, ?_⟩) ?_ ?_
     rotate_left
     ·
      intro w'
      go_simp
      with_reducible rfl
     rotate_left
     ·
      simp only [Act.put, aput]
      rfl
     refine one_ (i := 15) (N := none) (bm 24 65535) rfl rfl (one_of HT_.out (by kernel_rfl)) (by decide) (fun K hK => ?_)
     have hs59 : w57.cell? ⟨gb199, 7, none⟩ = some (.int .u64 t193) := (blk_cell BK199.out 7).trans rfl
     have hfs59 := blk_frozen BK199.out 7
     have hns59_0 := NB180_199.out
     have hns59_1 := NB181_199.out
     have hns59_2 := NB185_199.out
     have hns59_4 := NB202_199.out
     have hms59_0 := NB199_180.out
     have hms59_1 := NB199_181.out
     have hms59_2 := NB199_185.out
     have hms59_4 := NB199_202.out
     refine skip_ (w1 := ?_) (by rfl) rfl ?_ ?_
     rotate_left
     ·
      go_simp
      rfl
     refine hK.out _ _ ⟨((cell_far (p := ⟨gb199, _, none⟩) NB180_199.out _).trans (hH.1)), ((cell_far (p := ⟨gb199, _, none⟩) NB180_199.out _).trans (hH.2.1)), ((cell_far (p := ⟨gb199, _, none⟩) NB180_199.out _).trans (hH.2.2.1)), ((cell_far (p := ⟨gb199, _, none⟩) NB180_199.out _).trans (hH.2.2.2.1)), ((cell_far (p := ⟨gb199, _, none⟩) NB181_199.out _).trans (hH.2.2.2.2.1)), ((cell_far (p := ⟨gb199, _, none⟩) NB181_199.out _).trans (hH.2.2.2.2.2))⟩ (fun hH => ?_)
     clear hK K
     refine pure_ (i := 16) (N := some 67) (v := ?_) (a' := ?_) (bm 24 131071) rfl rfl (any_of HT_.out (by kernel_rfl)) (fun _ _ _ h => h) (Or.inl ⟨by rfl, ?_⟩) ?_ ?_
     rotate_left
     ·
      intro w'
      go_simp
      with_reducible rfl
     rotate_left
     ·
      simp only [Act.put, aput]
      rfl
     refine one_ (i := 17) (N := none) (bm 24 262143) rfl rfl (one_of HT_.out (by kernel_rfl)) (by decide) (fun K hK => ?_)
     have hs60 : w57.cell? ⟨gb199, 8, none⟩ = some (.int .u64 t194) := (blk_cell BK199.out 8).trans rfl
     have hfs60 := blk_frozen BK199.out 8
     have hns60_0 := NB180_199.out
     have hns60_1 := NB181_199.out
     have hns60_2 := NB185_199.out
     have hns60_4 := NB202_199.out
     have hms60_0 := NB199_180.out
     have hms60_1 := NB199_181.out
     have hms60_2 := NB199_185.out
     have hms60_4 := NB199_202.out
     refine skip_ (w1 := ?_) (by rfl) rfl ?_ ?_
     rotate_left
     ·
      go_simp
      rfl
     refine hK.out _ _ ⟨((cell_far (p := ⟨gb199, _, none⟩) NB180_199.out _).trans (hH.1)), ((cell_far (p := ⟨gb199, _, none⟩) NB180_199.out _).trans (hH.2.1)), ((cell_far (p := ⟨gb199, _, none⟩) NB180_199.out _).trans (hH.2.2.1)), ((cell_far (p := ⟨gb199, _, none⟩) NB180_199.out _).trans (hH.2.2.2.1)), ((cell_far (p := ⟨gb199, _, none⟩) NB181_199.out _).trans (hH.2.2.2.2.1)), ((cell_far (p := ⟨gb199, _, none⟩) NB181_199.out _).trans (hH.2.2.2.2.2))⟩ (fun hH => ?_)
     clear hK K
     refine pure_ (i := 18) (N := some 68) (v := ?_) (a' := ?_) (bm 24 524287) rfl rfl (any_of HT_.out (by kernel_rfl)) (fun _ _ _ h => h) (Or.inl ⟨by rfl, ?_⟩) ?_ ?_
     rotate_left
     ·
      intro w'
      go_simp
      with_reducible rfl
     rotate_left
     ·
      simp only [Act.put, aput]
      rfl
     refine one_ (i := 19) (N := none) (bm 24 1048575) rfl rfl (one_of HT_.out (by kernel_rfl)) (by decide) (fun K hK => ?_)
     have hs61 : w57.cell? ⟨gb199, 10, none⟩ = some (.int .u64 t196) := (blk_cell BK199.out 10).trans rfl
     have hfs61 := blk_frozen BK199.out 10
     have hns61_0 := NB180_199.out
     have hns61_1 := NB181_199.out
     have hns61_2 := NB185_199.out
     have hns61_4 := NB202_199.out
     have hms61_0 := NB199_180.out
     have hms61_1 := NB199_181.out
     have hms61_2 := NB199_185.out
     have hms61_4 := NB199_202.out
     refine skip_ (w1 := ?_) (by rfl) rfl ?_ ?_
     rotate_left
     ·
      go_simp
      rfl
     refine hK.out _ _ ⟨((cell_far (p := ⟨gb199, _, none⟩) NB180_199.out _).trans (hH.1)), ((cell_far (p := ⟨gb199, _, none⟩) NB180_199.out _).trans (hH.2.1)), ((cell_far (p := ⟨gb199, _, none⟩) NB180_199.out _).trans (hH.2.2.1)), ((cell_far (p := ⟨gb199, _, none⟩) NB180_199.out _).trans (hH.2.2.2.1)), ((cell_far (p := ⟨gb199, _, none⟩) NB181_199.out _).trans (hH.2.2.2.2.1)), ((cell_far (p := ⟨gb199, _, none⟩) NB181_199.out _).trans (hH.2.2.2.2.2))⟩ (fun hH => ?_)
     clear hK K
     refine pure_ (i := 20) (N := some 69) (v := ?_) (a' := ?_) (bm 24 2097151) rfl rfl (any_of HT_.out (by kernel_rfl)) (fun _ _ _ h => h) (Or.inl ⟨by rfl, ?_⟩) ?_ ?_
     rotate_left
     ·
      intro w'
      go_simp
      with_reducible rfl
     rotate_left
     ·
      simp only [Act.put, aput]
      rfl
     refine one_ (i := 21) (N := none) (bm 24 4194303) rfl rfl (one_of HT_.out (by kernel_rfl)) (by decide) (fun K hK => ?_)
     have hs62 : w57.cell? ⟨gb199, 4, none⟩ = some (.int .u64 t190) := (blk_cell BK199.out 4).trans rfl
     have hfs62 := blk_frozen BK199.out 4
     have hns62_0 := NB180_199.out
     have hns62_1 := NB181_199.out
     have hns62_2 := NB185_199.out
     have hns62_4 := NB202_199.out
     have hms62_0 := NB199_180.out
     have hms62_1 := NB199_181.out
     have hms62_2 := NB199_185.out
     have hms62_4 := NB199_202.out
     refine skip_ (w1 := ?_) (by rfl) rfl ?_ ?_
     rotate_left
     ·
      go_simp
      rfl
     refine hK.out _ _ ⟨((cell_far (p := ⟨gb199, _, none⟩) NB180_199.out _).trans (hH.1)), ((cell_far (p := ⟨gb199, _, none⟩) NB180_199.out _).trans (hH.2.1)), ((cell_far (p := ⟨gb199, _, none⟩) NB180_199.out _).trans (hH.2.2.1)), ((cell_far (p := ⟨gb199, _, none⟩) NB180_199.out _).trans (hH.2.2.2.1)), ((cell_far (p := ⟨gb199, _, none⟩) NB181_199.out _).trans (hH.2.2.2.2.1)), ((cell_far (p := ⟨gb199, _, none⟩) NB181_199.out _).trans (hH.2.2.2.2.2))⟩ (fun hH => ?_)
     clear hK K
     refine pure_ (i := 22) (N := some 70) (v := ?_) (a' := ?_) (bm 24 8388607) rfl rfl (any_of HT_.out (by kernel_rfl)) (fun _ _ _ h => h) (Or.inl ⟨by rfl, ?_⟩) ?_ ?_
     rotate_left
     ·
      intro w'
      go_simp
      with_reducible rfl
     rotate_left
     ·
      simp only [Act.put, aput]
      rfl
     refine one_ (i := 23) (N := none) (bm 24 16777215) rfl rfl (one_of HT_.out (by kernel_rfl)) (by decide) (fun K hK => ?_)
     have hs63 : w57.cell? ⟨gb199, 5, none⟩ = some (.int .u64 t191) := (blk_cell BK199.out 5).trans rfl
     have hfs63 := blk_frozen BK199.out 5
     have hns63_0 := NB180_199.out
     have hns63_1 := NB181_199.out
     have hns63_2 := NB185_199.out
     have hns63_4 := NB202_199.out
     have hms63_0 := NB199_180.out
     have hms63_1 := NB199_181.out
     have hms63_2 := NB199_185.out
     have hms63_4 := NB199_202.out
     refine skip_ (w1 := ?_) (by rfl) rfl ?_ ?_
     rotate_left
     ·
      go_simp
      rfl
     refine hK.out _ _ ⟨((cell_far (p := ⟨gb199, _, none⟩) NB180_199.out _).trans (hH.1)), ((cell_far (p := ⟨gb199, _, none⟩) NB180_199.out _).trans (hH.2.1)), ((cell_far (p := ⟨gb199, _, none⟩) NB180_199.out _).trans (hH.2.2.1)), ((cell_far (p := ⟨gb199, _, none⟩) NB180_199.out _).trans (hH.2.2.2.1)), ((cell_far (p := ⟨gb199, _, none⟩) NB181_199.out _).trans (hH.2.2.2.2.1)), ((cell_far (p := ⟨gb199, _, none⟩) NB181_199.out _).trans (hH.2.2.2.2.2))⟩ (fun hH => ?_)
     clear hK K
     refine done_ (done_of HT_.out (by kernel_rfl)) ?_
     go_upto_region 10 with (fail)
     go_cut [99] (fun v99 wc => ∃ (kq : Nat) (x99_44 : Bool), v99 = .bool x99_44 ∧ Aside0 (graverlaw05_EhdrChecks.j1 kq 0 x99_44 a1_0 a1_1 a1_2 a1_3 t183 t184 t186 t187 a1_0 t189 a2_0 a2_1 t192 a1_1 a1_2 t195 a1_3 t197 t198 = some r) ∧ Aside0 (kq ≤ kj7) ∧ Aside0 (wc.heap[gb180]? = some (.cells #[.int .u64 a1_0, .int .u64 a1_1, .int .u64 a1_2, .int .u64 a1_3] 51 (0, 0))) ∧ Aside0 (wc.heap[gb181]? = some (.cells #[.int .u64 a2_0, .int .u64 a2_1] 52 (0, 0))) ∧ Aside0 (wc.heap[gb185]? = some (.cells #[.bool t183, .bool t184] 29 (0, 0))) ∧ Aside0 (wc.heap[gb199]? = some (.cells #[.int .u64 t186, .int .u64 t187, .int .u64 a1_0, .int .u64 t189, .int .u64 a2_0, .int .u64 a2_1, .int .u64 t192, .int .u64 a1_1, .int .u64 a1_2, .int .u64 t195, .int .u64 a1_3, .int .u64 t197, .int .u64 t198] 54 (0, 0))) ∧ Aside0 (wc.heap[gb202]? = some (.cells #[.int .u64 t186, .int .u64 t187, .int .u64 t188, .int .u64 t189, .int .u64 t190, .int .u64 t191, .int .u64 t192, .int .u64 t193, .int .u64 t194, .int .u64 t195, .int .u64 t196, .int .u64 t197, .int .u64 t198] 54 (0, 0))) ∧ Aside0 (Below w.heap.size w wc))
     case first =>
      have H := HC45.out
      clear HC45
      by_cases c64 : a1_1 = t193
      ·
       rw [if_pos c64] at H
       have c64b0 : (a1_1 == t193) = true := beq_iff_eq.mpr c64
       have c64b1 : (a1_1 != t193) = false := bne_eq_false_iff_eq.mpr c64
       clear c64
       (first | rw [c64b0] | (simp only [i64_w, i32_w]; rw [c64b0]) | skip)
       by_cases c65 : a2_0 = 0
       ·
        rw [if_pos c65] at H
        have c65b0 : (a2_0 == 0) = true := beq_iff_eq.mpr c65
        have c65b1 : (a2_0 != 0) = false := bne_eq_false_iff_eq.mpr c65
        clear c65
        by_cases c66 : a2_1 = 0
        ·
         rw [if_pos c66] at H
         have c66b0 : (a2_1 == 0) = true := beq_iff_eq.mpr c66
         have c66b1 : (a2_1 != 0) = false := bne_eq_false_iff_eq.mpr c66
         clear c66
         have H' := aS H
         clear H
         have hnb67 := NB180_181.out
         have hnc67 := NB181_180.out
         have hnb68 := NB180_185.out
         have hnc68 := NB185_180.out
         have hnb69 := NB180_199.out
         have hnc69 := NB199_180.out
         have hnb70 := NB180_202.out
         have hnc70 := NB202_180.out
         have hcz71_0 : w57.cell? ⟨gb180, 0, none⟩ = some (.int .u64 a1_0) := (blk_cell BK180.out 0).trans rfl
         have hcz71_1 : w57.cell? ⟨gb180, 1, none⟩ = some (.int .u64 a1_1) := (blk_cell BK180.out 1).trans rfl
         have hcz71_2 : w57.cell? ⟨gb180, 2, none⟩ = some (.int .u64 a1_2) := (blk_cell BK180.out 2).trans rfl
         have hcz71_3 : w57.cell? ⟨gb180, 3, none⟩ = some (.int .u64 a1_3) := (blk_cell BK180.out 3).trans rfl
         have hfz71_0 := blk_frozen BK180.out 0
         have hfz71_1 := blk_frozen BK180.out 1
         have hfz71_2 := blk_frozen BK180.out 2
         have hfz71_3 := blk_frozen BK180.out 3
         have hnb72 := NB202_181.out
         have hnc72 := NB181_202.out
         have hnb73 := NB202_185.out
         have hnc73 := NB185_202.out
         have hnb74 := NB202_199.out
         have hnc74 := NB199_202.out
         have hcz75_0 : w57.cell? ⟨gb202, 0, none⟩ = some (.int .u64 t186) := (blk_cell BK202.out 0).trans rfl
         have hcz75_1 : w57.cell? ⟨gb202, 1, none⟩ = some (.int .u64 t187) := (blk_cell BK202.out 1).trans rfl
         have hcz75_2 : w57.cell? ⟨gb202, 2, none⟩ = some (.int .u64 t188) := (blk_cell BK202.out 2).trans rfl
         have hcz75_3 : w57.cell? ⟨gb202, 3, none⟩ = some (.int .u64 t189) := (blk_cell BK202.out 3).trans rfl
         have hcz75_4 : w57.cell? ⟨gb202, 4, none⟩ = some (.int .u64 t190) := (blk_cell BK202.out 4).trans rfl
         have hcz75_5 : w57.cell? ⟨gb202, 5, none⟩ = some (.int .u64 t191) := (blk_cell BK202.out 5).trans rfl
         have hcz75_6 : w57.cell? ⟨gb202, 6, none⟩ = some (.int .u64 t192) := (blk_cell BK202.out 6).trans rfl
         have hcz75_7 : w57.cell? ⟨gb202, 7, none⟩ = some (.int .u64 t193) := (blk_cell BK202.out 7).trans rfl
         have hcz75_8 : w57.cell? ⟨gb202, 8, none⟩ = some (.int .u64 t194) := (blk_cell BK202.out 8).trans rfl
         have hcz75_9 : w57.cell? ⟨gb202, 9, none⟩ = some (.int .u64 t195) := (blk_cell BK202.out 9).trans rfl
         have hcz75_10 : w57.cell? ⟨gb202, 10, none⟩ = some (.int .u64 t196) := (blk_cell BK202.out 10).trans rfl
         have hcz75_11 : w57.cell? ⟨gb202, 11, none⟩ = some (.int .u64 t197) := (blk_cell BK202.out 11).trans rfl
         have hcz75_12 : w57.cell? ⟨gb202, 12, none⟩ = some (.int .u64 t198) := (blk_cell BK202.out 12).trans rfl
         have hfz75_0 := blk_frozen BK202.out 0
         have hfz75_1 := blk_frozen BK202.out 1
         have hfz75_2 := blk_frozen BK202.out 2
         have hfz75_3 := blk_frozen BK202.out 3
         have hfz75_4 := blk_frozen BK202.out 4
         have hfz75_5 := blk_frozen BK202.out 5
         have hfz75_6 := blk_frozen BK202.out 6
         have hfz75_7 := blk_frozen BK202.out 7
         have hfz75_8 := blk_frozen BK202.out 8
         have hfz75_9 := blk_frozen BK202.out 9
         have hfz75_10 := blk_frozen BK202.out 10
         have hfz75_11 := blk_frozen BK202.out 11
         have hfz75_12 := blk_frozen BK202.out 12
         have hnb76 := NB181_185.out
         have hnc76 := NB185_181.out
         have hnb77 := NB181_199.out
         have hnc77 := NB199_181.out
         have hcz78_0 : w57.cell? ⟨gb181, 0, none⟩ = some (.int .u64 a2_0) := (blk_cell BK181.out 0).trans rfl
         have hcz78_1 : w57.cell? ⟨gb181, 1, none⟩ = some (.int .u64 a2_1) := (blk_cell BK181.out 1).trans rfl
         have hfz78_0 := blk_frozen BK181.out 0
         have hfz78_1 := blk_frozen BK181.out 1
         go_wp2
         go_meet
         case rel => exact ⟨_, (false), (by first|rfl|(simp; done)|(simp [*]; done)), H', ⟨by have := HJ7.out; first|omega|exact Nat.le_refl _⟩, ⟨by (with_reducible repeat (first|apply bN|apply bD|apply bA)); refine blk_far ?_ NB180_199.out _; (with_reducible repeat (first|apply bN|apply bD|apply bA)); refine blk_far ?_ NB180_199.out _; (with_reducible repeat (first|apply bN|apply bD|apply bA)); refine blk_far ?_ NB180_199.out _; (with_reducible repeat (first|apply bN|apply bD|apply bA)); refine blk_far ?_ NB180_199.out _; (with_reducible repeat (first|apply bN|apply bD|apply bA)); refine blk_far ?_ NB180_199.out _; (with_reducible repeat (first|apply bN|apply bD|apply bA)); refine blk_far ?_ NB180_199.out _; (with_reducible repeat (first|apply bN|apply bD|apply bA)); exact BK180.out⟩, ⟨by (with_reducible repeat (first|apply bN|apply bD|apply bA)); refine blk_far ?_ NB181_199.out _; (with_reducible repeat (first|apply bN|apply bD|apply bA)); refine blk_far ?_ NB181_199.out _; (with_reducible repeat (first|apply bN|apply bD|apply bA)); refine blk_far ?_ NB181_199.out _; (with_reducible repeat (first|apply bN|apply bD|apply bA)); refine blk_far ?_ NB181_199.out _; (with_reducible repeat (first|apply bN|apply bD|apply bA)); refine blk_far ?_ NB181_199.out _; (with_reducible repeat (first|apply bN|apply bD|apply bA)); refine blk_far ?_ NB181_199.out _; (with_reducible repeat (first|apply bN|apply bD|apply bA)); exact BK181.out⟩, ⟨by (with_reducible repeat (first|apply bN|apply bD|apply bA)); refine blk_far ?_ NB185_199.out _; (with_reducible repeat (first|apply bN|apply bD|apply bA)); refine blk_far ?_ NB185_199.out _; (with_reducible repeat (first|apply bN|apply bD|apply bA)); refine blk_far ?_ NB185_199.out _; (with_reducible repeat (first|apply bN|apply bD|apply bA)); refine blk_far ?_ NB185_199.out _; (with_reducible repeat (first|apply bN|apply bD|apply bA)); refine blk_far ?_ NB185_199.out _; (with_reducible repeat (first|apply bN|apply bD|apply bA)); refine blk_far ?_ NB185_199.out _; (with_reducible repeat (first|apply bN|apply bD|apply bA)); exact BK185.out⟩, ⟨by (with_reducible repeat (first|apply bN|apply bD|apply bA)); refine blk_put (cs := #[.int .u64 t186, .int .u64 t187, .int .u64 a1_0, .int .u64 t189, .int .u64 a2_0, .int .u64 t191, .int .u64 t192, .int .u64 a1_1, .int .u64 a1_2, .int .u64 t195, .int .u64 a1_3, .int .u64 t197, .int .u64 t198]) ?_ 5 _ rfl; (with_reducible repeat (first|apply bN|apply bD|apply bA)); refine blk_put (cs := #[.int .u64 t186, .int .u64 t187, .int .u64 a1_0, .int .u64 t189, .int .u64 t190, .int .u64 t191, .int .u64 t192, .int .u64 a1_1, .int .u64 a1_2, .int .u64 t195, .int .u64 a1_3, .int .u64 t197, .int .u64 t198]) ?_ 4 _ rfl; (with_reducible repeat (first|apply bN|apply bD|apply bA)); refine blk_put (cs := #[.int .u64 t186, .int .u64 t187, .int .u64 a1_0, .int .u64 t189, .int .u64 t190, .int .u64 t191, .int .u64 t192, .int .u64 a1_1, .int .u64 a1_2, .int .u64 t195, .int .u64 t196, .int .u64 t197, .int .u64 t198]) ?_ 10 _ rfl; (with_reducible repeat (first|apply bN|apply bD|apply bA)); refine blk_put (cs := #[.int .u64 t186, .int .u64 t187, .int .u64 a1_0, .int .u64 t189, .int .u64 t190, .int .u64 t191, .int .u64 t192, .int .u64 a1_1, .int .u64 t194, .int .u64 t195, .int .u64 t196, .int .u64 t197, .int .u64 t198]) ?_ 8 _ rfl; (with_reducible repeat (first|apply bN|apply bD|apply bA)); refine blk_put (cs := #[.int .u64 t186, .int .u64 t187, .int .u64 a1_0, .int .u64 t189, .int .u64 t190, .int .u64 t191, .int .u64 t192, .int .u64 t193, .int .u64 t194, .int .u64 t195, .int .u64 t196, .int .u64 t197, .int .u64 t198]) ?_ 7 _ rfl; (with_reducible repeat (first|apply bN|apply bD|apply bA)); refine blk_put (cs := #[.int .u64 t186, .int .u64 t187, .int .u64 t188, .int .u64 t189, .int .u64 t190, .int .u64 t191, .int .u64 t192, .int .u64 t193, .int .u64 t194, .int .u64 t195, .int .u64 t196, .int .u64 t197, .int .u64 t198]) ?_ 2 _ rfl; (with_reducible repeat (first|apply bN|apply bD|apply bA)); exact BK199.out⟩, ⟨by (with_reducible repeat (first|apply bN|apply bD|apply bA)); refine blk_far ?_ NB202_199.out _; (with_reducible repeat (first|apply bN|apply bD|apply bA)); refine blk_far ?_ NB202_199.out _; (with_reducible repeat (first|apply bN|apply bD|apply bA)); refine blk_far ?_ NB202_199.out _; (with_reducible repeat (first|apply bN|apply bD|apply bA)); refine blk_far ?_ NB202_199.out _; (with_reducible repeat (first|apply bN|apply bD|apply bA)); refine blk_far ?_ NB202_199.out _; (with_reducible repeat (first|apply bN|apply bD|apply bA)); refine blk_far ?_ NB202_199.out _; (with_reducible repeat (first|apply bN|apply bD|apply bA)); exact BK202.out⟩, ⟨by repeat (first|(with_reducible first|exact HB.out|apply eA|apply eN|apply eD|refine below_set ?_ GE180.out|refine below_set ?_ GE181.out|refine below_set ?_ GE185.out|refine below_set ?_ GE199.out|refine below_set ?_ GE202.out)|exact HB.out)⟩⟩
        ·
         rw [if_neg c66] at H
         have c66b0 : (a2_1 == 0) = false := beq_eq_false_iff_ne.mpr c66
         have c66b1 : (a2_1 != 0) = true := bne_iff_ne.mpr c66
         have H' := aS H
         clear H
         have hnb79 := NB180_181.out
         have hnc79 := NB181_180.out
         have hnb80 := NB180_185.out
         have hnc80 := NB185_180.out
         have hnb81 := NB180_199.out
         have hnc81 := NB199_180.out
         have hnb82 := NB180_202.out
         have hnc82 := NB202_180.out
         have hcz83_0 : w57.cell? ⟨gb180, 0, none⟩ = some (.int .u64 a1_0) := (blk_cell BK180.out 0).trans rfl
         have hcz83_1 : w57.cell? ⟨gb180, 1, none⟩ = some (.int .u64 a1_1) := (blk_cell BK180.out 1).trans rfl
         have hcz83_2 : w57.cell? ⟨gb180, 2, none⟩ = some (.int .u64 a1_2) := (blk_cell BK180.out 2).trans rfl
         have hcz83_3 : w57.cell? ⟨gb180, 3, none⟩ = some (.int .u64 a1_3) := (blk_cell BK180.out 3).trans rfl
         have hfz83_0 := blk_frozen BK180.out 0
         have hfz83_1 := blk_frozen BK180.out 1
         have hfz83_2 := blk_frozen BK180.out 2
         have hfz83_3 := blk_frozen BK180.out 3
         have hnb84 := NB202_181.out
         have hnc84 := NB181_202.out
         have hnb85 := NB202_185.out
         have hnc85 := NB185_202.out
         have hnb86 := NB202_199.out
         have hnc86 := NB199_202.out
         have hcz87_0 : w57.cell? ⟨gb202, 0, none⟩ = some (.int .u64 t186) := (blk_cell BK202.out 0).trans rfl
         have hcz87_1 : w57.cell? ⟨gb202, 1, none⟩ = some (.int .u64 t187) := (blk_cell BK202.out 1).trans rfl
         have hcz87_2 : w57.cell? ⟨gb202, 2, none⟩ = some (.int .u64 t188) := (blk_cell BK202.out 2).trans rfl
         have hcz87_3 : w57.cell? ⟨gb202, 3, none⟩ = some (.int .u64 t189) := (blk_cell BK202.out 3).trans rfl
         have hcz87_4 : w57.cell? ⟨gb202, 4, none⟩ = some (.int .u64 t190) := (blk_cell BK202.out 4).trans rfl
         have hcz87_5 : w57.cell? ⟨gb202, 5, none⟩ = some (.int .u64 t191) := (blk_cell BK202.out 5).trans rfl
         have hcz87_6 : w57.cell? ⟨gb202, 6, none⟩ = some (.int .u64 t192) := (blk_cell BK202.out 6).trans rfl
         have hcz87_7 : w57.cell? ⟨gb202, 7, none⟩ = some (.int .u64 t193) := (blk_cell BK202.out 7).trans rfl
         have hcz87_8 : w57.cell? ⟨gb202, 8, none⟩ = some (.int .u64 t194) := (blk_cell BK202.out 8).trans rfl
         have hcz87_9 : w57.cell? ⟨gb202, 9, none⟩ = some (.int .u64 t195) := (blk_cell BK202.out 9).trans rfl
         have hcz87_10 : w57.cell? ⟨gb202, 10, none⟩ = some (.int .u64 t196) := (blk_cell BK202.out 10).trans rfl
         have hcz87_11 : w57.cell? ⟨gb202, 11, none⟩ = some (.int .u64 t197) := (blk_cell BK202.out 11).trans rfl
         have hcz87_12 : w57.cell? ⟨gb202, 12, none⟩ = some (.int .u64 t198) := (blk_cell BK202.out 12).trans rfl
         have hfz87_0 := blk_frozen BK202.out 0
         have hfz87_1 := blk_frozen BK202.out 1
         have hfz87_2 := blk_frozen BK202.out 2
         have hfz87_3 := blk_frozen BK202.out 3
         have hfz87_4 := blk_frozen BK202.out 4
         have hfz87_5 := blk_frozen BK202.out 5
         have hfz87_6 := blk_frozen BK202.out 6
         have hfz87_7 := blk_frozen BK202.out 7
         have hfz87_8 := blk_frozen BK202.out 8
         have hfz87_9 := blk_frozen BK202.out 9
         have hfz87_10 := blk_frozen BK202.out 10
         have hfz87_11 := blk_frozen BK202.out 11
         have hfz87_12 := blk_frozen BK202.out 12
         have hnb88 := NB181_185.out
         have hnc88 := NB185_181.out
         have hnb89 := NB181_199.out
         have hnc89 := NB199_181.out
         have hcz90_0 : w57.cell? ⟨gb181, 0, none⟩ = some (.int .u64 a2_0) := (blk_cell BK181.out 0).trans rfl
         have hcz90_1 : w57.cell? ⟨gb181, 1, none⟩ = some (.int .u64 a2_1) := (blk_cell BK181.out 1).trans rfl
         have hfz90_0 := blk_frozen BK181.out 0
         have hfz90_1 := blk_frozen BK181.out 1
         go_wp2
         go_meet
         case rel => exact ⟨_, ((a1_3 != t196)), (by first|rfl|(simp; done)|(simp [*]; done)), H', ⟨by have := HJ7.out; first|omega|exact Nat.le_refl _⟩, ⟨by (with_reducible repeat (first|apply bN|apply bD|apply bA)); refine blk_far ?_ NB180_199.out _; (with_reducible repeat (first|apply bN|apply bD|apply bA)); refine blk_far ?_ NB180_199.out _; (with_reducible repeat (first|apply bN|apply bD|apply bA)); refine blk_far ?_ NB180_199.out _; (with_reducible repeat (first|apply bN|apply bD|apply bA)); refine blk_far ?_ NB180_199.out _; (with_reducible repeat (first|apply bN|apply bD|apply bA)); refine blk_far ?_ NB180_199.out _; (with_reducible repeat (first|apply bN|apply bD|apply bA)); refine blk_far ?_ NB180_199.out _; (with_reducible repeat (first|apply bN|apply bD|apply bA)); exact BK180.out⟩, ⟨by (with_reducible repeat (first|apply bN|apply bD|apply bA)); refine blk_far ?_ NB181_199.out _; (with_reducible repeat (first|apply bN|apply bD|apply bA)); refine blk_far ?_ NB181_199.out _; (with_reducible repeat (first|apply bN|apply bD|apply bA)); refine blk_far ?_ NB181_199.out _; (with_reducible repeat (first|apply bN|apply bD|apply bA)); refine blk_far ?_ NB181_199.out _; (with_reducible repeat (first|apply bN|apply bD|apply bA)); refine blk_far ?_ NB181_199.out _; (with_reducible repeat (first|apply bN|apply bD|apply bA)); refine blk_far ?_ NB181_199.out _; (with_reducible repeat (first|apply bN|apply bD|apply bA)); exact BK181.out⟩, ⟨by (with_reducible repeat (first|apply bN|apply bD|apply bA)); refine blk_far ?_ NB185_199.out _; (with_reducible repeat (first|apply bN|apply bD|apply bA)); refine blk_far ?_ NB185_199.out _; (with_reducible repeat (first|apply bN|apply bD|apply bA)); refine blk_far ?_ NB185_199.out _; (with_reducible repeat (first|apply bN|apply bD|apply bA)); refine blk_far ?_ NB185_199.out _; (with_reducible repeat (first|apply bN|apply bD|apply bA)); refine blk_far ?_ NB185_199.out _; (with_reducible repeat (first|apply bN|apply bD|apply bA)); refine blk_far ?_ NB185_199.out _; (with_reducible repeat (first|apply bN|apply bD|apply bA)); exact BK185.out⟩, ⟨by (with_reducible repeat (first|apply bN|apply bD|apply bA)); refine blk_put (cs := #[.int .u64 t186, .int .u64 t187, .int .u64 a1_0, .int .u64 t189, .int .u64 a2_0, .int .u64 t191, .int .u64 t192, .int .u64 a1_1, .int .u64 a1_2, .int .u64 t195, .int .u64 a1_3, .int .u64 t197, .int .u64 t198]) ?_ 5 _ rfl; (with_reducible repeat (first|apply bN|apply bD|apply bA)); refine blk_put (cs := #[.int .u64 t186, .int .u64 t187, .int .u64 a1_0, .int .u64 t189, .int .u64 t190, .int .u64 t191, .int .u64 t192, .int .u64 a1_1, .int .u64 a1_2, .int .u64 t195, .int .u64 a1_3, .int .u64 t197, .int .u64 t198]) ?_ 4 _ rfl; (with_reducible repeat (first|apply bN|apply bD|apply bA)); refine blk_put (cs := #[.int .u64 t186, .int .u64 t187, .int .u64 a1_0, .int .u64 t189, .int .u64 t190, .int .u64 t191, .int .u64 t192, .int .u64 a1_1, .int .u64 a1_2, .int .u64 t195, .int .u64 t196, .int .u64 t197, .int .u64 t198]) ?_ 10 _ rfl; (with_reducible repeat (first|apply bN|apply bD|apply bA)); refine blk_put (cs := #[.int .u64 t186, .int .u64 t187, .int .u64 a1_0, .int .u64 t189, .int .u64 t190, .int .u64 t191, .int .u64 t192, .int .u64 a1_1, .int .u64 t194, .int .u64 t195, .int .u64 t196, .int .u64 t197, .int .u64 t198]) ?_ 8 _ rfl; (with_reducible repeat (first|apply bN|apply bD|apply bA)); refine blk_put (cs := #[.int .u64 t186, .int .u64 t187, .int .u64 a1_0, .int .u64 t189, .int .u64 t190, .int .u64 t191, .int .u64 t192, .int .u64 t193, .int .u64 t194, .int .u64 t195, .int .u64 t196, .int .u64 t197, .int .u64 t198]) ?_ 7 _ rfl; (with_reducible repeat (first|apply bN|apply bD|apply bA)); refine blk_put (cs := #[.int .u64 t186, .int .u64 t187, .int .u64 t188, .int .u64 t189, .int .u64 t190, .int .u64 t191, .int .u64 t192, .int .u64 t193, .int .u64 t194, .int .u64 t195, .int .u64 t196, .int .u64 t197, .int .u64 t198]) ?_ 2 _ rfl; (with_reducible repeat (first|apply bN|apply bD|apply bA)); exact BK199.out⟩, ⟨by (with_reducible repeat (first|apply bN|apply bD|apply bA)); refine blk_far ?_ NB202_199.out _; (with_reducible repeat (first|apply bN|apply bD|apply bA)); refine blk_far ?_ NB202_199.out _; (with_reducible repeat (first|apply bN|apply bD|apply bA)); refine blk_far ?_ NB202_199.out _; (with_reducible repeat (first|apply bN|apply bD|apply bA)); refine blk_far ?_ NB202_199.out _; (with_reducible repeat (first|apply bN|apply bD|apply bA)); refine blk_far ?_ NB202_199.out _; (with_reducible repeat (first|apply bN|apply bD|apply bA)); refine blk_far ?_ NB202_199.out _; (with_reducible repeat (first|apply bN|apply bD|apply bA)); exact BK202.out⟩, ⟨by repeat (first|(with_reducible first|exact HB.out|apply eA|apply eN|apply eD|refine below_set ?_ GE180.out|refine below_set ?_ GE181.out|refine below_set ?_ GE185.out|refine below_set ?_ GE199.out|refine below_set ?_ GE202.out)|exact HB.out)⟩⟩
       ·
        rw [if_neg c65] at H
        have c65b0 : (a2_0 == 0) = false := beq_eq_false_iff_ne.mpr c65
        have c65b1 : (a2_0 != 0) = true := bne_iff_ne.mpr c65
        by_cases c91 : a1_2 = t194
        ·
         rw [if_pos c91] at H
         have c91b0 : (a1_2 == t194) = true := beq_iff_eq.mpr c91
         have c91b1 : (a1_2 != t194) = false := bne_eq_false_iff_eq.mpr c91
         clear c91
         by_cases c92 : a2_1 = 0
         ·
          rw [if_pos c92] at H
          have c92b0 : (a2_1 == 0) = true := beq_iff_eq.mpr c92
          have c92b1 : (a2_1 != 0) = false := bne_eq_false_iff_eq.mpr c92
          clear c92
          have H' := aS H
          clear H
          have hnb93 := NB180_181.out
          have hnc93 := NB181_180.out
          have hnb94 := NB180_185.out
          have hnc94 := NB185_180.out
          have hnb95 := NB180_199.out
          have hnc95 := NB199_180.out
          have hnb96 := NB180_202.out
          have hnc96 := NB202_180.out
          have hcz97_0 : w57.cell? ⟨gb180, 0, none⟩ = some (.int .u64 a1_0) := (blk_cell BK180.out 0).trans rfl
          have hcz97_1 : w57.cell? ⟨gb180, 1, none⟩ = some (.int .u64 a1_1) := (blk_cell BK180.out 1).trans rfl
          have hcz97_2 : w57.cell? ⟨gb180, 2, none⟩ = some (.int .u64 a1_2) := (blk_cell BK180.out 2).trans rfl
          have hcz97_3 : w57.cell? ⟨gb180, 3, none⟩ = some (.int .u64 a1_3) := (blk_cell BK180.out 3).trans rfl
          have hfz97_0 := blk_frozen BK180.out 0
          have hfz97_1 := blk_frozen BK180.out 1
          have hfz97_2 := blk_frozen BK180.out 2
          have hfz97_3 := blk_frozen BK180.out 3
          have hnb98 := NB202_181.out
          have hnc98 := NB181_202.out
          have hnb99 := NB202_185.out
          have hnc99 := NB185_202.out
          have hnb100 := NB202_199.out
          have hnc100 := NB199_202.out
          have hcz101_0 : w57.cell? ⟨gb202, 0, none⟩ = some (.int .u64 t186) := (blk_cell BK202.out 0).trans rfl
          have hcz101_1 : w57.cell? ⟨gb202, 1, none⟩ = some (.int .u64 t187) := (blk_cell BK202.out 1).trans rfl
          have hcz101_2 : w57.cell? ⟨gb202, 2, none⟩ = some (.int .u64 t188) := (blk_cell BK202.out 2).trans rfl
          have hcz101_3 : w57.cell? ⟨gb202, 3, none⟩ = some (.int .u64 t189) := (blk_cell BK202.out 3).trans rfl
          have hcz101_4 : w57.cell? ⟨gb202, 4, none⟩ = some (.int .u64 t190) := (blk_cell BK202.out 4).trans rfl
          have hcz101_5 : w57.cell? ⟨gb202, 5, none⟩ = some (.int .u64 t191) := (blk_cell BK202.out 5).trans rfl
          have hcz101_6 : w57.cell? ⟨gb202, 6, none⟩ = some (.int .u64 t192) := (blk_cell BK202.out 6).trans rfl
          have hcz101_7 : w57.cell? ⟨gb202, 7, none⟩ = some (.int .u64 t193) := (blk_cell BK202.out 7).trans rfl
          have hcz101_8 : w57.cell? ⟨gb202, 8, none⟩ = some (.int .u64 t194) := (blk_cell BK202.out 8).trans rfl
          have hcz101_9 : w57.cell? ⟨gb202, 9, none⟩ = some (.int .u64 t195) := (blk_cell BK202.out 9).trans rfl
          have hcz101_10 : w57.cell? ⟨gb202, 10, none⟩ = some (.int .u64 t196) := (blk_cell BK202.out 10).trans rfl
          have hcz101_11 : w57.cell? ⟨gb202, 11, none⟩ = some (.int .u64 t197) := (blk_cell BK202.out 11).trans rfl
          have hcz101_12 : w57.cell? ⟨gb202, 12, none⟩ = some (.int .u64 t198) := (blk_cell BK202.out 12).trans rfl
          have hfz101_0 := blk_frozen BK202.out 0
          have hfz101_1 := blk_frozen BK202.out 1
          have hfz101_2 := blk_frozen BK202.out 2
          have hfz101_3 := blk_frozen BK202.out 3
          have hfz101_4 := blk_frozen BK202.out 4
          have hfz101_5 := blk_frozen BK202.out 5
          have hfz101_6 := blk_frozen BK202.out 6
          have hfz101_7 := blk_frozen BK202.out 7
          have hfz101_8 := blk_frozen BK202.out 8
          have hfz101_9 := blk_frozen BK202.out 9
          have hfz101_10 := blk_frozen BK202.out 10
          have hfz101_11 := blk_frozen BK202.out 11
          have hfz101_12 := blk_frozen BK202.out 12
          have hnb102 := NB181_185.out
          have hnc102 := NB185_181.out
          have hnb103 := NB181_199.out
          have hnc103 := NB199_181.out
          have hcz104_0 : w57.cell? ⟨gb181, 0, none⟩ = some (.int .u64 a2_0) := (blk_cell BK181.out 0).trans rfl
          have hcz104_1 : w57.cell? ⟨gb181, 1, none⟩ = some (.int .u64 a2_1) := (blk_cell BK181.out 1).trans rfl
          have hfz104_0 := blk_frozen BK181.out 0
          have hfz104_1 := blk_frozen BK181.out 1
          go_wp2
          go_meet
          case rel => exact ⟨_, (false), (by first|rfl|(simp; done)|(simp [*]; done)), H', ⟨by have := HJ7.out; first|omega|exact Nat.le_refl _⟩, ⟨by (with_reducible repeat (first|apply bN|apply bD|apply bA)); refine blk_far ?_ NB180_199.out _; (with_reducible repeat (first|apply bN|apply bD|apply bA)); refine blk_far ?_ NB180_199.out _; (with_reducible repeat (first|apply bN|apply bD|apply bA)); refine blk_far ?_ NB180_199.out _; (with_reducible repeat (first|apply bN|apply bD|apply bA)); refine blk_far ?_ NB180_199.out _; (with_reducible repeat (first|apply bN|apply bD|apply bA)); refine blk_far ?_ NB180_199.out _; (with_reducible repeat (first|apply bN|apply bD|apply bA)); refine blk_far ?_ NB180_199.out _; (with_reducible repeat (first|apply bN|apply bD|apply bA)); exact BK180.out⟩, ⟨by (with_reducible repeat (first|apply bN|apply bD|apply bA)); refine blk_far ?_ NB181_199.out _; (with_reducible repeat (first|apply bN|apply bD|apply bA)); refine blk_far ?_ NB181_199.out _; (with_reducible repeat (first|apply bN|apply bD|apply bA)); refine blk_far ?_ NB181_199.out _; (with_reducible repeat (first|apply bN|apply bD|apply bA)); refine blk_far ?_ NB181_199.out _; (with_reducible repeat (first|apply bN|apply bD|apply bA)); refine blk_far ?_ NB181_199.out _; (with_reducible repeat (first|apply bN|apply bD|apply bA)); refine blk_far ?_ NB181_199.out _; (with_reducible repeat (first|apply bN|apply bD|apply bA)); exact BK181.out⟩, ⟨by (with_reducible repeat (first|apply bN|apply bD|apply bA)); refine blk_far ?_ NB185_199.out _; (with_reducible repeat (first|apply bN|apply bD|apply bA)); refine blk_far ?_ NB185_199.out _; (with_reducible repeat (first|apply bN|apply bD|apply bA)); refine blk_far ?_ NB185_199.out _; (with_reducible repeat (first|apply bN|apply bD|apply bA)); refine blk_far ?_ NB185_199.out _; (with_reducible repeat (first|apply bN|apply bD|apply bA)); refine blk_far ?_ NB185_199.out _; (with_reducible repeat (first|apply bN|apply bD|apply bA)); refine blk_far ?_ NB185_199.out _; (with_reducible repeat (first|apply bN|apply bD|apply bA)); exact BK185.out⟩, ⟨by (with_reducible repeat (first|apply bN|apply bD|apply bA)); refine blk_put (cs := #[.int .u64 t186, .int .u64 t187, .int .u64 a1_0, .int .u64 t189, .int .u64 a2_0, .int .u64 t191, .int .u64 t192, .int .u64 a1_1, .int .u64 a1_2, .int .u64 t195, .int .u64 a1_3, .int .u64 t197, .int .u64 t198]) ?_ 5 _ rfl; (with_reducible repeat (first|apply bN|apply bD|apply bA)); refine blk_put (cs := #[.int .u64 t186, .int .u64 t187, .int .u64 a1_0, .int .u64 t189, .int .u64 t190, .int .u64 t191, .int .u64 t192, .int .u64 a1_1, .int .u64 a1_2, .int .u64 t195, .int .u64 a1_3, .int .u64 t197, .int .u64 t198]) ?_ 4 _ rfl; (with_reducible repeat (first|apply bN|apply bD|apply bA)); refine blk_put (cs := #[.int .u64 t186, .int .u64 t187, .int .u64 a1_0, .int .u64 t189, .int .u64 t190, .int .u64 t191, .int .u64 t192, .int .u64 a1_1, .int .u64 a1_2, .int .u64 t195, .int .u64 t196, .int .u64 t197, .int .u64 t198]) ?_ 10 _ rfl; (with_reducible repeat (first|apply bN|apply bD|apply bA)); refine blk_put (cs := #[.int .u64 t186, .int .u64 t187, .int .u64 a1_0, .int .u64 t189, .int .u64 t190, .int .u64 t191, .int .u64 t192, .int .u64 a1_1, .int .u64 t194, .int .u64 t195, .int .u64 t196, .int .u64 t197, .int .u64 t198]) ?_ 8 _ rfl; (with_reducible repeat (first|apply bN|apply bD|apply bA)); refine blk_put (cs := #[.int .u64 t186, .int .u64 t187, .int .u64 a1_0, .int .u64 t189, .int .u64 t190, .int .u64 t191, .int .u64 t192, .int .u64 t193, .int .u64 t194, .int .u64 t195, .int .u64 t196, .int .u64 t197, .int .u64 t198]) ?_ 7 _ rfl; (with_reducible repeat (first|apply bN|apply bD|apply bA)); refine blk_put (cs := #[.int .u64 t186, .int .u64 t187, .int .u64 t188, .int .u64 t189, .int .u64 t190, .int .u64 t191, .int .u64 t192, .int .u64 t193, .int .u64 t194, .int .u64 t195, .int .u64 t196, .int .u64 t197, .int .u64 t198]) ?_ 2 _ rfl; (with_reducible repeat (first|apply bN|apply bD|apply bA)); exact BK199.out⟩, ⟨by (with_reducible repeat (first|apply bN|apply bD|apply bA)); refine blk_far ?_ NB202_199.out _; (with_reducible repeat (first|apply bN|apply bD|apply bA)); refine blk_far ?_ NB202_199.out _; (with_reducible repeat (first|apply bN|apply bD|apply bA)); refine blk_far ?_ NB202_199.out _; (with_reducible repeat (first|apply bN|apply bD|apply bA)); refine blk_far ?_ NB202_199.out _; (with_reducible repeat (first|apply bN|apply bD|apply bA)); refine blk_far ?_ NB202_199.out _; (with_reducible repeat (first|apply bN|apply bD|apply bA)); refine blk_far ?_ NB202_199.out _; (with_reducible repeat (first|apply bN|apply bD|apply bA)); exact BK202.out⟩, ⟨by repeat (first|(with_reducible first|exact HB.out|apply eA|apply eN|apply eD|refine below_set ?_ GE180.out|refine below_set ?_ GE181.out|refine below_set ?_ GE185.out|refine below_set ?_ GE199.out|refine below_set ?_ GE202.out)|exact HB.out)⟩⟩
         ·
          rw [if_neg c92] at H
          have c92b0 : (a2_1 == 0) = false := beq_eq_false_iff_ne.mpr c92
          have c92b1 : (a2_1 != 0) = true := bne_iff_ne.mpr c92
          have H' := aS H
          clear H
          have hnb105 := NB180_181.out
          have hnc105 := NB181_180.out
          have hnb106 := NB180_185.out
          have hnc106 := NB185_180.out
          have hnb107 := NB180_199.out
          have hnc107 := NB199_180.out
          have hnb108 := NB180_202.out
          have hnc108 := NB202_180.out
          have hcz109_0 : w57.cell? ⟨gb180, 0, none⟩ = some (.int .u64 a1_0) := (blk_cell BK180.out 0).trans rfl
          have hcz109_1 : w57.cell? ⟨gb180, 1, none⟩ = some (.int .u64 a1_1) := (blk_cell BK180.out 1).trans rfl
          have hcz109_2 : w57.cell? ⟨gb180, 2, none⟩ = some (.int .u64 a1_2) := (blk_cell BK180.out 2).trans rfl
          have hcz109_3 : w57.cell? ⟨gb180, 3, none⟩ = some (.int .u64 a1_3) := (blk_cell BK180.out 3).trans rfl
          have hfz109_0 := blk_frozen BK180.out 0
          have hfz109_1 := blk_frozen BK180.out 1
          have hfz109_2 := blk_frozen BK180.out 2
          have hfz109_3 := blk_frozen BK180.out 3
          have hnb110 := NB202_181.out
          have hnc110 := NB181_202.out
          have hnb111 := NB202_185.out
          have hnc111 := NB185_202.out
          have hnb112 := NB202_199.out
          have hnc112 := NB199_202.out
          have hcz113_0 : w57.cell? ⟨gb202, 0, none⟩ = some (.int .u64 t186) := (blk_cell BK202.out 0).trans rfl
          have hcz113_1 : w57.cell? ⟨gb202, 1, none⟩ = some (.int .u64 t187) := (blk_cell BK202.out 1).trans rfl
          have hcz113_2 : w57.cell? ⟨gb202, 2, none⟩ = some (.int .u64 t188) := (blk_cell BK202.out 2).trans rfl
          have hcz113_3 : w57.cell? ⟨gb202, 3, none⟩ = some (.int .u64 t189) := (blk_cell BK202.out 3).trans rfl
          have hcz113_4 : w57.cell? ⟨gb202, 4, none⟩ = some (.int .u64 t190) := (blk_cell BK202.out 4).trans rfl
          have hcz113_5 : w57.cell? ⟨gb202, 5, none⟩ = some (.int .u64 t191) := (blk_cell BK202.out 5).trans rfl
          have hcz113_6 : w57.cell? ⟨gb202, 6, none⟩ = some (.int .u64 t192) := (blk_cell BK202.out 6).trans rfl
          have hcz113_7 : w57.cell? ⟨gb202, 7, none⟩ = some (.int .u64 t193) := (blk_cell BK202.out 7).trans rfl
          have hcz113_8 : w57.cell? ⟨gb202, 8, none⟩ = some (.int .u64 t194) := (blk_cell BK202.out 8).trans rfl
          have hcz113_9 : w57.cell? ⟨gb202, 9, none⟩ = some (.int .u64 t195) := (blk_cell BK202.out 9).trans rfl
          have hcz113_10 : w57.cell? ⟨gb202, 10, none⟩ = some (.int .u64 t196) := (blk_cell BK202.out 10).trans rfl
          have hcz113_11 : w57.cell? ⟨gb202, 11, none⟩ = some (.int .u64 t197) := (blk_cell BK202.out 11).trans rfl
          have hcz113_12 : w57.cell? ⟨gb202, 12, none⟩ = some (.int .u64 t198) := (blk_cell BK202.out 12).trans rfl
          have hfz113_0 := blk_frozen BK202.out 0
          have hfz113_1 := blk_frozen BK202.out 1
          have hfz113_2 := blk_frozen BK202.out 2
          have hfz113_3 := blk_frozen BK202.out 3
          have hfz113_4 := blk_frozen BK202.out 4
          have hfz113_5 := blk_frozen BK202.out 5
          have hfz113_6 := blk_frozen BK202.out 6
          have hfz113_7 := blk_frozen BK202.out 7
          have hfz113_8 := blk_frozen BK202.out 8
          have hfz113_9 := blk_frozen BK202.out 9
          have hfz113_10 := blk_frozen BK202.out 10
          have hfz113_11 := blk_frozen BK202.out 11
          have hfz113_12 := blk_frozen BK202.out 12
          have hnb114 := NB181_185.out
          have hnc114 := NB185_181.out
          have hnb115 := NB181_199.out
          have hnc115 := NB199_181.out
          have hcz116_0 : w57.cell? ⟨gb181, 0, none⟩ = some (.int .u64 a2_0) := (blk_cell BK181.out 0).trans rfl
          have hcz116_1 : w57.cell? ⟨gb181, 1, none⟩ = some (.int .u64 a2_1) := (blk_cell BK181.out 1).trans rfl
          have hfz116_0 := blk_frozen BK181.out 0
          have hfz116_1 := blk_frozen BK181.out 1
          go_wp2
          go_meet
          case rel => exact ⟨_, ((a1_3 != t196)), (by first|rfl|(simp; done)|(simp [*]; done)), H', ⟨by have := HJ7.out; first|omega|exact Nat.le_refl _⟩, ⟨by (with_reducible repeat (first|apply bN|apply bD|apply bA)); refine blk_far ?_ NB180_199.out _; (with_reducible repeat (first|apply bN|apply bD|apply bA)); refine blk_far ?_ NB180_199.out _; (with_reducible repeat (first|apply bN|apply bD|apply bA)); refine blk_far ?_ NB180_199.out _; (with_reducible repeat (first|apply bN|apply bD|apply bA)); refine blk_far ?_ NB180_199.out _; (with_reducible repeat (first|apply bN|apply bD|apply bA)); refine blk_far ?_ NB180_199.out _; (with_reducible repeat (first|apply bN|apply bD|apply bA)); refine blk_far ?_ NB180_199.out _; (with_reducible repeat (first|apply bN|apply bD|apply bA)); exact BK180.out⟩, ⟨by (with_reducible repeat (first|apply bN|apply bD|apply bA)); refine blk_far ?_ NB181_199.out _; (with_reducible repeat (first|apply bN|apply bD|apply bA)); refine blk_far ?_ NB181_199.out _; (with_reducible repeat (first|apply bN|apply bD|apply bA)); refine blk_far ?_ NB181_199.out _; (with_reducible repeat (first|apply bN|apply bD|apply bA)); refine blk_far ?_ NB181_199.out _; (with_reducible repeat (first|apply bN|apply bD|apply bA)); refine blk_far ?_ NB181_199.out _; (with_reducible repeat (first|apply bN|apply bD|apply bA)); refine blk_far ?_ NB181_199.out _; (with_reducible repeat (first|apply bN|apply bD|apply bA)); exact BK181.out⟩, ⟨by (with_reducible repeat (first|apply bN|apply bD|apply bA)); refine blk_far ?_ NB185_199.out _; (with_reducible repeat (first|apply bN|apply bD|apply bA)); refine blk_far ?_ NB185_199.out _; (with_reducible repeat (first|apply bN|apply bD|apply bA)); refine blk_far ?_ NB185_199.out _; (with_reducible repeat (first|apply bN|apply bD|apply bA)); refine blk_far ?_ NB185_199.out _; (with_reducible repeat (first|apply bN|apply bD|apply bA)); refine blk_far ?_ NB185_199.out _; (with_reducible repeat (first|apply bN|apply bD|apply bA)); refine blk_far ?_ NB185_199.out _; (with_reducible repeat (first|apply bN|apply bD|apply bA)); exact BK185.out⟩, ⟨by (with_reducible repeat (first|apply bN|apply bD|apply bA)); refine blk_put (cs := #[.int .u64 t186, .int .u64 t187, .int .u64 a1_0, .int .u64 t189, .int .u64 a2_0, .int .u64 t191, .int .u64 t192, .int .u64 a1_1, .int .u64 a1_2, .int .u64 t195, .int .u64 a1_3, .int .u64 t197, .int .u64 t198]) ?_ 5 _ rfl; (with_reducible repeat (first|apply bN|apply bD|apply bA)); refine blk_put (cs := #[.int .u64 t186, .int .u64 t187, .int .u64 a1_0, .int .u64 t189, .int .u64 t190, .int .u64 t191, .int .u64 t192, .int .u64 a1_1, .int .u64 a1_2, .int .u64 t195, .int .u64 a1_3, .int .u64 t197, .int .u64 t198]) ?_ 4 _ rfl; (with_reducible repeat (first|apply bN|apply bD|apply bA)); refine blk_put (cs := #[.int .u64 t186, .int .u64 t187, .int .u64 a1_0, .int .u64 t189, .int .u64 t190, .int .u64 t191, .int .u64 t192, .int .u64 a1_1, .int .u64 a1_2, .int .u64 t195, .int .u64 t196, .int .u64 t197, .int .u64 t198]) ?_ 10 _ rfl; (with_reducible repeat (first|apply bN|apply bD|apply bA)); refine blk_put (cs := #[.int .u64 t186, .int .u64 t187, .int .u64 a1_0, .int .u64 t189, .int .u64 t190, .int .u64 t191, .int .u64 t192, .int .u64 a1_1, .int .u64 t194, .int .u64 t195, .int .u64 t196, .int .u64 t197, .int .u64 t198]) ?_ 8 _ rfl; (with_reducible repeat (first|apply bN|apply bD|apply bA)); refine blk_put (cs := #[.int .u64 t186, .int .u64 t187, .int .u64 a1_0, .int .u64 t189, .int .u64 t190, .int .u64 t191, .int .u64 t192, .int .u64 t193, .int .u64 t194, .int .u64 t195, .int .u64 t196, .int .u64 t197, .int .u64 t198]) ?_ 7 _ rfl; (with_reducible repeat (first|apply bN|apply bD|apply bA)); refine blk_put (cs := #[.int .u64 t186, .int .u64 t187, .int .u64 t188, .int .u64 t189, .int .u64 t190, .int .u64 t191, .int .u64 t192, .int .u64 t193, .int .u64 t194, .int .u64 t195, .int .u64 t196, .int .u64 t197, .int .u64 t198]) ?_ 2 _ rfl; (with_reducible repeat (first|apply bN|apply bD|apply bA)); exact BK199.out⟩, ⟨by (with_reducible repeat (first|apply bN|apply bD|apply bA)); refine blk_far ?_ NB202_199.out _; (with_reducible repeat (first|apply bN|apply bD|apply bA)); refine blk_far ?_ NB202_199.out _; (with_reducible repeat (first|apply bN|apply bD|apply bA)); refine blk_far ?_ NB202_199.out _; (with_reducible repeat (first|apply bN|apply bD|apply bA)); refine blk_far ?_ NB202_199.out _; (with_reducible repeat (first|apply bN|apply bD|apply bA)); refine blk_far ?_ NB202_199.out _; (with_reducible repeat (first|apply bN|apply bD|apply bA)); refine blk_far ?_ NB202_199.out _; (with_reducible repeat (first|apply bN|apply bD|apply bA)); exact BK202.out⟩, ⟨by repeat (first|(with_reducible first|exact HB.out|apply eA|apply eN|apply eD|refine below_set ?_ GE180.out|refine below_set ?_ GE181.out|refine below_set ?_ GE185.out|refine below_set ?_ GE199.out|refine below_set ?_ GE202.out)|exact HB.out)⟩⟩
        ·
         rw [if_neg c91] at H
         have c91b0 : (a1_2 == t194) = false := beq_eq_false_iff_ne.mpr c91
         have c91b1 : (a1_2 != t194) = true := bne_iff_ne.mpr c91
         have H' := aS H
         clear H
         have hnb117 := NB180_181.out
         have hnc117 := NB181_180.out
         have hnb118 := NB180_185.out
         have hnc118 := NB185_180.out
         have hnb119 := NB180_199.out
         have hnc119 := NB199_180.out
         have hnb120 := NB180_202.out
         have hnc120 := NB202_180.out
         have hcz121_0 : w57.cell? ⟨gb180, 0, none⟩ = some (.int .u64 a1_0) := (blk_cell BK180.out 0).trans rfl
         have hcz121_1 : w57.cell? ⟨gb180, 1, none⟩ = some (.int .u64 a1_1) := (blk_cell BK180.out 1).trans rfl
         have hcz121_2 : w57.cell? ⟨gb180, 2, none⟩ = some (.int .u64 a1_2) := (blk_cell BK180.out 2).trans rfl
         have hcz121_3 : w57.cell? ⟨gb180, 3, none⟩ = some (.int .u64 a1_3) := (blk_cell BK180.out 3).trans rfl
         have hfz121_0 := blk_frozen BK180.out 0
         have hfz121_1 := blk_frozen BK180.out 1
         have hfz121_2 := blk_frozen BK180.out 2
         have hfz121_3 := blk_frozen BK180.out 3
         have hnb122 := NB202_181.out
         have hnc122 := NB181_202.out
         have hnb123 := NB202_185.out
         have hnc123 := NB185_202.out
         have hnb124 := NB202_199.out
         have hnc124 := NB199_202.out
         have hcz125_0 : w57.cell? ⟨gb202, 0, none⟩ = some (.int .u64 t186) := (blk_cell BK202.out 0).trans rfl
         have hcz125_1 : w57.cell? ⟨gb202, 1, none⟩ = some (.int .u64 t187) := (blk_cell BK202.out 1).trans rfl
         have hcz125_2 : w57.cell? ⟨gb202, 2, none⟩ = some (.int .u64 t188) := (blk_cell BK202.out 2).trans rfl
         have hcz125_3 : w57.cell? ⟨gb202, 3, none⟩ = some (.int .u64 t189) := (blk_cell BK202.out 3).trans rfl
         have hcz125_4 : w57.cell? ⟨gb202, 4, none⟩ = some (.int .u64 t190) := (blk_cell BK202.out 4).trans rfl
         have hcz125_5 : w57.cell? ⟨gb202, 5, none⟩ = some (.int .u64 t191) := (blk_cell BK202.out 5).trans rfl
         have hcz125_6 : w57.cell? ⟨gb202, 6, none⟩ = some (.int .u64 t192) := (blk_cell BK202.out 6).trans rfl
         have hcz125_7 : w57.cell? ⟨gb202, 7, none⟩ = some (.int .u64 t193) := (blk_cell BK202.out 7).trans rfl
         have hcz125_8 : w57.cell? ⟨gb202, 8, none⟩ = some (.int .u64 t194) := (blk_cell BK202.out 8).trans rfl
         have hcz125_9 : w57.cell? ⟨gb202, 9, none⟩ = some (.int .u64 t195) := (blk_cell BK202.out 9).trans rfl
         have hcz125_10 : w57.cell? ⟨gb202, 10, none⟩ = some (.int .u64 t196) := (blk_cell BK202.out 10).trans rfl
         have hcz125_11 : w57.cell? ⟨gb202, 11, none⟩ = some (.int .u64 t197) := (blk_cell BK202.out 11).trans rfl
         have hcz125_12 : w57.cell? ⟨gb202, 12, none⟩ = some (.int .u64 t198) := (blk_cell BK202.out 12).trans rfl
         have hfz125_0 := blk_frozen BK202.out 0
         have hfz125_1 := blk_frozen BK202.out 1
         have hfz125_2 := blk_frozen BK202.out 2
         have hfz125_3 := blk_frozen BK202.out 3
         have hfz125_4 := blk_frozen BK202.out 4
         have hfz125_5 := blk_frozen BK202.out 5
         have hfz125_6 := blk_frozen BK202.out 6
         have hfz125_7 := blk_frozen BK202.out 7
         have hfz125_8 := blk_frozen BK202.out 8
         have hfz125_9 := blk_frozen BK202.out 9
         have hfz125_10 := blk_frozen BK202.out 10
         have hfz125_11 := blk_frozen BK202.out 11
         have hfz125_12 := blk_frozen BK202.out 12
         have hnb126 := NB181_185.out
         have hnc126 := NB185_181.out
         have hnb127 := NB181_199.out
         have hnc127 := NB199_181.out
         have hcz128_0 : w57.cell? ⟨gb181, 0, none⟩ = some (.int .u64 a2_0) := (blk_cell BK181.out 0).trans rfl
         have hcz128_1 : w57.cell? ⟨gb181, 1, none⟩ = some (.int .u64 a2_1) := (blk_cell BK181.out 1).trans rfl
         have hfz128_0 := blk_frozen BK181.out 0
         have hfz128_1 := blk_frozen BK181.out 1
         go_wp2
         go_meet
         case rel => exact ⟨_, (true), (by first|rfl|(simp; done)|(simp [*]; done)), H', ⟨by have := HJ7.out; first|omega|exact Nat.le_refl _⟩, ⟨by (with_reducible repeat (first|apply bN|apply bD|apply bA)); refine blk_far ?_ NB180_199.out _; (with_reducible repeat (first|apply bN|apply bD|apply bA)); refine blk_far ?_ NB180_199.out _; (with_reducible repeat (first|apply bN|apply bD|apply bA)); refine blk_far ?_ NB180_199.out _; (with_reducible repeat (first|apply bN|apply bD|apply bA)); refine blk_far ?_ NB180_199.out _; (with_reducible repeat (first|apply bN|apply bD|apply bA)); refine blk_far ?_ NB180_199.out _; (with_reducible repeat (first|apply bN|apply bD|apply bA)); refine blk_far ?_ NB180_199.out _; (with_reducible repeat (first|apply bN|apply bD|apply bA)); exact BK180.out⟩, ⟨by (with_reducible repeat (first|apply bN|apply bD|apply bA)); refine blk_far ?_ NB181_199.out _; (with_reducible repeat (first|apply bN|apply bD|apply bA)); refine blk_far ?_ NB181_199.out _; (with_reducible repeat (first|apply bN|apply bD|apply bA)); refine blk_far ?_ NB181_199.out _; (with_reducible repeat (first|apply bN|apply bD|apply bA)); refine blk_far ?_ NB181_199.out _; (with_reducible repeat (first|apply bN|apply bD|apply bA)); refine blk_far ?_ NB181_199.out _; (with_reducible repeat (first|apply bN|apply bD|apply bA)); refine blk_far ?_ NB181_199.out _; (with_reducible repeat (first|apply bN|apply bD|apply bA)); exact BK181.out⟩, ⟨by (with_reducible repeat (first|apply bN|apply bD|apply bA)); refine blk_far ?_ NB185_199.out _; (with_reducible repeat (first|apply bN|apply bD|apply bA)); refine blk_far ?_ NB185_199.out _; (with_reducible repeat (first|apply bN|apply bD|apply bA)); refine blk_far ?_ NB185_199.out _; (with_reducible repeat (first|apply bN|apply bD|apply bA)); refine blk_far ?_ NB185_199.out _; (with_reducible repeat (first|apply bN|apply bD|apply bA)); refine blk_far ?_ NB185_199.out _; (with_reducible repeat (first|apply bN|apply bD|apply bA)); refine blk_far ?_ NB185_199.out _; (with_reducible repeat (first|apply bN|apply bD|apply bA)); exact BK185.out⟩, ⟨by (with_reducible repeat (first|apply bN|apply bD|apply bA)); refine blk_put (cs := #[.int .u64 t186, .int .u64 t187, .int .u64 a1_0, .int .u64 t189, .int .u64 a2_0, .int .u64 t191, .int .u64 t192, .int .u64 a1_1, .int .u64 a1_2, .int .u64 t195, .int .u64 a1_3, .int .u64 t197, .int .u64 t198]) ?_ 5 _ rfl; (with_reducible repeat (first|apply bN|apply bD|apply bA)); refine blk_put (cs := #[.int .u64 t186, .int .u64 t187, .int .u64 a1_0, .int .u64 t189, .int .u64 t190, .int .u64 t191, .int .u64 t192, .int .u64 a1_1, .int .u64 a1_2, .int .u64 t195, .int .u64 a1_3, .int .u64 t197, .int .u64 t198]) ?_ 4 _ rfl; (with_reducible repeat (first|apply bN|apply bD|apply bA)); refine blk_put (cs := #[.int .u64 t186, .int .u64 t187, .int .u64 a1_0, .int .u64 t189, .int .u64 t190, .int .u64 t191, .int .u64 t192, .int .u64 a1_1, .int .u64 a1_2, .int .u64 t195, .int .u64 t196, .int .u64 t197, .int .u64 t198]) ?_ 10 _ rfl; (with_reducible repeat (first|apply bN|apply bD|apply bA)); refine blk_put (cs := #[.int .u64 t186, .int .u64 t187, .int .u64 a1_0, .int .u64 t189, .int .u64 t190, .int .u64 t191, .int .u64 t192, .int .u64 a1_1, .int .u64 t194, .int .u64 t195, .int .u64 t196, .int .u64 t197, .int .u64 t198]) ?_ 8 _ rfl; (with_reducible repeat (first|apply bN|apply bD|apply bA)); refine blk_put (cs := #[.int .u64 t186, .int .u64 t187, .int .u64 a1_0, .int .u64 t189, .int .u64 t190, .int .u64 t191, .int .u64 t192, .int .u64 t193, .int .u64 t194, .int .u64 t195, .int .u64 t196, .int .u64 t197, .int .u64 t198]) ?_ 7 _ rfl; (with_reducible repeat (first|apply bN|apply bD|apply bA)); refine blk_put (cs := #[.int .u64 t186, .int .u64 t187, .int .u64 t188, .int .u64 t189, .int .u64 t190, .int .u64 t191, .int .u64 t192, .int .u64 t193, .int .u64 t194, .int .u64 t195, .int .u64 t196, .int .u64 t197, .int .u64 t198]) ?_ 2 _ rfl; (with_reducible repeat (first|apply bN|apply bD|apply bA)); exact BK199.out⟩, ⟨by (with_reducible repeat (first|apply bN|apply bD|apply bA)); refine blk_far ?_ NB202_199.out _; (with_reducible repeat (first|apply bN|apply bD|apply bA)); refine blk_far ?_ NB202_199.out _; (with_reducible repeat (first|apply bN|apply bD|apply bA)); refine blk_far ?_ NB202_199.out _; (with_reducible repeat (first|apply bN|apply bD|apply bA)); refine blk_far ?_ NB202_199.out _; (with_reducible repeat (first|apply bN|apply bD|apply bA)); refine blk_far ?_ NB202_199.out _; (with_reducible repeat (first|apply bN|apply bD|apply bA)); refine blk_far ?_ NB202_199.out _; (with_reducible repeat (first|apply bN|apply bD|apply bA)); exact BK202.out⟩, ⟨by repeat (first|(with_reducible first|exact HB.out|apply eA|apply eN|apply eD|refine below_set ?_ GE180.out|refine below_set ?_ GE181.out|refine below_set ?_ GE185.out|refine below_set ?_ GE199.out|refine below_set ?_ GE202.out)|exact HB.out)⟩⟩
      ·
       rw [if_neg c64] at H
       have c64b0 : (a1_1 == t193) = false := beq_eq_false_iff_ne.mpr c64
       have c64b1 : (a1_1 != t193) = true := bne_iff_ne.mpr c64
       (first | rw [c64b0] | (simp only [i64_w, i32_w]; rw [c64b0]) | skip)
       have H' := aS H
       clear H
       have hnb129 := NB180_181.out
       have hnc129 := NB181_180.out
       have hnb130 := NB180_185.out
       have hnc130 := NB185_180.out
       have hnb131 := NB180_199.out
       have hnc131 := NB199_180.out
       have hnb132 := NB180_202.out
       have hnc132 := NB202_180.out
       have hcz133_0 : w57.cell? ⟨gb180, 0, none⟩ = some (.int .u64 a1_0) := (blk_cell BK180.out 0).trans rfl
       have hcz133_1 : w57.cell? ⟨gb180, 1, none⟩ = some (.int .u64 a1_1) := (blk_cell BK180.out 1).trans rfl
       have hcz133_2 : w57.cell? ⟨gb180, 2, none⟩ = some (.int .u64 a1_2) := (blk_cell BK180.out 2).trans rfl
       have hcz133_3 : w57.cell? ⟨gb180, 3, none⟩ = some (.int .u64 a1_3) := (blk_cell BK180.out 3).trans rfl
       have hfz133_0 := blk_frozen BK180.out 0
       have hfz133_1 := blk_frozen BK180.out 1
       have hfz133_2 := blk_frozen BK180.out 2
       have hfz133_3 := blk_frozen BK180.out 3
       have hnb134 := NB202_181.out
       have hnc134 := NB181_202.out
       have hnb135 := NB202_185.out
       have hnc135 := NB185_202.out
       have hnb136 := NB202_199.out
       have hnc136 := NB199_202.out
       have hcz137_0 : w57.cell? ⟨gb202, 0, none⟩ = some (.int .u64 t186) := (blk_cell BK202.out 0).trans rfl
       have hcz137_1 : w57.cell? ⟨gb202, 1, none⟩ = some (.int .u64 t187) := (blk_cell BK202.out 1).trans rfl
       have hcz137_2 : w57.cell? ⟨gb202, 2, none⟩ = some (.int .u64 t188) := (blk_cell BK202.out 2).trans rfl
       have hcz137_3 : w57.cell? ⟨gb202, 3, none⟩ = some (.int .u64 t189) := (blk_cell BK202.out 3).trans rfl
       have hcz137_4 : w57.cell? ⟨gb202, 4, none⟩ = some (.int .u64 t190) := (blk_cell BK202.out 4).trans rfl
       have hcz137_5 : w57.cell? ⟨gb202, 5, none⟩ = some (.int .u64 t191) := (blk_cell BK202.out 5).trans rfl
       have hcz137_6 : w57.cell? ⟨gb202, 6, none⟩ = some (.int .u64 t192) := (blk_cell BK202.out 6).trans rfl
       have hcz137_7 : w57.cell? ⟨gb202, 7, none⟩ = some (.int .u64 t193) := (blk_cell BK202.out 7).trans rfl
       have hcz137_8 : w57.cell? ⟨gb202, 8, none⟩ = some (.int .u64 t194) := (blk_cell BK202.out 8).trans rfl
       have hcz137_9 : w57.cell? ⟨gb202, 9, none⟩ = some (.int .u64 t195) := (blk_cell BK202.out 9).trans rfl
       have hcz137_10 : w57.cell? ⟨gb202, 10, none⟩ = some (.int .u64 t196) := (blk_cell BK202.out 10).trans rfl
       have hcz137_11 : w57.cell? ⟨gb202, 11, none⟩ = some (.int .u64 t197) := (blk_cell BK202.out 11).trans rfl
       have hcz137_12 : w57.cell? ⟨gb202, 12, none⟩ = some (.int .u64 t198) := (blk_cell BK202.out 12).trans rfl
       have hfz137_0 := blk_frozen BK202.out 0
       have hfz137_1 := blk_frozen BK202.out 1
       have hfz137_2 := blk_frozen BK202.out 2
       have hfz137_3 := blk_frozen BK202.out 3
       have hfz137_4 := blk_frozen BK202.out 4
       have hfz137_5 := blk_frozen BK202.out 5
       have hfz137_6 := blk_frozen BK202.out 6
       have hfz137_7 := blk_frozen BK202.out 7
       have hfz137_8 := blk_frozen BK202.out 8
       have hfz137_9 := blk_frozen BK202.out 9
       have hfz137_10 := blk_frozen BK202.out 10
       have hfz137_11 := blk_frozen BK202.out 11
       have hfz137_12 := blk_frozen BK202.out 12
       go_wp2
       go_meet
       case rel => exact ⟨_, (true), (by first|rfl|(simp; done)|(simp [*]; done)), H', ⟨by have := HJ7.out; first|omega|exact Nat.le_refl _⟩, ⟨by (with_reducible repeat (first|apply bN|apply bD|apply bA)); refine blk_far ?_ NB180_199.out _; (with_reducible repeat (first|apply bN|apply bD|apply bA)); refine blk_far ?_ NB180_199.out _; (with_reducible repeat (first|apply bN|apply bD|apply bA)); refine blk_far ?_ NB180_199.out _; (with_reducible repeat (first|apply bN|apply bD|apply bA)); refine blk_far ?_ NB180_199.out _; (with_reducible repeat (first|apply bN|apply bD|apply bA)); refine blk_far ?_ NB180_199.out _; (with_reducible repeat (first|apply bN|apply bD|apply bA)); refine blk_far ?_ NB180_199.out _; (with_reducible repeat (first|apply bN|apply bD|apply bA)); exact BK180.out⟩, ⟨by (with_reducible repeat (first|apply bN|apply bD|apply bA)); refine blk_far ?_ NB181_199.out _; (with_reducible repeat (first|apply bN|apply bD|apply bA)); refine blk_far ?_ NB181_199.out _; (with_reducible repeat (first|apply bN|apply bD|apply bA)); refine blk_far ?_ NB181_199.out _; (with_reducible repeat (first|apply bN|apply bD|apply bA)); refine blk_far ?_ NB181_199.out _; (with_reducible repeat (first|apply bN|apply bD|apply bA)); refine blk_far ?_ NB181_199.out _; (with_reducible repeat (first|apply bN|apply bD|apply bA)); refine blk_far ?_ NB181_199.out _; (with_reducible repeat (first|apply bN|apply bD|apply bA)); exact BK181.out⟩, ⟨by (with_reducible repeat (first|apply bN|apply bD|apply bA)); refine blk_far ?_ NB185_199.out _; (with_reducible repeat (first|apply bN|apply bD|apply bA)); refine blk_far ?_ NB185_199.out _; (with_reducible repeat (first|apply bN|apply bD|apply bA)); refine blk_far ?_ NB185_199.out _; (with_reducible repeat (first|apply bN|apply bD|apply bA)); refine blk_far ?_ NB185_199.out _; (with_reducible repeat (first|apply bN|apply bD|apply bA)); refine blk_far ?_ NB185_199.out _; (with_reducible repeat (first|apply bN|apply bD|apply bA)); refine blk_far ?_ NB185_199.out _; (with_reducible repeat (first|apply bN|apply bD|apply bA)); exact BK185.out⟩, ⟨by (with_reducible repeat (first|apply bN|apply bD|apply bA)); refine blk_put (cs := #[.int .u64 t186, .int .u64 t187, .int .u64 a1_0, .int .u64 t189, .int .u64 a2_0, .int .u64 t191, .int .u64 t192, .int .u64 a1_1, .int .u64 a1_2, .int .u64 t195, .int .u64 a1_3, .int .u64 t197, .int .u64 t198]) ?_ 5 _ rfl; (with_reducible repeat (first|apply bN|apply bD|apply bA)); refine blk_put (cs := #[.int .u64 t186, .int .u64 t187, .int .u64 a1_0, .int .u64 t189, .int .u64 t190, .int .u64 t191, .int .u64 t192, .int .u64 a1_1, .int .u64 a1_2, .int .u64 t195, .int .u64 a1_3, .int .u64 t197, .int .u64 t198]) ?_ 4 _ rfl; (with_reducible repeat (first|apply bN|apply bD|apply bA)); refine blk_put (cs := #[.int .u64 t186, .int .u64 t187, .int .u64 a1_0, .int .u64 t189, .int .u64 t190, .int .u64 t191, .int .u64 t192, .int .u64 a1_1, .int .u64 a1_2, .int .u64 t195, .int .u64 t196, .int .u64 t197, .int .u64 t198]) ?_ 10 _ rfl; (with_reducible repeat (first|apply bN|apply bD|apply bA)); refine blk_put (cs := #[.int .u64 t186, .int .u64 t187, .int .u64 a1_0, .int .u64 t189, .int .u64 t190, .int .u64 t191, .int .u64 t192, .int .u64 a1_1, .int .u64 t194, .int .u64 t195, .int .u64 t196, .int .u64 t197, .int .u64 t198]) ?_ 8 _ rfl; (with_reducible repeat (first|apply bN|apply bD|apply bA)); refine blk_put (cs := #[.int .u64 t186, .int .u64 t187, .int .u64 a1_0, .int .u64 t189, .int .u64 t190, .int .u64 t191, .int .u64 t192, .int .u64 t193, .int .u64 t194, .int .u64 t195, .int .u64 t196, .int .u64 t197, .int .u64 t198]) ?_ 7 _ rfl; (with_reducible repeat (first|apply bN|apply bD|apply bA)); refine blk_put (cs := #[.int .u64 t186, .int .u64 t187, .int .u64 t188, .int .u64 t189, .int .u64 t190, .int .u64 t191, .int .u64 t192, .int .u64 t193, .int .u64 t194, .int .u64 t195, .int .u64 t196, .int .u64 t197, .int .u64 t198]) ?_ 2 _ rfl; (with_reducible repeat (first|apply bN|apply bD|apply bA)); exact BK199.out⟩, ⟨by (with_reducible repeat (first|apply bN|apply bD|apply bA)); refine blk_far ?_ NB202_199.out _; (with_reducible repeat (first|apply bN|apply bD|apply bA)); refine blk_far ?_ NB202_199.out _; (with_reducible repeat (first|apply bN|apply bD|apply bA)); refine blk_far ?_ NB202_199.out _; (with_reducible repeat (first|apply bN|apply bD|apply bA)); refine blk_far ?_ NB202_199.out _; (with_reducible repeat (first|apply bN|apply bD|apply bA)); refine blk_far ?_ NB202_199.out _; (with_reducible repeat (first|apply bN|apply bD|apply bA)); refine blk_far ?_ NB202_199.out _; (with_reducible repeat (first|apply bN|apply bD|apply bA)); exact BK202.out⟩, ⟨by repeat (first|(with_reducible first|exact HB.out|apply eA|apply eN|apply eD|refine below_set ?_ GE180.out|refine below_set ?_ GE181.out|refine below_set ?_ GE185.out|refine below_set ?_ GE199.out|refine below_set ?_ GE202.out)|exact HB.out)⟩⟩
     case rest =>
      clear HC45
      try clear c1
      try clear p2
      try clear c6
      try clear c7
      try clear c8
      try clear c9
      try clear c10
      try clear c11
      try clear c12
      try clear c13
      try clear c64
      try clear c64b0
      try clear c64b1
      try clear c65
      try clear c65b0
      try clear c65b1
      try clear c66
      try clear c66b0
      try clear c66b1
      try clear c67
      try clear c68
      try clear c69
      try clear c70
      try clear c72
      try clear c73
      try clear c74
      try clear c76
      try clear c77
      try clear c79
      try clear c80
      try clear c81
      try clear c82
      try clear c84
      try clear c85
      try clear c86
      try clear c88
      try clear c89
      try clear c91
      try clear c91b0
      try clear c91b1
      try clear c92
      try clear c92b0
      try clear c92b1
      try clear c93
      try clear c94
      try clear c95
      try clear c96
      try clear c98
      try clear c99
      try clear c100
      try clear c102
      try clear c103
      try clear c105
      try clear c106
      try clear c107
      try clear c108
      try clear c110
      try clear c111
      try clear c112
      try clear c114
      try clear c115
      try clear c117
      try clear c118
      try clear c119
      try clear c120
      try clear c122
      try clear c123
      try clear c124
      try clear c126
      try clear c127
      try clear c129
      try clear c130
      try clear c131
      try clear c132
      try clear c134
      try clear c135
      try clear c136
      try clear hcz101_0
      try clear hcz101_1
      try clear hcz101_10
      try clear hcz101_11
      try clear hcz101_12
      try clear hcz101_2
      try clear hcz101_3
      try clear hcz101_4
      try clear hcz101_5
      try clear hcz101_6
      try clear hcz101_7
      try clear hcz101_8
      try clear hcz101_9
      try clear hcz104_0
      try clear hcz104_1
      try clear hcz109_0
      try clear hcz109_1
      try clear hcz109_2
      try clear hcz109_3
      try clear hcz113_0
      try clear hcz113_1
      try clear hcz113_10
      try clear hcz113_11
      try clear hcz113_12
      try clear hcz113_2
      try clear hcz113_3
      try clear hcz113_4
      try clear hcz113_5
      try clear hcz113_6
      try clear hcz113_7
      try clear hcz113_8
      try clear hcz113_9
      try clear hcz116_0
      try clear hcz116_1
      try clear hcz121_0
      try clear hcz121_1
      try clear hcz121_2
      try clear hcz121_3
      try clear hcz125_0
      try clear hcz125_1
      try clear hcz125_10
      try clear hcz125_11
      try clear hcz125_12
      try clear hcz125_2
      try clear hcz125_3
      try clear hcz125_4
      try clear hcz125_5
      try clear hcz125_6
      try clear hcz125_7
      try clear hcz125_8
      try clear hcz125_9
      try clear hcz128_0
      try clear hcz128_1
      try clear hcz133_0
      try clear hcz133_1
      try clear hcz133_2
      try clear hcz133_3
      try clear hcz137_0
      try clear hcz137_1
      try clear hcz137_10
      try clear hcz137_11
      try clear hcz137_12
      try clear hcz137_2
      try clear hcz137_3
      try clear hcz137_4
      try clear hcz137_5
      try clear hcz137_6
      try clear hcz137_7
      try clear hcz137_8
      try clear hcz137_9
      try clear hcz71_0
      try clear hcz71_1
      try clear hcz71_2
      try clear hcz71_3
      try clear hcz75_0
      try clear hcz75_1
      try clear hcz75_10
      try clear hcz75_11
      try clear hcz75_12
      try clear hcz75_2
      try clear hcz75_3
      try clear hcz75_4
      try clear hcz75_5
      try clear hcz75_6
      try clear hcz75_7
      try clear hcz75_8
      try clear hcz75_9
      try clear hcz78_0
      try clear hcz78_1
      try clear hcz83_0
      try clear hcz83_1
      try clear hcz83_2
      try clear hcz83_3
      try clear hcz87_0
      try clear hcz87_1
      try clear hcz87_10
      try clear hcz87_11
      try clear hcz87_12
      try clear hcz87_2
      try clear hcz87_3
      try clear hcz87_4
      try clear hcz87_5
      try clear hcz87_6
      try clear hcz87_7
      try clear hcz87_8
      try clear hcz87_9
      try clear hcz90_0
      try clear hcz90_1
      try clear hcz97_0
      try clear hcz97_1
      try clear hcz97_2
      try clear hcz97_3
      try clear hfz101_0
      try clear hfz101_1
      try clear hfz101_10
      try clear hfz101_11
      try clear hfz101_12
      try clear hfz101_2
      try clear hfz101_3
      try clear hfz101_4
      try clear hfz101_5
      try clear hfz101_6
      try clear hfz101_7
      try clear hfz101_8
      try clear hfz101_9
      try clear hfz104_0
      try clear hfz104_1
      try clear hfz109_0
      try clear hfz109_1
      try clear hfz109_2
      try clear hfz109_3
      try clear hfz113_0
      try clear hfz113_1
      try clear hfz113_10
      try clear hfz113_11
      try clear hfz113_12
      try clear hfz113_2
      try clear hfz113_3
      try clear hfz113_4
      try clear hfz113_5
      try clear hfz113_6
      try clear hfz113_7
      try clear hfz113_8
      try clear hfz113_9
      try clear hfz116_0
      try clear hfz116_1
      try clear hfz121_0
      try clear hfz121_1
      try clear hfz121_2
      try clear hfz121_3
      try clear hfz125_0
      try clear hfz125_1
      try clear hfz125_10
      try clear hfz125_11
      try clear hfz125_12
      try clear hfz125_2
      try clear hfz125_3
      try clear hfz125_4
      try clear hfz125_5
      try clear hfz125_6
      try clear hfz125_7
      try clear hfz125_8
      try clear hfz125_9
      try clear hfz128_0
      try clear hfz128_1
      try clear hfz133_0
      try clear hfz133_1
      try clear hfz133_2
      try clear hfz133_3
      try clear hfz137_0
      try clear hfz137_1
      try clear hfz137_10
      try clear hfz137_11
      try clear hfz137_12
      try clear hfz137_2
      try clear hfz137_3
      try clear hfz137_4
      try clear hfz137_5
      try clear hfz137_6
      try clear hfz137_7
      try clear hfz137_8
      try clear hfz137_9
      try clear hfz71_0
      try clear hfz71_1
      try clear hfz71_2
      try clear hfz71_3
      try clear hfz75_0
      try clear hfz75_1
      try clear hfz75_10
      try clear hfz75_11
      try clear hfz75_12
      try clear hfz75_2
      try clear hfz75_3
      try clear hfz75_4
      try clear hfz75_5
      try clear hfz75_6
      try clear hfz75_7
      try clear hfz75_8
      try clear hfz75_9
      try clear hfz78_0
      try clear hfz78_1
      try clear hfz83_0
      try clear hfz83_1
      try clear hfz83_2
      try clear hfz83_3
      try clear hfz87_0
      try clear hfz87_1
      try clear hfz87_10
      try clear hfz87_11
      try clear hfz87_12
      try clear hfz87_2
      try clear hfz87_3
      try clear hfz87_4
      try clear hfz87_5
      try clear hfz87_6
      try clear hfz87_7
      try clear hfz87_8
      try clear hfz87_9
      try clear hfz90_0
      try clear hfz90_1
      try clear hfz97_0
      try clear hfz97_1
      try clear hfz97_2
      try clear hfz97_3
      obtain ⟨kq, x99_44, rfl, HA, HJ44, BK180, BK181, BK185, BK199, BK202, HB⟩ := hcut
      cases kq with
      | zero => exact absurd HA.out (by simp [graverlaw05_EhdrChecks.j1])
      | succ kj44 =>
       have H := HA.out
       clear HA
       simp only [graverlaw05_EhdrChecks.j1] at H
       by_cases c138 : x99_44 = true
       ·
        subst c138
        have H1 : (if a1_0 = 1 then ((ehdr_Head_Check.f kj44 t186 t187 a1_0 t189 a2_0 a2_1 t192 a1_1 a1_2 t195 a1_3 t197 t198 t183 t184).bind fun t203 => (some (t203 == 8))) else ((ehdr_Head_Check.f kj44 t186 t187 a1_0 t189 a2_0 a2_1 t192 a1_1 a1_2 t195 a1_3 t197 t198 t183 t184).bind fun t204 => (some (t204 == 7)))) = some r := by rw [if_pos rfl] at H; exact H
        clear H
        have H := H1
        clear H1
        by_cases c139 : a1_0 = 1
        ·
         rw [if_pos c139] at H
         have c139b0 : (a1_0 == 1) = true := beq_iff_eq.mpr c139
         have c139b1 : (a1_0 != 1) = false := bne_eq_false_iff_eq.mpr c139
         clear c139
         replace H := Option.bind_eq_some_iff.mp H
         obtain ⟨t203, A1400, H⟩ := H
         replace H : (some (t203 == 8)) = some r := H
         have A140 := aS A1400
         clear A1400
         obtain rfl := Option.some.inj H
         have hnb141 := NB180_181.out
         have hnc141 := NB181_180.out
         have hnb142 := NB180_185.out
         have hnc142 := NB185_180.out
         have hnb143 := NB180_199.out
         have hnc143 := NB199_180.out
         have hnb144 := NB180_202.out
         have hnc144 := NB202_180.out
         have hcz145_0 : wc.cell? ⟨gb180, 0, none⟩ = some (.int .u64 a1_0) := (blk_cell BK180.out 0).trans rfl
         have hcz145_1 : wc.cell? ⟨gb180, 1, none⟩ = some (.int .u64 a1_1) := (blk_cell BK180.out 1).trans rfl
         have hcz145_2 : wc.cell? ⟨gb180, 2, none⟩ = some (.int .u64 a1_2) := (blk_cell BK180.out 2).trans rfl
         have hcz145_3 : wc.cell? ⟨gb180, 3, none⟩ = some (.int .u64 a1_3) := (blk_cell BK180.out 3).trans rfl
         have hfz145_0 := blk_frozen BK180.out 0
         have hfz145_1 := blk_frozen BK180.out 1
         have hfz145_2 := blk_frozen BK180.out 2
         have hfz145_3 := blk_frozen BK180.out 3
         have hnb146 := NB199_181.out
         have hnc146 := NB181_199.out
         have hnb147 := NB199_185.out
         have hnc147 := NB185_199.out
         have hnb148 := NB199_202.out
         have hnc148 := NB202_199.out
         have hcz149_0 : wc.cell? ⟨gb199, 0, none⟩ = some (.int .u64 t186) := (blk_cell BK199.out 0).trans rfl
         have hcz149_1 : wc.cell? ⟨gb199, 1, none⟩ = some (.int .u64 t187) := (blk_cell BK199.out 1).trans rfl
         have hcz149_2 : wc.cell? ⟨gb199, 2, none⟩ = some (.int .u64 a1_0) := (blk_cell BK199.out 2).trans rfl
         have hcz149_3 : wc.cell? ⟨gb199, 3, none⟩ = some (.int .u64 t189) := (blk_cell BK199.out 3).trans rfl
         have hcz149_4 : wc.cell? ⟨gb199, 4, none⟩ = some (.int .u64 a2_0) := (blk_cell BK199.out 4).trans rfl
         have hcz149_5 : wc.cell? ⟨gb199, 5, none⟩ = some (.int .u64 a2_1) := (blk_cell BK199.out 5).trans rfl
         have hcz149_6 : wc.cell? ⟨gb199, 6, none⟩ = some (.int .u64 t192) := (blk_cell BK199.out 6).trans rfl
         have hcz149_7 : wc.cell? ⟨gb199, 7, none⟩ = some (.int .u64 a1_1) := (blk_cell BK199.out 7).trans rfl
         have hcz149_8 : wc.cell? ⟨gb199, 8, none⟩ = some (.int .u64 a1_2) := (blk_cell BK199.out 8).trans rfl
         have hcz149_9 : wc.cell? ⟨gb199, 9, none⟩ = some (.int .u64 t195) := (blk_cell BK199.out 9).trans rfl
         have hcz149_10 : wc.cell? ⟨gb199, 10, none⟩ = some (.int .u64 a1_3) := (blk_cell BK199.out 10).trans rfl
         have hcz149_11 : wc.cell? ⟨gb199, 11, none⟩ = some (.int .u64 t197) := (blk_cell BK199.out 11).trans rfl
         have hcz149_12 : wc.cell? ⟨gb199, 12, none⟩ = some (.int .u64 t198) := (blk_cell BK199.out 12).trans rfl
         have hfz149_0 := blk_frozen BK199.out 0
         have hfz149_1 := blk_frozen BK199.out 1
         have hfz149_2 := blk_frozen BK199.out 2
         have hfz149_3 := blk_frozen BK199.out 3
         have hfz149_4 := blk_frozen BK199.out 4
         have hfz149_5 := blk_frozen BK199.out 5
         have hfz149_6 := blk_frozen BK199.out 6
         have hfz149_7 := blk_frozen BK199.out 7
         have hfz149_8 := blk_frozen BK199.out 8
         have hfz149_9 := blk_frozen BK199.out 9
         have hfz149_10 := blk_frozen BK199.out 10
         have hfz149_11 := blk_frozen BK199.out 11
         have hfz149_12 := blk_frozen BK199.out 12
         have hnb150 := NB185_181.out
         have hnc150 := NB181_185.out
         have hnb151 := NB185_202.out
         have hnc151 := NB202_185.out
         have hcz152_0 : wc.cell? ⟨gb185, 0, none⟩ = some (.bool t183) := (blk_cell BK185.out 0).trans rfl
         have hcz152_1 : wc.cell? ⟨gb185, 1, none⟩ = some (.bool t184) := (blk_cell BK185.out 1).trans rfl
         have hfz152_0 := blk_frozen BK185.out 0
         have hfz152_1 := blk_frozen BK185.out 1
         go_wp2_with (first|((with_reducible refine gate_callee (f := 25) rfl ?_); refine goesL_ (some 105) rfl rfl Tryd.func25 (by kernel_rfl) rfl #[.agg #[.int .u64 t186, .int .u64 t187, .int .u64 a1_0, .int .u64 t189, .int .u64 a2_0, .int .u64 a2_1, .int .u64 t192, .int .u64 a1_1, .int .u64 a1_2, .int .u64 t195, .int .u64 a1_3, .int .u64 t197, .int .u64 t198], .agg #[.bool t183, .bool t184]] rfl (by (try simp only [List.map_toArray, List.map_cons, List.map_nil]); first|done|rfl|(simp only [List.length_drop, List.length_take]; rfl)) ?_; (with_reducible refine (ehdr_Head_Check.calls kj44 t186 t187 a1_0 t189 a2_0 a2_1 t192 a1_1 a1_2 t195 a1_3 t197 t198 t183 t184 t203 _ ?side1 A140.out).mono ?_); (case side1 => exact Laid_ehdr.below HLD_ehdr.out (by repeat (first|(with_reducible first|exact HB.out|apply eA|apply eN|apply eD|refine below_set ?_ GE180.out|refine below_set ?_ GE181.out|refine below_set ?_ GE185.out|refine below_set ?_ GE199.out|refine below_set ?_ GE202.out)|exact HB.out))); rintro e w153 ⟨rfl, hb⟩; refine ⟨_, rfl, ?_⟩; have n0_ := aS (blk_below (g := gb180) (o := .cells #[.int .u64 a1_0, .int .u64 a1_1, .int .u64 a1_2, .int .u64 a1_3] 51 (0, 0)) (by (with_reducible repeat (first|apply bN|apply bD|apply bA)); exact BK180.out) hb); have n1_ := aS (blk_below (g := gb181) (o := .cells #[.int .u64 a2_0, .int .u64 a2_1] 52 (0, 0)) (by (with_reducible repeat (first|apply bN|apply bD|apply bA)); exact BK181.out) hb); have n2_ := aS (blk_below (g := gb185) (o := .cells #[.bool t183, .bool t184] 29 (0, 0)) (by (with_reducible repeat (first|apply bN|apply bD|apply bA)); exact BK185.out) hb); have n3_ := aS (blk_below (g := gb199) (o := .cells #[.int .u64 t186, .int .u64 t187, .int .u64 a1_0, .int .u64 t189, .int .u64 a2_0, .int .u64 a2_1, .int .u64 t192, .int .u64 a1_1, .int .u64 a1_2, .int .u64 t195, .int .u64 a1_3, .int .u64 t197, .int .u64 t198] 54 (0, 0)) (by (with_reducible repeat (first|apply bN|apply bD|apply bA)); exact BK199.out) hb); have n4_ := aS (blk_below (g := gb202) (o := .cells #[.int .u64 t186, .int .u64 t187, .int .u64 t188, .int .u64 t189, .int .u64 t190, .int .u64 t191, .int .u64 t192, .int .u64 t193, .int .u64 t194, .int .u64 t195, .int .u64 t196, .int .u64 t197, .int .u64 t198] 54 (0, 0)) (by (with_reducible repeat (first|apply bN|apply bD|apply bA)); exact BK202.out) hb); have n5_ := aS (below_step (by repeat (first|(with_reducible first|exact HB.out|apply eA|apply eN|apply eD|refine below_set ?_ GE180.out|refine below_set ?_ GE181.out|refine below_set ?_ GE185.out|refine below_set ?_ GE199.out|refine below_set ?_ GE202.out)|exact HB.out)) hb); clear BK180; clear BK181; clear BK185; clear BK199; clear BK202; clear HB; have BK180 := n0_; have BK181 := n1_; have BK185 := n2_; have BK199 := n3_; have BK202 := n4_; have HB := n5_; clear n0_ n1_ n2_ n3_ n4_ n5_; (try clear hb); (try clear hb2); (try clear hk); (try clear hi)))
         go_ret
         exact ⟨by first|rfl|(simp [errW_none, errW_some] <;> rfl)|(simp [*, errW_none, errW_some] <;> rfl), by repeat (first|(with_reducible first|exact HB.out|apply eA|apply eN|apply eD|refine below_set ?_ GE180.out|refine below_set ?_ GE181.out|refine below_set ?_ GE185.out|refine below_set ?_ GE199.out|refine below_set ?_ GE202.out)|exact HB.out)⟩
        ·
         rw [if_neg c139] at H
         have c139b0 : (a1_0 == 1) = false := beq_eq_false_iff_ne.mpr c139
         have c139b1 : (a1_0 != 1) = true := bne_iff_ne.mpr c139
         replace H := Option.bind_eq_some_iff.mp H
         obtain ⟨t204, A1540, H⟩ := H
         replace H : (some (t204 == 7)) = some r := H
         have A154 := aS A1540
         clear A1540
         obtain rfl := Option.some.inj H
         have hnb155 := NB180_181.out
         have hnc155 := NB181_180.out
         have hnb156 := NB180_185.out
         have hnc156 := NB185_180.out
         have hnb157 := NB180_199.out
         have hnc157 := NB199_180.out
         have hnb158 := NB180_202.out
         have hnc158 := NB202_180.out
         have hcz159_0 : wc.cell? ⟨gb180, 0, none⟩ = some (.int .u64 a1_0) := (blk_cell BK180.out 0).trans rfl
         have hcz159_1 : wc.cell? ⟨gb180, 1, none⟩ = some (.int .u64 a1_1) := (blk_cell BK180.out 1).trans rfl
         have hcz159_2 : wc.cell? ⟨gb180, 2, none⟩ = some (.int .u64 a1_2) := (blk_cell BK180.out 2).trans rfl
         have hcz159_3 : wc.cell? ⟨gb180, 3, none⟩ = some (.int .u64 a1_3) := (blk_cell BK180.out 3).trans rfl
         have hfz159_0 := blk_frozen BK180.out 0
         have hfz159_1 := blk_frozen BK180.out 1
         have hfz159_2 := blk_frozen BK180.out 2
         have hfz159_3 := blk_frozen BK180.out 3
         have hnb160 := NB199_181.out
         have hnc160 := NB181_199.out
         have hnb161 := NB199_185.out
         have hnc161 := NB185_199.out
         have hnb162 := NB199_202.out
         have hnc162 := NB202_199.out
         have hcz163_0 : wc.cell? ⟨gb199, 0, none⟩ = some (.int .u64 t186) := (blk_cell BK199.out 0).trans rfl
         have hcz163_1 : wc.cell? ⟨gb199, 1, none⟩ = some (.int .u64 t187) := (blk_cell BK199.out 1).trans rfl
         have hcz163_2 : wc.cell? ⟨gb199, 2, none⟩ = some (.int .u64 a1_0) := (blk_cell BK199.out 2).trans rfl
         have hcz163_3 : wc.cell? ⟨gb199, 3, none⟩ = some (.int .u64 t189) := (blk_cell BK199.out 3).trans rfl
         have hcz163_4 : wc.cell? ⟨gb199, 4, none⟩ = some (.int .u64 a2_0) := (blk_cell BK199.out 4).trans rfl
         have hcz163_5 : wc.cell? ⟨gb199, 5, none⟩ = some (.int .u64 a2_1) := (blk_cell BK199.out 5).trans rfl
         have hcz163_6 : wc.cell? ⟨gb199, 6, none⟩ = some (.int .u64 t192) := (blk_cell BK199.out 6).trans rfl
         have hcz163_7 : wc.cell? ⟨gb199, 7, none⟩ = some (.int .u64 a1_1) := (blk_cell BK199.out 7).trans rfl
         have hcz163_8 : wc.cell? ⟨gb199, 8, none⟩ = some (.int .u64 a1_2) := (blk_cell BK199.out 8).trans rfl
         have hcz163_9 : wc.cell? ⟨gb199, 9, none⟩ = some (.int .u64 t195) := (blk_cell BK199.out 9).trans rfl
         have hcz163_10 : wc.cell? ⟨gb199, 10, none⟩ = some (.int .u64 a1_3) := (blk_cell BK199.out 10).trans rfl
         have hcz163_11 : wc.cell? ⟨gb199, 11, none⟩ = some (.int .u64 t197) := (blk_cell BK199.out 11).trans rfl
         have hcz163_12 : wc.cell? ⟨gb199, 12, none⟩ = some (.int .u64 t198) := (blk_cell BK199.out 12).trans rfl
         have hfz163_0 := blk_frozen BK199.out 0
         have hfz163_1 := blk_frozen BK199.out 1
         have hfz163_2 := blk_frozen BK199.out 2
         have hfz163_3 := blk_frozen BK199.out 3
         have hfz163_4 := blk_frozen BK199.out 4
         have hfz163_5 := blk_frozen BK199.out 5
         have hfz163_6 := blk_frozen BK199.out 6
         have hfz163_7 := blk_frozen BK199.out 7
         have hfz163_8 := blk_frozen BK199.out 8
         have hfz163_9 := blk_frozen BK199.out 9
         have hfz163_10 := blk_frozen BK199.out 10
         have hfz163_11 := blk_frozen BK199.out 11
         have hfz163_12 := blk_frozen BK199.out 12
         have hnb164 := NB185_181.out
         have hnc164 := NB181_185.out
         have hnb165 := NB185_202.out
         have hnc165 := NB202_185.out
         have hcz166_0 : wc.cell? ⟨gb185, 0, none⟩ = some (.bool t183) := (blk_cell BK185.out 0).trans rfl
         have hcz166_1 : wc.cell? ⟨gb185, 1, none⟩ = some (.bool t184) := (blk_cell BK185.out 1).trans rfl
         have hfz166_0 := blk_frozen BK185.out 0
         have hfz166_1 := blk_frozen BK185.out 1
         go_wp2_with (first|((with_reducible refine gate_callee (f := 25) rfl ?_); refine goesL_ (some 105) rfl rfl Tryd.func25 (by kernel_rfl) rfl #[.agg #[.int .u64 t186, .int .u64 t187, .int .u64 a1_0, .int .u64 t189, .int .u64 a2_0, .int .u64 a2_1, .int .u64 t192, .int .u64 a1_1, .int .u64 a1_2, .int .u64 t195, .int .u64 a1_3, .int .u64 t197, .int .u64 t198], .agg #[.bool t183, .bool t184]] rfl (by (try simp only [List.map_toArray, List.map_cons, List.map_nil]); first|done|rfl|(simp only [List.length_drop, List.length_take]; rfl)) ?_; (with_reducible refine (ehdr_Head_Check.calls kj44 t186 t187 a1_0 t189 a2_0 a2_1 t192 a1_1 a1_2 t195 a1_3 t197 t198 t183 t184 t204 _ ?side1 A154.out).mono ?_); (case side1 => exact Laid_ehdr.below HLD_ehdr.out (by repeat (first|(with_reducible first|exact HB.out|apply eA|apply eN|apply eD|refine below_set ?_ GE180.out|refine below_set ?_ GE181.out|refine below_set ?_ GE185.out|refine below_set ?_ GE199.out|refine below_set ?_ GE202.out)|exact HB.out))); rintro e w167 ⟨rfl, hb⟩; refine ⟨_, rfl, ?_⟩; have n0_ := aS (blk_below (g := gb180) (o := .cells #[.int .u64 a1_0, .int .u64 a1_1, .int .u64 a1_2, .int .u64 a1_3] 51 (0, 0)) (by (with_reducible repeat (first|apply bN|apply bD|apply bA)); exact BK180.out) hb); have n1_ := aS (blk_below (g := gb181) (o := .cells #[.int .u64 a2_0, .int .u64 a2_1] 52 (0, 0)) (by (with_reducible repeat (first|apply bN|apply bD|apply bA)); exact BK181.out) hb); have n2_ := aS (blk_below (g := gb185) (o := .cells #[.bool t183, .bool t184] 29 (0, 0)) (by (with_reducible repeat (first|apply bN|apply bD|apply bA)); exact BK185.out) hb); have n3_ := aS (blk_below (g := gb199) (o := .cells #[.int .u64 t186, .int .u64 t187, .int .u64 a1_0, .int .u64 t189, .int .u64 a2_0, .int .u64 a2_1, .int .u64 t192, .int .u64 a1_1, .int .u64 a1_2, .int .u64 t195, .int .u64 a1_3, .int .u64 t197, .int .u64 t198] 54 (0, 0)) (by (with_reducible repeat (first|apply bN|apply bD|apply bA)); exact BK199.out) hb); have n4_ := aS (blk_below (g := gb202) (o := .cells #[.int .u64 t186, .int .u64 t187, .int .u64 t188, .int .u64 t189, .int .u64 t190, .int .u64 t191, .int .u64 t192, .int .u64 t193, .int .u64 t194, .int .u64 t195, .int .u64 t196, .int .u64 t197, .int .u64 t198] 54 (0, 0)) (by (with_reducible repeat (first|apply bN|apply bD|apply bA)); exact BK202.out) hb); have n5_ := aS (below_step (by repeat (first|(with_reducible first|exact HB.out|apply eA|apply eN|apply eD|refine below_set ?_ GE180.out|refine below_set ?_ GE181.out|refine below_set ?_ GE185.out|refine below_set ?_ GE199.out|refine below_set ?_ GE202.out)|exact HB.out)) hb); clear BK180; clear BK181; clear BK185; clear BK199; clear BK202; clear HB; have BK180 := n0_; have BK181 := n1_; have BK185 := n2_; have BK199 := n3_; have BK202 := n4_; have HB := n5_; clear n0_ n1_ n2_ n3_ n4_ n5_; (try clear hb); (try clear hb2); (try clear hk); (try clear hi)))
         go_ret
         exact ⟨by first|rfl|(simp [errW_none, errW_some] <;> rfl)|(simp [*, errW_none, errW_some] <;> rfl), by repeat (first|(with_reducible first|exact HB.out|apply eA|apply eN|apply eD|refine below_set ?_ GE180.out|refine below_set ?_ GE181.out|refine below_set ?_ GE185.out|refine below_set ?_ GE199.out|refine below_set ?_ GE202.out)|exact HB.out)⟩
       ·
        replace c138 := Bool.eq_false_iff.mpr c138
        subst c138
        have H1 : (if a1_0 = 1 then ((ehdr_Head_Check.f kj44 t186 t187 a1_0 t189 a2_0 a2_1 t192 a1_1 a1_2 t195 a1_3 t197 t198 t183 t184).bind fun t205 => (some (t205 == 0))) else ((ehdr_Head_Check.f kj44 t186 t187 a1_0 t189 a2_0 a2_1 t192 a1_1 a1_2 t195 a1_3 t197 t198 t183 t184).bind fun t206 => (some (t206 == 7)))) = some r := by rw [if_neg (show ¬ (false = true) by decide)] at H; exact H
        clear H
        have H := H1
        clear H1
        by_cases c168 : a1_0 = 1
        ·
         rw [if_pos c168] at H
         have c168b0 : (a1_0 == 1) = true := beq_iff_eq.mpr c168
         have c168b1 : (a1_0 != 1) = false := bne_eq_false_iff_eq.mpr c168
         clear c168
         replace H := Option.bind_eq_some_iff.mp H
         obtain ⟨t205, A1690, H⟩ := H
         replace H : (some (t205 == 0)) = some r := H
         have A169 := aS A1690
         clear A1690
         obtain rfl := Option.some.inj H
         have hnb170 := NB180_181.out
         have hnc170 := NB181_180.out
         have hnb171 := NB180_185.out
         have hnc171 := NB185_180.out
         have hnb172 := NB180_199.out
         have hnc172 := NB199_180.out
         have hnb173 := NB180_202.out
         have hnc173 := NB202_180.out
         have hcz174_0 : wc.cell? ⟨gb180, 0, none⟩ = some (.int .u64 a1_0) := (blk_cell BK180.out 0).trans rfl
         have hcz174_1 : wc.cell? ⟨gb180, 1, none⟩ = some (.int .u64 a1_1) := (blk_cell BK180.out 1).trans rfl
         have hcz174_2 : wc.cell? ⟨gb180, 2, none⟩ = some (.int .u64 a1_2) := (blk_cell BK180.out 2).trans rfl
         have hcz174_3 : wc.cell? ⟨gb180, 3, none⟩ = some (.int .u64 a1_3) := (blk_cell BK180.out 3).trans rfl
         have hfz174_0 := blk_frozen BK180.out 0
         have hfz174_1 := blk_frozen BK180.out 1
         have hfz174_2 := blk_frozen BK180.out 2
         have hfz174_3 := blk_frozen BK180.out 3
         have hnb175 := NB199_181.out
         have hnc175 := NB181_199.out
         have hnb176 := NB199_185.out
         have hnc176 := NB185_199.out
         have hnb177 := NB199_202.out
         have hnc177 := NB202_199.out
         have hcz178_0 : wc.cell? ⟨gb199, 0, none⟩ = some (.int .u64 t186) := (blk_cell BK199.out 0).trans rfl
         have hcz178_1 : wc.cell? ⟨gb199, 1, none⟩ = some (.int .u64 t187) := (blk_cell BK199.out 1).trans rfl
         have hcz178_2 : wc.cell? ⟨gb199, 2, none⟩ = some (.int .u64 a1_0) := (blk_cell BK199.out 2).trans rfl
         have hcz178_3 : wc.cell? ⟨gb199, 3, none⟩ = some (.int .u64 t189) := (blk_cell BK199.out 3).trans rfl
         have hcz178_4 : wc.cell? ⟨gb199, 4, none⟩ = some (.int .u64 a2_0) := (blk_cell BK199.out 4).trans rfl
         have hcz178_5 : wc.cell? ⟨gb199, 5, none⟩ = some (.int .u64 a2_1) := (blk_cell BK199.out 5).trans rfl
         have hcz178_6 : wc.cell? ⟨gb199, 6, none⟩ = some (.int .u64 t192) := (blk_cell BK199.out 6).trans rfl
         have hcz178_7 : wc.cell? ⟨gb199, 7, none⟩ = some (.int .u64 a1_1) := (blk_cell BK199.out 7).trans rfl
         have hcz178_8 : wc.cell? ⟨gb199, 8, none⟩ = some (.int .u64 a1_2) := (blk_cell BK199.out 8).trans rfl
         have hcz178_9 : wc.cell? ⟨gb199, 9, none⟩ = some (.int .u64 t195) := (blk_cell BK199.out 9).trans rfl
         have hcz178_10 : wc.cell? ⟨gb199, 10, none⟩ = some (.int .u64 a1_3) := (blk_cell BK199.out 10).trans rfl
         have hcz178_11 : wc.cell? ⟨gb199, 11, none⟩ = some (.int .u64 t197) := (blk_cell BK199.out 11).trans rfl
         have hcz178_12 : wc.cell? ⟨gb199, 12, none⟩ = some (.int .u64 t198) := (blk_cell BK199.out 12).trans rfl
         have hfz178_0 := blk_frozen BK199.out 0
         have hfz178_1 := blk_frozen BK199.out 1
         have hfz178_2 := blk_frozen BK199.out 2
         have hfz178_3 := blk_frozen BK199.out 3
         have hfz178_4 := blk_frozen BK199.out 4
         have hfz178_5 := blk_frozen BK199.out 5
         have hfz178_6 := blk_frozen BK199.out 6
         have hfz178_7 := blk_frozen BK199.out 7
         have hfz178_8 := blk_frozen BK199.out 8
         have hfz178_9 := blk_frozen BK199.out 9
         have hfz178_10 := blk_frozen BK199.out 10
         have hfz178_11 := blk_frozen BK199.out 11
         have hfz178_12 := blk_frozen BK199.out 12
         have hnb179 := NB185_181.out
         have hnc179 := NB181_185.out
         have hnb180 := NB185_202.out
         have hnc180 := NB202_185.out
         have hcz181_0 : wc.cell? ⟨gb185, 0, none⟩ = some (.bool t183) := (blk_cell BK185.out 0).trans rfl
         have hcz181_1 : wc.cell? ⟨gb185, 1, none⟩ = some (.bool t184) := (blk_cell BK185.out 1).trans rfl
         have hfz181_0 := blk_frozen BK185.out 0
         have hfz181_1 := blk_frozen BK185.out 1
         go_wp2_with (first|((with_reducible refine gate_callee (f := 25) rfl ?_); refine goesL_ (some 105) rfl rfl Tryd.func25 (by kernel_rfl) rfl #[.agg #[.int .u64 t186, .int .u64 t187, .int .u64 a1_0, .int .u64 t189, .int .u64 a2_0, .int .u64 a2_1, .int .u64 t192, .int .u64 a1_1, .int .u64 a1_2, .int .u64 t195, .int .u64 a1_3, .int .u64 t197, .int .u64 t198], .agg #[.bool t183, .bool t184]] rfl (by (try simp only [List.map_toArray, List.map_cons, List.map_nil]); first|done|rfl|(simp only [List.length_drop, List.length_take]; rfl)) ?_; (with_reducible refine (ehdr_Head_Check.calls kj44 t186 t187 a1_0 t189 a2_0 a2_1 t192 a1_1 a1_2 t195 a1_3 t197 t198 t183 t184 t205 _ ?side1 A169.out).mono ?_); (case side1 => exact Laid_ehdr.below HLD_ehdr.out (by repeat (first|(with_reducible first|exact HB.out|apply eA|apply eN|apply eD|refine below_set ?_ GE180.out|refine below_set ?_ GE181.out|refine below_set ?_ GE185.out|refine below_set ?_ GE199.out|refine below_set ?_ GE202.out)|exact HB.out))); rintro e w182 ⟨rfl, hb⟩; refine ⟨_, rfl, ?_⟩; have n0_ := aS (blk_below (g := gb180) (o := .cells #[.int .u64 a1_0, .int .u64 a1_1, .int .u64 a1_2, .int .u64 a1_3] 51 (0, 0)) (by (with_reducible repeat (first|apply bN|apply bD|apply bA)); exact BK180.out) hb); have n1_ := aS (blk_below (g := gb181) (o := .cells #[.int .u64 a2_0, .int .u64 a2_1] 52 (0, 0)) (by (with_reducible repeat (first|apply bN|apply bD|apply bA)); exact BK181.out) hb); have n2_ := aS (blk_below (g := gb185) (o := .cells #[.bool t183, .bool t184] 29 (0, 0)) (by (with_reducible repeat (first|apply bN|apply bD|apply bA)); exact BK185.out) hb); have n3_ := aS (blk_below (g := gb199) (o := .cells #[.int .u64 t186, .int .u64 t187, .int .u64 a1_0, .int .u64 t189, .int .u64 a2_0, .int .u64 a2_1, .int .u64 t192, .int .u64 a1_1, .int .u64 a1_2, .int .u64 t195, .int .u64 a1_3, .int .u64 t197, .int .u64 t198] 54 (0, 0)) (by (with_reducible repeat (first|apply bN|apply bD|apply bA)); exact BK199.out) hb); have n4_ := aS (blk_below (g := gb202) (o := .cells #[.int .u64 t186, .int .u64 t187, .int .u64 t188, .int .u64 t189, .int .u64 t190, .int .u64 t191, .int .u64 t192, .int .u64 t193, .int .u64 t194, .int .u64 t195, .int .u64 t196, .int .u64 t197, .int .u64 t198] 54 (0, 0)) (by (with_reducible repeat (first|apply bN|apply bD|apply bA)); exact BK202.out) hb); have n5_ := aS (below_step (by repeat (first|(with_reducible first|exact HB.out|apply eA|apply eN|apply eD|refine below_set ?_ GE180.out|refine below_set ?_ GE181.out|refine below_set ?_ GE185.out|refine below_set ?_ GE199.out|refine below_set ?_ GE202.out)|exact HB.out)) hb); clear BK180; clear BK181; clear BK185; clear BK199; clear BK202; clear HB; have BK180 := n0_; have BK181 := n1_; have BK185 := n2_; have BK199 := n3_; have BK202 := n4_; have HB := n5_; clear n0_ n1_ n2_ n3_ n4_ n5_; (try clear hb); (try clear hb2); (try clear hk); (try clear hi)))
         go_ret
         exact ⟨by first|rfl|(simp [errW_none, errW_some] <;> rfl)|(simp [*, errW_none, errW_some] <;> rfl), by repeat (first|(with_reducible first|exact HB.out|apply eA|apply eN|apply eD|refine below_set ?_ GE180.out|refine below_set ?_ GE181.out|refine below_set ?_ GE185.out|refine below_set ?_ GE199.out|refine below_set ?_ GE202.out)|exact HB.out)⟩
        ·
         rw [if_neg c168] at H
         have c168b0 : (a1_0 == 1) = false := beq_eq_false_iff_ne.mpr c168
         have c168b1 : (a1_0 != 1) = true := bne_iff_ne.mpr c168
         replace H := Option.bind_eq_some_iff.mp H
         obtain ⟨t206, A1830, H⟩ := H
         replace H : (some (t206 == 7)) = some r := H
         have A183 := aS A1830
         clear A1830
         obtain rfl := Option.some.inj H
         have hnb184 := NB180_181.out
         have hnc184 := NB181_180.out
         have hnb185 := NB180_185.out
         have hnc185 := NB185_180.out
         have hnb186 := NB180_199.out
         have hnc186 := NB199_180.out
         have hnb187 := NB180_202.out
         have hnc187 := NB202_180.out
         have hcz188_0 : wc.cell? ⟨gb180, 0, none⟩ = some (.int .u64 a1_0) := (blk_cell BK180.out 0).trans rfl
         have hcz188_1 : wc.cell? ⟨gb180, 1, none⟩ = some (.int .u64 a1_1) := (blk_cell BK180.out 1).trans rfl
         have hcz188_2 : wc.cell? ⟨gb180, 2, none⟩ = some (.int .u64 a1_2) := (blk_cell BK180.out 2).trans rfl
         have hcz188_3 : wc.cell? ⟨gb180, 3, none⟩ = some (.int .u64 a1_3) := (blk_cell BK180.out 3).trans rfl
         have hfz188_0 := blk_frozen BK180.out 0
         have hfz188_1 := blk_frozen BK180.out 1
         have hfz188_2 := blk_frozen BK180.out 2
         have hfz188_3 := blk_frozen BK180.out 3
         have hnb189 := NB199_181.out
         have hnc189 := NB181_199.out
         have hnb190 := NB199_185.out
         have hnc190 := NB185_199.out
         have hnb191 := NB199_202.out
         have hnc191 := NB202_199.out
         have hcz192_0 : wc.cell? ⟨gb199, 0, none⟩ = some (.int .u64 t186) := (blk_cell BK199.out 0).trans rfl
         have hcz192_1 : wc.cell? ⟨gb199, 1, none⟩ = some (.int .u64 t187) := (blk_cell BK199.out 1).trans rfl
         have hcz192_2 : wc.cell? ⟨gb199, 2, none⟩ = some (.int .u64 a1_0) := (blk_cell BK199.out 2).trans rfl
         have hcz192_3 : wc.cell? ⟨gb199, 3, none⟩ = some (.int .u64 t189) := (blk_cell BK199.out 3).trans rfl
         have hcz192_4 : wc.cell? ⟨gb199, 4, none⟩ = some (.int .u64 a2_0) := (blk_cell BK199.out 4).trans rfl
         have hcz192_5 : wc.cell? ⟨gb199, 5, none⟩ = some (.int .u64 a2_1) := (blk_cell BK199.out 5).trans rfl
         have hcz192_6 : wc.cell? ⟨gb199, 6, none⟩ = some (.int .u64 t192) := (blk_cell BK199.out 6).trans rfl
         have hcz192_7 : wc.cell? ⟨gb199, 7, none⟩ = some (.int .u64 a1_1) := (blk_cell BK199.out 7).trans rfl
         have hcz192_8 : wc.cell? ⟨gb199, 8, none⟩ = some (.int .u64 a1_2) := (blk_cell BK199.out 8).trans rfl
         have hcz192_9 : wc.cell? ⟨gb199, 9, none⟩ = some (.int .u64 t195) := (blk_cell BK199.out 9).trans rfl
         have hcz192_10 : wc.cell? ⟨gb199, 10, none⟩ = some (.int .u64 a1_3) := (blk_cell BK199.out 10).trans rfl
         have hcz192_11 : wc.cell? ⟨gb199, 11, none⟩ = some (.int .u64 t197) := (blk_cell BK199.out 11).trans rfl
         have hcz192_12 : wc.cell? ⟨gb199, 12, none⟩ = some (.int .u64 t198) := (blk_cell BK199.out 12).trans rfl
         have hfz192_0 := blk_frozen BK199.out 0
         have hfz192_1 := blk_frozen BK199.out 1
         have hfz192_2 := blk_frozen BK199.out 2
         have hfz192_3 := blk_frozen BK199.out 3
         have hfz192_4 := blk_frozen BK199.out 4
         have hfz192_5 := blk_frozen BK199.out 5
         have hfz192_6 := blk_frozen BK199.out 6
         have hfz192_7 := blk_frozen BK199.out 7
         have hfz192_8 := blk_frozen BK199.out 8
         have hfz192_9 := blk_frozen BK199.out 9
         have hfz192_10 := blk_frozen BK199.out 10
         have hfz192_11 := blk_frozen BK199.out 11
         have hfz192_12 := blk_frozen BK199.out 12
         have hnb193 := NB185_181.out
         have hnc193 := NB181_185.out
         have hnb194 := NB185_202.out
         have hnc194 := NB202_185.out
         have hcz195_0 : wc.cell? ⟨gb185, 0, none⟩ = some (.bool t183) := (blk_cell BK185.out 0).trans rfl
         have hcz195_1 : wc.cell? ⟨gb185, 1, none⟩ = some (.bool t184) := (blk_cell BK185.out 1).trans rfl
         have hfz195_0 := blk_frozen BK185.out 0
         have hfz195_1 := blk_frozen BK185.out 1
         go_wp2_with (first|((with_reducible refine gate_callee (f := 25) rfl ?_); refine goesL_ (some 105) rfl rfl Tryd.func25 (by kernel_rfl) rfl #[.agg #[.int .u64 t186, .int .u64 t187, .int .u64 a1_0, .int .u64 t189, .int .u64 a2_0, .int .u64 a2_1, .int .u64 t192, .int .u64 a1_1, .int .u64 a1_2, .int .u64 t195, .int .u64 a1_3, .int .u64 t197, .int .u64 t198], .agg #[.bool t183, .bool t184]] rfl (by (try simp only [List.map_toArray, List.map_cons, List.map_nil]); first|done|rfl|(simp only [List.length_drop, List.length_take]; rfl)) ?_; (with_reducible refine (ehdr_Head_Check.calls kj44 t186 t187 a1_0 t189 a2_0 a2_1 t192 a1_1 a1_2 t195 a1_3 t197 t198 t183 t184 t206 _ ?side1 A183.out).mono ?_); (case side1 => exact Laid_ehdr.below HLD_ehdr.out (by repeat (first|(with_reducible first|exact HB.out|apply eA|apply eN|apply eD|refine below_set ?_ GE180.out|refine below_set ?_ GE181.out|refine below_set ?_ GE185.out|refine below_set ?_ GE199.out|refine below_set ?_ GE202.out)|exact HB.out))); rintro e w196 ⟨rfl, hb⟩; refine ⟨_, rfl, ?_⟩; have n0_ := aS (blk_below (g := gb180) (o := .cells #[.int .u64 a1_0, .int .u64 a1_1, .int .u64 a1_2, .int .u64 a1_3] 51 (0, 0)) (by (with_reducible repeat (first|apply bN|apply bD|apply bA)); exact BK180.out) hb); have n1_ := aS (blk_below (g := gb181) (o := .cells #[.int .u64 a2_0, .int .u64 a2_1] 52 (0, 0)) (by (with_reducible repeat (first|apply bN|apply bD|apply bA)); exact BK181.out) hb); have n2_ := aS (blk_below (g := gb185) (o := .cells #[.bool t183, .bool t184] 29 (0, 0)) (by (with_reducible repeat (first|apply bN|apply bD|apply bA)); exact BK185.out) hb); have n3_ := aS (blk_below (g := gb199) (o := .cells #[.int .u64 t186, .int .u64 t187, .int .u64 a1_0, .int .u64 t189, .int .u64 a2_0, .int .u64 a2_1, .int .u64 t192, .int .u64 a1_1, .int .u64 a1_2, .int .u64 t195, .int .u64 a1_3, .int .u64 t197, .int .u64 t198] 54 (0, 0)) (by (with_reducible repeat (first|apply bN|apply bD|apply bA)); exact BK199.out) hb); have n4_ := aS (blk_below (g := gb202) (o := .cells #[.int .u64 t186, .int .u64 t187, .int .u64 t188, .int .u64 t189, .int .u64 t190, .int .u64 t191, .int .u64 t192, .int .u64 t193, .int .u64 t194, .int .u64 t195, .int .u64 t196, .int .u64 t197, .int .u64 t198] 54 (0, 0)) (by (with_reducible repeat (first|apply bN|apply bD|apply bA)); exact BK202.out) hb); have n5_ := aS (below_step (by repeat (first|(with_reducible first|exact HB.out|apply eA|apply eN|apply eD|refine below_set ?_ GE180.out|refine below_set ?_ GE181.out|refine below_set ?_ GE185.out|refine below_set ?_ GE199.out|refine below_set ?_ GE202.out)|exact HB.out)) hb); clear BK180; clear BK181; clear BK185; clear BK199; clear BK202; clear HB; have BK180 := n0_; have BK181 := n1_; have BK185 := n2_; have BK199 := n3_; have BK202 := n4_; have HB := n5_; clear n0_ n1_ n2_ n3_ n4_ n5_; (try clear hb); (try clear hb2); (try clear hk); (try clear hi)))
         go_ret
         exact ⟨by first|rfl|(simp [errW_none, errW_some] <;> rfl)|(simp [*, errW_none, errW_some] <;> rfl), by repeat (first|(with_reducible first|exact HB.out|apply eA|apply eN|apply eD|refine below_set ?_ GE180.out|refine below_set ?_ GE181.out|refine below_set ?_ GE185.out|refine below_set ?_ GE199.out|refine below_set ?_ GE202.out)|exact HB.out)⟩
 ·
  replace c5 := Bool.eq_false_iff.mpr c5
  subst c5
  have H1 : (some false) = some r := by rw [if_neg (show ¬ (false = true) by decide)] at H; exact H
  clear H
  have H := H1
  clear H1
  exact absurd ((Option.some.inj H).trans HRT.out) (by decide)

theorem graverlaw05_EhdrChecks.walk (P : graverlaw05_EhdrChecks.Pure) (a0 : Int) (a1_0 : Int) (a1_1 : Int) (a1_2 : Int) (a1_3 : Int) (a2_0 : Int) (a2_1 : Int) (w : World) (hlaid_ehdr : Laid_ehdr w) (w0 : (Lit.int .i64 a0).wf = true) (w1_0 : (Lit.int .u64 a1_0).wf = true) (w1_1 : (Lit.int .u64 a1_1).wf = true) (w1_2 : (Lit.int .u64 a1_2).wf = true) (w1_3 : (Lit.int .u64 a1_3).wf = true) (w2_0 : (Lit.int .u64 a2_0).wf = true) (w2_1 : (Lit.int .u64 a2_1).wf = true) :
  Calls Tryd.prog 7 #[.int .i64 a0, .agg #[.int .u64 a1_0, .int .u64 a1_1, .int .u64 a1_2, .int .u64 a1_3], .agg #[.int .u64 a2_0, .int .u64 a2_1]] w fun e w' => e = .returned (.bool true) ∧ Below w.heap.size w w' := by
 obtain ⟨k, h⟩ := P a0 a1_0 a1_1 a1_2 a1_3 a2_0 a2_1 w0 w1_0 w1_1 w1_2 w1_3 w2_0 w2_1
 refine (graverlaw05_EhdrChecks.calls k a0 a1_0 a1_1 a1_2 a1_3 a2_0 a2_1 true w hlaid_ehdr rfl h).mono ?_
 rintro e w' ⟨rfl, hd⟩
 exact ⟨rfl, hd⟩

end Go.Proofs.YtjmjebbjfjgbeaaDoor.Q
