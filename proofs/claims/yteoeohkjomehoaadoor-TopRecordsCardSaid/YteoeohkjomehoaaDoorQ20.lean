/- What Go functions of the program compute, each as a Lean function with the proof that the call returns just that. No condition but those in the statements. -/
import Derived.Test.YteoeohkjomehoaaDoorQ0
import Derived.Test.YteoeohkjomehoaaDoorQ5
import Derived.Test.YteoeohkjomehoaaDoorPts
namespace Go.Proofs.YteoeohkjomehoaaDoor.Q
open Go.RowKit Go.Proofs.YteoeohkjomehoaaDoorW.PrintWords Go.Proofs.YteoeohkjomehoaaDoorW.PrintLast Go.Proofs.YteoeohkjomehoaaDoorW.PrintMore
attribute [local go_sem] max2_int min2_int max_two min_two max_three min_three max_four min_four   -- for this text's walks alone
set_option linter.unusedVariables false
set_option linter.unusedSimpArgs false

/-! ### shdr_Size: function 25 -/
def shdr_Size.f (k : Nat) (a0_0 a0_1 : Bool) : Option Int := (shdr_Section_shape.f k a0_0 a0_1).bind fun t => some t.2
theorem shdr_Size.mono : ∀ a0 a1 k, LeO (shdr_Size.f k a0 a1) (shdr_Size.f (k + 1) a0 a1) := fun a0 a1 k => LeO.bind (shdr_Section_shape.mono a0 a1 k) (fun _ => LeO.refl _)
set_option maxHeartbeats 4000000 in
set_option maxRecDepth 100000 in
theorem shdr_Size.calls (k : Nat) (a0_0 a0_1 : Bool) (r1 : Int) (w : World) (hlaid : Laid_shdr w) (h : shdr_Size.f k a0_0 a0_1 = some r1) : Calls Tryd.prog 25 #[.agg #[.bool a0_0, .bool a0_1]] w fun e w' => e = .returned (.int .i64 r1) ∧ Below w.heap.size w w' := by
  (obtain ⟨⟨l, n⟩, hs, h⟩ := Option.bind_eq_some_iff.mp h); (obtain rfl := Option.some.inj h); (have HS := aS hs); (have HL := aS hlaid); clear hs h hlaid; (have hB0 : Below w.heap.size w ((w.alloc (Obj.cells #[Value.bool a0_0, Value.bool a0_1] 27)).alloc (Obj.cells #[Value.int IntKind.u64 0, Value.int IntKind.u64 0, Value.int IntKind.u64 0, Value.int IntKind.u64 0, Value.int IntKind.u64 0, Value.int IntKind.u64 0, Value.int IntKind.u64 0, Value.int IntKind.u64 0, Value.int IntKind.u64 0, Value.int IntKind.u64 0] 42)) := ((Below.refl _ _).alloc (Nat.le_refl _) _).alloc (by simp) _); (have hC0 : ((w.alloc (Obj.cells #[Value.bool a0_0, Value.bool a0_1] 27)).alloc (Obj.cells #[Value.int IntKind.u64 0, Value.int IntKind.u64 0, Value.int IntKind.u64 0, Value.int IntKind.u64 0, Value.int IntKind.u64 0, Value.int IntKind.u64 0, Value.int IntKind.u64 0, Value.int IntKind.u64 0, Value.int IntKind.u64 0, Value.int IntKind.u64 0] 42)).heap[w.heap.size]? = some (.cells #[.bool a0_0, .bool a0_1] 27 (0, 0)) := blk_alloc (blk_new w _) _); (have hc0 := (blk_cell hC0 0).trans rfl); (have hc1 := (blk_cell hC0 1).trans rfl); (have HB := aS hB0); clear hB0 hC0; (go_enter Tryd.func25, Tryd.ntmps25); (go_wp2_with (go_at_call 58; refine (shdr_Section_shape.calls k _ a0_0 a0_1 l n _ (Laid_shdr.below HL.out HB.out) HS.out).mono ?_; rintro e w3 ⟨v0, v1, rfl, hr0, hr1, hb⟩)); go_ret
  exact ⟨rfl, below_step HB.out hb⟩


end Go.Proofs.YteoeohkjomehoaaDoor.Q
