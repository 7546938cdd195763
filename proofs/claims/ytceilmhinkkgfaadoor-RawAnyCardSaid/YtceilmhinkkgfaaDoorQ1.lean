/- Walks. No condition but those in the statements. -/
import Derived.Test.YtceilmhinkkgfaaDoorPts
set_option linter.unusedVariables false
set_option linter.unusedSimpArgs false
namespace Go.Proofs.YtceilmhinkkgfaaDoor.Q
open Go.RowKit Go.Proofs.YtceilmhinkkgfaaDoorW.PrintWords Go.Proofs.YtceilmhinkkgfaaDoorW.PrintLast Go.Proofs.YtceilmhinkkgfaaDoorW.PrintMore
attribute [local go_sem] max2_int min2_int max_two min_two max_three min_three max_four min_four

def l11formOf.f (a0 : Int) : Option (Bool × Bool) := some (((Go.bits .and .i64 a0 1) == 1), ((Go.bits .and .i64 a0 2) == 2))
set_option maxHeartbeats 8000000 in
set_option maxRecDepth 100000 in
theorem l11formOf.calls (a0 : Int) (r1 : Bool) (r2 : Bool) (w : World) (h : l11formOf.f a0 = some (r1, r2)) :
 Calls Tryd.prog 14 #[.int .i64 a0] w fun e w' => e = .returned (.agg #[.bool r1, .bool r2]) ∧ Below w.heap.size w w' := by
 have hu34 := Tryd.underlying34; have hu32 := Tryd.underlying32; have HB := aS (Below.refl w.heap.size w); have H : (some (((Go.bits .and .i64 a0 1) == 1), ((Go.bits .and .i64 a0 2) == 2))) = some (r1, r2) := h; clear h; obtain ⟨bl2, hbl2⟩ : ∃ s_ : Bool, (((Go.bits .and .i64 a0 1) == 1)) = s_ := ⟨_, rfl⟩; (replace H : (some (bl2, ((Go.bits .and .i64 a0 2) == 2))) = some (r1, r2) := by first | (rw [hbl2] at H; exact H) | (simp only [hbl2] at H ⊢; exact H) | exact H); obtain ⟨bl3, hbl3⟩ : ∃ s_ : Bool, (((Go.bits .and .i64 a0 2) == 2)) = s_ := ⟨_, rfl⟩; (replace H : (some (bl2, bl3)) = some (r1, r2) := by first | (rw [hbl3] at H; exact H) | (simp only [hbl3] at H ⊢; exact H) | exact H); simp only [Option.some.injEq, Prod.mk.injEq] at H; obtain ⟨rfl, rfl⟩ := H; go_enter Tryd.func14, Tryd.ntmps14; (go_wp2_with (first | ((with_reducible refine gate_dst (N := 2) rfl ?_); refine bE 2 #[.bool false, .bool false] 34 ?_; intro gb101 hg w4 hbox hb; have BK101 := aS (hbox); have GW101 := aS (bsz hg hbN : w.heap.size ≤ gb101); have GE101 := aS (bsz hg hbN : w.heap.size ≤ gb101); replace HB := aS (below_step hbN hb); clear hb hbox hg; obtain ⟨_, _, _, _⟩ := bc2 BK101.out))); refine bodyPost_ret (results_cell_row rfl _ _ gb101 34 #[.bool bl2, .bool bl3] (0, 0) _ rfl pb Tryd.underlying34 rfl (by kernel_rfl)) rfl ?_
 exact ⟨er, hbS⟩

end Go.Proofs.YtceilmhinkkgfaaDoor.Q
