/- What Go functions of the program compute, each as a Lean function with the proof that the call returns just that. No condition but those in the statements. -/
import Derived.Test.YteoeohkjomehoaaDoorQ0
import Derived.Test.YteoeohkjomehoaaDoorQ2
import Derived.Test.YteoeohkjomehoaaDoorPts
namespace Go.Proofs.YteoeohkjomehoaaDoor.Q
open Go.RowKit Go.Proofs.YteoeohkjomehoaaDoorW.PrintWords Go.Proofs.YteoeohkjomehoaaDoorW.PrintLast Go.Proofs.YteoeohkjomehoaaDoorW.PrintMore
attribute [local go_sem] max2_int min2_int max_two min_two max_three min_three max_four min_four   -- for this text's walks alone
set_option linter.unusedVariables false
set_option linter.unusedSimpArgs false

/-- A state of type 215 at block g of W; what its slices lead to came in by w0. -/
def IsS215 (w0 W : World) (g : Nat) (f0 : Bool) (f1 : ByteArray) (f2 : Int) (f3 : Bool) : Prop := W.heap[g]? = some (.cells #[.bool f0, .string f1, .int .u64 f2, .bool f3] 215 (0, 0)) ∧ w0.heap.size ≤ g
theorem IsS215.grown {w0 W : World} {g : Nat} {f0 : Bool} {f1 : ByteArray} {f2 : Int} {f3 : Bool} {W1 : World} {row : Option Nat} (h : IsS215 w0 W g f0 f1 f2 f3) (hw : W.grownBy W1 row) (hne : some g ≠ row) : IsS215 w0 W1 g f0 f1 f2 f3 := by
  (obtain ⟨hb, hg⟩ := h); exact ⟨blk_grown hb hw hne, hg⟩
theorem IsS215.own_neN {w0 W : World} {g : Nat} {f0 : Bool} {f1 : ByteArray} {f2 : Int} {f3 : Bool} {α : Type} {d : Kd α} {e : Nat} {base : Nat} {ok : Nat → Prop} {v : Value} {xs : List α} (h : IsS215 w0 W g f0 f1 f2 f3) (ho : Kd.N d e W base ok v xs) (ht : e ≠ 215) : some g ≠ v.ownBlock := by
  (obtain ⟨hb, hg⟩ := h); exact Kd.N_ne ho hb ht
theorem IsS215.fresh {w0 W : World} {g : Nat} {f0 : Bool} {f1 : ByteArray} {f2 : Int} {f3 : Bool} (h : IsS215 w0 W g f0 f1 f2 f3) : ∀ k, W.heap.size ≤ k → k ≠ g := by
  (obtain ⟨hb, hg⟩ := h); exact Kd.freshB hb
theorem IsS215.kept {w0 W : World} {g : Nat} {f0 : Bool} {f1 : ByteArray} {f2 : Int} {f3 : Bool} {W1 : World} {S : Nat → Prop} (h : IsS215 w0 W g f0 f1 f2 f3) (hk : Kept W W1 S) (hne : ¬ S g) : IsS215 w0 W1 g f0 f1 f2 f3 := by
  (obtain ⟨hb, hg⟩ := h); exact ⟨blk_kept hb hk hne, hg⟩
theorem IsS215.below {w0 W : World} {g : Nat} {f0 : Bool} {f1 : ByteArray} {f2 : Int} {f3 : Bool} {W1 : World} (h : IsS215 w0 W g f0 f1 f2 f3) (hw : Below W.heap.size W W1) : IsS215 w0 W1 g f0 f1 f2 f3 := h.grown (grown_of_below hw none) (by simp)
theorem IsS215.alloc {w0 W : World} {g : Nat} {f0 : Bool} {f1 : ByteArray} {f2 : Int} {f3 : Bool} (h : IsS215 w0 W g f0 f1 f2 f3) (o : Obj) : IsS215 w0 (W.alloc o) g f0 f1 f2 f3 := h.below (below_alloc (Below.refl _ _) o)
theorem IsS215.drewN {w0 W : World} {g : Nat} {f0 : Bool} {f1 : ByteArray} {f2 : Int} {f3 : Bool} (h : IsS215 w0 W g f0 f1 f2 f3) (m : Nat) : IsS215 w0 (W.drewN m) g f0 f1 f2 f3 := h
theorem IsS215.drew {w0 W : World} {g : Nat} {f0 : Bool} {f1 : ByteArray} {f2 : Int} {f3 : Bool} (h : IsS215 w0 W g f0 f1 f2 f3) : IsS215 w0 W.drew g f0 f1 f2 f3 := h
theorem IsS215.at_ {w0 W : World} {g : Nat} {f0 : Bool} {f1 : ByteArray} {f2 : Int} {f3 : Bool} {w' : World} {m : Nat} (hq : W.drewN m = w') (h : IsS215 w0 W g f0 f1 f2 f3) : IsS215 w0 w' g f0 f1 f2 f3 := by subst hq; exact IsS215.drewN h m
theorem IsS215.apart {w0 W : World} {g : Nat} {f0 : Bool} {f1 : ByteArray} {f2 : Int} {f3 : Bool} {α : Type} {d : Kd α} {e : Nat} {base : Nat} {ok : Nat → Prop} {v : Value} {xs : List α} (h : IsS215 w0 W g f0 f1 f2 f3) (ho : d.R e W base ok v xs) (ht : ∀ q, q ∈ e :: d.E → q ≠ 215) : d.R e W base (fun k => ok k ∧ k ≠ g) v xs := by
  (obtain ⟨hb, hg⟩ := h); exact Kd.R_types ho hb ht
theorem IsS215.own_ne {w0 W : World} {g : Nat} {f0 : Bool} {f1 : ByteArray} {f2 : Int} {f3 : Bool} {α : Type} {d : Kd α} {e : Nat} {base : Nat} {ok : Nat → Prop} {v : Value} {xs : List α} (h : IsS215 w0 W g f0 f1 f2 f3) (ho : d.R e W base ok v xs) (ht : e ≠ 215) : some g ≠ v.ownBlock := by
  (obtain ⟨hb, hg⟩ := h); exact Kd.R_ne ho hb ht
theorem IsS215.apartQ {w0 W : World} {g : Nat} {f0 : Bool} {f1 : ByteArray} {f2 : Int} {f3 : Bool} {α : Type} {d : Kd α} {e : Nat} {base : Nat} {ok : Nat → Prop} {v : Value} {xs : List α} (h : IsS215 w0 W g f0 f1 f2 f3) (ho : d.Q e W base ok v xs) (ht : ∀ q, q ∈ e :: d.E → q ≠ 215) : d.Q e W base (fun k => ok k ∧ k ≠ g) v xs := by
  (obtain ⟨hb, hg⟩ := h); exact Kd.Q_types ho hb ht
theorem IsS215.own_neQ {w0 W : World} {g : Nat} {f0 : Bool} {f1 : ByteArray} {f2 : Int} {f3 : Bool} {α : Type} {d : Kd α} {e : Nat} {base : Nat} {ok : Nat → Prop} {v : Value} {xs : List α} (h : IsS215 w0 W g f0 f1 f2 f3) (ho : d.Q e W base ok v xs) (ht : e ≠ 215) : some g ≠ v.ownBlock := by
  (obtain ⟨hb, hg⟩ := h); exact Kd.Q_ne ho hb ht
theorem IsS215.apartS {w0 W : World} {g : Nat} {f0 : Bool} {f1 : ByteArray} {f2 : Int} {f3 : Bool} {α : Type} {d : Kd α} {e : Nat} {base : Nat} {ok : Nat → Prop} {v : Value} {xs : List α} (h : IsS215 w0 W g f0 f1 f2 f3) (ho : d.S e W base ok v xs) (ht : ∀ q, q ∈ e :: d.E → q ≠ 215) : d.S e W base (fun k => ok k ∧ k ≠ g) v xs := by
  (obtain ⟨hb, hg⟩ := h); exact Kd.S_types ho hb ht
theorem IsS215.own_neS {w0 W : World} {g : Nat} {f0 : Bool} {f1 : ByteArray} {f2 : Int} {f3 : Bool} {α : Type} {d : Kd α} {e : Nat} {base : Nat} {ok : Nat → Prop} {v : Value} {xs : List α} (h : IsS215 w0 W g f0 f1 f2 f3) (ho : d.S e W base ok v xs) (ht : e ≠ 215) : some g ≠ v.ownBlock := by
  (obtain ⟨hb, hg⟩ := h); exact Kd.S_ne ho hb ht
theorem IsS215.lt {w0 W : World} {g : Nat} {f0 : Bool} {f1 : ByteArray} {f2 : Int} {f3 : Bool} (h : IsS215 w0 W g f0 f1 f2 f3) : g < W.heap.size := by
  (obtain ⟨hb, hg⟩ := h); exact blk_lt hb
theorem IsS215.ge {w0 W : World} {g : Nat} {f0 : Bool} {f1 : ByteArray} {f2 : Int} {f3 : Bool} (h : IsS215 w0 W g f0 f1 f2 f3) : w0.heap.size ≤ g := by
  (obtain ⟨hb, hg⟩ := h); exact hg
theorem IsS215.ne_blk {w0 W : World} {g : Nat} {f0 : Bool} {f1 : ByteArray} {f2 : Int} {f3 : Bool} {a : Nat} {cs : Array Value} {t : TypeId} {fr : Nat × Nat} (h : IsS215 w0 W g f0 f1 f2 f3) (hb2 : W.heap[a]? = some (.cells cs t fr)) (ht : t ≠ 215) : g ≠ a := by
  (obtain ⟨hb, hg⟩ := h); (rintro rfl); (rw [hb] at hb2); (injection hb2 with hb2); (injection hb2 with _ ht2); exact ht ht2.symm
theorem IsS215.far {w0 W : World} {g : Nat} {f0 : Bool} {f1 : ByteArray} {f2 : Int} {f3 : Bool} {p : Addr} (h : IsS215 w0 W g f0 f1 f2 f3) (hne : g ≠ p.block) (u : Value) : IsS215 w0 (W.setCell p u) g f0 f1 f2 f3 := by
  (obtain ⟨hb, hg⟩ := h); exact ⟨blk_far hb hne u, hg⟩
theorem cellS215_0 {W : World} {g : Nat} {f0 : Bool} {f1 : ByteArray} {f2 : Int} {f3 : Bool} (h : W.heap[g]? = some (.cells #[.bool f0, .string f1, .int .u64 f2, .bool f3] 215 (0, 0))) : W.cell? ⟨g, 0, none⟩ = some (.bool f0) := (blk_cell h 0).trans rfl
theorem IsS215.set_0 {w0 W : World} {g : Nat} {f0 : Bool} {f1 : ByteArray} {f2 : Int} {f3 : Bool} (h : IsS215 w0 W g f0 f1 f2 f3) (x : Bool) : IsS215 w0 (W.setCell ⟨g, 0, none⟩ (.bool x)) g x f1 f2 f3 := by
  (obtain ⟨hb, hg⟩ := h); exact ⟨by simpa using blk_set hb 0 (.bool x), hg⟩
theorem cellS215_1 {W : World} {g : Nat} {f0 : Bool} {f1 : ByteArray} {f2 : Int} {f3 : Bool} (h : W.heap[g]? = some (.cells #[.bool f0, .string f1, .int .u64 f2, .bool f3] 215 (0, 0))) : W.cell? ⟨g, 1, none⟩ = some (.string f1) := (blk_cell h 1).trans rfl
theorem IsS215.set_1 {w0 W : World} {g : Nat} {f0 : Bool} {f1 : ByteArray} {f2 : Int} {f3 : Bool} (h : IsS215 w0 W g f0 f1 f2 f3) (x : ByteArray) : IsS215 w0 (W.setCell ⟨g, 1, none⟩ (.string x)) g f0 x f2 f3 := by
  (obtain ⟨hb, hg⟩ := h); exact ⟨by simpa using blk_set hb 1 (.string x), hg⟩
theorem cellS215_2 {W : World} {g : Nat} {f0 : Bool} {f1 : ByteArray} {f2 : Int} {f3 : Bool} (h : W.heap[g]? = some (.cells #[.bool f0, .string f1, .int .u64 f2, .bool f3] 215 (0, 0))) : W.cell? ⟨g, 2, none⟩ = some (.int .u64 f2) := (blk_cell h 2).trans rfl
theorem IsS215.set_2 {w0 W : World} {g : Nat} {f0 : Bool} {f1 : ByteArray} {f2 : Int} {f3 : Bool} (h : IsS215 w0 W g f0 f1 f2 f3) (x : Int) : IsS215 w0 (W.setCell ⟨g, 2, none⟩ (.int .u64 x)) g f0 f1 x f3 := by
  (obtain ⟨hb, hg⟩ := h); exact ⟨by simpa using blk_set hb 2 (.int .u64 x), hg⟩
theorem cellS215_3 {W : World} {g : Nat} {f0 : Bool} {f1 : ByteArray} {f2 : Int} {f3 : Bool} (h : W.heap[g]? = some (.cells #[.bool f0, .string f1, .int .u64 f2, .bool f3] 215 (0, 0))) : W.cell? ⟨g, 3, none⟩ = some (.bool f3) := (blk_cell h 3).trans rfl
theorem IsS215.set_3 {w0 W : World} {g : Nat} {f0 : Bool} {f1 : ByteArray} {f2 : Int} {f3 : Bool} (h : IsS215 w0 W g f0 f1 f2 f3) (x : Bool) : IsS215 w0 (W.setCell ⟨g, 3, none⟩ (.bool x)) g f0 f1 f2 x := by
  (obtain ⟨hb, hg⟩ := h); exact ⟨by simpa using blk_set hb 3 (.bool x), hg⟩
theorem IsS215.new (w0 W : World) (f0 : Bool) (f1 : ByteArray) (f2 : Int) (f3 : Bool) (hB : Below w0.heap.size w0 W) : IsS215 w0 (W.alloc (.cells #[.bool f0, .string f1, .int .u64 f2, .bool f3] 215)) W.heap.size f0 f1 f2 f3 := ⟨by simpa using heap_alloc_new W _, hB.size⟩

/-! ### order_Order_Read: function 66 -/
def order_Order_Read.f (a0_0 : Bool) (a1 : ByteArray) (a2 : Int) : Option (Bool × ByteArray × Int × Bool) := some (a0_0, a1, a2, false)
set_option maxHeartbeats 8000000 in
set_option maxRecDepth 100000 in
theorem order_Order_Read.calls (a0_0 : Bool) (a1 : ByteArray) (a2 : Int) (r1 : Bool) (r2 : ByteArray) (r3 : Int) (r4 : Bool) (w0 w : World) (hB : Below w0.heap.size w0 w) (h : order_Order_Read.f a0_0 a1 a2 = some (r1, r2, r3, r4)) :
    Calls Tryd.prog 66 #[.agg #[.bool a0_0], .string a1, .int .u64 a2] w fun e w' => ∃ g_ : Nat, e = .returned (.pointer (some ⟨g_, 0, none⟩)) ∧ IsS215 w0 w' g_ r1 r2 r3 r4 ∧ Below w0.heap.size w0 w' ∧ Below w.heap.size w w' := by
  (have hu25 := Tryd.underlying25); (have hu215 := Tryd.underlying215); (have HBW := aS (Below.refl w.heap.size w)); (have HW0 := aS hB.size); (have HB := aS hB); clear hB; (have H : (some (a0_0, a1, a2, false)) = some (r1, r2, r3, r4) := h); clear h; (simp only [Option.some.injEq, Prod.mk.injEq] at H); (obtain ⟨rfl, rfl, rfl, rfl⟩ := H); (go_enter Tryd.func66, Tryd.ntmps66); go_wp2_with (first | ((with_reducible refine gate_dst (N := 3) rfl ?_); refine bE 3 #[.bool a0_0] 25 ?_; intro gb128 hg w4 hbox hb; have n0_ := aS (below_step HBW.out hb); have n1_ := aS (below_step hbN hb); have n2_ := aS (hbox); have n3_ := aS ((by rw [hg]; exact (below_size (by repeat (first | (with_reducible first | exact HBW.out | apply below_alloc | apply pw_below_drewN | apply below_drew1) | exact HBW.out))) : w.heap.size ≤ gb128)); have n4_ := aS ((Nat.le_trans HW0.out (by rw [hg]; exact (below_size (by repeat (first | (with_reducible first | exact HBW.out | apply below_alloc | apply pw_below_drewN | apply below_drew1) | exact HBW.out))) : w.heap.size ≤ gb128) : w0.heap.size ≤ gb128)); clear HBW; clear HB; have HBW := n0_; have HB := n1_; have BK128 := n2_; have GW128 := n3_; have GE128 := n4_; clear n0_ n1_ n2_ n3_ n4_; clear hb hbox hg; have hcz5_0 : w4.cell? ⟨gb128, 0, none⟩ = some (.bool a0_0) := (blk_cell BK128.out 0).trans rfl; have hfz5_0 := blk_frozen BK128.out 0) | ((with_reducible refine gate_dst (N := 11) rfl ?_); refine bE 11 #[.bool a0_0, .string a1, .int .u64 a2, .bool false] 215 ?_; intro gb129 hg w6 hbox hb; have n0_ := aS (blk_below (g := gb128) (o := .cells #[.bool a0_0] 25 (0, 0)) bkN hb); have n1_ := aS (below_step HBW.out hb); have n2_ := aS (below_step hbS hb); have n3_ := aS (hbox); have n4_ := aS ((by rw [hg]; exact (below_size (by repeat (first | (with_reducible first | exact HBW.out | apply below_alloc | apply pw_below_drewN | apply below_drew1 | refine below_set ?_ GW128.out) | exact HBW.out))) : w.heap.size ≤ gb129)); have n5_ := aS ((Nat.le_trans HW0.out (by rw [hg]; exact (below_size (by repeat (first | (with_reducible first | exact HBW.out | apply below_alloc | apply pw_below_drewN | apply below_drew1 | refine below_set ?_ GW128.out) | exact HBW.out))) : w.heap.size ≤ gb129) : w0.heap.size ≤ gb129)); have n6_ := aS ((by rw [hg]; exact Nat.ne_of_lt (blk_lt (g := gb128) (o := .cells #[.bool a0_0] 25 (0, 0)) (by (with_reducible repeat (first | refine blk_drewN ?_ _ | refine blk_drew ?_ | refine blk_alloc ?_ _)); exact BK128.out)) : gb128 ≠ gb129)); have n7_ := aS ((by rw [hg]; exact Nat.ne_of_gt (blk_lt (g := gb128) (o := .cells #[.bool a0_0] 25 (0, 0)) (by (with_reducible repeat (first | refine blk_drewN ?_ _ | refine blk_drew ?_ | refine blk_alloc ?_ _)); exact BK128.out)) : gb129 ≠ gb128)); clear BK128; clear HBW; clear HB; have BK128 := n0_; have HBW := n1_; have HB := n2_; have BK129 := n3_; have GW129 := n4_; have GE129 := n5_; have NB128_129 := n6_; have NB129_128 := n7_; clear n0_ n1_ n2_ n3_ n4_ n5_ n6_ n7_; clear hb hbox hg))
  go_ret
  exact ⟨_, rfl, (show IsS215 w0 _ gb129 a0_0 a1 a2 false from ⟨by (with_reducible repeat (first | refine blk_drewN ?_ _ | refine blk_drew ?_ | refine blk_alloc ?_ _)); exact BK129.out, GE129.out⟩), by repeat (first | (with_reducible first | exact HB.out | apply below_alloc | apply pw_below_drewN | apply below_drew1 | refine below_set ?_ GE128.out | refine below_set ?_ GE129.out) | exact HB.out), by repeat (first | (with_reducible first | exact HBW.out | apply below_alloc | apply pw_below_drewN | apply below_drew1 | refine below_set ?_ GW128.out | refine below_set ?_ GW129.out) | exact HBW.out)⟩

/-! ### order_Order_Get: function 104 -/
def order_Order_Get.l0 : Nat → ByteArray → Int → Int → Int → Bool → Option (Int)
  | 0, _, _, _, _, _ => none
  | k + 1, x1, x5, x11, x12, x131000 => if x12 < x11 then ((order_Order_place.f x131000 x12 (x1.size : Int)).bind fun t131 => (if 0 ≤ t131 then (if t131 < (x1.size : Int) then (if 0 ≤ (wrap64 (8 * x12)) then (order_Order_Get.l0 k x1 (Go.bits .or .u64 x5 (shl .u64 (IntKind.u64.wrap (bt x1 t131)) (wrap64 (8 * x12)))) x11 (wrap64 (x12 + 1)) x131000) else (none)) else (none)) else (none))) else (some x5)
def order_Order_Get.f (k : Nat) (a0_0 : Bool) (a1 : ByteArray) : Option (Int) := if (a1.size : Int) > 8 then (some 0) else (order_Order_Get.l0 k a1 0 (a1.size : Int) 0 a0_0)
theorem order_Order_Get.mono_l : ∀ k, (∀ y0 y1 y2 y3 y4, LeO (order_Order_Get.l0 k y0 y1 y2 y3 y4) (order_Order_Get.l0 (k + 1) y0 y1 y2 y3 y4))
  | 0 => fun _ _ _ _ _ r h => by simp [order_Order_Get.l0] at h
  | k + 1 => by
    have ih0 := order_Order_Get.mono_l k
    · intro y0 y1 y2 y3 y4
      unfold order_Order_Get.l0
      repeat' first
      | (with_reducible exact ih0 _ _ _ _ _)
      | (with_reducible exact LeO.refl _)
      | (with_reducible exact LeO.none _)
      | (with_reducible refine LeO.ite ?_ ?_)
      | (with_reducible refine LeO.bind ?_ (fun _ => ?_))
      | exact ih0 _ _ _ _ _
      | exact LeO.none _
      | refine LeO.ite ?_ ?_
      | refine LeO.bind ?_ (fun _ => ?_)
theorem order_Order_Get.mono : ∀ a0 a1 k, LeO (order_Order_Get.f k a0 a1) (order_Order_Get.f (k + 1) a0 a1) := by
  intro a0 a1 k; (have ih0 := order_Order_Get.mono_l k); unfold order_Order_Get.f
  repeat' first
      | (with_reducible exact ih0 _ _ _ _ _)
      | (with_reducible exact LeO.refl _)
      | (with_reducible exact LeO.none _)
      | (with_reducible refine LeO.ite ?_ ?_)
      | (with_reducible refine LeO.bind ?_ (fun _ => ?_))
      | exact ih0 _ _ _ _ _
      | exact LeO.none _
      | refine LeO.ite ?_ ?_
      | refine LeO.bind ?_ (fun _ => ?_)
set_option maxHeartbeats 8000000 in
set_option maxRecDepth 100000 in
theorem order_Order_Get.calls (k : Nat) (a0_0 : Bool) (a1 : ByteArray) (r : Int) (w : World) (h : order_Order_Get.f k a0_0 a1 = some r) :
    Calls Tryd.prog 104 #[.agg #[.bool a0_0], .string a1] w fun e w' => e = .returned (.int .u64 r) ∧ Below w.heap.size w w' := by
  (have hu25 := Tryd.underlying25); (have HB := aS (Below.refl w.heap.size w)); (have H : (if (a1.size : Int) > 8 then (some 0) else (order_Order_Get.l0 k a1 0 (a1.size : Int) 0 a0_0)) = some r := h); clear h
  by_cases c3 : (a1.size : Int) > 8
  · (rw [if_pos c3] at H); (have c3b0 : decide (8 < (a1.size : Int)) = true := decide_eq_true c3); (have c3b1 : decide (8 < a1.size) = true := decide_eq_true (by omega)); clear c3; (obtain rfl := Option.some.inj H); (go_enter Tryd.func104, Tryd.ntmps104); (go_wp2_with (first | ((with_reducible refine gate_dst (N := 2) rfl ?_); refine bE 2 #[.bool a0_0] 25 ?_; intro gb130 hg w4 hbox hb; have n0_ := aS (below_step hbN hb); have n1_ := aS (hbox); have n2_ := aS (bsz hg hbN : w.heap.size ≤ gb130); have n3_ := aS (bsz hg hbN : w.heap.size ≤ gb130); clear HB; have HB := n0_; have BK130 := n1_; have GW130 := n2_; have GE130 := n3_; clear n0_ n1_ n2_ n3_; clear hb hbox hg))); (go_ret); exact ⟨by first | rfl | (simp [errW_none, errW_some] <;> rfl) | (simp [*, errW_none, errW_some] <;> rfl), by repeat (first | (with_reducible first | exact HB.out | apply below_alloc | apply pw_below_drewN | apply below_drew1 | refine below_set ?_ GE130.out) | exact HB.out)⟩
  · rw [if_neg c3] at H
    (have c3b0 : decide (8 < (a1.size : Int)) = false := decide_eq_false c3); (have c3b1 : decide (8 < a1.size) = false := decide_eq_false (by omega)); clear c3; (have H' := aS H); clear H; (go_enter Tryd.func104, Tryd.ntmps104); (go_wp2_with (first | ((with_reducible refine gate_dst (N := 2) rfl ?_); refine bE 2 #[.bool a0_0] 25 ?_; intro gb130 hg w5 hbox hb; have n0_ := aS (below_step hbN hb); have n1_ := aS (hbox); have n2_ := aS (bsz hg hbN : w.heap.size ≤ gb130); have n3_ := aS (bsz hg hbN : w.heap.size ≤ gb130); clear HB; have HB := n0_; have BK130 := n1_; have GW130 := n2_; have GE130 := n3_; clear n0_ n1_ n2_ n3_; clear hb hbox hg))); go_loopg [5, 12] k (fun kq v5 v12 w' => ∃ (x5_1 : Int) (x12_1 : Int), v5 = .int .u64 x5_1 ∧ v12 = .int .i64 x12_1 ∧ Aside0 (order_Order_Get.l0 kq a1 x5_1 (a1.size : Int) x12_1 a0_0 = some r) ∧ Aside0 (kq ≤ k) ∧ Aside0 (w'.heap[gb130]? = some (.cells #[.bool a0_0] 25 (0, 0))) ∧ Aside0 (Below w.heap.size w w'))
    case atStart => exact ⟨(0), (0), (by first | rfl | (simp; done) | (simp [*]; done)), (by first | rfl | (simp; done) | (simp [*]; done)), H', ⟨Nat.le_refl _⟩, ⟨by (with_reducible repeat (first | refine blk_drewN ?_ _ | refine blk_drew ?_ | refine blk_alloc ?_ _)); exact BK130.out⟩, ⟨by repeat (first | (with_reducible first | exact HB.out | apply below_alloc | apply pw_below_drewN | apply below_drew1 | refine below_set ?_ GE130.out) | exact HB.out)⟩⟩
    case round =>
      clear H'; (try clear c1); (try clear p2); (try clear c3); (try clear c3b0); (try clear c3b1); obtain ⟨x5_1, x12_1, rfl, rfl, HA, HK1, BK130, HB⟩ := hrel
      cases gk with
      | zero => exact absurd HA.out (by simp [order_Order_Get.l0])
      | succ k1 =>
        (have H := HA.out); clear HA; simp only [order_Order_Get.l0] at H
        by_cases c6 : x12_1 < (a1.size : Int)
        · rw [if_pos c6] at H
          (have c6b0 : decide (x12_1 < (a1.size : Int)) = true := decide_eq_true c6); clear c6; (replace H := Option.bind_eq_some_iff.mp H); (obtain ⟨t131, A70, H⟩ := H); (replace H : (if 0 ≤ t131 then (if t131 < (a1.size : Int) then (if 0 ≤ (wrap64 (8 * x12_1)) then (order_Order_Get.l0 k1 a1 (Go.bits .or .u64 x5_1 (shl .u64 (IntKind.u64.wrap (bt a1 t131)) (wrap64 (8 * x12_1)))) (a1.size : Int) (wrap64 (x12_1 + 1)) a0_0) else (none)) else (none)) else (none)) = some r := H); (have A7 := aS A70); clear A70
          by_cases c8 : 0 ≤ t131
          · rw [if_pos c8] at H
            (have c8b0 : decide (0 ≤ t131) = true := decide_eq_true c8); clear c8
            by_cases c9 : t131 < (a1.size : Int)
            · rw [if_pos c9] at H
              (have c9b0 : decide (t131 < (a1.size : Int)) = true := decide_eq_true c9); clear c9; (obtain ⟨ji11, hji11⟩ : ∃ j_ : Int, (wrap64 (8 * x12_1)) = j_ := ⟨_, rfl⟩); (replace H : (if 0 ≤ (ji11) then (order_Order_Get.l0 k1 a1 (Go.bits .or .u64 x5_1 (shl .u64 (IntKind.u64.wrap (bt a1 t131)) (ji11))) (a1.size : Int) (wrap64 (x12_1 + 1)) a0_0) else (none)) = some r := by first | (rw [hji11] at H; exact H) | (simp only [hji11] at H ⊢; exact H)); ((try rw [hji11] at A7)); have hji11w : (IntKind.i64.wrap (8 * x12_1)) = ji11 := (i64_w _).trans hji11
              by_cases c12 : 0 ≤ (ji11)
              · rw [if_pos c12] at H
                (have c12b0 := eq_true c12); (have c12b1 : decide (0 ≤ (ji11)) = true := decide_eq_true c12); clear c12; (obtain ⟨ji13, hji13⟩ : ∃ j_ : Int, (shl .u64 (IntKind.u64.wrap (bt a1 t131)) (ji11)) = j_ := ⟨_, rfl⟩); (replace H : (order_Order_Get.l0 k1 a1 (Go.bits .or .u64 x5_1 (ji13)) (a1.size : Int) (wrap64 (x12_1 + 1)) a0_0) = some r := by first | (rw [hji13] at H; exact H) | (simp only [hji13] at H ⊢; exact H)); ((try rw [hji13] at A7)); (have hji13_ : (IntKind.u64.wrap ((IntKind.u64.wrap (bt a1 t131)) * 2 ^ min (ji11).toNat 64)) = ji13 := hji13); (have hji13z : (ji11) ≤ 64 → (IntKind.u64.wrap ((IntKind.u64.wrap (bt a1 t131)) * 2 ^ (ji11).toNat)) = ji13 := shl_small hji13); ((try have hji13y := hji13z (by first | omega | (simp only [decide_eq_true_eq] at *; omega)))); (have H' := aS H); clear H; (have hcz14_0 : wr.cell? ⟨gb130, 0, none⟩ = some (.bool a0_0) := (blk_cell BK130.out 0).trans rfl); (have hfz14_0 := blk_frozen BK130.out 0); go_wp2_with (first | ((with_reducible refine gate_callee (f := 137) rfl ?_); refine gL (some 21) Tryd.func137 #[.agg #[.bool a0_0], .int .i64 x12_1, .int .i64 (a1.size : Int)] ?_; (with_reducible refine (order_Order_place.calls a0_0 x12_1 (a1.size : Int) t131 _ A7.out).mono ?_); rintro e w15 ⟨rfl, hb⟩; refine ⟨_, rfl, ?_⟩; have n0_ := aS (blk_below (g := gb130) (o := .cells #[.bool a0_0] 25 (0, 0)) bkN hb); have n1_ := aS (below_step hbS hb); clear BK130; clear HB; have BK130 := n0_; have HB := n1_; clear n0_ n1_; (try clear hb); (try clear hb2); (try clear hk); (try clear hi); have p10 : 0 ≤ (t131 : Int) := of_decide_eq_true (by first | (with_reducible assumption) | assumption); have q10 : t131 < (a1.size : Int) := of_decide_eq_true (by first | (with_reducible assumption) | assumption); have hx10 := bt_at a1 t131; replace p10 := eq_true p10; replace q10 := eq_true q10))
                go_roundg k1
                case measure => have := HK1.out; omega
                case rel => exact ⟨(Go.bits .or .u64 x5_1 (ji13)), (wrap64 (x12_1 + 1)), (by first | rfl | (simp; done) | (simp only [← hji13] <;> (first | rfl | simp)) | (simp [*]; done)), (by first | rfl | (simp; done) | (simp [*]; done)), H', ⟨by have := HK1.out; omega⟩, ⟨by (with_reducible repeat (first | refine blk_drewN ?_ _ | refine blk_drew ?_ | refine blk_alloc ?_ _)); exact BK130.out⟩, ⟨by repeat (first | (with_reducible first | exact HB.out | apply below_alloc | apply pw_below_drewN | apply below_drew1 | refine below_set ?_ GE130.out) | exact HB.out)⟩⟩
              · (rw [if_neg c12] at H); exact absurd H (by simp)
            · (rw [if_neg c9] at H); exact absurd H (by simp)
          · (rw [if_neg c8] at H); exact absurd H (by simp)
        · rw [if_neg c6] at H
          (have c6b0 : decide (x12_1 < (a1.size : Int)) = false := decide_eq_false c6); clear c6; (obtain rfl := Option.some.inj H); (go_wp2); go_ret
          exact ⟨by first | rfl | (simp [errW_none, errW_some] <;> rfl) | (simp [*, errW_none, errW_some] <;> rfl), by repeat (first | (with_reducible first | exact HB.out | apply below_alloc | apply pw_below_drewN | apply below_drew1 | refine below_set ?_ GE130.out) | exact HB.out)⟩

/-! ### order_Reader_Bytes: function 105 -/
def order_Reader_Bytes.f (s0_0 : Bool) (s0_1 : ByteArray) (s0_2 : Int) (s0_3 : Bool) (a1 : Int) : Option (ByteArray × Bool × ByteArray × Int × Bool) := if s0_3 = true then (some ((⟨#[]⟩ : ByteArray), s0_0, s0_1, s0_2, s0_3)) else (if s0_2 > (IntKind.u64.wrap ((s0_1.size : Int))) then (some ((⟨#[]⟩ : ByteArray), s0_0, s0_1, s0_2, true)) else (if a1 > (IntKind.u64.wrap ((IntKind.u64.wrap ((s0_1.size : Int))) - s0_2)) then (some ((⟨#[]⟩ : ByteArray), s0_0, s0_1, s0_2, true)) else (if 0 ≤ s0_2 then (if s0_2 ≤ (IntKind.u64.wrap (s0_2 + a1)) then (if (IntKind.u64.wrap (s0_2 + a1)) ≤ (s0_1.size : Int) then (some (s0_1.extract (s0_2 : Int).toNat ((IntKind.u64.wrap (s0_2 + a1)) : Int).toNat, s0_0, s0_1, IntKind.u64.wrap (s0_2 + a1), s0_3)) else (none)) else (none)) else (none))))
set_option maxHeartbeats 8000000 in
set_option maxRecDepth 100000 in
theorem order_Reader_Bytes.calls (g : Nat) (s0_0 : Bool) (s0_1 : ByteArray) (s0_2 : Int) (s0_3 : Bool) (a1 : Int) (r1 : ByteArray) (r2 : Bool) (r3 : ByteArray) (r4 : Int) (r5 : Bool) (w0 w : World) (hI : IsS215 w0 w g s0_0 s0_1 s0_2 s0_3) (hB : Below w0.heap.size w0 w) (h : order_Reader_Bytes.f s0_0 s0_1 s0_2 s0_3 a1 = some (r1, r2, r3, r4, r5)) :
    Calls Tryd.prog 105 #[.pointer (some ⟨g, 0, none⟩), .int .u64 a1] w fun e w' => e = .returned (.string r1) ∧ IsS215 w0 w' g r2 r3 r4 r5 ∧ Below w0.heap.size w0 w' ∧ KeepBut w w' g none := by
  (have HI0 := aS hI); (have HK := aS (KeepBut.refl w g none)); (have HL := aS hB.size); clear hI; (have HW0 := aS hB.size); (have HB := aS hB); clear hB; (have H : (if s0_3 = true then (some ((⟨#[]⟩ : ByteArray), s0_0, s0_1, s0_2, s0_3)) else (if s0_2 > (IntKind.u64.wrap ((s0_1.size : Int))) then (some ((⟨#[]⟩ : ByteArray), s0_0, s0_1, s0_2, true)) else (if a1 > (IntKind.u64.wrap ((IntKind.u64.wrap ((s0_1.size : Int))) - s0_2)) then (some ((⟨#[]⟩ : ByteArray), s0_0, s0_1, s0_2, true)) else (if 0 ≤ s0_2 then (if s0_2 ≤ (IntKind.u64.wrap (s0_2 + a1)) then (if (IntKind.u64.wrap (s0_2 + a1)) ≤ (s0_1.size : Int) then (some (s0_1.extract (s0_2 : Int).toNat ((IntKind.u64.wrap (s0_2 + a1)) : Int).toNat, s0_0, s0_1, IntKind.u64.wrap (s0_2 + a1), s0_3)) else (none)) else (none)) else (none))))) = some (r1, r2, r3, r4, r5) := h); clear h
  by_cases c3 : s0_3 = true
  · subst c3
    (have H1 : (some ((⟨#[]⟩ : ByteArray), s0_0, s0_1, s0_2, true)) = some (r1, r2, r3, r4, r5) := by rw [if_pos rfl] at H; exact H); clear H; (have H := H1); clear H1; (simp only [Option.some.injEq, Prod.mk.injEq] at H); (obtain ⟨rfl, rfl, rfl, rfl, rfl⟩ := H); (obtain ⟨HGz4, hgz4⟩ := HI0.out); (have hcz4_0 := cellS215_0 HGz4); (have hcz4_1 := cellS215_1 HGz4); (have hcz4_2 := cellS215_2 HGz4); (have hcz4_3 := cellS215_3 HGz4); (have hfz4_0 := blk_frozen HGz4 0); (have hfz4_1 := blk_frozen HGz4 1); (have hfz4_2 := blk_frozen HGz4 2); (have hfz4_3 := blk_frozen HGz4 3); clear HGz4 hgz4; (go_enter Tryd.func105, Tryd.ntmps105); go_wp2
    repeat (go_quiet (fail); try go_wp2)
    (go_ret); exact ⟨by first | rfl | (simp [errW_none, errW_some] <;> rfl) | (simp [*, errW_none, errW_some] <;> rfl), by repeat (first | (with_reducible first | exact HI0.out | apply IsS215.alloc | apply IsS215.drewN | apply IsS215.drew | apply IsS215.set_0 | apply IsS215.set_1 | apply IsS215.set_2 | apply IsS215.set_3) | exact HI0.out), by repeat (first | (with_reducible first | exact HB.out | apply below_alloc | apply pw_below_drewN | apply below_drew1 | refine below_set ?_ (IsS215.ge HI0.out)) | exact HB.out), by repeat (first | (with_reducible first | exact HK.out | apply KeepBut.set_ | apply keep_drewN | apply keep_drew | apply keep_alloc) | exact HK.out)⟩
  · replace c3 := Bool.eq_false_iff.mpr c3
    (subst c3); (have H1 : (if s0_2 > (IntKind.u64.wrap ((s0_1.size : Int))) then (some ((⟨#[]⟩ : ByteArray), s0_0, s0_1, s0_2, true)) else (if a1 > (IntKind.u64.wrap ((IntKind.u64.wrap ((s0_1.size : Int))) - s0_2)) then (some ((⟨#[]⟩ : ByteArray), s0_0, s0_1, s0_2, true)) else (if 0 ≤ s0_2 then (if s0_2 ≤ (IntKind.u64.wrap (s0_2 + a1)) then (if (IntKind.u64.wrap (s0_2 + a1)) ≤ (s0_1.size : Int) then (some (s0_1.extract (s0_2 : Int).toNat ((IntKind.u64.wrap (s0_2 + a1)) : Int).toNat, s0_0, s0_1, IntKind.u64.wrap (s0_2 + a1), false)) else (none)) else (none)) else (none)))) = some (r1, r2, r3, r4, r5) := by rw [if_neg (show ¬ (false = true) by decide)] at H; exact H); clear H; (have H := H1); clear H1
    by_cases c5 : s0_2 > (IntKind.u64.wrap ((s0_1.size : Int)))
    · rw [if_pos c5] at H
      (have c5b0 : decide ((IntKind.u64.wrap ((s0_1.size : Int))) < s0_2) = true := decide_eq_true c5); clear c5; (simp only [Option.some.injEq, Prod.mk.injEq] at H); (obtain ⟨rfl, rfl, rfl, rfl, rfl⟩ := H); (obtain ⟨HGz6, hgz6⟩ := HI0.out); (have hcz6_0 := cellS215_0 HGz6); (have hcz6_1 := cellS215_1 HGz6); (have hcz6_2 := cellS215_2 HGz6); (have hcz6_3 := cellS215_3 HGz6); (have hfz6_0 := blk_frozen HGz6 0); (have hfz6_1 := blk_frozen HGz6 1); (have hfz6_2 := blk_frozen HGz6 2); (have hfz6_3 := blk_frozen HGz6 3); clear HGz6 hgz6; (go_enter Tryd.func105, Tryd.ntmps105); go_wp2
      repeat (go_quiet (fail); try go_wp2)
      (go_ret); exact ⟨by first | rfl | (simp [errW_none, errW_some] <;> rfl) | (simp [*, errW_none, errW_some] <;> rfl), by repeat (first | (with_reducible first | exact HI0.out | apply IsS215.alloc | apply IsS215.drewN | apply IsS215.drew | apply IsS215.set_0 | apply IsS215.set_1 | apply IsS215.set_2 | apply IsS215.set_3) | exact HI0.out), by repeat (first | (with_reducible first | exact HB.out | apply below_alloc | apply pw_below_drewN | apply below_drew1 | refine below_set ?_ (IsS215.ge HI0.out)) | exact HB.out), by repeat (first | (with_reducible first | exact HK.out | apply KeepBut.set_ | apply keep_drewN | apply keep_drew | apply keep_alloc) | exact HK.out)⟩
    · rw [if_neg c5] at H
      (have c5b0 : decide ((IntKind.u64.wrap ((s0_1.size : Int))) < s0_2) = false := decide_eq_false c5); clear c5
      by_cases c7 : a1 > (IntKind.u64.wrap ((IntKind.u64.wrap ((s0_1.size : Int))) - s0_2))
      · rw [if_pos c7] at H
        (have c7b0 : decide ((IntKind.u64.wrap ((IntKind.u64.wrap ((s0_1.size : Int))) - s0_2)) < a1) = true := decide_eq_true c7); clear c7; (simp only [Option.some.injEq, Prod.mk.injEq] at H); (obtain ⟨rfl, rfl, rfl, rfl, rfl⟩ := H); (obtain ⟨HGz8, hgz8⟩ := HI0.out); (have hcz8_0 := cellS215_0 HGz8); (have hcz8_1 := cellS215_1 HGz8); (have hcz8_2 := cellS215_2 HGz8); (have hcz8_3 := cellS215_3 HGz8); (have hfz8_0 := blk_frozen HGz8 0); (have hfz8_1 := blk_frozen HGz8 1); (have hfz8_2 := blk_frozen HGz8 2); (have hfz8_3 := blk_frozen HGz8 3); clear HGz8 hgz8; (go_enter Tryd.func105, Tryd.ntmps105); go_wp2
        repeat (go_quiet (fail); try go_wp2)
        (go_ret); exact ⟨by first | rfl | (simp [errW_none, errW_some] <;> rfl) | (simp [*, errW_none, errW_some] <;> rfl), by repeat (first | (with_reducible first | exact HI0.out | apply IsS215.alloc | apply IsS215.drewN | apply IsS215.drew | apply IsS215.set_0 | apply IsS215.set_1 | apply IsS215.set_2 | apply IsS215.set_3) | exact HI0.out), by repeat (first | (with_reducible first | exact HB.out | apply below_alloc | apply pw_below_drewN | apply below_drew1 | refine below_set ?_ (IsS215.ge HI0.out)) | exact HB.out), by repeat (first | (with_reducible first | exact HK.out | apply KeepBut.set_ | apply keep_drewN | apply keep_drew | apply keep_alloc) | exact HK.out)⟩
      · rw [if_neg c7] at H
        (have c7b0 : decide ((IntKind.u64.wrap ((IntKind.u64.wrap ((s0_1.size : Int))) - s0_2)) < a1) = false := decide_eq_false c7); clear c7
        by_cases c9 : 0 ≤ s0_2
        · rw [if_pos c9] at H
          (have c9b0 := eq_true c9); (have c9b1 : decide (0 ≤ s0_2) = true := decide_eq_true c9); clear c9
          by_cases c10 : s0_2 ≤ (IntKind.u64.wrap (s0_2 + a1))
          · rw [if_pos c10] at H
            (have c10b0 := eq_true c10); have c10b1 : decide (s0_2 ≤ (IntKind.u64.wrap (s0_2 + a1))) = true := decide_eq_true c10
            by_cases c11 : (IntKind.u64.wrap (s0_2 + a1)) ≤ (s0_1.size : Int)
            · rw [if_pos c11] at H
              (have c11b0 := eq_true c11); (have c11b1 : decide ((IntKind.u64.wrap (s0_2 + a1)) ≤ (s0_1.size : Int)) = true := decide_eq_true c11); (obtain ⟨sc12, hsc12⟩ : ∃ s_ : ByteArray, (s0_1.extract (s0_2 : Int).toNat ((IntKind.u64.wrap (s0_2 + a1)) : Int).toNat) = s_ := ⟨_, rfl⟩); (replace H : (some (sc12, s0_0, s0_1, IntKind.u64.wrap (s0_2 + a1), false)) = some (r1, r2, r3, r4, r5) := by first | (rw [hsc12] at H; exact H) | (simp only [hsc12] at H ⊢; exact H) | exact H); ((try (have hsc12n := hsc12; simp only [Int.toNat_natCast] at hsc12n))); (simp only [Option.some.injEq, Prod.mk.injEq] at H); (obtain ⟨rfl, rfl, rfl, rfl, rfl⟩ := H); (obtain ⟨HGz13, hgz13⟩ := HI0.out); (have hcz13_0 := cellS215_0 HGz13); (have hcz13_1 := cellS215_1 HGz13); (have hcz13_2 := cellS215_2 HGz13); (have hcz13_3 := cellS215_3 HGz13); (have hfz13_0 := blk_frozen HGz13 0); (have hfz13_1 := blk_frozen HGz13 1); (have hfz13_2 := blk_frozen HGz13 2); (have hfz13_3 := blk_frozen HGz13 3); clear HGz13 hgz13; (go_enter Tryd.func105, Tryd.ntmps105); go_wp2
              repeat (go_quiet (fail); try go_wp2)
              (go_ret); exact ⟨by first | rfl | (simp [errW_none, errW_some] <;> rfl) | (simp [*, errW_none, errW_some] <;> rfl), by repeat (first | (with_reducible first | exact HI0.out | apply IsS215.alloc | apply IsS215.drewN | apply IsS215.drew | apply IsS215.set_0 | apply IsS215.set_1 | apply IsS215.set_2 | apply IsS215.set_3) | exact HI0.out), by repeat (first | (with_reducible first | exact HB.out | apply below_alloc | apply pw_below_drewN | apply below_drew1 | refine below_set ?_ (IsS215.ge HI0.out)) | exact HB.out), by repeat (first | (with_reducible first | exact HK.out | apply KeepBut.set_ | apply keep_drewN | apply keep_drew | apply keep_alloc) | exact HK.out)⟩
            · (rw [if_neg c11] at H); exact absurd H (by simp)
          · (rw [if_neg c10] at H); exact absurd H (by simp)
        · (rw [if_neg c9] at H); exact absurd H (by simp)
def order_Reader_Bytes_nil.f (a1 : Int) : Option (ByteArray) := some (⟨#[]⟩ : ByteArray)
theorem order_Reader_Bytes_nil.calls (a1 : Int) (r : ByteArray) (w : World) (h : order_Reader_Bytes_nil.f a1 = some r) :
    Calls Tryd.prog 105 #[.pointer none, .int .u64 a1] w fun e w' => e = .returned (.string r) ∧ Below w.heap.size w w' := by
  (simp only [order_Reader_Bytes_nil.f, Option.some.injEq] at h); (subst h); (go_enter Tryd.func105, Tryd.ntmps105); (go_wp2); go_ret
  exact ⟨rfl, Below.refl _ _⟩


/-! ### order_Reader_Next: function 67 -/
def order_Reader_Next.f (k : Nat) (s0_0 : Bool) (s0_1 : ByteArray) (s0_2 : Int) (s0_3 : Bool) (a1 : Int) : Option (Int × Bool × ByteArray × Int × Bool) := if a1 < 1 then (some (0, s0_0, s0_1, s0_2, true)) else (if a1 > 8 then (some (0, s0_0, s0_1, s0_2, true)) else ((order_Reader_Bytes.f s0_0 s0_1 s0_2 s0_3 (IntKind.u64.wrap a1)).bind fun t => ((order_Order_Get.f k s0_0 t.1).bind fun n => (some (n, s0_0, t.2.2.1, t.2.2.2.1, t.2.2.2.2)))))
theorem order_Reader_Next.mono : ∀ a0 a1 a2 a3 a4 k, LeO (order_Reader_Next.f k a0 a1 a2 a3 a4) (order_Reader_Next.f (k + 1) a0 a1 a2 a3 a4) := by
  intro a0 a1 a2 a3 a4 k; (unfold order_Reader_Next.f); exact LeO.ite (LeO.refl _) (LeO.ite (LeO.refl _) (LeO.bind (LeO.refl _) (fun _ => LeO.bind (order_Order_Get.mono _ _ _) (fun _ => LeO.refl _))))
theorem order_Reader_Next.same {b : Bool} {s : ByteArray} {p : Int} {d : Bool} {n : Int} {t : ByteArray × Bool × ByteArray × Int × Bool} (h : order_Reader_Bytes.f b s p d n = some t) : t.2.1 = b := by
  unfold order_Reader_Bytes.f at h
  repeat' (split at h)
  all_goals first | (injection h with h; rw [← h]) | cases h
def order_Reader_Next.T6 : Bool × List (List Nat × List Nat) := (true, [([], []), ([0], [0]), ([1], [1]), ([2], [2]), ([], []), ([], []), ([5], [5]), ([4, 6], [4, 6]), ([3, 7, 7], [3, 7]), ([8, 8, 0, 1, 2, 3, 4, 5, 6, 7, 8], [8])])
def order_Reader_Next.B6 : List Nat := [0, 1, 3, 7, 0, 0, 32, 112, 255, 511]
theorem order_Reader_Next.tab6 : rtab .any (opsOf Tryd.f67 6) = order_Reader_Next.T6 := by kernel_rfl
theorem order_Reader_Next.bits6 : waitsOk order_Reader_Next.T6.2 order_Reader_Next.B6 = true := by kernel_rfl
set_option maxHeartbeats 4000000 in
set_option maxRecDepth 100000 in
theorem order_Reader_Next.calls (k : Nat) (g : Nat) (s0_0 : Bool) (s0_1 : ByteArray) (s0_2 : Int) (s0_3 : Bool) (a1 : Int) (r1 : Int) (r2 : Bool) (r3 : ByteArray) (r4 : Int) (r5 : Bool) (w0 w : World) (hI : IsS215 w0 w g s0_0 s0_1 s0_2 s0_3) (hB : Below w0.heap.size w0 w) (h : order_Reader_Next.f k s0_0 s0_1 s0_2 s0_3 a1 = some (r1, r2, r3, r4, r5)) :
    Calls Tryd.prog 67 #[.pointer (some ⟨g, 0, none⟩), .int .i64 a1] w fun e w' => e = .returned (.int .u64 r1) ∧ IsS215 w0 w' g r2 r3 r4 r5 ∧ Below w0.heap.size w0 w' ∧ KeepBut w w' g none := by
  (have hs := hI); (have HI := aS hI); (have HB := aS hB); (obtain ⟨HGz, hgz⟩ := hs); (have hc0 := cellS215_0 HGz); (have hc3 := cellS215_3 HGz); (have hf3 := blk_frozen HGz 3); clear HGz hgz hI hB; unfold order_Reader_Next.f at h
  have bad : a1 < 1 ∨ a1 > 8 → Calls Tryd.prog 67 #[.pointer (some ⟨g, 0, none⟩), .int .i64 a1] w fun e w' => e = .returned (.int .u64 0) ∧ IsS215 w0 w' g s0_0 s0_1 s0_2 true ∧ Below w0.heap.size w0 w' ∧ KeepBut w w' g none := by
    clear h; intro hbad
    have fin : ∀ W : World, W = w.setCell ⟨g, 3, none⟩ (.bool true) → IsS215 w0 W g s0_0 s0_1 s0_2 true ∧ Below w0.heap.size w0 W ∧ KeepBut w W g none := by
      (rintro W rfl); exact ⟨HI.out.set_3 true, below_set HB.out (IsS215.ge HI.out), (KeepBut.refl w g none).set_ _ _⟩
    (have Fin := aS fin); clear fin
    by_cases c : a1 < 1
    · (have cb : decide (a1 < 1) = true := decide_eq_true c); clear hbad c; (go_enter Tryd.func67, Tryd.ntmps67); (go_wp2); (go_ret); exact ⟨rfl, Fin.out _ rfl⟩
    · (have cb : decide (a1 < 1) = false := decide_eq_false c); (have cb2 : decide (8 < a1) = true := decide_eq_true (by omega)); clear hbad c; (go_enter Tryd.func67, Tryd.ntmps67); (go_wp2); (go_ret); exact ⟨rfl, Fin.out _ rfl⟩
  (have Bad := aS bad); clear bad
  by_cases c1 : a1 < 1
  · (rw [if_pos c1] at h); (simp only [Option.some.injEq, Prod.mk.injEq] at h); (obtain ⟨rfl, rfl, rfl, rfl, rfl⟩ := h); exact Bad.out (.inl c1)
  · rw [if_neg c1] at h
    by_cases c8 : a1 > 8
    · (rw [if_pos c8] at h); (simp only [Option.some.injEq, Prod.mk.injEq] at h); (obtain ⟨rfl, rfl, rfl, rfl, rfl⟩ := h); exact Bad.out (.inr c8)
    · rw [if_neg c8] at h
      clear Bad; (obtain ⟨⟨t1, t2, t3, t4, t5⟩, ht, h⟩ := Option.bind_eq_some_iff.mp h); (obtain ⟨n, hn, h⟩ := Option.bind_eq_some_iff.mp h); (have hsame := order_Reader_Next.same ht); (simp only at hsame hn h); (simp only [Option.some.injEq, Prod.mk.injEq] at h); (obtain ⟨rfl, rfl, rfl, rfl, rfl⟩ := h); (replace hsame := hsame.symm); (subst hsame); (obtain ⟨u, hu⟩ : ∃ u : Int, IntKind.u64.wrap a1 = u := ⟨_, rfl⟩); (rw [hu] at ht); (have HT := aS ht); (have HN := aS hn); (have c1b : decide (a1 < 1) = false := decide_eq_false c1); (have c8b : decide (8 < a1) = false := decide_eq_false c8); clear ht hn c1 c8 hc3 hf3 hc0; (have HS : Aside0 (∀ (W : World) (q1 : ByteArray) (q2 : Int) (q3 : Bool), IsS215 w0 W g s0_0 q1 q2 q3 → W.cell? ⟨g, 0, none⟩ = some (.bool s0_0)) := ⟨fun W q1 q2 q3 hq => cellS215_0 hq.1⟩); (go_enter Tryd.func67, Tryd.ntmps67); (go_wp2); (refine start_ (n := 10) (S := (fun w' => w'.cell? ⟨g, 0, none⟩ = some (.bool s0_0))) (ds := []) #[false, false, false, false, false, false, false, false, false, false] (by kernel_rfl) rfl rfl ((HS.out _ _ _ _ HI.out.drew)) (fun hHeld => ?_); refine with_tabW order_Reader_Next.tab6 order_Reader_Next.bits6 (fun HT_ HW_ => ?_)); (have n0_ := aS HI.out.drew); (have n1_ := aS (below_drew1 HB.out)); (have HK := aS (keep_drew (KeepBut.refl w g none))); clear HI HB; (have HI := n0_); (have HB := n1_); clear n0_ n1_; (generalize hW : w.drew = W at HB HI HK hHeld ⊢); clear hW; (refine pU 0 16 (bm 10 1) ?_); (refine pU 1 17 (bm 10 3) ?_); (refine pU 2 18 (bm 10 7) ?_); (refine pU 4 20 (bm 10 23) ?_); (refine pU 5 21 (bm 10 55) ?_); (refine pU 6 22 (bm 10 119) ?_); refine tU 3 19 (bm 10 127) hHeld ?_
      (refine one_ (i := 7) (N := (some 23)) (bm 10 255) rfl rfl (one_of HT_.out (by kernel_rfl)) (by decide) (fun K hK => ?_)); (refine goes_ Tryd.func105 (by kernel_rfl) rfl #[.pointer (some ⟨g, 0, none⟩), .int .u64 u] (by rfl) rfl rfl (by (try simp only [List.map_toArray, List.map_cons, List.map_nil]); first | done | rfl) ?_); (with_reducible refine (order_Reader_Bytes.calls g s0_0 s0_1 s0_2 s0_3 u t1 s0_0 t3 t4 t5 w0 _ HI.out HB.out HT.out).mono ?_); (rintro e w2 ⟨rfl, hi, hb, hk⟩); (refine ⟨_, rfl, ?_⟩); (have n0_ := aS hi); (have n1_ := aS hb); (have n2_ := aS (HK.out.trans hk (.inl rfl))); clear HI HB HK hi hb hk; (have HI := n0_); (have HB := n1_); (have HK := n2_); clear n0_ n1_ n2_; (refine hK.out _ _ (HS.out _ _ _ _ HI.out) (fun hHeld => ?_)); clear hK K; (refine norm_ (a' := ?_) ?_ ?_); rotate_left
      · (show Act.put _ (some 23) _ = _); (simp only [Act.put, List.setIfInBounds_toArray, List.set_cons_zero, List.set_cons_succ, i64_w, i32_w]); rfl
      (refine one_ (i := 8) (N := (some 24)) (bm 10 511) rfl rfl (one_of HT_.out (by kernel_rfl)) (by decide) (fun K hK => ?_)); (refine goes_ Tryd.func104 (by kernel_rfl) rfl #[.agg #[.bool s0_0], .string t1] (by rfl) rfl rfl (by (try simp only [List.map_toArray, List.map_cons, List.map_nil]); first | done | rfl) ?_); (with_reducible refine (order_Order_Get.calls k s0_0 t1 n _ HN.out).mono ?_); (rintro e w3 ⟨rfl, hb⟩); (refine ⟨_, rfl, ?_⟩); (have n0_ := aS (HI.out.below hb)); (have n1_ := aS (below_step HB.out hb)); (have n2_ := aS (HK.out.trans (KeepBut.of_below hb g none) (.inl rfl))); clear HI HB HK hb; (have HI := n0_); (have HB := n1_); (have HK := n2_); clear n0_ n1_ n2_; (refine hK.out _ _ (HS.out _ _ _ _ HI.out) (fun hHeld => ?_)); clear hK K; (refine norm_ (a' := ?_) ?_ ?_); rotate_left
      · (show Act.put _ (some 24) _ = _); (simp only [Act.put, List.setIfInBounds_toArray, List.set_cons_zero, List.set_cons_succ, i64_w, i32_w]); rfl
      (refine pU 9 4 (bm 10 1023) ?_); (refine done_ (done_of HT_.out (by kernel_rfl)) ?_); (go_wp2); (go_ret); exact ⟨rfl, HI.out, HB.out, HK.out⟩
def order_Reader_Next_nil.f (a1 : Int) : Option (Int) := some 0
theorem order_Reader_Next_nil.calls (a1 : Int) (r : Int) (w : World) (h : order_Reader_Next_nil.f a1 = some r) :
    Calls Tryd.prog 67 #[.pointer none, .int .i64 a1] w fun e w' => e = .returned (.int .u64 r) ∧ Below w.heap.size w w' := by
  (simp only [order_Reader_Next_nil.f, Option.some.injEq] at h); (subst h); (go_enter Tryd.func67, Tryd.ntmps67); (go_wp2); go_ret
  exact ⟨rfl, Below.refl _ _⟩


end Go.Proofs.YteoeohkjomehoaaDoor.Q
