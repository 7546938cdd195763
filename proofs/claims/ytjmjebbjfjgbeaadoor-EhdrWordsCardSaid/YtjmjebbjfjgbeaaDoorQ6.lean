/- What Go functions of the program compute, each as a Lean function with the proof that the call returns just that. No condition but those in the statements. -/
import Derived.Test.YtjmjebbjfjgbeaaDoorQ0
import Derived.Test.YtjmjebbjfjgbeaaDoorQ3
import Derived.Test.YtjmjebbjfjgbeaaDoorQ5
import Derived.Test.YtjmjebbjfjgbeaaDoorPts
namespace Go.Proofs.YtjmjebbjfjgbeaaDoor.Q
open Go.RowKit Go.Proofs.YtjmjebbjfjgbeaaDoorW.PrintWords Go.Proofs.YtjmjebbjfjgbeaaDoorW.PrintLast Go.Proofs.YtjmjebbjfjgbeaaDoorW.PrintMore
attribute [local go_sem] max2_int min2_int max_two min_two max_three min_three max_four min_four   -- for this text's walks alone
set_option linter.unusedVariables false
set_option linter.unusedSimpArgs false

/-! ### ehdr_Put: function 49 -/
def ehdr_Put.vals (a0_1 : Bool) (a1_0 a1_1 a1_2 a1_3 a1_4 a1_5 a1_6 a1_7 a1_8 a1_9 a1_10 a1_11 a1_12 : Int) : List Int := [a1_0, a1_1, a1_2, a1_3, a1_4, a1_5, a1_6, a1_7, a1_8, a1_9, a1_10, a1_11, a1_12]
def ehdr_Put.f (k : Nat) (a0_0 a0_1 : Bool) (a1_0 a1_1 a1_2 a1_3 a1_4 a1_5 a1_6 a1_7 a1_8 a1_9 a1_10 a1_11 a1_12 : Int) : Option (ByteArray × Bool) := (ehdr_Head_shape.f k a0_0 a0_1).bind fun t => class_Form_Record.f k a0_0 a0_1 t.1 (ehdr_Put.vals a0_1 a1_0 a1_1 a1_2 a1_3 a1_4 a1_5 a1_6 a1_7 a1_8 a1_9 a1_10 a1_11 a1_12)
theorem ehdr_Put.mono : ∀ a0 a1 a1_0 a1_1 a1_2 a1_3 a1_4 a1_5 a1_6 a1_7 a1_8 a1_9 a1_10 a1_11 a1_12 k, LeO (ehdr_Put.f k a0 a1 a1_0 a1_1 a1_2 a1_3 a1_4 a1_5 a1_6 a1_7 a1_8 a1_9 a1_10 a1_11 a1_12) (ehdr_Put.f (k + 1) a0 a1 a1_0 a1_1 a1_2 a1_3 a1_4 a1_5 a1_6 a1_7 a1_8 a1_9 a1_10 a1_11 a1_12) := fun a0 a1 a1_0 a1_1 a1_2 a1_3 a1_4 a1_5 a1_6 a1_7 a1_8 a1_9 a1_10 a1_11 a1_12 k => LeO.bind (ehdr_Head_shape.mono a0 a1 k) (fun _ => class_Form_Record.mono _ _ _ _ k)
theorem ehdr_Put.info : (Tryd.prog.info? 22).map (fun i => (i.zero, i.size, i.bytes)) = some (some (.int .u64 0), 1, 8) := by kernel_rfl
theorem ehdr_Put.len (a0_1 : Bool) (a1_0 a1_1 a1_2 a1_3 a1_4 a1_5 a1_6 a1_7 a1_8 a1_9 a1_10 a1_11 a1_12 : Int) : (ehdr_Put.vals a0_1 a1_0 a1_1 a1_2 a1_3 a1_4 a1_5 a1_6 a1_7 a1_8 a1_9 a1_10 a1_11 a1_12).length = 13 := by cases a0_1 <;> rfl
theorem ehdr_Put.ptl (a0_1 : Bool) (bx : Nat) : (ehdr_Head_shape.pts a0_1 bx).length = 13 := by cases a0_1 <;> rfl
theorem ehdr_Put.more (l : List Int) (i : Nat) (h : i < l.length) : l.take i ++ [rd l i] = l.take (i + 1) := by
  rw [List.take_add_one, List.getElem?_eq_getElem h]
  simp [rd, rdOf, h]
theorem ehdr_Put.at_ (a0_1 : Bool) (a1_0 a1_1 a1_2 a1_3 a1_4 a1_5 a1_6 a1_7 a1_8 a1_9 a1_10 a1_11 a1_12 : Int) (bx : Nat) (A0 : Option Addr) (W : World) (hc : kAddr.C W A0 (ehdr_Head_shape.pts a0_1 bx).length (ehdr_Head_shape.pts a0_1 bx)) (hb : W.heap[bx]? = some (.cells #[Value.int IntKind.u64 a1_0, Value.int IntKind.u64 a1_1, Value.int IntKind.u64 a1_2, Value.int IntKind.u64 a1_3, Value.int IntKind.u64 a1_4, Value.int IntKind.u64 a1_5, Value.int IntKind.u64 a1_6, Value.int IntKind.u64 a1_7, Value.int IntKind.u64 a1_8, Value.int IntKind.u64 a1_9, Value.int IntKind.u64 a1_10, Value.int IntKind.u64 a1_11, Value.int IntKind.u64 a1_12] 54 (0, 0))) (i : Nat) (hi : i < 13) :
    ∃ o : Nat, (∃ ad, A0 = some ad ∧ W.cell? (ad.add (i : Int).toNat) = some (.pointer (some ⟨bx, o, none⟩))) ∧ W.cell? ⟨bx, o, none⟩ = some (.int .u64 (rd (ehdr_Put.vals a0_1 a1_0 a1_1 a1_2 a1_3 a1_4 a1_5 a1_6 a1_7 a1_8 a1_9 a1_10 a1_11 a1_12) i)) := by
  obtain ⟨ad, e, h⟩ := at_addr hc (i : Int) (by omega) (by rw [ehdr_Put.ptl]; omega)
  have hs : i = 0 ∨ i = 1 ∨ i = 2 ∨ i = 3 ∨ i = 4 ∨ i = 5 ∨ i = 6 ∨ i = 7 ∨ i = 8 ∨ i = 9 ∨ i = 10 ∨ i = 11 ∨ i = 12 := by omega
  rcases hs with rfl | rfl | rfl | rfl | rfl | rfl | rfl | rfl | rfl | rfl | rfl | rfl | rfl <;> cases a0_1 <;> exact ⟨_, ⟨ad, e, h⟩, (blk_cell hb _).trans rfl⟩
set_option maxHeartbeats 4000000 in
set_option maxRecDepth 100000 in
theorem ehdr_Put.calls (k : Nat) (a0_0 a0_1 : Bool) (a1_0 a1_1 a1_2 a1_3 a1_4 a1_5 a1_6 a1_7 a1_8 a1_9 a1_10 a1_11 a1_12 : Int) (r1 : ByteArray) (r2 : Bool) (w : World) (hlaid : Laid_ehdr w) (h : ehdr_Put.f k a0_0 a0_1 a1_0 a1_1 a1_2 a1_3 a1_4 a1_5 a1_6 a1_7 a1_8 a1_9 a1_10 a1_11 a1_12 = some (r1, r2)) : Calls Tryd.prog 49 #[.agg #[.bool a0_0, .bool a0_1], .agg #[.int .u64 a1_0, .int .u64 a1_1, .int .u64 a1_2, .int .u64 a1_3, .int .u64 a1_4, .int .u64 a1_5, .int .u64 a1_6, .int .u64 a1_7, .int .u64 a1_8, .int .u64 a1_9, .int .u64 a1_10, .int .u64 a1_11, .int .u64 a1_12]] w fun e w' => e = .returned (.tuple #[.string r1, .bool r2]) ∧ Below w.heap.size w w' := by
  obtain ⟨⟨l, n⟩, hs, h⟩ := Option.bind_eq_some_iff.mp h
  have HS := Aside0.mk hs
  have HR := Aside0.mk h
  have HL := Aside0.mk hlaid
  clear hs h hlaid
  have hB0 : Below w.heap.size w ((w.alloc (Obj.cells #[Value.bool a0_0, Value.bool a0_1] 29)).alloc (Obj.cells #[Value.int IntKind.u64 a1_0, Value.int IntKind.u64 a1_1, Value.int IntKind.u64 a1_2, Value.int IntKind.u64 a1_3, Value.int IntKind.u64 a1_4, Value.int IntKind.u64 a1_5, Value.int IntKind.u64 a1_6, Value.int IntKind.u64 a1_7, Value.int IntKind.u64 a1_8, Value.int IntKind.u64 a1_9, Value.int IntKind.u64 a1_10, Value.int IntKind.u64 a1_11, Value.int IntKind.u64 a1_12] 54)) := ((Below.refl _ _).alloc (Nat.le_refl _) _).alloc (by simp) _
  have hF0 : ((w.alloc (Obj.cells #[Value.bool a0_0, Value.bool a0_1] 29)).alloc (Obj.cells #[Value.int IntKind.u64 a1_0, Value.int IntKind.u64 a1_1, Value.int IntKind.u64 a1_2, Value.int IntKind.u64 a1_3, Value.int IntKind.u64 a1_4, Value.int IntKind.u64 a1_5, Value.int IntKind.u64 a1_6, Value.int IntKind.u64 a1_7, Value.int IntKind.u64 a1_8, Value.int IntKind.u64 a1_9, Value.int IntKind.u64 a1_10, Value.int IntKind.u64 a1_11, Value.int IntKind.u64 a1_12] 54)).heap[w.heap.size]? = some (.cells #[.bool a0_0, .bool a0_1] 29 (0, 0)) := blk_alloc (blk_new w _) _
  have hX0 : ((w.alloc (Obj.cells #[Value.bool a0_0, Value.bool a0_1] 29)).alloc (Obj.cells #[Value.int IntKind.u64 a1_0, Value.int IntKind.u64 a1_1, Value.int IntKind.u64 a1_2, Value.int IntKind.u64 a1_3, Value.int IntKind.u64 a1_4, Value.int IntKind.u64 a1_5, Value.int IntKind.u64 a1_6, Value.int IntKind.u64 a1_7, Value.int IntKind.u64 a1_8, Value.int IntKind.u64 a1_9, Value.int IntKind.u64 a1_10, Value.int IntKind.u64 a1_11, Value.int IntKind.u64 a1_12] 54)).heap[w.heap.size + 1]? = some (.cells #[Value.int IntKind.u64 a1_0, Value.int IntKind.u64 a1_1, Value.int IntKind.u64 a1_2, Value.int IntKind.u64 a1_3, Value.int IntKind.u64 a1_4, Value.int IntKind.u64 a1_5, Value.int IntKind.u64 a1_6, Value.int IntKind.u64 a1_7, Value.int IntKind.u64 a1_8, Value.int IntKind.u64 a1_9, Value.int IntKind.u64 a1_10, Value.int IntKind.u64 a1_11, Value.int IntKind.u64 a1_12] 54 (0, 0)) := by have := blk_new (w.alloc (Obj.cells #[Value.bool a0_0, Value.bool a0_1] 29)) (Obj.cells #[Value.int IntKind.u64 a1_0, Value.int IntKind.u64 a1_1, Value.int IntKind.u64 a1_2, Value.int IntKind.u64 a1_3, Value.int IntKind.u64 a1_4, Value.int IntKind.u64 a1_5, Value.int IntKind.u64 a1_6, Value.int IntKind.u64 a1_7, Value.int IntKind.u64 a1_8, Value.int IntKind.u64 a1_9, Value.int IntKind.u64 a1_10, Value.int IntKind.u64 a1_11, Value.int IntKind.u64 a1_12] 54); simpa using this
  have hc0 := (blk_cell hF0 0).trans rfl
  have hc1 := (blk_cell hF0 1).trans rfl
  have HB := Aside0.mk hB0
  have HF := Aside0.mk hF0
  have HX := Aside0.mk hX0
  clear hB0 hF0 hX0
  go_enter Tryd.func49, Tryd.ntmps49
  go_wp2_with (go_at_call 51; refine (ehdr_Head_shape.calls k _ a0_0 a0_1 l n _ (Laid_ehdr.below HL.out HB.out) HS.out).mono ?_; rintro e w3 ⟨v0, v1, rfl, hr0, hr1, hb⟩; obtain ⟨A0, c0, rfl, hl0, hq0⟩ := Kd.R_reads hr0; obtain ⟨A1, c1_, rfl, hl1, hq1⟩ := Kd.R_reads hr1; have hF := blk_below HF.out hb; have hX := blk_below HX.out hb; have hB := below_step HB.out hb; clear hr0 hr1 hb HB HF HX; have HB := Aside0.mk hB; have HF := Aside0.mk hF; have HV := Aside0.mk (ehdr_Put.at_ a0_1 a1_0 a1_1 a1_2 a1_3 a1_4 a1_5 a1_6 a1_7 a1_8 a1_9 a1_10 a1_11 a1_12 (w.heap.size + 1) A0 w3 hq0 hX); have HQ := Aside0.mk hq1; have HQL := Aside0.mk hl1; clear hB hF hX hq0 hq1 hl0 hl1; generalize hgL : (ehdr_Head_shape.pts a0_1 (w.heap.size + 1)).length = L; rw [ehdr_Put.ptl] at hgL; have HGL := Aside0.mk hgL; clear hgL)
  go_loopg [9, 20] 13 (fun kq v9 v20 w' => ∃ (i : Nat), v20 = .int .i64 (i : Int) ∧ Aside0 (kq + i = 13) ∧ Aside0 (Kd.R (Kd.int .u64) 22 w' w3.heap.size (fun _ => True) v9 ((ehdr_Put.vals a0_1 a1_0 a1_1 a1_2 a1_3 a1_4 a1_5 a1_6 a1_7 a1_8 a1_9 a1_10 a1_11 a1_12).take i)) ∧ Aside0 (Below w3.heap.size w3 w'))
  case atStart => exact ⟨0, rfl, ⟨rfl⟩, ⟨Kd.R_nil _ _ _ _ _⟩, ⟨Below.refl _ _⟩⟩
  case round =>
    obtain ⟨i, rfl, HI, HO, HW⟩ := hrel
    by_cases hi : i < 13
    · cases gk with
      | zero => exact absurd HI.out (by omega)
      | succ gk =>
      obtain ⟨o, ⟨ad, e, hx⟩, hv⟩ := HV.out i hi
      cases e
      replace hx := pw_cell_below HW.out hx
      rw [Int.toNat_natCast] at hx
      replace hv := pw_cell_below HW.out hv
      have p0 : (0 ≤ (i : Int)) = True := eq_true (by omega)
      have p1 : ((i : Int) < (L : Int)) = True := eq_true (by have := HGL.out; omega)
      have c1b : decide ((i : Int) < (L : Int)) = true := decide_eq_true (by have := HGL.out; omega)
      have hwr : IntKind.i64.wrap ((i : Int) + 1) = ((i + 1 : Nat) : Int) := by rw [IntKind.wrap_i64]; omega
      have HII := Aside0.mk hi
      clear hi
      go_wp2_with (first | ((with_reducible refine gate_builtin (b := .append) (xs := #[.tmp 24, .tmp 28]) rfl ?_); at_builtin; refine Kd.R_append (Kd.int .u64) (w0 := w3) w3.heap.size rfl (.tmp 24) (.tmp 28) 45 22 (.int .u64 0) 8 rfl Tryd.underlying45 ehdr_Put.info rfl (by decide) (by omega) u9 ((ehdr_Put.vals a0_1 a1_0 a1_1 a1_2 a1_3 a1_4 a1_5 a1_6 a1_7 a1_8 a1_9 a1_10 a1_11 a1_12).take i) (rd (ehdr_Put.vals a0_1 a1_0 a1_1 a1_2 a1_3 a1_4 a1_5 a1_6 a1_7 a1_8 a1_9 a1_10 a1_11 a1_12) i) [.int .u64 (rd (ehdr_Put.vals a0_1 a1_0 a1_1 a1_2 a1_3 a1_4 a1_5 a1_6 a1_7 a1_8 a1_9 a1_10 a1_11 a1_12) i)] (fun _ => True) (fun _ => False) rfl rfl ?aP (fun _ hk => hk.elim) ?aF ?aO ?aB ?aS ?aL ?_; (case aP => exact rfl); (case aB => exact (by repeat (first | (with_reducible first | exact HW.out | apply below_alloc | apply pw_below_drewN | apply below_drew1) | exact HW.out))); (case aF => exact (fun _ _ => trivial)); (case aO => exact (by (with_reducible repeat (first | apply Kd.R_alloc | apply Kd.R_drewN | apply Kd.R_drew)); exact HO.out)); (case aS => exact (below_size (by repeat (first | (with_reducible first | exact HW.out | apply below_alloc | apply pw_below_drewN | apply below_drew1) | exact HW.out)))); (case aL => have := HII.out; simp only [List.length_take]; omega); intro v110 w14 ho hb hg hat; rw [ehdr_Put.more _ _ (by rw [ehdr_Put.len]; exact HII.out)] at ho; have n1_ := Aside0.mk (hb); have n2_ := Aside0.mk (ho); clear HW HO ho hb hg hat; have HW := n1_; have HO := n2_; clear n1_ n2_))
      go_roundg gk
      case measure => omega
      case rel => exact ⟨i + 1, rfl, ⟨by have := HI.out; omega⟩, HO, HW⟩
    · have hO := HO.out
      rw [List.take_of_length_le (by rw [ehdr_Put.len]; omega)] at hO
      obtain ⟨A9, c9, rfl, hl9, hq9⟩ := Kd.R_reads hO
      have c1b : decide (i < L) = false := decide_eq_false (by have := HGL.out; omega)
      have hF := blk_below HF.out HW.out
      have hc0 := (blk_cell hF 0).trans rfl
      have hc1 := (blk_cell hF 1).trans rfl
      have HQ9 := Aside0.mk hq9
      have HL9 := Aside0.mk hl9
      clear hO hq9 hl9 hF hi
      go_wp2_with (go_at_call 33; refine (class_Form_Record.calls k a0_0 a0_1 A1 c1_ l A9 c9 (ehdr_Put.vals a0_1 a1_0 a1_1 a1_2 a1_3 a1_4 a1_5 a1_6 a1_7 a1_8 a1_9 a1_10 a1_11 a1_12) r1 r2 _ (Kd.C_below HQ.out HW.out) HQL.out HQ9.out HL9.out HR.out).mono ?_; rintro e w5 ⟨rfl, hb⟩)
      go_ret2
      exact ⟨rfl, below_step (below_step HB.out HW.out) hb⟩


end Go.Proofs.YtjmjebbjfjgbeaaDoor.Q
