/- What Go functions of the program compute, each as a Lean function with the proof that the call returns just that. No condition but those in the statements. -/
import Derived.Test.YteoeohkjomehoaaDoorQ0
import Derived.Test.YteoeohkjomehoaaDoorQ3
import Derived.Test.YteoeohkjomehoaaDoorQ4
import Derived.Test.YteoeohkjomehoaaDoorPts
namespace Go.Proofs.YteoeohkjomehoaaDoor.Q
open Go.RowKit Go.Proofs.YteoeohkjomehoaaDoorW.PrintWords Go.Proofs.YteoeohkjomehoaaDoorW.PrintLast Go.Proofs.YteoeohkjomehoaaDoorW.PrintMore
attribute [local go_sem] max2_int min2_int max_two min_two max_three min_three max_four min_four   -- for this text's walks alone
set_option linter.unusedVariables false
set_option linter.unusedSimpArgs false

/-! ### symrec_Put: function 18 -/
def symrec_Put.vals (a0_1 : Bool) (a1_0 a1_1 a1_2 a1_3 a1_4 a1_5 : Int) : List Int := (if a0_1 = true then [a1_0, a1_1, a1_2, a1_3, a1_4, a1_5] else [a1_0, a1_4, a1_5, a1_1, a1_2, a1_3])
def symrec_Put.f (k : Nat) (a0_0 a0_1 : Bool) (a1_0 a1_1 a1_2 a1_3 a1_4 a1_5 : Int) : Option (ByteArray × Bool) := (symrec_Symbol_shape.f k a0_0 a0_1).bind fun t => class_Form_Record.f k a0_0 a0_1 t.1 (symrec_Put.vals a0_1 a1_0 a1_1 a1_2 a1_3 a1_4 a1_5)
theorem symrec_Put.mono : ∀ a0 a1 a1_0 a1_1 a1_2 a1_3 a1_4 a1_5 k, LeO (symrec_Put.f k a0 a1 a1_0 a1_1 a1_2 a1_3 a1_4 a1_5) (symrec_Put.f (k + 1) a0 a1 a1_0 a1_1 a1_2 a1_3 a1_4 a1_5) := fun a0 a1 a1_0 a1_1 a1_2 a1_3 a1_4 a1_5 k => LeO.bind (symrec_Symbol_shape.mono a0 a1 k) (fun _ => class_Form_Record.mono _ _ _ _ k)
theorem symrec_Put.info : (Tryd.prog.info? 34).map (fun i => (i.zero, i.size, i.bytes)) = some (some (.int .u64 0), 1, 8) := by kernel_rfl
theorem symrec_Put.len (a0_1 : Bool) (a1_0 a1_1 a1_2 a1_3 a1_4 a1_5 : Int) : (symrec_Put.vals a0_1 a1_0 a1_1 a1_2 a1_3 a1_4 a1_5).length = 6 := by cases a0_1 <;> rfl
theorem symrec_Put.ptl (a0_1 : Bool) (bx : Nat) : (symrec_Symbol_shape.pts a0_1 bx).length = 6 := by cases a0_1 <;> rfl
theorem symrec_Put.more (l : List Int) (i : Nat) (h : i < l.length) : l.take i ++ [rd l i] = l.take (i + 1) := by
  rw [List.take_add_one, List.getElem?_eq_getElem h]
  simp [rd, rdOf, h]
theorem symrec_Put.at_ (a0_1 : Bool) (a1_0 a1_1 a1_2 a1_3 a1_4 a1_5 : Int) (bx : Nat) (A0 : Option Addr) (W : World) (hc : kAddr.C W A0 (symrec_Symbol_shape.pts a0_1 bx).length (symrec_Symbol_shape.pts a0_1 bx)) (hb : W.heap[bx]? = some (.cells #[Value.int IntKind.u64 a1_0, Value.int IntKind.u64 a1_1, Value.int IntKind.u64 a1_2, Value.int IntKind.u64 a1_3, Value.int IntKind.u64 a1_4, Value.int IntKind.u64 a1_5] 48 (0, 0))) (i : Nat) (hi : i < 6) :
    ∃ o : Nat, (∃ ad, A0 = some ad ∧ W.cell? (ad.add (i : Int).toNat) = some (.pointer (some ⟨bx, o, none⟩))) ∧ W.cell? ⟨bx, o, none⟩ = some (.int .u64 (rd (symrec_Put.vals a0_1 a1_0 a1_1 a1_2 a1_3 a1_4 a1_5) i)) := by
  obtain ⟨ad, e, h⟩ := at_addr hc (i : Int) (by omega) (by rw [symrec_Put.ptl]; omega)
  have hs : i = 0 ∨ i = 1 ∨ i = 2 ∨ i = 3 ∨ i = 4 ∨ i = 5 := by omega
  rcases hs with rfl | rfl | rfl | rfl | rfl | rfl <;> cases a0_1 <;> exact ⟨_, ⟨ad, e, h⟩, (blk_cell hb _).trans rfl⟩
set_option maxHeartbeats 4000000 in
set_option maxRecDepth 100000 in
theorem symrec_Put.calls (k : Nat) (a0_0 a0_1 : Bool) (a1_0 a1_1 a1_2 a1_3 a1_4 a1_5 : Int) (r1 : ByteArray) (r2 : Bool) (w : World) (hlaid : Laid_symrec w) (h : symrec_Put.f k a0_0 a0_1 a1_0 a1_1 a1_2 a1_3 a1_4 a1_5 = some (r1, r2)) : Calls Tryd.prog 18 #[.agg #[.bool a0_0, .bool a0_1], .agg #[.int .u64 a1_0, .int .u64 a1_1, .int .u64 a1_2, .int .u64 a1_3, .int .u64 a1_4, .int .u64 a1_5]] w fun e w' => e = .returned (.tuple #[.string r1, .bool r2]) ∧ Below w.heap.size w w' := by
  obtain ⟨⟨l, n⟩, hs, h⟩ := Option.bind_eq_some_iff.mp h
  have HS := Aside0.mk hs
  have HR := Aside0.mk h
  have HL := Aside0.mk hlaid
  clear hs h hlaid
  have hB0 : Below w.heap.size w ((w.alloc (Obj.cells #[Value.bool a0_0, Value.bool a0_1] 27)).alloc (Obj.cells #[Value.int IntKind.u64 a1_0, Value.int IntKind.u64 a1_1, Value.int IntKind.u64 a1_2, Value.int IntKind.u64 a1_3, Value.int IntKind.u64 a1_4, Value.int IntKind.u64 a1_5] 48)) := ((Below.refl _ _).alloc (Nat.le_refl _) _).alloc (by simp) _
  have hF0 : ((w.alloc (Obj.cells #[Value.bool a0_0, Value.bool a0_1] 27)).alloc (Obj.cells #[Value.int IntKind.u64 a1_0, Value.int IntKind.u64 a1_1, Value.int IntKind.u64 a1_2, Value.int IntKind.u64 a1_3, Value.int IntKind.u64 a1_4, Value.int IntKind.u64 a1_5] 48)).heap[w.heap.size]? = some (.cells #[.bool a0_0, .bool a0_1] 27 (0, 0)) := blk_alloc (blk_new w _) _
  have hX0 : ((w.alloc (Obj.cells #[Value.bool a0_0, Value.bool a0_1] 27)).alloc (Obj.cells #[Value.int IntKind.u64 a1_0, Value.int IntKind.u64 a1_1, Value.int IntKind.u64 a1_2, Value.int IntKind.u64 a1_3, Value.int IntKind.u64 a1_4, Value.int IntKind.u64 a1_5] 48)).heap[w.heap.size + 1]? = some (.cells #[Value.int IntKind.u64 a1_0, Value.int IntKind.u64 a1_1, Value.int IntKind.u64 a1_2, Value.int IntKind.u64 a1_3, Value.int IntKind.u64 a1_4, Value.int IntKind.u64 a1_5] 48 (0, 0)) := by have := blk_new (w.alloc (Obj.cells #[Value.bool a0_0, Value.bool a0_1] 27)) (Obj.cells #[Value.int IntKind.u64 a1_0, Value.int IntKind.u64 a1_1, Value.int IntKind.u64 a1_2, Value.int IntKind.u64 a1_3, Value.int IntKind.u64 a1_4, Value.int IntKind.u64 a1_5] 48); simpa using this
  have hc0 := (blk_cell hF0 0).trans rfl
  have hc1 := (blk_cell hF0 1).trans rfl
  have HB := Aside0.mk hB0
  have HF := Aside0.mk hF0
  have HX := Aside0.mk hX0
  clear hB0 hF0 hX0
  go_enter Tryd.func18, Tryd.ntmps18
  go_wp2_with (go_at_call 60; refine (symrec_Symbol_shape.calls k _ a0_0 a0_1 l n _ (Laid_symrec.below HL.out HB.out) HS.out).mono ?_; rintro e w3 ⟨v0, v1, rfl, hr0, hr1, hb⟩; obtain ⟨A0, c0, rfl, hl0, hq0⟩ := Kd.R_reads hr0; obtain ⟨A1, c1_, rfl, hl1, hq1⟩ := Kd.R_reads hr1; have hF := blk_below HF.out hb; have hX := blk_below HX.out hb; have hB := below_step HB.out hb; clear hr0 hr1 hb HB HF HX; have HB := Aside0.mk hB; have HF := Aside0.mk hF; have HV := Aside0.mk (symrec_Put.at_ a0_1 a1_0 a1_1 a1_2 a1_3 a1_4 a1_5 (w.heap.size + 1) A0 w3 hq0 hX); have HQ := Aside0.mk hq1; have HQL := Aside0.mk hl1; clear hB hF hX hq0 hq1 hl0 hl1; generalize hgL : (symrec_Symbol_shape.pts a0_1 (w.heap.size + 1)).length = L; rw [symrec_Put.ptl] at hgL; have HGL := Aside0.mk hgL; clear hgL)
  go_loopg [9, 20] 6 (fun kq v9 v20 w' => ∃ (i : Nat), v20 = .int .i64 (i : Int) ∧ Aside0 (kq + i = 6) ∧ Aside0 (Kd.R (Kd.int .u64) 34 w' w3.heap.size (fun _ => True) v9 ((symrec_Put.vals a0_1 a1_0 a1_1 a1_2 a1_3 a1_4 a1_5).take i)) ∧ Aside0 (Below w3.heap.size w3 w'))
  case atStart => exact ⟨0, rfl, ⟨rfl⟩, ⟨Kd.R_nil _ _ _ _ _⟩, ⟨Below.refl _ _⟩⟩
  case round =>
    obtain ⟨i, rfl, HI, HO, HW⟩ := hrel
    by_cases hi : i < 6
    · cases gk with
      | zero => exact absurd HI.out (by omega)
      | succ gk =>
      obtain ⟨o, ⟨ad, e, hx⟩, hv⟩ := HV.out i hi
      cases e
      replace hx := pw_cell_below HW.out hx
      rw [Int.toNat_natCast] at hx
      replace hv := pw_cell_below HW.out hv
      have p0 : (0 ≤ (i : Int)) = True := eq_true (by omega)
      have p1 : ((i : Int) < (L : Int)) = True := eq_true (by have := HGL.out; omega)
      have c1b : decide ((i : Int) < (L : Int)) = true := decide_eq_true (by have := HGL.out; omega)
      have hwr : IntKind.i64.wrap ((i : Int) + 1) = ((i + 1 : Nat) : Int) := by rw [IntKind.wrap_i64]; omega
      have HII := Aside0.mk hi
      clear hi
      go_wp2_with (first | ((with_reducible refine gate_builtin (b := .append) (xs := #[.tmp 24, .tmp 28]) rfl ?_); at_builtin; refine Kd.R_append (Kd.int .u64) (w0 := w3) w3.heap.size rfl (.tmp 24) (.tmp 28) 75 34 (.int .u64 0) 8 rfl Tryd.underlying75 symrec_Put.info rfl (by decide) (by omega) u9 ((symrec_Put.vals a0_1 a1_0 a1_1 a1_2 a1_3 a1_4 a1_5).take i) (rd (symrec_Put.vals a0_1 a1_0 a1_1 a1_2 a1_3 a1_4 a1_5) i) [.int .u64 (rd (symrec_Put.vals a0_1 a1_0 a1_1 a1_2 a1_3 a1_4 a1_5) i)] (fun _ => True) (fun _ => False) rfl rfl ?aP (fun _ hk => hk.elim) ?aF ?aO ?aB ?aS ?aL ?_; (case aP => exact rfl); (case aB => exact (by repeat (first | (with_reducible first | exact HW.out | apply below_alloc | apply pw_below_drewN | apply below_drew1) | exact HW.out))); (case aF => exact (fun _ _ => trivial)); (case aO => exact (by (with_reducible repeat (first | apply Kd.R_alloc | apply Kd.R_drewN | apply Kd.R_drew)); exact HO.out)); (case aS => exact (below_size (by repeat (first | (with_reducible first | exact HW.out | apply below_alloc | apply pw_below_drewN | apply below_drew1) | exact HW.out)))); (case aL => have := HII.out; simp only [List.length_take]; omega); intro v110 w14 ho hb hg hat; rw [symrec_Put.more _ _ (by rw [symrec_Put.len]; exact HII.out)] at ho; have n1_ := Aside0.mk (hb); have n2_ := Aside0.mk (ho); clear HW HO ho hb hg hat; have HW := n1_; have HO := n2_; clear n1_ n2_))
      go_roundg gk
      case measure => omega
      case rel => exact ⟨i + 1, rfl, ⟨by have := HI.out; omega⟩, HO, HW⟩
    · have hO := HO.out
      rw [List.take_of_length_le (by rw [symrec_Put.len]; omega)] at hO
      obtain ⟨A9, c9, rfl, hl9, hq9⟩ := Kd.R_reads hO
      have c1b : decide (i < L) = false := decide_eq_false (by have := HGL.out; omega)
      have hF := blk_below HF.out HW.out
      have hc0 := (blk_cell hF 0).trans rfl
      have hc1 := (blk_cell hF 1).trans rfl
      have HQ9 := Aside0.mk hq9
      have HL9 := Aside0.mk hl9
      clear hO hq9 hl9 hF hi
      go_wp2_with (go_at_call 57; refine (class_Form_Record.calls k a0_0 a0_1 A1 c1_ l A9 c9 (symrec_Put.vals a0_1 a1_0 a1_1 a1_2 a1_3 a1_4 a1_5) r1 r2 _ (Kd.C_below HQ.out HW.out) HQL.out HQ9.out HL9.out HR.out).mono ?_; rintro e w5 ⟨rfl, hb⟩)
      go_ret2
      exact ⟨rfl, below_step (below_step HB.out HW.out) hb⟩


end Go.Proofs.YteoeohkjomehoaaDoor.Q
