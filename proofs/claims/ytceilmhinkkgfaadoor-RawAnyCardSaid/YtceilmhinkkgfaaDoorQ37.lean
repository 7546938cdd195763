/- Walks. No condition but those in the statements. -/
import Derived.Test.YtceilmhinkkgfaaDoorQ12
import Derived.Test.YtceilmhinkkgfaaDoorQ16
set_option linter.unusedVariables false
set_option linter.unusedSimpArgs false
section
namespace Go.Proofs.YtceilmhinkkgfaaDoor.Q
open Go.RowKit Go.Proofs.YtceilmhinkkgfaaDoorW.PrintWords Go.Proofs.YtceilmhinkkgfaaDoorW.PrintLast Go.Proofs.YtceilmhinkkgfaaDoorW.PrintMore
attribute [local go_sem] max2_int min2_int max_two min_two max_three min_three max_four min_four

def phdr_Size.f (k : Nat) (a0_0 a0_1 : Bool) : Option Int := (pS_shape.f k a0_0 a0_1).bind fun t => some t.2
theorem phdr_Size.mono : ∀ a0 a1 k, LeO (phdr_Size.f k a0 a1) (phdr_Size.f (k + 1) a0 a1) := fun a0 a1 k => LeO.bind (pS_shape.mono a0 a1 k) (fun _ => LeO.refl _)
set_option maxHeartbeats 4000000 in
set_option maxRecDepth 100000 in
theorem phdr_Size.calls (k : Nat) (a0_0 a0_1 : Bool) (r1 : Int) (w : World) (hlaid : Laid_phdr w) (h : phdr_Size.f k a0_0 a0_1 = some r1) : Calls Tryd.prog 40 #[.agg #[.bool a0_0, .bool a0_1]] w fun e w' => e = .returned (.int .i64 r1) ∧ Below w.heap.size w w' := by
 obtain ⟨⟨l, n⟩, hs, h⟩ := Option.bind_eq_some_iff.mp h; obtain rfl := Option.some.inj h; have HS := aS hs; have HL := aS hlaid; clear hs h hlaid; (have hB0 : Below w.heap.size w ((w.alloc (Obj.cells #[Value.bool a0_0, Value.bool a0_1] 34)).alloc (Obj.cells #[Value.int IntKind.u64 0, Value.int IntKind.u64 0, Value.int IntKind.u64 0, Value.int IntKind.u64 0, Value.int IntKind.u64 0, Value.int IntKind.u64 0, Value.int IntKind.u64 0, Value.int IntKind.u64 0] 75)) := ((Below.refl _ _).alloc (Nat.le_refl _) _).alloc (by simp) _); have hC0 : ((w.alloc (Obj.cells #[Value.bool a0_0, Value.bool a0_1] 34)).alloc (Obj.cells #[Value.int IntKind.u64 0, Value.int IntKind.u64 0, Value.int IntKind.u64 0, Value.int IntKind.u64 0, Value.int IntKind.u64 0, Value.int IntKind.u64 0, Value.int IntKind.u64 0, Value.int IntKind.u64 0] 75)).heap[w.heap.size]? = some (.cells #[.bool a0_0, .bool a0_1] 34 (0, 0)) := blk_alloc (blk_new w _) _; have hc0 := (blk_cell hC0 0).trans rfl; have hc1 := (blk_cell hC0 1).trans rfl; have HB := aS hB0; clear hB0 hC0; go_enter Tryd.func40, Tryd.ntmps40; (go_wp2_with (go_at_call 44; refine (pS_shape.calls k _ a0_0 a0_1 l n _ (Laid_phdr.below HL.out HB.out) HS.out).mono ?_; rintro e w3 ⟨v0, v1, rfl, hr0, hr1, hb⟩)); go_ret
 exact ⟨rfl, below_step HB.out hb⟩


def phdr_Read.perm (a1 : Bool) : List Nat := if a1 = true then [0, 1, 2, 3, 4, 5, 6, 7] else [0, 2, 3, 4, 5, 6, 1, 7]
def phdr_Read.go (k : Nat) (a1 : Bool) (l : List Int) : Nat → Nat → Bool → ByteArray → Int → Bool → List Int → Option (List Int)
 | 0, _, _, _, _, _, m => some m
 | j + 1, i, b, s, p, d, m => if i < l.length then ((oR_Next.f k b s p d (rd l (i : Int))).bind fun t => phdr_Read.go k a1 l j (i + 1) t.2.1 t.2.2.1 t.2.2.2.1 t.2.2.2.2 (m.set ((phdr_Read.perm a1).getD i 0) t.1)) else none
theorem phdr_Read.mono_go (k : Nat) (a1 : Bool) (l : List Int) : ∀ j i b s p d m, LeO (phdr_Read.go k a1 l j i b s p d m) (phdr_Read.go (k + 1) a1 l j i b s p d m)
 | 0, _, _, _, _, _, _ => LeO.refl _
 | j + 1, i, b, s, p, d, m => by
  unfold phdr_Read.go; exact LeO.ite (LeO.bind (oR_Next.mono _ _ _ _ _ _) (fun _ => phdr_Read.mono_go k a1 l j _ _ _ _ _ _)) (LeO.refl _)
def phdr_Read.f (k : Nat) (a0_0 a0_1 : Bool) (a1 : ByteArray) : Option (Int × Int × Int × Int × Int × Int × Int × Int × Bool) := (pS_shape.f k a0_0 a0_1).bind fun t => if (a1.size : Int) < t.2 then some (0, 0, 0, 0, 0, 0, 0, 0, false) else ((oO_Read.f a0_0 a1 0).bind fun q => ((phdr_Read.go k a0_1 t.1 8 0 q.1 q.2.1 q.2.2.1 q.2.2.2 (List.replicate 8 0)).bind fun m => some (rd m 0, rd m 1, rd m 2, rd m 3, rd m 4, rd m 5, rd m 6, rd m 7, true)))
theorem phdr_Read.mono : ∀ a0 a1 a2 k, LeO (phdr_Read.f k a0 a1 a2) (phdr_Read.f (k + 1) a0 a1 a2) := fun a0 a1 a2 k => LeO.bind (pS_shape.mono a0 a1 k) (fun _ => LeO.ite (LeO.refl _) (LeO.bind (LeO.refl _) (fun _ => LeO.bind (phdr_Read.mono_go _ _ _ _ _ _ _ _ _ _) (fun _ => LeO.refl _))))
theorem phdr_Read.at_ (a0_1 : Bool) (bx : Nat) (A0 : Option Addr) (W : World) (hc : kAddr.C W A0 (pS_shape.pts a0_1 bx).length (pS_shape.pts a0_1 bx)) (i : Nat) (hi : i < 8) :
 ∃ ad, A0 = some ad ∧ W.cell? (ad.add i) = some (.pointer (some ⟨bx, (phdr_Read.perm a0_1).getD i 0, none⟩)) := by
 (have hl : (pS_shape.pts a0_1 bx).length = 8 := by cases a0_1 <;> rfl); (obtain ⟨ad, e, h⟩ := at_addr hc (i : Int) (by omega) (by rw [hl]; omega)); rw [Int.toNat_natCast] at h; (have hs : i = 0 ∨ i = 1 ∨ i = 2 ∨ i = 3 ∨ i = 4 ∨ i = 5 ∨ i = 6 ∨ i = 7 := by omega); rcases hs with rfl | rfl | rfl | rfl | rfl | rfl | rfl | rfl <;> cases a0_1 <;> exact ⟨ad, e, h⟩
theorem phdr_Read.lt (a0_1 : Bool) (i : Nat) (hi : i < 8) : (phdr_Read.perm a0_1).getD i 0 < 8 := by
 (have hs : i = 0 ∨ i = 1 ∨ i = 2 ∨ i = 3 ∨ i = 4 ∨ i = 5 ∨ i = 6 ∨ i = 7 := by omega); rcases hs with rfl | rfl | rfl | rfl | rfl | rfl | rfl | rfl <;> cases a0_1 <;> decide
theorem phdr_Read.keep_row {w w1 : World} {g b : Nat} (h : KeepBut w w1 g (some b)) (j : Nat) (u : Value) : KeepBut w (w1.setCell ⟨b, j, none⟩ u) g (some b) :=
 ⟨by simpa [World.setCell] using h.1, fun i hi hg hr => (Below.heap_setCell w1 ⟨b, j, none⟩ u i (fun e => hr (by rw [e]))).trans (h.2 i hi hg hr)⟩
theorem phdr_Read.keep_next {w w1 w2 : World} {g b : Nat} (h : KeepBut w w1 g (some b)) (k : KeepBut w1 w2 g none) : KeepBut w w2 g (some b) :=
 ⟨Nat.le_trans h.1 k.1, fun i hi hg hr => (k.2 i (Nat.lt_of_lt_of_le hi h.1) hg (by simp)).trans (h.2 i hi hg hr)⟩
theorem phdr_Read.cell_of {w w1 : World} {a : Addr} (h : w1.heap[a.block]? = w.heap[a.block]?) : w1.cell? a = w.cell? a := by unfold World.cell?; rw [h]
theorem phdr_Read.blk_m {W : World} {b : Nat} {m : List Int} (h : W.heap[b]? = some (.cells (m.map (Value.int IntKind.u64)).toArray 75 (0, 0))) (o : Nat) (v : Int) : (W.setCell ⟨b, o, none⟩ (.int .u64 v)).heap[b]? = some (.cells ((m.set o v).map (Value.int IntKind.u64)).toArray 75 (0, 0)) := by
 rw [blk_set h, List.setIfInBounds_toArray, List.map_set]
theorem phdr_Read.cell_m {W : World} {b : Nat} {m : List Int} (h : W.heap[b]? = some (.cells (m.map (Value.int IntKind.u64)).toArray 75 (0, 0))) (o : Nat) (ho : o < m.length) : W.cell? ⟨b, o, none⟩ = some (.int .u64 (rd m (o : Int))) := by
 rw [blk_cell h o]; simp [rd, rdOf, ho]
theorem phdr_Read.if_some {α : Type} {c : Prop} [Decidable c] {a : Option α} {r : α} (h : (if c then a else none) = some r) : c ∧ a = some r := by
 by_cases hc : c
 ·rw [if_pos hc] at h; exact ⟨hc, h⟩
 ·rw [if_neg hc] at h; cases h
theorem phdr_Read.len_go (k : Nat) (a1 : Bool) (l : List Int) : ∀ j i b s p d m r, phdr_Read.go k a1 l j i b s p d m = some r → r.length = m.length
 | 0, _, _, _, _, _, m, r, h => by rw [← Option.some.inj (show some m = some r from h)]
 | j + 1, i, b, s, p, d, m, r, h => by
  unfold phdr_Read.go at h; obtain ⟨_, h⟩ := phdr_Read.if_some h; obtain ⟨t, _, h⟩ := Option.bind_eq_some_iff.mp h; rw [phdr_Read.len_go k a1 l j _ _ _ _ _ _ _ h, List.length_set]
theorem phdr_Read.as_lit {W : World} {b : Nat} {x0 x1 x2 x3 x4 x5 x6 x7 : Int} (h : W.heap[b]? = some (.cells ([x0, x1, x2, x3, x4, x5, x6, x7].map (Value.int IntKind.u64)).toArray 75 (0, 0))) : W.heap[b]? = some (.cells #[.int .u64 x0, .int .u64 x1, .int .u64 x2, .int .u64 x3, .int .u64 x4, .int .u64 x5, .int .u64 x6, .int .u64 x7] 75 (0, 0)) := h
theorem phdr_Read.thirteen : ∀ m : List Int, m.length = 8 → ∃ x0 x1 x2 x3 x4 x5 x6 x7, m = [x0, x1, x2, x3, x4, x5, x6, x7]
 | [x0, x1, x2, x3, x4, x5, x6, x7], _ => ⟨_, _, _, _, _, _, _, _, rfl⟩
theorem phdr_Read.carry {w3 w4 W : World} {g bx : Nat} {z : Array Value} {t : Nat} {a : Addr} {v : Value} (_hX : w3.heap[bx]? = some (.cells z t (0, 0))) (hb : Below w3.heap.size w3 w4) (hg : w3.heap.size ≤ g) (hk : KeepBut w4 W g (some bx)) (hc : w3.cell? a = some v) (hv : ∀ q : Int, v ≠ .int .u64 q) (hz : z = #[Value.int IntKind.u64 0, Value.int IntKind.u64 0, Value.int IntKind.u64 0, Value.int IntKind.u64 0, Value.int IntKind.u64 0, Value.int IntKind.u64 0, Value.int IntKind.u64 0, Value.int IntKind.u64 0]) : W.cell? a = some v := by
 have hlt := World.block_lt_of_cell? w3 a hc
 have hne : a.block ≠ bx := by
  intro e; subst e hz; unfold World.cell? at hc; rw [_hX] at hc; simp only [] at hc
  split at hc
  ·cases hc
  ·rw [show (#[Value.int IntKind.u64 0, Value.int IntKind.u64 0, Value.int IntKind.u64 0, Value.int IntKind.u64 0, Value.int IntKind.u64 0, Value.int IntKind.u64 0, Value.int IntKind.u64 0, Value.int IntKind.u64 0] : Array Value) = (List.replicate 8 (Value.int .u64 0)).toArray from rfl, List.getElem?_toArray, List.getElem?_replicate] at hc
   split at hc
   ·exact hv 0 (Option.some.inj hc).symm
   ·cases hc
 (have h1 := hk.2 a.block (Nat.lt_of_lt_of_le hlt hb.size) (by omega) (by simpa using hne)); unfold World.cell? at hc ⊢; rw [h1, hb.block a.block hlt]; exact hc
theorem phdr_Read.ne_types {W : World} {a b t1 t2 : Nat} {c1 c2 : Array Value} (h1 : W.heap[a]? = some (.cells c1 t1 (0, 0))) (h2 : W.heap[b]? = some (.cells c2 t2 (0, 0))) (h : t1 ≠ t2) : a ≠ b := by
 rintro rfl; rw [h1] at h2; (simp at h2); exact h h2.2
theorem phdr_Read.typed {α : Type} {d : Kd α} {e : Nat} {W : World} {base : Nat} {ok : Nat → Prop} {ad : Addr} {n c : Nat} {xs : List α} (h : d.R e W base ok (.slice (some ad) n c) xs) : ∃ cells, W.heap[ad.block]? = some (.cells cells e (0, 0)) := by
 obtain ⟨inner, ho⟩ := Kd.R_own h; exact own_typed ho ad.block (by have := ho.2; rcases this with ⟨he, _⟩ | ⟨g, cap, cur, he, _⟩; cases he; injection he with he; cases he; rfl)
set_option maxHeartbeats 4000000 in
set_option maxRecDepth 100000 in
theorem phdr_Read.calls (k : Nat) (a0_0 a0_1 : Bool) (a1 : ByteArray) (r1 r2 r3 r4 r5 r6 r7 r8 : Int) (r9 : Bool) (w : World) (hlaid : Laid_phdr w) (h : phdr_Read.f k a0_0 a0_1 a1 = some (r1, r2, r3, r4, r5, r6, r7, r8, r9)) : Calls Tryd.prog 53 #[.agg #[.bool a0_0, .bool a0_1], .string a1] w fun e w' => e = .returned (.tuple #[.agg #[.int .u64 r1, .int .u64 r2, .int .u64 r3, .int .u64 r4, .int .u64 r5, .int .u64 r6, .int .u64 r7, .int .u64 r8], .bool r9]) ∧ Below w.heap.size w w' := by
 obtain ⟨⟨l, n⟩, hs, h⟩ := Option.bind_eq_some_iff.mp h; have HS := aS hs; have HL := aS hlaid; clear hs hlaid; (have hB0 : Below w.heap.size w (((w.alloc (Obj.cells #[Value.bool a0_0, Value.bool a0_1] 34)).alloc (Obj.cells #[Value.int IntKind.u64 0, Value.int IntKind.u64 0, Value.int IntKind.u64 0, Value.int IntKind.u64 0, Value.int IntKind.u64 0, Value.int IntKind.u64 0, Value.int IntKind.u64 0, Value.int IntKind.u64 0] 75)).alloc (Obj.cells #[Value.int IntKind.u64 0, Value.int IntKind.u64 0, Value.int IntKind.u64 0, Value.int IntKind.u64 0, Value.int IntKind.u64 0, Value.int IntKind.u64 0, Value.int IntKind.u64 0, Value.int IntKind.u64 0] 75)) := (((Below.refl _ _).alloc (Nat.le_refl _) _).alloc (by simp) _).alloc (by simp; omega) _); have hF0 : (((w.alloc (Obj.cells #[Value.bool a0_0, Value.bool a0_1] 34)).alloc (Obj.cells #[Value.int IntKind.u64 0, Value.int IntKind.u64 0, Value.int IntKind.u64 0, Value.int IntKind.u64 0, Value.int IntKind.u64 0, Value.int IntKind.u64 0, Value.int IntKind.u64 0, Value.int IntKind.u64 0] 75)).alloc (Obj.cells #[Value.int IntKind.u64 0, Value.int IntKind.u64 0, Value.int IntKind.u64 0, Value.int IntKind.u64 0, Value.int IntKind.u64 0, Value.int IntKind.u64 0, Value.int IntKind.u64 0, Value.int IntKind.u64 0] 75)).heap[w.heap.size]? = some (.cells #[.bool a0_0, .bool a0_1] 34 (0, 0)) := blk_alloc (blk_alloc (blk_new w _) _) _; have hR0 : (((w.alloc (Obj.cells #[Value.bool a0_0, Value.bool a0_1] 34)).alloc (Obj.cells #[Value.int IntKind.u64 0, Value.int IntKind.u64 0, Value.int IntKind.u64 0, Value.int IntKind.u64 0, Value.int IntKind.u64 0, Value.int IntKind.u64 0, Value.int IntKind.u64 0, Value.int IntKind.u64 0] 75)).alloc (Obj.cells #[Value.int IntKind.u64 0, Value.int IntKind.u64 0, Value.int IntKind.u64 0, Value.int IntKind.u64 0, Value.int IntKind.u64 0, Value.int IntKind.u64 0, Value.int IntKind.u64 0, Value.int IntKind.u64 0] 75)).heap[w.heap.size + 1]? = some (.cells #[Value.int IntKind.u64 0, Value.int IntKind.u64 0, Value.int IntKind.u64 0, Value.int IntKind.u64 0, Value.int IntKind.u64 0, Value.int IntKind.u64 0, Value.int IntKind.u64 0, Value.int IntKind.u64 0] 75 (0, 0)) := by have := blk_alloc (blk_new (w.alloc (Obj.cells #[Value.bool a0_0, Value.bool a0_1] 34)) (Obj.cells #[Value.int IntKind.u64 0, Value.int IntKind.u64 0, Value.int IntKind.u64 0, Value.int IntKind.u64 0, Value.int IntKind.u64 0, Value.int IntKind.u64 0, Value.int IntKind.u64 0, Value.int IntKind.u64 0] 75)) (Obj.cells #[Value.int IntKind.u64 0, Value.int IntKind.u64 0, Value.int IntKind.u64 0, Value.int IntKind.u64 0, Value.int IntKind.u64 0, Value.int IntKind.u64 0, Value.int IntKind.u64 0, Value.int IntKind.u64 0] 75); simpa using this
 (have hX0 : (((w.alloc (Obj.cells #[Value.bool a0_0, Value.bool a0_1] 34)).alloc (Obj.cells #[Value.int IntKind.u64 0, Value.int IntKind.u64 0, Value.int IntKind.u64 0, Value.int IntKind.u64 0, Value.int IntKind.u64 0, Value.int IntKind.u64 0, Value.int IntKind.u64 0, Value.int IntKind.u64 0] 75)).alloc (Obj.cells #[Value.int IntKind.u64 0, Value.int IntKind.u64 0, Value.int IntKind.u64 0, Value.int IntKind.u64 0, Value.int IntKind.u64 0, Value.int IntKind.u64 0, Value.int IntKind.u64 0, Value.int IntKind.u64 0] 75)).heap[w.heap.size + 2]? = some (.cells #[Value.int IntKind.u64 0, Value.int IntKind.u64 0, Value.int IntKind.u64 0, Value.int IntKind.u64 0, Value.int IntKind.u64 0, Value.int IntKind.u64 0, Value.int IntKind.u64 0, Value.int IntKind.u64 0] 75 (0, 0)) := by have := blk_new ((w.alloc (Obj.cells #[Value.bool a0_0, Value.bool a0_1] 34)).alloc (Obj.cells #[Value.int IntKind.u64 0, Value.int IntKind.u64 0, Value.int IntKind.u64 0, Value.int IntKind.u64 0, Value.int IntKind.u64 0, Value.int IntKind.u64 0, Value.int IntKind.u64 0, Value.int IntKind.u64 0] 75)) (Obj.cells #[Value.int IntKind.u64 0, Value.int IntKind.u64 0, Value.int IntKind.u64 0, Value.int IntKind.u64 0, Value.int IntKind.u64 0, Value.int IntKind.u64 0, Value.int IntKind.u64 0, Value.int IntKind.u64 0] 75); simpa using this); have hc0 := (blk_cell hF0 0).trans rfl; have hc1 := (blk_cell hF0 1).trans rfl; have HB := aS hB0; have HF := aS hF0; have HR := aS hR0; have HX := aS hX0; clear hB0 hF0 hR0 hX0
 by_cases c : (a1.size : Int) < n
 ·rw [if_pos (show (a1.size : Int) < (l, n).2 from c)] at h
  simp only [Option.some.injEq, Prod.mk.injEq] at h; obtain ⟨rfl, rfl, rfl, rfl, rfl, rfl, rfl, rfl, rfl⟩ := h; have cb : decide ((a1.size : Int) < n) = true := decide_eq_true c; clear c; go_enter Tryd.func53, Tryd.ntmps53; go_wp2_with (first | (go_at_call 44; refine (pS_shape.calls k (w.heap.size + 2) a0_0 a0_1 l n _ (Laid_phdr.below HL.out HB.out) HS.out).mono ?_; rintro e w3 ⟨v0, v1, rfl, hr0, hr1, hb⟩; obtain ⟨A0, c0, rfl, hl0, hq0⟩ := Kd.R_reads hr0; obtain ⟨A1, c1_, rfl, hl1, hq1⟩ := Kd.R_reads hr1; have hR := blk_below HR.out hb; have hB := below_step HB.out hb; clear hr0 hr1 hb HB HF HX HR; have HB := aS hB; have HR := aS hR; clear hB hR hq0 hq1 hl0 hl1) | ((with_reducible refine gate_store (t := 75) (p := 4) rfl ?_); refine wpList_store_row rfl rfl (T := 75) (p := 4) (y := .tmp 23) rfl (w.heap.size + 1) 75 #[Value.int IntKind.u64 0, Value.int IntKind.u64 0, Value.int IntKind.u64 0, Value.int IntKind.u64 0, Value.int IntKind.u64 0, Value.int IntKind.u64 0, Value.int IntKind.u64 0, Value.int IntKind.u64 0] #[Value.int IntKind.u64 0, Value.int IntKind.u64 0, Value.int IntKind.u64 0, Value.int IntKind.u64 0, Value.int IntKind.u64 0, Value.int IntKind.u64 0, Value.int IntKind.u64 0, Value.int IntKind.u64 0] rfl rfl HR.out ?h1 ?h2 ?h3 ?_; (case h1 => kernel_rfl); (case h2 => rfl); (case h3 => kernel_rfl); intro w5 hw; have hR5 := row_at #[Value.int IntKind.u64 0, Value.int IntKind.u64 0, Value.int IntKind.u64 0, Value.int IntKind.u64 0, Value.int IntKind.u64 0, Value.int IntKind.u64 0, Value.int IntKind.u64 0, Value.int IntKind.u64 0] HR.out; have hB5 := below_setRow (g := w.heap.size + 1) HB.out (by omega) #[Value.int IntKind.u64 0, Value.int IntKind.u64 0, Value.int IntKind.u64 0, Value.int IntKind.u64 0, Value.int IntKind.u64 0, Value.int IntKind.u64 0, Value.int IntKind.u64 0, Value.int IntKind.u64 0]; rw [← hw] at hR5 hB5; clear hw HR HB; have HR := aS hR5; have HB := aS hB5; clear hR5 hB5))
  (refine bodyPost_ret (results_ct rfl _ _ (w.heap.size + 1) 75 #[Value.int IntKind.u64 0, Value.int IntKind.u64 0, Value.int IntKind.u64 0, Value.int IntKind.u64 0, Value.int IntKind.u64 0, Value.int IntKind.u64 0, Value.int IntKind.u64 0, Value.int IntKind.u64 0] (0, 0) _ rfl HR.out Tryd.underlying75 rfl (by kernel_rfl)) rfl ?_); exact ⟨rfl, HB.out⟩
 ·rw [if_neg (show ¬ (a1.size : Int) < (l, n).2 from c)] at h
  obtain ⟨⟨q1, q2, q3, q4⟩, hq, h⟩ := Option.bind_eq_some_iff.mp h; obtain ⟨m, hm, h⟩ := Option.bind_eq_some_iff.mp h; have hml := phdr_Read.len_go k a0_1 l _ _ _ _ _ _ _ _ hm; rw [List.length_replicate] at hml; obtain ⟨x0, x1, x2, x3, x4, x5, x6, x7, rfl⟩ := phdr_Read.thirteen m hml; simp only [Option.some.injEq, Prod.mk.injEq] at h; obtain ⟨rfl, rfl, rfl, rfl, rfl, rfl, rfl, rfl, rfl⟩ := h; have cb : decide ((a1.size : Int) < n) = false := decide_eq_false c; have HQ := aS hq; have HM := aS hm; clear c hq hm hml; go_enter Tryd.func53, Tryd.ntmps53; go_wp2_with (first | (go_at_call 44; refine (pS_shape.calls k (w.heap.size + 2) a0_0 a0_1 l n _ (Laid_phdr.below HL.out HB.out) HS.out).mono ?_; rintro e w3 ⟨v0, v1, rfl, hr0, hr1, hb⟩; obtain ⟨A0, c0, rfl, hl0, hq0⟩ := Kd.R_reads hr0; obtain ⟨A1, c1_, rfl, hl1, hq1⟩ := Kd.R_reads hr1; have hF := blk_below HF.out hb; have hR := blk_below HR.out hb; have hX := blk_below HX.out hb; have hB := below_step HB.out hb; clear hr0 hr1 hb HB HF HX HR; have HB := aS hB; have hc0 := (blk_cell hF 0).trans rfl; have hc1 := (blk_cell hF 1).trans rfl; have HR := aS hR; have HX := aS hX; have HQ0 := aS hq0; have HQ1 := aS hq1; clear hF hR hX hB hq0 hq1 hl0 hl1; have hgL : (pS_shape.pts a0_1 (w.heap.size + 2)).length = 8 := (by cases a0_1 <;> rfl); generalize hgL2 : (pS_shape.pts a0_1 (w.heap.size + 2)).length = L at hgL; have HGL := aS hgL; have HGL2 := aS hgL2; clear hgL hgL2) | (go_at_call 47; refine (oO_Read.calls a0_0 a1 0 q1 q2 q3 q4 w3 _ (Below.refl _ _) HQ.out).mono ?_; rintro e w4 ⟨g, rfl, hI4, hb4, _⟩; have HI4 := aS hI4; have HB4 := aS hb4; clear hI4 hb4))
  have HX4 := aS (blk_below HX.out HB4.out); have HW4 := aS (below_step HB.out HB4.out); have HIW := aS (show IsS132 w w4 g q1 q2 q3 q4 from ⟨HI4.out.1, Nat.le_trans HB.out.size HI4.out.2⟩); have HZ := aS (show (w.heap.size + 2) < w3.heap.size from blk_lt HX.out); (have HGX := aS (show g ≠ w.heap.size + 2 by have := HI4.out.2; have := HZ.out; omega)); go_loopg [30] 8 (fun kq v30 w' => ∃ (i : Nat) (b : Bool) (s : ByteArray) (p : Int) (d : Bool) (m : List Int), v30 = .int .i64 (i : Int) ∧ Aside0 (kq + i = 8) ∧ Aside0 (phdr_Read.go k a0_1 l kq i b s p d m = some [x0, x1, x2, x3, x4, x5, x6, x7]) ∧ Aside0 (IsS132 w w' g b s p d) ∧ Aside0 (w'.heap[w.heap.size + 2]? = some (.cells (m.map (Value.int IntKind.u64)).toArray 75 (0, 0))) ∧ Aside0 (m.length = 8) ∧ Aside0 (Below w.heap.size w w') ∧ Aside0 (KeepBut w4 w' g (some (w.heap.size + 2))))
  case atStart => exact ⟨0, q1, q2, q3, q4, List.replicate 8 0, rfl, ⟨rfl⟩, HM, HIW, ⟨HX4.out⟩, ⟨rfl⟩, HW4, ⟨KeepBut.refl _ _ _⟩⟩
  case round =>
   obtain ⟨i, b, s, p, d, m, rfl, HI, HG, HS5, HXm, HML, HBW, HK⟩ := hrel
   by_cases hi : i < 8
   ·cases gk with
    | zero => exact absurd HI.out (by omega)
    | succ gk =>
    have hg := HG.out; unfold phdr_Read.go at hg; obtain ⟨hil, hg⟩ := phdr_Read.if_some hg; obtain ⟨⟨v, b5, s5, p5, d5⟩, hN, hg⟩ := Option.bind_eq_some_iff.mp hg; have HN := aS hN; have HG5 := aS hg; clear hN hg HG; obtain ⟨ad, e, hx⟩ := phdr_Read.at_ a0_1 (w.heap.size + 2) A0 w3 HQ0.out i hi
    cases e
    obtain ⟨ad1, e, hy⟩ := Kd.at_int HQ1.out (i : Int) (by omega) (by omega)
    cases e
    rw [Int.toNat_natCast] at hy; have HII := aS hi; have HIL := aS hil; have HO := aS (phdr_Read.lt a0_1 i hi); clear hi hil; (replace hx := phdr_Read.carry HX.out HB4.out HI4.out.2 HK.out hx (fun _ => by simp) rfl); (replace hy := phdr_Read.carry HX.out HB4.out HI4.out.2 HK.out hy (fun _ => by simp) rfl); generalize ho : (phdr_Read.perm a0_1).getD i 0 = o at hx HO HG5; have HOE := aS ho; clear ho; have hgc := HGL.out; (have p0 : (0 ≤ (i : Int)) = True := eq_true (by omega)); (have p1 : ((i : Int) < (L : Int)) = True := eq_true (by have := HGL.out; have := HII.out; omega)); (have c1b : decide ((i : Int) < (L : Int)) = true := decide_eq_true (by have := HGL.out; have := HII.out; omega)); (have p2 : ((i : Int) < (l.length : Int)) = True := eq_true (by have := HIL.out; omega)); (have hwr : IntKind.i64.wrap ((i : Int) + 1) = ((i + 1 : Nat) : Int) := by have := HII.out; rw [IntKind.wrap_i64]; omega); clear hgc; (go_wp2_with (go_at_call 48; refine (oR_Next.calls k g b s p d (rd l (i : Int)) v b5 s5 p5 d5 w _ HS5.out HBW.out HN.out).mono ?_; rintro e w5 ⟨rfl, hI5, hB5, hK5⟩; have hX5 := hK5.blk HXm.out HGX.out.symm (by simp); have hcx := phdr_Read.cell_m hX5 o (by have := HML.out; have := HO.out; omega); have hfx := blk_frozen hX5 o; have HX5 := aS hX5; have HI5 := aS hI5; have HB5 := aS hB5; have HK5 := aS (phdr_Read.keep_next HK.out hK5); clear hX5 hI5 hB5 hK5)); go_roundg gk
    case measure => omega
    case rel => exact ⟨i + 1, b5, s5, p5, d5, m.set o v, rfl, ⟨by have := HI.out; omega⟩, HG5, ⟨HI5.out.far HGX.out _⟩, ⟨phdr_Read.blk_m HX5.out o v⟩, ⟨by rw [List.length_set]; exact HML.out⟩, ⟨below_set HB5.out (by omega)⟩, ⟨phdr_Read.keep_row HK5.out o _⟩⟩
   ·have hk0 : gk = 0 := by have := HI.out; omega
    subst hk0; have hg := Option.some.inj (show some m = _ from HG.out); subst hg; have hX6 := HXm.out; (have hR6 := HK.out.blk (blk_below HR.out HB4.out) (by have := HI4.out.2; have := blk_lt HR.out; omega) (by simp)); have HX6 := aS (phdr_Read.as_lit hX6); have HR6 := aS hR6; (have c1b : decide (i < L) = false := decide_eq_false (by have := HGL.out; omega)); clear hX6 hR6 hi; go_wp2_with (first | ((with_reducible refine gate_dst (N := 44) rfl ?_); refine wpList_load_row ?hg 75 (.tmp 6) ?ho (w.heap.size + 2) ?hx 75 #[.int .u64 x0, .int .u64 x1, .int .u64 x2, .int .u64 x3, .int .u64 x4, .int .u64 x5, .int .u64 x6, .int .u64 x7] (0, 0) _ HX6.out Tryd.underlying75 rfl ?hz ?_; (case ho => rfl); (case hg => rfl); (case hx => rfl); (case hz => kernel_rfl)) | ((with_reducible refine gate_store (t := 75) (p := 4) rfl ?_); refine wpList_store_row rfl rfl (T := 75) (p := 4) (y := .tmp 44) rfl (w.heap.size + 1) 75 #[Value.int IntKind.u64 0, Value.int IntKind.u64 0, Value.int IntKind.u64 0, Value.int IntKind.u64 0, Value.int IntKind.u64 0, Value.int IntKind.u64 0, Value.int IntKind.u64 0, Value.int IntKind.u64 0] #[.int .u64 x0, .int .u64 x1, .int .u64 x2, .int .u64 x3, .int .u64 x4, .int .u64 x5, .int .u64 x6, .int .u64 x7] rfl rfl HR6.out ?h1 ?h2 ?h3 ?_; (case h1 => kernel_rfl); (case h2 => rfl); (case h3 => kernel_rfl); intro w7 hw; have hR7 := row_at #[.int .u64 x0, .int .u64 x1, .int .u64 x2, .int .u64 x3, .int .u64 x4, .int .u64 x5, .int .u64 x6, .int .u64 x7] HR6.out; have hB7 := below_setRow (g := w.heap.size + 1) HBW.out (by omega) #[.int .u64 x0, .int .u64 x1, .int .u64 x2, .int .u64 x3, .int .u64 x4, .int .u64 x5, .int .u64 x6, .int .u64 x7]; rw [← hw] at hR7 hB7; clear hw HR6 HBW; have HR7 := aS hR7; have HB7 := aS hB7; clear hR7 hB7))
    refine bodyPost_ret (results_ct rfl _ _ (w.heap.size + 1) 75 #[.int .u64 x0, .int .u64 x1, .int .u64 x2, .int .u64 x3, .int .u64 x4, .int .u64 x5, .int .u64 x6, .int .u64 x7] (0, 0) _ rfl HR7.out Tryd.underlying75 rfl (by kernel_rfl)) rfl ?_
    exact ⟨rfl, HB7.out⟩


end Go.Proofs.YtceilmhinkkgfaaDoor.Q
end
section
namespace Go.Proofs.YtceilmhinkkgfaaDoor.Q
open Go.RowKit Go.Proofs.YtceilmhinkkgfaaDoorW.PrintWords Go.Proofs.YtceilmhinkkgfaaDoorW.PrintLast Go.Proofs.YtceilmhinkkgfaaDoorW.PrintMore
attribute [local go_sem] max2_int min2_int max_two min_two max_three min_three max_four min_four

def pSg.l0 : Nat → ByteArray → Int → List (S75) → Bool → Bool → Option ((List (S75)))
 | 0, _, _, _, _, _ => none
 | k + 1, x1, x2, x9, x523000, x523001 => if (x1.size : Int) ≥ x2 then ((phdr_Read.f k x523000 x523001 x1).bind fun bt523 => (if x9.length < 2199023255552 then (if 0 ≤ x2 then (if x2 ≤ (x1.size : Int) then (pSg.l0 k (x1.extract (x2 : Int).toNat x1.size) x2 (x9 ++ [(⟨bt523.1, bt523.2.1, bt523.2.2.1, bt523.2.2.2.1, bt523.2.2.2.2.1, bt523.2.2.2.2.2.1, bt523.2.2.2.2.2.2.1, bt523.2.2.2.2.2.2.2.1⟩ : S75)]) x523000 x523001) else (none)) else (none)) else (none))) else (some x9)
def pSg.f (k : Nat) (a0_0 : Bool) (a0_1 : Bool) (a1 : ByteArray) (a2 : Int) (a3 : Int) : Option ((List (S75))) := pSg.l0 k a1 a2 ([] : List (S75)) a0_0 a0_1
theorem pSg.mono_l : ∀ k, (∀ y0 y1 y2 y3 y4, LeO (pSg.l0 k y0 y1 y2 y3 y4) (pSg.l0 (k + 1) y0 y1 y2 y3 y4))
 | 0 => fun _ _ _ _ _ r h => by simp [pSg.l0] at h
 | k + 1 => by
  have ih0 := pSg.mono_l k
  ·intro y0 y1 y2 y3 y4
   unfold pSg.l0
   repeat' first
   | (with_reducible apply ih0)
   | (with_reducible exact phdr_Read.mono _ _ _ _)
   | (with_reducible exact LeO.refl _)
   | (with_reducible exact LeO.none _)
   | (with_reducible refine LeO.ite ?_ ?_)
   | (with_reducible refine LeO.bind ?_ (fun _ => ?_))
   | exact ih0 _ _ _ _ _
   | exact phdr_Read.mono _ _ _ _
   | exact LeO.none _
   | refine LeO.ite ?_ ?_
   | refine LeO.bind ?_ (fun _ => ?_)
theorem pSg.mono : ∀ a0 a1 a2 a3 a4 k, LeO (pSg.f k a0 a1 a2 a3 a4) (pSg.f (k + 1) a0 a1 a2 a3 a4) := by
 intro a0 a1 a2 a3 a4 k; have ih0 := pSg.mono_l k; unfold pSg.f
 repeat' first
  | (with_reducible apply ih0)
  | (with_reducible exact phdr_Read.mono _ _ _ _)
  | (with_reducible exact LeO.refl _)
  | (with_reducible exact LeO.none _)
  | (with_reducible refine LeO.ite ?_ ?_)
  | (with_reducible refine LeO.bind ?_ (fun _ => ?_))
  | exact ih0 _ _ _ _ _
  | exact phdr_Read.mono _ _ _ _
  | exact LeO.none _
  | refine LeO.ite ?_ ?_
  | refine LeO.bind ?_ (fun _ => ?_)
set_option maxHeartbeats 8000000 in
set_option maxRecDepth 100000 in
theorem pSg.calls (k : Nat) (a0_0 : Bool) (a0_1 : Bool) (a1 : ByteArray) (a2 : Int) (a3 : Int) (r : List (S75)) (w : World) (hlaid_phdr : Laid_phdr w) (h : pSg.f k a0_0 a0_1 a1 a2 a3 = some r) :
 Calls Tryd.prog 52 #[.agg #[.bool a0_0, .bool a0_1], .string a1, .int .i64 a2, .func (.func 53) #[] #[]] w fun e w' => ∃ v0_ : Value, e = .returned (v0_) ∧ Kd.R k75 75 w' w.heap.size (fun _ => True) v0_ r ∧ Below w.heap.size w w' := by
 have hu34 := Tryd.underlying34; have hu75 := Tryd.underlying75; have HB := aS (Below.refl w.heap.size w); have HLD_phdr := aS hlaid_phdr; clear hlaid_phdr; have H : (pSg.l0 k a1 a2 ([] : List (S75)) a0_0 a0_1) = some r := h; clear h; have H' := aS H; clear H; go_enter Tryd.func52, Tryd.ntmps52; (go_wp2_with (first | ((with_reducible refine gate_dst (N := 4) rfl ?_); refine bE 4 #[.bool a0_0, .bool a0_1] 34 ?_; intro gb522 hg w5 hbox hb; have BK522 := aS (hbox); have GW522 := aS (bsz hg hbN : w.heap.size ≤ gb522); have GE522 := aS (bsz hg hbN : w.heap.size ≤ gb522); replace HB := aS (below_step hbN hb); clear hb hbox hg))); go_loopg [1, 9] k (fun kq v1 v9 w' => ∃ (x1_1 : ByteArray) (x9_1 : List (S75)), v1 = .string x1_1 ∧ Aside0 (pSg.l0 kq x1_1 a2 x9_1 a0_0 a0_1 = some r) ∧ Aside0 (kq ≤ k) ∧ Aside0 (Kd.R k75 75 w' w.heap.size (fun _ => True) v9 x9_1) ∧ Aside0 (w'.heap[gb522]? = some (.cells #[.bool a0_0, .bool a0_1] 34 (0, 0))) ∧ Aside0 (Below w.heap.size w w'))
 case atStart => exact ⟨(a1), (([] : List (S75))), sr, H', ⟨Nat.le_refl _⟩, ⟨by first | exact Kd.R_nil _ _ _ _ _ | exact Kd.N_nil _ _ _ _ _ | exact Kd.V_nil _ _ _ _ _ | exact Kd.Q_nil _ _ _ _ _ | exact Kd.S_nil _ _ _ _ _⟩, ⟨pb⟩, ⟨hbS⟩⟩
 case round =>
  clear H'; (try clear p2); (try clear c5); obtain ⟨x1_1, x9_1, rfl, HA, HK1, HO_9, BK522, HB⟩ := hrel
  cases gk with
  | zero => exact absurd HA.out (by simp [pSg.l0])
  | succ k1 =>
   have H := HA.out; clear HA; simp only [pSg.l0] at H
   by_cases c6 : (x1_1.size : Int) ≥ a2
   ·rw [if_pos c6] at H
    have c6b0 : decide (a2 ≤ (x1_1.size : Int)) = true := decide_eq_true c6; clear c6; replace H := Option.bind_eq_some_iff.mp H; obtain ⟨⟨t523, t524, t525, t526, t527, t528, t529, t530, t531⟩, A70, H⟩ := H; replace H : (if x9_1.length < 2199023255552 then (if 0 ≤ a2 then (if a2 ≤ (x1_1.size : Int) then (pSg.l0 k1 (x1_1.extract (a2 : Int).toNat x1_1.size) a2 (x9_1 ++ [(⟨t523, t524, t525, t526, t527, t528, t529, t530⟩ : S75)]) a0_0 a0_1) else (none)) else (none)) else (none)) = some r := H; have A7 := aS A70; clear A70
    by_cases c8 : x9_1.length < 2199023255552
    ·rw [if_pos c8] at H
     have LMc8 := aS c8; clear c8; obtain ⟨y533, hy533⟩ : ∃ y_ : List (S75), y_ = (x9_1 ++ [(⟨t523, t524, t525, t526, t527, t528, t529, t530⟩ : S75)]) := ⟨_, rfl⟩; (replace H : (if 0 ≤ a2 then (if a2 ≤ (x1_1.size : Int) then (pSg.l0 k1 (x1_1.extract (a2 : Int).toNat x1_1.size) a2 y533 a0_0 a0_1) else (none)) else (none)) = some r := by first | (rw [hy533]; with_reducible exact H) | (have H2_ := (Option.bind_some _ _).symm.trans H; rw [hy533]; with_reducible exact H2_) | (have H2_ := (Option.bind_some _ _).symm.trans H; with_reducible exact H2_) | with_reducible exact H | (rw [hy533]; exact H) | exact H); have Ny533 := aS hy533; clear hy533
     by_cases c9 : 0 ≤ a2
     ·rw [if_pos c9] at H
      have c9b0 := eq_true c9; have c9b1 : decide (0 ≤ a2) = true := decide_eq_true c9; clear c9
      by_cases c10 : a2 ≤ (x1_1.size : Int)
      ·rw [if_pos c10] at H
       have c10b0 := eq_true c10; have c10b1 : decide (a2 ≤ (x1_1.size : Int)) = true := decide_eq_true c10; clear c10; obtain ⟨sc11, hsc11⟩ : ∃ s_ : ByteArray, (x1_1.extract (a2 : Int).toNat x1_1.size) = s_ := ⟨_, rfl⟩; (replace H : (pSg.l0 k1 sc11 a2 y533 a0_0 a0_1) = some r := by first | (rw [hsc11] at H; exact H) | (simp only [hsc11] at H ⊢; exact H) | exact H); ((try (have hsc11n := hsc11; simp only [Int.toNat_natCast] at hsc11n))); have H' := aS H; clear H; obtain ⟨_, _, _, _⟩ := bc2 BK522.out; go_wp2_with (first | (go_at_call 53; (with_reducible refine (phdr_Read.calls k1 a0_0 a0_1 x1_1 t523 t524 t525 t526 t527 t528 t529 t530 t531 _ ?side1 A7.out).mono ?_); (case side1 => exact Laid_phdr.below HLD_phdr.out hbS); rintro e w13 ⟨rfl, hb⟩; replace HO_9 := aS (Kd.R_below (by (with_reducible repeat (first | apply Kd.R_alloc | apply Kd.R_drewN | apply Kd.R_drew)); exact HO_9.out) hb); replace BK522 := aS (blk_below (g := gb522) bkN hb); replace HB := aS (below_step hbS hb)) | ((with_reducible refine gate_dst (N := 10) rfl ?_); refine bE 10 #[.int .u64 0, .int .u64 0, .int .u64 0, .int .u64 0, .int .u64 0, .int .u64 0, .int .u64 0, .int .u64 0] 75 ?_; intro gb532 hg w14 hbox hb; replace HO_9 := aS (Kd.R_below (Kd.R_elderB (by (with_reducible repeat (first | apply Kd.R_alloc | apply Kd.R_drewN | apply Kd.R_drew)); exact HO_9.out) gb532 (Nat.le_of_eq hg.symm)) hb); have BK532 := aS (hbox); have GW532 := aS (bsz hg hbS : w.heap.size ≤ gb532); have GE532 := aS (bsz hg hbS : w.heap.size ≤ gb532); replace HB := aS (below_step hbS hb); have NB522_532 := aS (nL (g := gb522) hg); have NB532_522 := aS (nG (g := gb522) hg); replace BK522 := aS (blk_below (g := gb522) bkN hb); clear hb hbox hg; have hnb15 := NB532_522.out; have hnc15 := NB522_532.out; obtain ⟨_, _, _, _, _, _, _, _, _, _, _, _, _, _, _, _⟩ := bc8 BK532.out) | ((with_reducible refine gate_builtin (b := .append) (xs := #[.tmp 26, .tmp 28]) rfl ?_); at_builtin; refine Kd.R_append k75 (w0 := w) w.heap.size rfl (.tmp 26) (.tmp 28) 40 75 (.agg #[(.int .u64 0), (.int .u64 0), (.int .u64 0), (.int .u64 0), (.int .u64 0), (.int .u64 0), (.int .u64 0), (.int .u64 0)]) 64 rfl Tryd.underlying40 info75 rfl (by decide) (by omega) u9 x9_1 (⟨t523, t524, t525, t526, t527, t528, t529, t530⟩ : S75) [.int .u64 t523, .int .u64 t524, .int .u64 t525, .int .u64 t526, .int .u64 t527, .int .u64 t528, .int .u64 t529, .int .u64 t530] (fun k_ => k_ ≠ gb532) (fun _ => False) rfl (by first | (go_simp; done) | (go_simp; rfl)) ?aP (fun _ hk => hk.elim) ?aF ?aO ?aB ?aS ?aL ?_; (case aP => exact k75_mkM _ _ _ (⟨t523, t524, t525, t526, t527, t528, t529, t530⟩ : S75)); (case aB => exact hbS); (case aF => exact (fun k_ hk => Kd.freshB (g := gb532) (o := .cells #[.int .u64 t523, .int .u64 t524, .int .u64 t525, .int .u64 t526, .int .u64 t527, .int .u64 t528, .int .u64 t529, .int .u64 t530] 75 (0, 0)) pb k_ hk)); (case aO => exact (by (with_reducible repeat (first | apply Kd.R_alloc | apply Kd.R_drewN | apply Kd.R_drew)); exact Kd.R_mono (rF (rF (rF (rF (rF (rF (rF (rF (Kd.R_mono HO_9.out (fun k_ hk => (⟨hk, hk.2⟩ : _ ∧ k_ ≠ gb532))))))))))) (fun _ hk => hk.1.2))); (case aS => exact (below_size hbS)); (case aL => have := LMc8.out; omega); intro v534 w17 ho hb hg hat; rw [← Ny533.out] at ho; have n0_ := aS (blk_grown (g := gb522) pb hg (Kd.R_ne HO_9.out BK522.out (by decide))); have n1_ := aS (blk_grown (g := gb532) (o := .cells #[.int .u64 t523, .int .u64 t524, .int .u64 t525, .int .u64 t526, .int .u64 t527, .int .u64 t528, .int .u64 t529, .int .u64 t530] 75 (0, 0)) pb hg (Kd.R_away HO_9.out (fun _ hk => hk.2))); have n2_ := aS (hb); have n3_ := aS (ho); clear BK522; clear BK532; clear HB; clear HO_9; have BK522 := n0_; have BK532 := n1_; have HB := n2_; have HO535 := n3_; clear n0_ n1_ n2_ n3_; clear ho hb hg hat))
       go_roundg k1
       case measure => have := HK1.out; omega
       case rel => exact ⟨(sc11), (y533), sr, H', ⟨by have := HK1.out; omega⟩, ⟨by (with_reducible repeat (first | apply Kd.R_alloc | apply Kd.R_drewN | apply Kd.R_drew)); exact Kd.R_mono HO535.out (fun _ hk => trivial)⟩, ⟨pb⟩, ⟨hbS⟩⟩
      ·(rw [if_neg c10] at H); exact absurd H (by simp)
     ·(rw [if_neg c9] at H); exact absurd H (by simp)
    ·(rw [if_neg c8] at H); exact absurd H (by simp)
   ·rw [if_neg c6] at H
    have c6b0 : decide (a2 ≤ (x1_1.size : Int)) = false := decide_eq_false c6; clear c6; obtain rfl := Option.some.inj H; (go_wp2); go_ret
    exact ⟨_, er, by (with_reducible repeat (first | apply Kd.R_alloc | apply Kd.R_drewN | apply Kd.R_drew)); exact HO_9.out, hbS⟩

end Go.Proofs.YtceilmhinkkgfaaDoor.Q
end
