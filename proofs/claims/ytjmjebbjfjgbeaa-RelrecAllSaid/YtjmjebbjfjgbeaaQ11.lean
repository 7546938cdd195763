/- What Go functions of the program compute, each as a Lean function with the proof that the call returns just that. No condition but those in the statements. -/
import Derived.Test.YtjmjebbjfjgbeaaQ0
import Derived.Test.YtjmjebbjfjgbeaaQ3
import Derived.Test.YtjmjebbjfjgbeaaQ6
import Derived.Test.YtjmjebbjfjgbeaaBld
namespace Go.Proofs.Ytjmjebbjfjgbeaa.Q
open Go.RowKit Go.Proofs.YtjmjebbjfjgbeaaW.PrintWords Go.Proofs.YtjmjebbjfjgbeaaW.PrintLast Go.Proofs.YtjmjebbjfjgbeaaW.PrintMore
attribute [local go_sem] max2_int min2_int max_two min_two max_three min_three max_four min_four   -- for this text's walks alone
set_option linter.unusedVariables false
set_option linter.unusedSimpArgs false

/-! ### relrec_PutAll: function 15 -/
def relrec_PutAll.l0 : Nat → Bool → Bool → Bool → List S33 → ByteArray → Int → Option (ByteArray × Bool)
  | 0, _, _, _, _, _, _ => none
  | k + 1, b, c, a, l, s, i => if i < (l.length : Int) then ((relrec_Put.f k b c a (rd_T33 l i).f0 (rd_T33 l i).f1 (rd_T33 l i).f2 (rd_T33 l i).f3).bind fun t => (if t.2 = true then (if s.size + t.1.size ≤ 140737488355328 then (relrec_PutAll.l0 k b c a l (s ++ t.1) (i + 1)) else none) else some (⟨#[]⟩, false))) else (some (s, true))
def relrec_PutAll.f (k : Nat) (a0_0 a0_1 a1 : Bool) (l2 : List S33) : Option (ByteArray × Bool) := relrec_PutAll.l0 k a0_0 a0_1 a1 l2 (⟨#[]⟩ : ByteArray) 0
theorem relrec_PutAll.mono_l : ∀ k y0 y1 y2 y3 y4 y5, LeO (relrec_PutAll.l0 k y0 y1 y2 y3 y4 y5) (relrec_PutAll.l0 (k + 1) y0 y1 y2 y3 y4 y5)
  | 0 => fun _ _ _ _ _ _ r h => by simp [relrec_PutAll.l0] at h
  | k + 1 => by
    have ih := relrec_PutAll.mono_l k
    intro y0 y1 y2 y3 y4 y5
    unfold relrec_PutAll.l0
    refine LeO.ite (LeO.bind (relrec_Put.mono _ _ _ _ _ _ _ _) (fun _ => LeO.ite (LeO.ite (ih _ _ _ _ _ _) (LeO.refl _)) (LeO.refl _))) (LeO.refl _)
theorem relrec_PutAll.mono : ∀ a0 a1 a2 a3 k, LeO (relrec_PutAll.f k a0 a1 a2 a3) (relrec_PutAll.f (k + 1) a0 a1 a2 a3) := fun a0 a1 a2 a3 k => relrec_PutAll.mono_l k a0 a1 a2 a3 _ _
theorem relrec_PutAll.step (i : Int) (h0 : 0 ≤ i) {n : Nat} (h : i < n) (hn : n ≤ 9223372036854775807) : IntKind.i64.wrap (i + 1) = i + 1 := by
  rw [IntKind.wrap_i64]; omega
set_option maxHeartbeats 4000000 in
set_option maxRecDepth 100000 in
theorem relrec_PutAll.calls (k : Nat) (a0_0 a0_1 a1 : Bool) (A2 : Option Addr) (c2 : Nat) (l2 : List S33) (r1 : ByteArray) (r2 : Bool) (w : World) (hr2 : Kd.C k33 w A2 l2.length l2) (hc2 : l2.length ≤ c2) (h : relrec_PutAll.f k a0_0 a0_1 a1 l2 = some (r1, r2)) :
    Calls Try.prog 15 #[.agg #[.bool a0_0, .bool a0_1], .bool a1, .slice A2 l2.length c2] w fun e w' => e = .returned (.tuple #[.string r1, .bool r2]) ∧ Below w.heap.size w w' := by
  have H := Aside0.mk h
  clear h
  have HR := Aside0.mk hr2
  have M2 := Kd.C_max hr2
  clear hr2 hc2
  go_enter Try.func15, Try.ntmps15
  go_wp2
  have hB0 : Below w.heap.size w ((w.alloc (Obj.cells #[Value.bool a0_0, Value.bool a0_1] 29)).alloc (Obj.cells #[Value.pointer none, Value.slice none 0 0] 72)) := ((Below.refl _ _).alloc (Nat.le_refl _) _).alloc (by simp) _
  have hI0 : Lib.IsBuilder 72 5 (w.heap.size + 1) (w.heap.size + 1) [] ((w.alloc (Obj.cells #[Value.bool a0_0, Value.bool a0_1] 29)).alloc (Obj.cells #[Value.pointer none, Value.slice none 0 0] 72)) := by
    have := Bld.isB_new (B := w.heap.size + 1) (w.alloc (Obj.cells #[Value.bool a0_0, Value.bool a0_1] 29)) (by simp)
    simpa using this
  have hC0 : ((w.alloc (Obj.cells #[Value.bool a0_0, Value.bool a0_1] 29)).alloc (Obj.cells #[Value.pointer none, Value.slice none 0 0] 72)).heap[w.heap.size]? = some (.cells #[.bool a0_0, .bool a0_1] 29 (0, 0)) := blk_alloc (heap_alloc_new w _) _
  have HI0 := Aside0.mk hI0
  have HC0 := Aside0.mk hC0
  have HB0 := Aside0.mk hB0
  clear hI0 hC0 hB0
  go_loopg [15] k (fun kq v15 w' => ∃ (i : Int) (s : ByteArray), v15 = .int .i64 i ∧ 0 ≤ i ∧ Aside0 (relrec_PutAll.l0 kq a0_0 a0_1 a1 l2 s i = some (r1, r2)) ∧ Aside0 (kq ≤ k) ∧ Aside0 (Lib.IsBuilder 72 5 (w.heap.size + 1) (w.heap.size + 1) (Lib.byteCells s.data.toList) w') ∧ Aside0 (w'.heap[w.heap.size]? = some (.cells #[.bool a0_0, .bool a0_1] 29 (0, 0))) ∧ Aside0 (Below w.heap.size w w'))
  case atStart => exact ⟨0, ⟨#[]⟩, rfl, by omega, H, ⟨Nat.le_refl _⟩, HI0, HC0, HB0⟩
  case round =>
    clear H HI0 HC0 HB0
    obtain ⟨i, s, rfl, hi0, HA, HK, HI, HC, HB⟩ := hrel
    cases gk with
    | zero => exact absurd HA.out (by simp [relrec_PutAll.l0])
    | succ gk =>
      have H := HA.out
      clear HA
      simp only [relrec_PutAll.l0] at H
      by_cases c1 : i < (l2.length : Int)
      · rw [if_pos c1] at H
        obtain ⟨⟨t, ok⟩, hp, H2⟩ := Option.bind_eq_some_iff.mp H
        obtain ⟨ad, e1, hx0, hx1, hx2, hx3⟩ := at_T33 HR.out i hi0 c1
        cases e1
        generalize rd_T33 l2 i = x at hx0 hx1 hx2 hx3 hp
        have HP := Aside0.mk hp
        have HT := Aside0.mk H2
        clear hp H H2
        have hw := relrec_PutAll.step i hi0 c1 M2
        have p0 : (0 ≤ i) = True := eq_true hi0
        have p1 : (i < (l2.length : Int)) = True := eq_true c1
        have c1b : decide (i < (l2.length : Int)) = true := decide_eq_true c1
        clear c1
        replace hx0 := pw_cell_below HB.out hx0
        replace hx1 := pw_cell_below HB.out hx1
        replace hx2 := pw_cell_below HB.out hx2
        replace hx3 := pw_cell_below HB.out hx3
        have hc0 : ∀ o, (wr.alloc o).cell? ⟨w.heap.size, 0, none⟩ = some (.bool a0_0) := fun o => (blk_cell (blk_alloc HC.out o) 0).trans rfl
        have hc1 : ∀ o, (wr.alloc o).cell? ⟨w.heap.size, 1, none⟩ = some (.bool a0_1) := fun o => (blk_cell (blk_alloc HC.out o) 1).trans rfl
        have HZ := Aside0.mk (show w.heap.size < wr.heap.size from blk_lt HC.out)
        cases ok
        · have hT := HT.out
          obtain ⟨rfl, rfl⟩ := Prod.mk.inj (Option.some.inj (show some (⟨#[]⟩, false) = some (r1, r2) from hT))
          clear hT HT
          go_wp2_with (go_at_call 10; refine (relrec_Put.calls gk a0_0 a0_1 a1 x.f0 x.f1 x.f2 x.f3 t false _ HP.out).mono ?_; rintro e w2 ⟨rfl, hb⟩)
          go_ret2
          exact ⟨rfl, below_step (by repeat (first | exact HB.out | apply below_alloc)) hb⟩
        · have hT : (if s.size + t.size ≤ 140737488355328 then (relrec_PutAll.l0 gk a0_0 a0_1 a1 l2 (s ++ t) (i + 1)) else none) = some (r1, r2) := HT.out
          by_cases hl : s.size + t.size ≤ 140737488355328
          · rw [if_pos hl] at hT
            have HL := Aside0.mk hl
            have HT2 := Aside0.mk hT
            clear hl hT HT
            go_wp2_with (first | (go_at_call 10; refine (relrec_Put.calls gk a0_0 a0_1 a1 x.f0 x.f1 x.f2 x.f3 t true _ HP.out).mono ?_; rintro e w2 ⟨rfl, hb⟩; have n0_ := Aside0.mk (below_step (by repeat (first | exact HB.out | apply below_alloc)) hb); have n1_ := Aside0.mk (blk_below (blk_alloc HC.out _) hb); have n2_ := Aside0.mk (Bld.isB_below (Bld.isB_below HI.out (below_alloc (Below.refl _ _) _)) hb); clear HB HC HI hb; have HB := n0_; have HC := n1_; have HI := n2_; clear n0_ n1_ n2_) | (go_at_call 29; refine (Bld.writeString (w.heap.size + 1) (w.heap.size + 1) (Lib.byteCells s.data.toList) t _ HI.out (by rw [Bld.bytes_len]; exact HL.out) (by have := blk_lt HC.out; omega)).mono ?_; rintro e w3 ⟨rfl, hbl, hb⟩; rw [Bld.bytes_app] at hbl; have n0_ := Aside0.mk (Bld.low HB.out hb (by omega)); have n1_ := Aside0.mk ((hb.block w.heap.size (by omega)).trans HC.out); have n2_ := Aside0.mk (Bld.isB_at hbl); clear HB HC HI hb hbl; have HB := n0_; have HC := n1_; have HI := n2_; clear n0_ n1_ n2_))
            go_roundg gk
            case measure => have := HK.out; omega
            case rel => exact ⟨i + 1, s ++ t, rfl, by omega, HT2, ⟨by have := HK.out; omega⟩, HI, HC, HB⟩
          · rw [if_neg hl] at hT
            cases hT
      · rw [if_neg c1] at H
        have c1b : decide (i < (l2.length : Int)) = false := decide_eq_false c1
        obtain ⟨rfl, rfl⟩ := Prod.mk.inj (Option.some.inj H)
        clear H c1
        go_wp2_with (go_at_call 30; refine (Try.Builder_String_any (w.heap.size + 1) (w.heap.size + 1) s.data.toList _ HI.out (by have := blk_lt HC.out; omega)).mono ?_; rintro e w4 ⟨rfl, hb⟩)
        go_ret2
        exact ⟨rfl, Bld.low HB.out hb (by omega)⟩


/-- A state of type 90 at block g of W; what its slices lead to came in by w0. -/
def IsS90 (w0 W : World) (g : Nat) (f0 : Bool) (f1 : ByteArray) (f2 : Int) (f3 : Bool) : Prop := W.heap[g]? = some (.cells #[.bool f0, .string f1, .int .u64 f2, .bool f3] 90 (0, 0)) ∧ w0.heap.size ≤ g
theorem IsS90.grown {w0 W : World} {g : Nat} {f0 : Bool} {f1 : ByteArray} {f2 : Int} {f3 : Bool} {W1 : World} {row : Option Nat} (h : IsS90 w0 W g f0 f1 f2 f3) (hw : W.grownBy W1 row) (hne : some g ≠ row) : IsS90 w0 W1 g f0 f1 f2 f3 := by
  obtain ⟨hb, hg⟩ := h
  exact ⟨blk_grown hb hw hne, hg⟩
theorem IsS90.own_neN {w0 W : World} {g : Nat} {f0 : Bool} {f1 : ByteArray} {f2 : Int} {f3 : Bool} {α : Type} {d : Kd α} {e : Nat} {base : Nat} {ok : Nat → Prop} {v : Value} {xs : List α} (h : IsS90 w0 W g f0 f1 f2 f3) (ho : Kd.N d e W base ok v xs) (ht : e ≠ 90) : some g ≠ v.ownBlock := by
  obtain ⟨hb, hg⟩ := h
  exact Kd.N_ne ho hb ht
theorem IsS90.fresh {w0 W : World} {g : Nat} {f0 : Bool} {f1 : ByteArray} {f2 : Int} {f3 : Bool} (h : IsS90 w0 W g f0 f1 f2 f3) : ∀ k, W.heap.size ≤ k → k ≠ g := by
  obtain ⟨hb, hg⟩ := h
  exact Kd.freshB hb
theorem IsS90.kept {w0 W : World} {g : Nat} {f0 : Bool} {f1 : ByteArray} {f2 : Int} {f3 : Bool} {W1 : World} {S : Nat → Prop} (h : IsS90 w0 W g f0 f1 f2 f3) (hk : Kept W W1 S) (hne : ¬ S g) : IsS90 w0 W1 g f0 f1 f2 f3 := by
  obtain ⟨hb, hg⟩ := h
  exact ⟨blk_kept hb hk hne, hg⟩
theorem IsS90.below {w0 W : World} {g : Nat} {f0 : Bool} {f1 : ByteArray} {f2 : Int} {f3 : Bool} {W1 : World} (h : IsS90 w0 W g f0 f1 f2 f3) (hw : Below W.heap.size W W1) : IsS90 w0 W1 g f0 f1 f2 f3 := h.grown (grown_of_below hw none) (by simp)
theorem IsS90.alloc {w0 W : World} {g : Nat} {f0 : Bool} {f1 : ByteArray} {f2 : Int} {f3 : Bool} (h : IsS90 w0 W g f0 f1 f2 f3) (o : Obj) : IsS90 w0 (W.alloc o) g f0 f1 f2 f3 := h.below (below_alloc (Below.refl _ _) o)
theorem IsS90.drewN {w0 W : World} {g : Nat} {f0 : Bool} {f1 : ByteArray} {f2 : Int} {f3 : Bool} (h : IsS90 w0 W g f0 f1 f2 f3) (m : Nat) : IsS90 w0 (W.drewN m) g f0 f1 f2 f3 := h
theorem IsS90.drew {w0 W : World} {g : Nat} {f0 : Bool} {f1 : ByteArray} {f2 : Int} {f3 : Bool} (h : IsS90 w0 W g f0 f1 f2 f3) : IsS90 w0 W.drew g f0 f1 f2 f3 := h
theorem IsS90.at_ {w0 W : World} {g : Nat} {f0 : Bool} {f1 : ByteArray} {f2 : Int} {f3 : Bool} {w' : World} {m : Nat} (hq : W.drewN m = w') (h : IsS90 w0 W g f0 f1 f2 f3) : IsS90 w0 w' g f0 f1 f2 f3 := by subst hq; exact IsS90.drewN h m
theorem IsS90.apart {w0 W : World} {g : Nat} {f0 : Bool} {f1 : ByteArray} {f2 : Int} {f3 : Bool} {α : Type} {d : Kd α} {e : Nat} {base : Nat} {ok : Nat → Prop} {v : Value} {xs : List α} (h : IsS90 w0 W g f0 f1 f2 f3) (ho : d.R e W base ok v xs) (ht : ∀ q, q ∈ e :: d.E → q ≠ 90) : d.R e W base (fun k => ok k ∧ k ≠ g) v xs := by
  obtain ⟨hb, hg⟩ := h
  exact Kd.R_types ho hb ht
theorem IsS90.own_ne {w0 W : World} {g : Nat} {f0 : Bool} {f1 : ByteArray} {f2 : Int} {f3 : Bool} {α : Type} {d : Kd α} {e : Nat} {base : Nat} {ok : Nat → Prop} {v : Value} {xs : List α} (h : IsS90 w0 W g f0 f1 f2 f3) (ho : d.R e W base ok v xs) (ht : e ≠ 90) : some g ≠ v.ownBlock := by
  obtain ⟨hb, hg⟩ := h
  exact Kd.R_ne ho hb ht
theorem IsS90.apartQ {w0 W : World} {g : Nat} {f0 : Bool} {f1 : ByteArray} {f2 : Int} {f3 : Bool} {α : Type} {d : Kd α} {e : Nat} {base : Nat} {ok : Nat → Prop} {v : Value} {xs : List α} (h : IsS90 w0 W g f0 f1 f2 f3) (ho : d.Q e W base ok v xs) (ht : ∀ q, q ∈ e :: d.E → q ≠ 90) : d.Q e W base (fun k => ok k ∧ k ≠ g) v xs := by
  obtain ⟨hb, hg⟩ := h
  exact Kd.Q_types ho hb ht
theorem IsS90.own_neQ {w0 W : World} {g : Nat} {f0 : Bool} {f1 : ByteArray} {f2 : Int} {f3 : Bool} {α : Type} {d : Kd α} {e : Nat} {base : Nat} {ok : Nat → Prop} {v : Value} {xs : List α} (h : IsS90 w0 W g f0 f1 f2 f3) (ho : d.Q e W base ok v xs) (ht : e ≠ 90) : some g ≠ v.ownBlock := by
  obtain ⟨hb, hg⟩ := h
  exact Kd.Q_ne ho hb ht
theorem IsS90.apartS {w0 W : World} {g : Nat} {f0 : Bool} {f1 : ByteArray} {f2 : Int} {f3 : Bool} {α : Type} {d : Kd α} {e : Nat} {base : Nat} {ok : Nat → Prop} {v : Value} {xs : List α} (h : IsS90 w0 W g f0 f1 f2 f3) (ho : d.S e W base ok v xs) (ht : ∀ q, q ∈ e :: d.E → q ≠ 90) : d.S e W base (fun k => ok k ∧ k ≠ g) v xs := by
  obtain ⟨hb, hg⟩ := h
  exact Kd.S_types ho hb ht
theorem IsS90.own_neS {w0 W : World} {g : Nat} {f0 : Bool} {f1 : ByteArray} {f2 : Int} {f3 : Bool} {α : Type} {d : Kd α} {e : Nat} {base : Nat} {ok : Nat → Prop} {v : Value} {xs : List α} (h : IsS90 w0 W g f0 f1 f2 f3) (ho : d.S e W base ok v xs) (ht : e ≠ 90) : some g ≠ v.ownBlock := by
  obtain ⟨hb, hg⟩ := h
  exact Kd.S_ne ho hb ht
theorem IsS90.lt {w0 W : World} {g : Nat} {f0 : Bool} {f1 : ByteArray} {f2 : Int} {f3 : Bool} (h : IsS90 w0 W g f0 f1 f2 f3) : g < W.heap.size := by
  obtain ⟨hb, hg⟩ := h
  exact blk_lt hb
theorem IsS90.ge {w0 W : World} {g : Nat} {f0 : Bool} {f1 : ByteArray} {f2 : Int} {f3 : Bool} (h : IsS90 w0 W g f0 f1 f2 f3) : w0.heap.size ≤ g := by
  obtain ⟨hb, hg⟩ := h
  exact hg
theorem IsS90.ne_blk {w0 W : World} {g : Nat} {f0 : Bool} {f1 : ByteArray} {f2 : Int} {f3 : Bool} {a : Nat} {cs : Array Value} {t : TypeId} {fr : Nat × Nat} (h : IsS90 w0 W g f0 f1 f2 f3) (hb2 : W.heap[a]? = some (.cells cs t fr)) (ht : t ≠ 90) : g ≠ a := by
  obtain ⟨hb, hg⟩ := h
  rintro rfl
  rw [hb] at hb2
  injection hb2 with hb2
  injection hb2 with _ ht2
  exact ht ht2.symm
theorem IsS90.far {w0 W : World} {g : Nat} {f0 : Bool} {f1 : ByteArray} {f2 : Int} {f3 : Bool} {p : Addr} (h : IsS90 w0 W g f0 f1 f2 f3) (hne : g ≠ p.block) (u : Value) : IsS90 w0 (W.setCell p u) g f0 f1 f2 f3 := by
  obtain ⟨hb, hg⟩ := h
  exact ⟨blk_far hb hne u, hg⟩
theorem cellS90_0 {W : World} {g : Nat} {f0 : Bool} {f1 : ByteArray} {f2 : Int} {f3 : Bool} (h : W.heap[g]? = some (.cells #[.bool f0, .string f1, .int .u64 f2, .bool f3] 90 (0, 0))) : W.cell? ⟨g, 0, none⟩ = some (.bool f0) := (blk_cell h 0).trans rfl
theorem IsS90.set_0 {w0 W : World} {g : Nat} {f0 : Bool} {f1 : ByteArray} {f2 : Int} {f3 : Bool} (h : IsS90 w0 W g f0 f1 f2 f3) (x : Bool) : IsS90 w0 (W.setCell ⟨g, 0, none⟩ (.bool x)) g x f1 f2 f3 := by
  obtain ⟨hb, hg⟩ := h
  exact ⟨by simpa using blk_set hb 0 (.bool x), hg⟩
theorem cellS90_1 {W : World} {g : Nat} {f0 : Bool} {f1 : ByteArray} {f2 : Int} {f3 : Bool} (h : W.heap[g]? = some (.cells #[.bool f0, .string f1, .int .u64 f2, .bool f3] 90 (0, 0))) : W.cell? ⟨g, 1, none⟩ = some (.string f1) := (blk_cell h 1).trans rfl
theorem IsS90.set_1 {w0 W : World} {g : Nat} {f0 : Bool} {f1 : ByteArray} {f2 : Int} {f3 : Bool} (h : IsS90 w0 W g f0 f1 f2 f3) (x : ByteArray) : IsS90 w0 (W.setCell ⟨g, 1, none⟩ (.string x)) g f0 x f2 f3 := by
  obtain ⟨hb, hg⟩ := h
  exact ⟨by simpa using blk_set hb 1 (.string x), hg⟩
theorem cellS90_2 {W : World} {g : Nat} {f0 : Bool} {f1 : ByteArray} {f2 : Int} {f3 : Bool} (h : W.heap[g]? = some (.cells #[.bool f0, .string f1, .int .u64 f2, .bool f3] 90 (0, 0))) : W.cell? ⟨g, 2, none⟩ = some (.int .u64 f2) := (blk_cell h 2).trans rfl
theorem IsS90.set_2 {w0 W : World} {g : Nat} {f0 : Bool} {f1 : ByteArray} {f2 : Int} {f3 : Bool} (h : IsS90 w0 W g f0 f1 f2 f3) (x : Int) : IsS90 w0 (W.setCell ⟨g, 2, none⟩ (.int .u64 x)) g f0 f1 x f3 := by
  obtain ⟨hb, hg⟩ := h
  exact ⟨by simpa using blk_set hb 2 (.int .u64 x), hg⟩
theorem cellS90_3 {W : World} {g : Nat} {f0 : Bool} {f1 : ByteArray} {f2 : Int} {f3 : Bool} (h : W.heap[g]? = some (.cells #[.bool f0, .string f1, .int .u64 f2, .bool f3] 90 (0, 0))) : W.cell? ⟨g, 3, none⟩ = some (.bool f3) := (blk_cell h 3).trans rfl
theorem IsS90.set_3 {w0 W : World} {g : Nat} {f0 : Bool} {f1 : ByteArray} {f2 : Int} {f3 : Bool} (h : IsS90 w0 W g f0 f1 f2 f3) (x : Bool) : IsS90 w0 (W.setCell ⟨g, 3, none⟩ (.bool x)) g f0 f1 f2 x := by
  obtain ⟨hb, hg⟩ := h
  exact ⟨by simpa using blk_set hb 3 (.bool x), hg⟩
theorem IsS90.new (w0 W : World) (f0 : Bool) (f1 : ByteArray) (f2 : Int) (f3 : Bool) (hB : Below w0.heap.size w0 W) : IsS90 w0 (W.alloc (.cells #[.bool f0, .string f1, .int .u64 f2, .bool f3] 90)) W.heap.size f0 f1 f2 f3 := ⟨by simpa using heap_alloc_new W _, hB.size⟩

/-! ### order_Order_Read: function 26 -/
def order_Order_Read.f (a0_0 : Bool) (a1 : ByteArray) (a2 : Int) : Option (Bool × ByteArray × Int × Bool) := some (a0_0, a1, a2, false)
set_option maxHeartbeats 8000000 in
set_option maxRecDepth 100000 in
theorem order_Order_Read.calls (a0_0 : Bool) (a1 : ByteArray) (a2 : Int) (r1 : Bool) (r2 : ByteArray) (r3 : Int) (r4 : Bool) (w0 w : World) (hB : Below w0.heap.size w0 w) (h : order_Order_Read.f a0_0 a1 a2 = some (r1, r2, r3, r4)) :
    Calls Try.prog 26 #[.agg #[.bool a0_0], .string a1, .int .u64 a2] w fun e w' => ∃ g_ : Nat, e = .returned (.pointer (some ⟨g_, 0, none⟩)) ∧ IsS90 w0 w' g_ r1 r2 r3 r4 ∧ Below w0.heap.size w0 w' ∧ Below w.heap.size w w' := by
  have hu27 := Try.underlying27
  have hu90 := Try.underlying90
  have HBW := Aside0.mk (Below.refl w.heap.size w)
  have HW0 := Aside0.mk hB.size
  have HB := Aside0.mk hB
  clear hB
  have H : (some (a0_0, a1, a2, false)) = some (r1, r2, r3, r4) := h
  clear h
  simp only [Option.some.injEq, Prod.mk.injEq] at H
  obtain ⟨rfl, rfl, rfl, rfl⟩ := H
  go_enter Try.func26, Try.ntmps26
  go_wp2_with (first | ((with_reducible refine gate_dst (N := 3) rfl ?_); refine box_event ?hg (N := 3) ?hd (cs := #[.bool a0_0]) (t := 27) ?hr ?_; (case hd => rfl); (case hg => rfl); (case hr => first | (go_simp; done) | (go_simp; rfl)); intro gb194 hg w4 hbox hb; have n0_ := Aside0.mk (below_step HBW.out hb); have n1_ := Aside0.mk (below_step (by repeat (first | (with_reducible first | exact HB.out | apply below_alloc | apply pw_below_drewN | apply below_drew1) | exact HB.out)) hb); have n2_ := Aside0.mk (hbox); have n3_ := Aside0.mk ((by rw [hg]; exact (below_size (by repeat (first | (with_reducible first | exact HBW.out | apply below_alloc | apply pw_below_drewN | apply below_drew1) | exact HBW.out))) : w.heap.size ≤ gb194)); have n4_ := Aside0.mk ((Nat.le_trans HW0.out (by rw [hg]; exact (below_size (by repeat (first | (with_reducible first | exact HBW.out | apply below_alloc | apply pw_below_drewN | apply below_drew1) | exact HBW.out))) : w.heap.size ≤ gb194) : w0.heap.size ≤ gb194)); clear HBW; clear HB; have HBW := n0_; have HB := n1_; have BK194 := n2_; have GW194 := n3_; have GE194 := n4_; clear n0_ n1_ n2_ n3_ n4_; clear hb hbox hg; have hcz5_0 : w4.cell? ⟨gb194, 0, none⟩ = some (.bool a0_0) := (blk_cell BK194.out 0).trans rfl; have hfz5_0 := blk_frozen BK194.out 0) | ((with_reducible refine gate_dst (N := 11) rfl ?_); refine box_event ?hg (N := 11) ?hd (cs := #[.bool a0_0, .string a1, .int .u64 a2, .bool false]) (t := 90) ?hr ?_; (case hd => rfl); (case hg => rfl); (case hr => first | (go_simp; done) | (go_simp; rfl)); intro gb195 hg w6 hbox hb; have n0_ := Aside0.mk (blk_below (g := gb194) (o := .cells #[.bool a0_0] 27 (0, 0)) (by (with_reducible repeat (first | refine blk_drewN ?_ _ | refine blk_drew ?_ | refine blk_alloc ?_ _)); exact BK194.out) hb); have n1_ := Aside0.mk (below_step HBW.out hb); have n2_ := Aside0.mk (below_step (by repeat (first | (with_reducible first | exact HB.out | apply below_alloc | apply pw_below_drewN | apply below_drew1 | refine below_set ?_ GE194.out) | exact HB.out)) hb); have n3_ := Aside0.mk (hbox); have n4_ := Aside0.mk ((by rw [hg]; exact (below_size (by repeat (first | (with_reducible first | exact HBW.out | apply below_alloc | apply pw_below_drewN | apply below_drew1 | refine below_set ?_ GW194.out) | exact HBW.out))) : w.heap.size ≤ gb195)); have n5_ := Aside0.mk ((Nat.le_trans HW0.out (by rw [hg]; exact (below_size (by repeat (first | (with_reducible first | exact HBW.out | apply below_alloc | apply pw_below_drewN | apply below_drew1 | refine below_set ?_ GW194.out) | exact HBW.out))) : w.heap.size ≤ gb195) : w0.heap.size ≤ gb195)); have n6_ := Aside0.mk ((by rw [hg]; exact Nat.ne_of_lt (blk_lt (g := gb194) (o := .cells #[.bool a0_0] 27 (0, 0)) (by (with_reducible repeat (first | refine blk_drewN ?_ _ | refine blk_drew ?_ | refine blk_alloc ?_ _)); exact BK194.out)) : gb194 ≠ gb195)); have n7_ := Aside0.mk ((by rw [hg]; exact Nat.ne_of_gt (blk_lt (g := gb194) (o := .cells #[.bool a0_0] 27 (0, 0)) (by (with_reducible repeat (first | refine blk_drewN ?_ _ | refine blk_drew ?_ | refine blk_alloc ?_ _)); exact BK194.out)) : gb195 ≠ gb194)); clear BK194; clear HBW; clear HB; have BK194 := n0_; have HBW := n1_; have HB := n2_; have BK195 := n3_; have GW195 := n4_; have GE195 := n5_; have NB194_195 := n6_; have NB195_194 := n7_; clear n0_ n1_ n2_ n3_ n4_ n5_ n6_ n7_; clear hb hbox hg))
  go_ret
  exact ⟨_, rfl, (show IsS90 w0 _ gb195 a0_0 a1 a2 false from ⟨by (with_reducible repeat (first | refine blk_drewN ?_ _ | refine blk_drew ?_ | refine blk_alloc ?_ _)); exact BK195.out, GE195.out⟩), by repeat (first | (with_reducible first | exact HB.out | apply below_alloc | apply pw_below_drewN | apply below_drew1 | refine below_set ?_ GE194.out | refine below_set ?_ GE195.out) | exact HB.out), by repeat (first | (with_reducible first | exact HBW.out | apply below_alloc | apply pw_below_drewN | apply below_drew1 | refine below_set ?_ GW194.out | refine below_set ?_ GW195.out) | exact HBW.out)⟩

/-! ### order_Order_Get: function 41 -/
def order_Order_Get.l0 : Nat → ByteArray → Int → Int → Int → Bool → Option (Int)
  | 0, _, _, _, _, _ => none
  | k + 1, x1, x5, x11, x12, x197000 => if x12 < x11 then ((order_Order_place.f x197000 x12 (x1.size : Int)).bind fun t197 => (if 0 ≤ t197 then (if t197 < (x1.size : Int) then (if 0 ≤ (wrap64 (8 * x12)) then (order_Order_Get.l0 k x1 (Go.bits .or .u64 x5 (shl .u64 (IntKind.u64.wrap (bt x1 t197)) (wrap64 (8 * x12)))) x11 (wrap64 (x12 + 1)) x197000) else (none)) else (none)) else (none))) else (some x5)
def order_Order_Get.f (k : Nat) (a0_0 : Bool) (a1 : ByteArray) : Option (Int) := if (a1.size : Int) > 8 then (some 0) else (order_Order_Get.l0 k a1 0 (a1.size : Int) 0 a0_0)
theorem order_Order_Get.mono_l : ∀ k, (∀ y0 y1 y2 y3 y4, LeO (order_Order_Get.l0 k y0 y1 y2 y3 y4) (order_Order_Get.l0 (k + 1) y0 y1 y2 y3 y4))
  | 0 => fun _ _ _ _ _ r h => by simp [order_Order_Get.l0] at h
  | k + 1 => by
    have ih0 := order_Order_Get.mono_l k
    · intro y0 y1 y2 y3 y4
      unfold order_Order_Get.l0
      repeat' first
      | (with_reducible exact ih0 _ _ _ _ _)
      | (with_reducible exact LeO.refl _)
      | (with_reducible exact LeO.none _)
      | (with_reducible refine LeO.ite ?_ ?_)
      | (with_reducible refine LeO.bind ?_ (fun _ => ?_))
      | exact ih0 _ _ _ _ _
      | exact LeO.none _
      | refine LeO.ite ?_ ?_
      | refine LeO.bind ?_ (fun _ => ?_)
theorem order_Order_Get.mono : ∀ a0 a1 k, LeO (order_Order_Get.f k a0 a1) (order_Order_Get.f (k + 1) a0 a1) := by
  intro a0 a1 k
  have ih0 := order_Order_Get.mono_l k
  unfold order_Order_Get.f
  repeat' first
      | (with_reducible exact ih0 _ _ _ _ _)
      | (with_reducible exact LeO.refl _)
      | (with_reducible exact LeO.none _)
      | (with_reducible refine LeO.ite ?_ ?_)
      | (with_reducible refine LeO.bind ?_ (fun _ => ?_))
      | exact ih0 _ _ _ _ _
      | exact LeO.none _
      | refine LeO.ite ?_ ?_
      | refine LeO.bind ?_ (fun _ => ?_)
set_option maxHeartbeats 8000000 in
set_option maxRecDepth 100000 in
theorem order_Order_Get.calls (k : Nat) (a0_0 : Bool) (a1 : ByteArray) (r : Int) (w : World) (h : order_Order_Get.f k a0_0 a1 = some r) :
    Calls Try.prog 41 #[.agg #[.bool a0_0], .string a1] w fun e w' => e = .returned (.int .u64 r) ∧ Below w.heap.size w w' := by
  have hu27 := Try.underlying27
  have HB := Aside0.mk (Below.refl w.heap.size w)
  have H : (if (a1.size : Int) > 8 then (some 0) else (order_Order_Get.l0 k a1 0 (a1.size : Int) 0 a0_0)) = some r := h
  clear h
  by_cases c3 : (a1.size : Int) > 8
  · rw [if_pos c3] at H
    have c3b0 : decide (8 < (a1.size : Int)) = true := decide_eq_true c3
    have c3b1 : decide (8 < a1.size) = true := decide_eq_true (by omega)
    clear c3
    obtain rfl := Option.some.inj H
    go_enter Try.func41, Try.ntmps41
    go_wp2_with (first | ((with_reducible refine gate_dst (N := 2) rfl ?_); refine box_event ?hg (N := 2) ?hd (cs := #[.bool a0_0]) (t := 27) ?hr ?_; (case hd => rfl); (case hg => rfl); (case hr => first | (go_simp; done) | (go_simp; rfl)); intro gb196 hg w4 hbox hb; have n0_ := Aside0.mk (below_step (by repeat (first | (with_reducible first | exact HB.out | apply below_alloc | apply pw_below_drewN | apply below_drew1) | exact HB.out)) hb); have n1_ := Aside0.mk (hbox); have n2_ := Aside0.mk ((by rw [hg]; exact (below_size (by repeat (first | (with_reducible first | exact HB.out | apply below_alloc | apply pw_below_drewN | apply below_drew1) | exact HB.out))) : w.heap.size ≤ gb196)); have n3_ := Aside0.mk ((by rw [hg]; exact (below_size (by repeat (first | (with_reducible first | exact HB.out | apply below_alloc | apply pw_below_drewN | apply below_drew1) | exact HB.out))) : w.heap.size ≤ gb196)); clear HB; have HB := n0_; have BK196 := n1_; have GW196 := n2_; have GE196 := n3_; clear n0_ n1_ n2_ n3_; clear hb hbox hg))
    go_ret
    exact ⟨by first | rfl | (simp [errW_none, errW_some] <;> rfl) | (simp [*, errW_none, errW_some] <;> rfl), by repeat (first | (with_reducible first | exact HB.out | apply below_alloc | apply pw_below_drewN | apply below_drew1 | refine below_set ?_ GE196.out) | exact HB.out)⟩
  · rw [if_neg c3] at H
    have c3b0 : decide (8 < (a1.size : Int)) = false := decide_eq_false c3
    have c3b1 : decide (8 < a1.size) = false := decide_eq_false (by omega)
    clear c3
    have H' := Aside0.mk H
    clear H
    go_enter Try.func41, Try.ntmps41
    go_wp2_with (first | ((with_reducible refine gate_dst (N := 2) rfl ?_); refine box_event ?hg (N := 2) ?hd (cs := #[.bool a0_0]) (t := 27) ?hr ?_; (case hd => rfl); (case hg => rfl); (case hr => first | (go_simp; done) | (go_simp; rfl)); intro gb196 hg w5 hbox hb; have n0_ := Aside0.mk (below_step (by repeat (first | (with_reducible first | exact HB.out | apply below_alloc | apply pw_below_drewN | apply below_drew1) | exact HB.out)) hb); have n1_ := Aside0.mk (hbox); have n2_ := Aside0.mk ((by rw [hg]; exact (below_size (by repeat (first | (with_reducible first | exact HB.out | apply below_alloc | apply pw_below_drewN | apply below_drew1) | exact HB.out))) : w.heap.size ≤ gb196)); have n3_ := Aside0.mk ((by rw [hg]; exact (below_size (by repeat (first | (with_reducible first | exact HB.out | apply below_alloc | apply pw_below_drewN | apply below_drew1) | exact HB.out))) : w.heap.size ≤ gb196)); clear HB; have HB := n0_; have BK196 := n1_; have GW196 := n2_; have GE196 := n3_; clear n0_ n1_ n2_ n3_; clear hb hbox hg))
    go_loopg [5, 12] k (fun kq v5 v12 w' => ∃ (x5_1 : Int) (x12_1 : Int), v5 = .int .u64 x5_1 ∧ v12 = .int .i64 x12_1 ∧ Aside0 (order_Order_Get.l0 kq a1 x5_1 (a1.size : Int) x12_1 a0_0 = some r) ∧ Aside0 (kq ≤ k) ∧ Aside0 (w'.heap[gb196]? = some (.cells #[.bool a0_0] 27 (0, 0))) ∧ Aside0 (Below w.heap.size w w'))
    case atStart => exact ⟨(0), (0), (by first | rfl | (simp; done) | (simp [*]; done)), (by first | rfl | (simp; done) | (simp [*]; done)), H', ⟨Nat.le_refl _⟩, ⟨by (with_reducible repeat (first | refine blk_drewN ?_ _ | refine blk_drew ?_ | refine blk_alloc ?_ _)); exact BK196.out⟩, ⟨by repeat (first | (with_reducible first | exact HB.out | apply below_alloc | apply pw_below_drewN | apply below_drew1 | refine below_set ?_ GE196.out) | exact HB.out)⟩⟩
    case round =>
      clear H'
      try clear p2
      try clear c3
      try clear c3b0
      try clear c3b1
      try clear c4
      obtain ⟨x5_1, x12_1, rfl, rfl, HA, HK1, BK196, HB⟩ := hrel
      cases gk with
      | zero => exact absurd HA.out (by simp [order_Order_Get.l0])
      | succ k1 =>
        have H := HA.out
        clear HA
        simp only [order_Order_Get.l0] at H
        by_cases c6 : x12_1 < (a1.size : Int)
        · rw [if_pos c6] at H
          have c6b0 : decide (x12_1 < (a1.size : Int)) = true := decide_eq_true c6
          clear c6
          replace H := Option.bind_eq_some_iff.mp H
          obtain ⟨t197, A70, H⟩ := H
          replace H : (if 0 ≤ t197 then (if t197 < (a1.size : Int) then (if 0 ≤ (wrap64 (8 * x12_1)) then (order_Order_Get.l0 k1 a1 (Go.bits .or .u64 x5_1 (shl .u64 (IntKind.u64.wrap (bt a1 t197)) (wrap64 (8 * x12_1)))) (a1.size : Int) (wrap64 (x12_1 + 1)) a0_0) else (none)) else (none)) else (none)) = some r := H
          have A7 := Aside0.mk A70
          clear A70
          by_cases c8 : 0 ≤ t197
          · rw [if_pos c8] at H
            have c8b0 : decide (0 ≤ t197) = true := decide_eq_true c8
            clear c8
            by_cases c9 : t197 < (a1.size : Int)
            · rw [if_pos c9] at H
              have c9b0 : decide (t197 < (a1.size : Int)) = true := decide_eq_true c9
              clear c9
              obtain ⟨ji11, hji11⟩ : ∃ j_ : Int, (wrap64 (8 * x12_1)) = j_ := ⟨_, rfl⟩
              replace H : (if 0 ≤ (ji11) then (order_Order_Get.l0 k1 a1 (Go.bits .or .u64 x5_1 (shl .u64 (IntKind.u64.wrap (bt a1 t197)) (ji11))) (a1.size : Int) (wrap64 (x12_1 + 1)) a0_0) else (none)) = some r := by first | (rw [hji11] at H; exact H) | (simp only [hji11] at H ⊢; exact H)
              (try rw [hji11] at A7)
              have hji11w : (IntKind.i64.wrap (8 * x12_1)) = ji11 := (i64_w _).trans hji11
              by_cases c12 : 0 ≤ (ji11)
              · rw [if_pos c12] at H
                have c12b0 := eq_true c12
                have c12b1 : decide (0 ≤ (ji11)) = true := decide_eq_true c12
                clear c12
                obtain ⟨ji13, hji13⟩ : ∃ j_ : Int, (shl .u64 (IntKind.u64.wrap (bt a1 t197)) (ji11)) = j_ := ⟨_, rfl⟩
                replace H : (order_Order_Get.l0 k1 a1 (Go.bits .or .u64 x5_1 (ji13)) (a1.size : Int) (wrap64 (x12_1 + 1)) a0_0) = some r := by first | (rw [hji13] at H; exact H) | (simp only [hji13] at H ⊢; exact H)
                (try rw [hji13] at A7)
                have hji13_ : (IntKind.u64.wrap ((IntKind.u64.wrap (bt a1 t197)) * 2 ^ min (ji11).toNat 64)) = ji13 := hji13
                have hji13z : (ji11) ≤ 64 → (IntKind.u64.wrap ((IntKind.u64.wrap (bt a1 t197)) * 2 ^ (ji11).toNat)) = ji13 := shl_small hji13
                have H' := Aside0.mk H
                clear H
                have hcz14_0 : wr.cell? ⟨gb196, 0, none⟩ = some (.bool a0_0) := (blk_cell BK196.out 0).trans rfl
                have hfz14_0 := blk_frozen BK196.out 0
                go_wp2_with (first | ((with_reducible refine gate_callee (f := 44) rfl ?_); refine goesL_ (some 21) rfl rfl Try.func44 (by kernel_rfl) rfl #[.agg #[.bool a0_0], .int .i64 x12_1, .int .i64 (a1.size : Int)] rfl (by (try simp only [List.map_toArray, List.map_cons, List.map_nil]); first | done | rfl | (simp only [List.length_drop, List.length_take]; rfl)) ?_; (with_reducible refine (order_Order_place.calls a0_0 x12_1 (a1.size : Int) t197 _ A7.out).mono ?_); rintro e w15 ⟨rfl, hb⟩; refine ⟨_, rfl, ?_⟩; have n0_ := Aside0.mk (blk_below (g := gb196) (o := .cells #[.bool a0_0] 27 (0, 0)) (by (with_reducible repeat (first | refine blk_drewN ?_ _ | refine blk_drew ?_ | refine blk_alloc ?_ _)); exact BK196.out) hb); have n1_ := Aside0.mk (below_step (by repeat (first | (with_reducible first | exact HB.out | apply below_alloc | apply pw_below_drewN | apply below_drew1 | refine below_set ?_ GE196.out) | exact HB.out)) hb); clear BK196; clear HB; have BK196 := n0_; have HB := n1_; clear n0_ n1_; (try clear hb); (try clear hb2); (try clear hk); (try clear hi); have p10 : 0 ≤ (t197 : Int) := of_decide_eq_true (by first | (with_reducible assumption) | assumption); have q10 : t197 < (a1.size : Int) := of_decide_eq_true (by first | (with_reducible assumption) | assumption); have hx10 := bt_at a1 t197; replace p10 := eq_true p10; replace q10 := eq_true q10))
                go_roundg k1
                case measure => have := HK1.out; omega
                case rel => exact ⟨(Go.bits .or .u64 x5_1 (ji13)), (wrap64 (x12_1 + 1)), (by first | rfl | (simp; done) | (simp only [← hji13] <;> (first | rfl | simp)) | (simp [*]; done)), (by first | rfl | (simp; done) | (simp [*]; done)), H', ⟨by have := HK1.out; omega⟩, ⟨by (with_reducible repeat (first | refine blk_drewN ?_ _ | refine blk_drew ?_ | refine blk_alloc ?_ _)); exact BK196.out⟩, ⟨by repeat (first | (with_reducible first | exact HB.out | apply below_alloc | apply pw_below_drewN | apply below_drew1 | refine below_set ?_ GE196.out) | exact HB.out)⟩⟩
              · rw [if_neg c12] at H
                exact absurd H (by simp)
            · rw [if_neg c9] at H
              exact absurd H (by simp)
          · rw [if_neg c8] at H
            exact absurd H (by simp)
        · rw [if_neg c6] at H
          have c6b0 : decide (x12_1 < (a1.size : Int)) = false := decide_eq_false c6
          clear c6
          obtain rfl := Option.some.inj H
          go_wp2
          go_ret
          exact ⟨by first | rfl | (simp [errW_none, errW_some] <;> rfl) | (simp [*, errW_none, errW_some] <;> rfl), by repeat (first | (with_reducible first | exact HB.out | apply below_alloc | apply pw_below_drewN | apply below_drew1 | refine below_set ?_ GE196.out) | exact HB.out)⟩

/-! ### order_Reader_Bytes: function 42 -/
def order_Reader_Bytes.f (s0_0 : Bool) (s0_1 : ByteArray) (s0_2 : Int) (s0_3 : Bool) (a1 : Int) : Option (ByteArray × Bool × ByteArray × Int × Bool) := if s0_3 = true then (some ((⟨#[]⟩ : ByteArray), s0_0, s0_1, s0_2, s0_3)) else (if s0_2 > (IntKind.u64.wrap ((s0_1.size : Int))) then (some ((⟨#[]⟩ : ByteArray), s0_0, s0_1, s0_2, true)) else (if a1 > (IntKind.u64.wrap ((IntKind.u64.wrap ((s0_1.size : Int))) - s0_2)) then (some ((⟨#[]⟩ : ByteArray), s0_0, s0_1, s0_2, true)) else (if 0 ≤ s0_2 then (if s0_2 ≤ (IntKind.u64.wrap (s0_2 + a1)) then (if (IntKind.u64.wrap (s0_2 + a1)) ≤ (s0_1.size : Int) then (some (s0_1.extract (s0_2 : Int).toNat ((IntKind.u64.wrap (s0_2 + a1)) : Int).toNat, s0_0, s0_1, IntKind.u64.wrap (s0_2 + a1), s0_3)) else (none)) else (none)) else (none))))
set_option maxHeartbeats 8000000 in
set_option maxRecDepth 100000 in
theorem order_Reader_Bytes.calls (g : Nat) (s0_0 : Bool) (s0_1 : ByteArray) (s0_2 : Int) (s0_3 : Bool) (a1 : Int) (r1 : ByteArray) (r2 : Bool) (r3 : ByteArray) (r4 : Int) (r5 : Bool) (w0 w : World) (hI : IsS90 w0 w g s0_0 s0_1 s0_2 s0_3) (hB : Below w0.heap.size w0 w) (h : order_Reader_Bytes.f s0_0 s0_1 s0_2 s0_3 a1 = some (r1, r2, r3, r4, r5)) :
    Calls Try.prog 42 #[.pointer (some ⟨g, 0, none⟩), .int .u64 a1] w fun e w' => e = .returned (.string r1) ∧ IsS90 w0 w' g r2 r3 r4 r5 ∧ Below w0.heap.size w0 w' ∧ KeepBut w w' g none := by
  have HI0 := Aside0.mk hI
  have HK := Aside0.mk (KeepBut.refl w g none)
  have HL := Aside0.mk hB.size
  clear hI
  have HW0 := Aside0.mk hB.size
  have HB := Aside0.mk hB
  clear hB
  have H : (if s0_3 = true then (some ((⟨#[]⟩ : ByteArray), s0_0, s0_1, s0_2, s0_3)) else (if s0_2 > (IntKind.u64.wrap ((s0_1.size : Int))) then (some ((⟨#[]⟩ : ByteArray), s0_0, s0_1, s0_2, true)) else (if a1 > (IntKind.u64.wrap ((IntKind.u64.wrap ((s0_1.size : Int))) - s0_2)) then (some ((⟨#[]⟩ : ByteArray), s0_0, s0_1, s0_2, true)) else (if 0 ≤ s0_2 then (if s0_2 ≤ (IntKind.u64.wrap (s0_2 + a1)) then (if (IntKind.u64.wrap (s0_2 + a1)) ≤ (s0_1.size : Int) then (some (s0_1.extract (s0_2 : Int).toNat ((IntKind.u64.wrap (s0_2 + a1)) : Int).toNat, s0_0, s0_1, IntKind.u64.wrap (s0_2 + a1), s0_3)) else (none)) else (none)) else (none))))) = some (r1, r2, r3, r4, r5) := h
  clear h
  by_cases c3 : s0_3 = true
  · subst c3
    have H1 : (some ((⟨#[]⟩ : ByteArray), s0_0, s0_1, s0_2, true)) = some (r1, r2, r3, r4, r5) := by rw [if_pos rfl] at H; exact H
    clear H
    have H := H1
    clear H1
    simp only [Option.some.injEq, Prod.mk.injEq] at H
    obtain ⟨rfl, rfl, rfl, rfl, rfl⟩ := H
    obtain ⟨HGz4, hgz4⟩ := HI0.out
    have hcz4_0 := cellS90_0 HGz4
    have hcz4_1 := cellS90_1 HGz4
    have hcz4_2 := cellS90_2 HGz4
    have hcz4_3 := cellS90_3 HGz4
    have hfz4_0 := blk_frozen HGz4 0
    have hfz4_1 := blk_frozen HGz4 1
    have hfz4_2 := blk_frozen HGz4 2
    have hfz4_3 := blk_frozen HGz4 3
    clear HGz4 hgz4
    go_enter Try.func42, Try.ntmps42
    go_wp2
    repeat (go_quiet (fail); try go_wp2)
    go_ret
    exact ⟨by first | rfl | (simp [errW_none, errW_some] <;> rfl) | (simp [*, errW_none, errW_some] <;> rfl), by repeat (first | (with_reducible first | exact HI0.out | apply IsS90.alloc | apply IsS90.drewN | apply IsS90.drew | apply IsS90.set_0 | apply IsS90.set_1 | apply IsS90.set_2 | apply IsS90.set_3) | exact HI0.out), by repeat (first | (with_reducible first | exact HB.out | apply below_alloc | apply pw_below_drewN | apply below_drew1 | refine below_set ?_ (IsS90.ge HI0.out)) | exact HB.out), by repeat (first | (with_reducible first | exact HK.out | apply KeepBut.set_ | apply keep_drewN | apply keep_drew | apply keep_alloc) | exact HK.out)⟩
  · replace c3 := Bool.eq_false_iff.mpr c3
    subst c3
    have H1 : (if s0_2 > (IntKind.u64.wrap ((s0_1.size : Int))) then (some ((⟨#[]⟩ : ByteArray), s0_0, s0_1, s0_2, true)) else (if a1 > (IntKind.u64.wrap ((IntKind.u64.wrap ((s0_1.size : Int))) - s0_2)) then (some ((⟨#[]⟩ : ByteArray), s0_0, s0_1, s0_2, true)) else (if 0 ≤ s0_2 then (if s0_2 ≤ (IntKind.u64.wrap (s0_2 + a1)) then (if (IntKind.u64.wrap (s0_2 + a1)) ≤ (s0_1.size : Int) then (some (s0_1.extract (s0_2 : Int).toNat ((IntKind.u64.wrap (s0_2 + a1)) : Int).toNat, s0_0, s0_1, IntKind.u64.wrap (s0_2 + a1), false)) else (none)) else (none)) else (none)))) = some (r1, r2, r3, r4, r5) := by rw [if_neg (show ¬ (false = true) by decide)] at H; exact H
    clear H
    have H := H1
    clear H1
    by_cases c5 : s0_2 > (IntKind.u64.wrap ((s0_1.size : Int)))
    · rw [if_pos c5] at H
      have c5b0 : decide ((IntKind.u64.wrap ((s0_1.size : Int))) < s0_2) = true := decide_eq_true c5
      clear c5
      simp only [Option.some.injEq, Prod.mk.injEq] at H
      obtain ⟨rfl, rfl, rfl, rfl, rfl⟩ := H
      obtain ⟨HGz6, hgz6⟩ := HI0.out
      have hcz6_0 := cellS90_0 HGz6
      have hcz6_1 := cellS90_1 HGz6
      have hcz6_2 := cellS90_2 HGz6
      have hcz6_3 := cellS90_3 HGz6
      have hfz6_0 := blk_frozen HGz6 0
      have hfz6_1 := blk_frozen HGz6 1
      have hfz6_2 := blk_frozen HGz6 2
      have hfz6_3 := blk_frozen HGz6 3
      clear HGz6 hgz6
      go_enter Try.func42, Try.ntmps42
      go_wp2
      repeat (go_quiet (fail); try go_wp2)
      go_ret
      exact ⟨by first | rfl | (simp [errW_none, errW_some] <;> rfl) | (simp [*, errW_none, errW_some] <;> rfl), by repeat (first | (with_reducible first | exact HI0.out | apply IsS90.alloc | apply IsS90.drewN | apply IsS90.drew | apply IsS90.set_0 | apply IsS90.set_1 | apply IsS90.set_2 | apply IsS90.set_3) | exact HI0.out), by repeat (first | (with_reducible first | exact HB.out | apply below_alloc | apply pw_below_drewN | apply below_drew1 | refine below_set ?_ (IsS90.ge HI0.out)) | exact HB.out), by repeat (first | (with_reducible first | exact HK.out | apply KeepBut.set_ | apply keep_drewN | apply keep_drew | apply keep_alloc) | exact HK.out)⟩
    · rw [if_neg c5] at H
      have c5b0 : decide ((IntKind.u64.wrap ((s0_1.size : Int))) < s0_2) = false := decide_eq_false c5
      clear c5
      by_cases c7 : a1 > (IntKind.u64.wrap ((IntKind.u64.wrap ((s0_1.size : Int))) - s0_2))
      · rw [if_pos c7] at H
        have c7b0 : decide ((IntKind.u64.wrap ((IntKind.u64.wrap ((s0_1.size : Int))) - s0_2)) < a1) = true := decide_eq_true c7
        clear c7
        simp only [Option.some.injEq, Prod.mk.injEq] at H
        obtain ⟨rfl, rfl, rfl, rfl, rfl⟩ := H
        obtain ⟨HGz8, hgz8⟩ := HI0.out
        have hcz8_0 := cellS90_0 HGz8
        have hcz8_1 := cellS90_1 HGz8
        have hcz8_2 := cellS90_2 HGz8
        have hcz8_3 := cellS90_3 HGz8
        have hfz8_0 := blk_frozen HGz8 0
        have hfz8_1 := blk_frozen HGz8 1
        have hfz8_2 := blk_frozen HGz8 2
        have hfz8_3 := blk_frozen HGz8 3
        clear HGz8 hgz8
        go_enter Try.func42, Try.ntmps42
        go_wp2
        repeat (go_quiet (fail); try go_wp2)
        go_ret
        exact ⟨by first | rfl | (simp [errW_none, errW_some] <;> rfl) | (simp [*, errW_none, errW_some] <;> rfl), by repeat (first | (with_reducible first | exact HI0.out | apply IsS90.alloc | apply IsS90.drewN | apply IsS90.drew | apply IsS90.set_0 | apply IsS90.set_1 | apply IsS90.set_2 | apply IsS90.set_3) | exact HI0.out), by repeat (first | (with_reducible first | exact HB.out | apply below_alloc | apply pw_below_drewN | apply below_drew1 | refine below_set ?_ (IsS90.ge HI0.out)) | exact HB.out), by repeat (first | (with_reducible first | exact HK.out | apply KeepBut.set_ | apply keep_drewN | apply keep_drew | apply keep_alloc) | exact HK.out)⟩
      · rw [if_neg c7] at H
        have c7b0 : decide ((IntKind.u64.wrap ((IntKind.u64.wrap ((s0_1.size : Int))) - s0_2)) < a1) = false := decide_eq_false c7
        clear c7
        by_cases c9 : 0 ≤ s0_2
        · rw [if_pos c9] at H
          have c9b0 := eq_true c9
          have c9b1 : decide (0 ≤ s0_2) = true := decide_eq_true c9
          clear c9
          by_cases c10 : s0_2 ≤ (IntKind.u64.wrap (s0_2 + a1))
          · rw [if_pos c10] at H
            have c10b0 := eq_true c10
            have c10b1 : decide (s0_2 ≤ (IntKind.u64.wrap (s0_2 + a1))) = true := decide_eq_true c10
            by_cases c11 : (IntKind.u64.wrap (s0_2 + a1)) ≤ (s0_1.size : Int)
            · rw [if_pos c11] at H
              have c11b0 := eq_true c11
              have c11b1 : decide ((IntKind.u64.wrap (s0_2 + a1)) ≤ (s0_1.size : Int)) = true := decide_eq_true c11
              obtain ⟨sc12, hsc12⟩ : ∃ s_ : ByteArray, (s0_1.extract (s0_2 : Int).toNat ((IntKind.u64.wrap (s0_2 + a1)) : Int).toNat) = s_ := ⟨_, rfl⟩
              replace H : (some (sc12, s0_0, s0_1, IntKind.u64.wrap (s0_2 + a1), false)) = some (r1, r2, r3, r4, r5) := by first | (rw [hsc12] at H; exact H) | (simp only [hsc12] at H ⊢; exact H) | exact H
              (try (have hsc12n := hsc12; simp only [Int.toNat_natCast] at hsc12n))
              simp only [Option.some.injEq, Prod.mk.injEq] at H
              obtain ⟨rfl, rfl, rfl, rfl, rfl⟩ := H
              obtain ⟨HGz13, hgz13⟩ := HI0.out
              have hcz13_0 := cellS90_0 HGz13
              have hcz13_1 := cellS90_1 HGz13
              have hcz13_2 := cellS90_2 HGz13
              have hcz13_3 := cellS90_3 HGz13
              have hfz13_0 := blk_frozen HGz13 0
              have hfz13_1 := blk_frozen HGz13 1
              have hfz13_2 := blk_frozen HGz13 2
              have hfz13_3 := blk_frozen HGz13 3
              clear HGz13 hgz13
              go_enter Try.func42, Try.ntmps42
              go_wp2
              repeat (go_quiet (fail); try go_wp2)
              go_ret
              exact ⟨by first | rfl | (simp [errW_none, errW_some] <;> rfl) | (simp [*, errW_none, errW_some] <;> rfl), by repeat (first | (with_reducible first | exact HI0.out | apply IsS90.alloc | apply IsS90.drewN | apply IsS90.drew | apply IsS90.set_0 | apply IsS90.set_1 | apply IsS90.set_2 | apply IsS90.set_3) | exact HI0.out), by repeat (first | (with_reducible first | exact HB.out | apply below_alloc | apply pw_below_drewN | apply below_drew1 | refine below_set ?_ (IsS90.ge HI0.out)) | exact HB.out), by repeat (first | (with_reducible first | exact HK.out | apply KeepBut.set_ | apply keep_drewN | apply keep_drew | apply keep_alloc) | exact HK.out)⟩
            · rw [if_neg c11] at H
              exact absurd H (by simp)
          · rw [if_neg c10] at H
            exact absurd H (by simp)
        · rw [if_neg c9] at H
          exact absurd H (by simp)

end Go.Proofs.Ytjmjebbjfjgbeaa.Q
