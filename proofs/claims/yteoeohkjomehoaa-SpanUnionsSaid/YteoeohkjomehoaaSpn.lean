/- slices.Clone, slices.DeleteFunc and slices.SortFunc at slices of spans, as span.sorted calls them: what each call leaves in memory. No condition but those in the statements. -/
import Derived.Test.YteoeohkjomehoaaQ0
import Derived.Outline
import Derived.Shelf.SlicesE.DeleteFunc
import Derived.Shelf.SlSortCmp.NoneTotal
import Derived.Shelf.SlicesQ.IndexFunc
namespace Go.Proofs
open Go.Shelf
def Try.sortSp_ren : Go.Shelf.Ren := ⟨fun | 6 => 28 | 15 => 33 | 14 => 32 | 28 => 43 | 29 => 44 | 20 => 35 | 21 => 36 | 22 => 37 | 23 => 38 | 24 => 39 | 25 => 40 | 26 => 41 | 27 => 42 | 46 => 45 | 47 => 46 | 48 => 47 | 49 => 48 | 50 => 49 | 57 => 50 | n => n, fun | 22 => 24 | 24 => 29 | 25 => 63 | 3 => 3 | 39 => 64 | 0 => 0 | 53 => 77 | 55 => 26 | 4 => 4 | 46 => 70 | 45 => 69 | 50 => 74 | 5 => 5 | 9 => 9 | 66 => 79 | 70 => 82 | 76 => 84 | 77 => 85 | n => n, fun | n => n⟩
theorem Try.sortSp : Go.Proofs.SlLaysF0.n6 Try.prog Try.sortSp_ren := {
  mixed := by kernel_rfl
  f6 := ⟨Try.f28.name, by decide, Try.func28.trans (congrArg some (by kernel_rfl))⟩
  f14 := ⟨Try.f32.name, by decide, Try.func32.trans (congrArg some (by kernel_rfl))⟩
  f15 := Try.func33.trans (congrArg some (by kernel_rfl))
  f20 := ⟨Try.f35.name, by decide, Try.func35.trans (congrArg some (by kernel_rfl))⟩
  f21 := ⟨Try.f36.name, by decide, Try.func36.trans (congrArg some (by kernel_rfl))⟩
  f22 := ⟨Try.f37.name, by decide, Try.func37.trans (congrArg some (by kernel_rfl))⟩
  f23 := ⟨Try.f38.name, by decide, Try.func38.trans (congrArg some (by kernel_rfl))⟩
  f24 := ⟨Try.f39.name, by decide, Try.func39.trans (congrArg some (by kernel_rfl))⟩
  f25 := ⟨Try.f40.name, by decide, Try.func40.trans (congrArg some (by kernel_rfl))⟩
  f26 := ⟨Try.f41.name, by decide, Try.func41.trans (congrArg some (by kernel_rfl))⟩
  f27 := ⟨Try.f42.name, by decide, Try.func42.trans (congrArg some (by kernel_rfl))⟩
  f28 := Try.func43.trans (congrArg some (by kernel_rfl))
  f29 := Try.func44.trans (congrArg some (by kernel_rfl))
  f46 := ⟨Try.f45.name, by decide, Try.func45.trans (congrArg some (by kernel_rfl))⟩
  f47 := Try.func46.trans (congrArg some (by kernel_rfl))
  f48 := Try.func47.trans (congrArg some (by kernel_rfl))
  f49 := ⟨Try.f48.name, by decide, Try.func48.trans (congrArg some (by kernel_rfl))⟩
  f50 := ⟨Try.f49.name, by decide, Try.func49.trans (congrArg some (by kernel_rfl))⟩
  f57 := ⟨Try.f50.name, by decide, Try.func50.trans (congrArg some (by kernel_rfl))⟩
  t0 := Try.underlying0
  a0 := Try.isAgg0
  z0 := Try.sizeOf0
  v0 := Try.zeroValue0
  t3 := Try.underlying3
  a3 := Try.isAgg3
  z3 := Try.sizeOf3
  v3 := Try.zeroValue3
  t4 := Try.underlying4
  a4 := Try.isAgg4
  z4 := Try.sizeOf4
  v4 := Try.zeroValue4
  t5 := Try.underlying5
  a5 := Try.isAgg5
  z5 := Try.sizeOf5
  v5 := Try.zeroValue5
  t9 := Try.underlying9
  a9 := Try.isAgg9
  z9 := Try.sizeOf9
  v9 := Try.zeroValue9
  t22 := Try.underlying24
  a22 := Try.isAgg24
  z22 := Try.sizeOf24
  v22 := Try.zeroValue24
  t25 := Try.underlying63
  a25 := Try.isAgg63
  z25 := Try.sizeOf63
  v25 := Try.zeroValue63
  t39 := Try.underlying64
  a39 := Try.isAgg64
  z39 := Try.sizeOf64
  v39 := Try.zeroValue64
  t45 := Try.underlying69
  a45 := Try.isAgg69
  z45 := Try.sizeOf69
  v45 := Try.zeroValue69
  t46 := Try.underlying70
  a46 := Try.isAgg70
  z46 := Try.sizeOf70
  v46 := Try.zeroValue70
  t50 := Try.underlying74
  a50 := Try.isAgg74
  z50 := Try.sizeOf74
  v50 := Try.zeroValue74
  t53 := Try.underlying77
  a53 := Try.isAgg77
  z53 := Try.sizeOf77
  v53 := Try.zeroValue77
  t55 := Try.underlying26
  a55 := Try.isAgg26
  z55 := Try.sizeOf26
  v55 := Try.zeroValue26
  t66 := Try.underlying79
  a66 := Try.isAgg79
  z66 := Try.sizeOf79
  v66 := Try.zeroValue79
  t70 := Try.underlying82
  a70 := Try.isAgg82
  z70 := Try.sizeOf82
  v70 := Try.zeroValue82
  t76 := Try.underlying84
  a76 := Try.isAgg84
  z76 := Try.sizeOf84
  v76 := Try.zeroValue84
  t77 := Try.underlying85
  a77 := Try.isAgg85
  z77 := Try.sizeOf85
  v77 := Try.zeroValue85 }
def Try.idxSp_ren : Go.Shelf.Ren := ⟨fun | 6 => 31 | n => n, fun | 22 => 24 | 23 => 29 | 25 => 60 | 3 => 3 | 0 => 0 | 4 => 4 | n => n, fun | n => n⟩
theorem Try.idxSp : Go.Proofs.SlLaysH0.n6 Try.prog Try.idxSp_ren := {
  mixed := by kernel_rfl
  f6 := ⟨Try.f31.name, by decide, Try.func31.trans (congrArg some (by kernel_rfl))⟩
  t0 := Try.underlying0
  a0 := Try.isAgg0
  z0 := Try.sizeOf0
  v0 := Try.zeroValue0
  t3 := Try.underlying3
  a3 := Try.isAgg3
  z3 := Try.sizeOf3
  v3 := Try.zeroValue3
  t4 := Try.underlying4
  a4 := Try.isAgg4
  z4 := Try.sizeOf4
  v4 := Try.zeroValue4
  t22 := Try.underlying24
  a22 := Try.isAgg24
  z22 := Try.sizeOf24
  v22 := Try.zeroValue24
  t25 := Try.underlying60
  a25 := Try.isAgg60
  z25 := Try.sizeOf60
  v25 := Try.zeroValue60 }
end Go.Proofs

namespace Go.Proofs.Yteoeohkjomehoaa.Spn
open Go.Shelf Go.RowKit Go.Lib Go.Sort Go.Proofs.YteoeohkjomehoaaW.PrintWords Go.Proofs.Yteoeohkjomehoaa.Q
set_option linter.unusedVariables false
set_option linter.unusedSimpArgs false
instance : Inhabited S29 := ⟨z29⟩
abbrev Sp := S29
def encS (x : Sp) : List Value := [.int .u64 x.f0, .int .u64 x.f1]
theorem encS_len (x : Sp) : (encS x).length = 2 := rfl
theorem encS_one (x : Sp) : ∀ v ∈ encS x, v.oneCell' = true := fun v hv => by
  simp only [encS, List.mem_cons, List.not_mem_nil, or_false] at hv
  rcases hv with rfl | rfl <;> rfl
def dead (x : Sp) : Bool := x.f1 == 0
def flat (l : List Sp) : List Value := l.flatMap encS
theorem flat_cons (x : Sp) (l : List Sp) : flat (x :: l) = .int .u64 x.f0 :: .int .u64 x.f1 :: flat l := rfl
theorem flat_len : ∀ l : List Sp, (flat l).length = l.length * 2
  | [] => rfl
  | x :: l => by rw [flat_cons]; simp only [List.length_cons, flat_len l]; omega
theorem flat_app (l r : List Sp) : flat (l ++ r) = flat l ++ flat r := by simp [flat]
theorem flat_get0 : ∀ (l : List Sp) (j : Nat), j < l.length → (flat l)[j * 2]? = some (.int .u64 (l[j]!).f0)
  | x :: l, 0, _ => rfl
  | x :: l, j + 1, h => by
    rw [flat_cons, show (j + 1) * 2 = j * 2 + 1 + 1 by omega]
    simp only [List.getElem?_cons_succ, List.getElem!_cons_succ]
    exact flat_get0 l j (by simpa using h)
theorem flat_get1 : ∀ (l : List Sp) (j : Nat), j < l.length → (flat l)[j * 2 + 1]? = some (.int .u64 (l[j]!).f1)
  | x :: l, 0, _ => rfl
  | x :: l, j + 1, h => by
    rw [flat_cons, show (j + 1) * 2 + 1 = j * 2 + 1 + 1 + 1 by omega]
    simp only [List.getElem?_cons_succ, List.getElem!_cons_succ]
    exact flat_get1 l j (by simpa using h)

/-! ### the small ones -/
theorem isNaN (x : Int) (w : World) : Calls Try.prog 34 #[.int .u64 x] w fun e w' => e = .returned (.bool false) ∧ w' = w := by
  go_enter Try.func34, Try.ntmps34
  go_wp2
  go_ret
  exact ⟨by simp, rfl⟩
set_option maxHeartbeats 1000000 in
theorem compare (x y : Int) (w : World) : Calls Try.prog 30 #[.int .u64 x, .int .u64 y] w fun e w' => e = .returned (.int .i64 (Lib.compareInt x y)) ∧ w' = w := by
  go_enter Try.func30, Try.ntmps30
  go_wp2_with (go_at_call 34; refine (isNaN _ _).mono ?_; rintro e w' ⟨rfl, hw⟩; rw [hw])
  all_goals (go_ret; refine ⟨?_, rfl⟩; unfold Lib.compareInt; (repeat' split) <;> first | rfl | (exfalso; omega))
set_option maxHeartbeats 1000000 in
theorem deads (x : Sp) (w : World) : Calls Try.prog 27 #[.agg #[.int .u64 x.f0, .int .u64 x.f1]] w fun e w' => e = .returned (.bool (dead x)) ∧ w' = w.alloc (.cells #[.int .u64 x.f0, .int .u64 x.f1] 29) := by
  unfold dead
  go_enter Try.func27, Try.ntmps27
  go_wp2
  go_ret
  exact ⟨rfl, rfl⟩
def cf (x y : Sp) : Int := Lib.compareInt x.f0 y.f0
set_option maxHeartbeats 1000000 in
theorem closure (x y : Sp) (W : World) : Calls Try.prog 29 #[.agg #[.int .u64 x.f0, .int .u64 x.f1], .agg #[.int .u64 y.f0, .int .u64 y.f1]] W fun e w' => e = .returned (.int .i64 (cf x y)) ∧ ∃ q os', w' = grow (W.drewN q) os' := by
  have hcon := fun W' => compare x.f0 y.f0 W'
  unfold cf
  generalize Lib.compareInt x.f0 y.f0 = r at hcon ⊢
  go_enter Try.func29, Try.ntmps29
  go_wp2_with (go_at_call 30; refine (hcon _).mono ?_; rintro e w' ⟨rfl, rfl⟩)
  go_ret
  exact ⟨rfl, 0, _, by rw [alloc_eq_grow, alloc_eq_grow, grow_grow]; rfl⟩
theorem cmpLays (blk off size : Nat) (w : World) : CmpLays Try.prog 29 #[] encS 2 cf blk off size w :=
  fun _ _ _ _ x y => closure x y _
theorem lt_def (x y : Sp) : ltOf cf x y = decide (x.f0 < y.f0) := by
  unfold ltOf cf Lib.compareInt
  by_cases h1 : x.f0 < y.f0
  · simp [h1]
  · by_cases h2 : y.f0 < x.f0 <;> simp [h1, h2]
theorem swo : SWO (ltOf cf) where
  irrefl x := by rw [lt_def]; simp
  trans x y z h1 h2 := by rw [lt_def] at *; simp at *; omega
  ntrans x y z h1 h2 := by rw [lt_def] at *; simp at *; omega

/-! ### a row of spans in a block of the call's own -/
structure Row (w0 : World) (blk cap : Nat) (l : List Sp) (W : World) : Prop where
  os : W.os = w0.os
  tape : W.tape = w0.tape
  output : W.output = w0.output
  size : w0.heap.size ≤ W.heap.size
  other : ∀ k, k < w0.heap.size → k ≠ blk → W.heap[k]? = w0.heap[k]?
  lt : blk < w0.heap.size
  row : ∃ cur, W.heap[blk]? = some (.cells cur 29 (0, 0)) ∧ cur.size = cap * 2 ∧ cur.toList.take (l.length * 2) = flat l
namespace Row
variable {w0 W W1 : World} {blk cap : Nat} {l : List Sp}
theorem below (h : Row w0 blk cap l W) (hb : Below W.heap.size W W1) : Row w0 blk cap l W1 :=
  ⟨hb.os.trans h.os, hb.tape.trans h.tape, hb.output.trans h.output, Nat.le_trans h.size hb.size, fun k hk hn => (hb.block k (Nat.lt_of_lt_of_le hk h.size)).trans (h.other k hk hn), h.lt,
    by obtain ⟨cur, h1, h2⟩ := h.row; exact ⟨cur, (hb.block blk (Nat.lt_of_lt_of_le h.lt h.size)).trans h1, h2⟩⟩
theorem alloc (h : Row w0 blk cap l W) (o : Obj) : Row w0 blk cap l (W.alloc o) := h.below ((Below.refl _ _).alloc (Nat.le_refl _) o)
theorem drew (h : Row w0 blk cap l W) : Row w0 blk cap l W.drew := h.below (Below.refl _ _).drew
theorem setNew (h : Row w0 blk cap l W) (p : Addr) (hp : w0.heap.size ≤ p.block) (u : Value) : Row w0 blk cap l (W.setCell p u) :=
  ⟨h.os, h.tape, h.output, by have := h.size; simpa [World.setCell] using this, fun k hk hn => (Below.heap_setCell W p u k (by omega)).trans (h.other k hk hn), h.lt,
    by obtain ⟨cur, h1, h2⟩ := h.row; exact ⟨cur, (Below.heap_setCell W p u blk (by have := h.lt; omega)).trans h1, h2⟩⟩
theorem cell (h : Row w0 blk cap l W) (t : Nat) (v : Value) (hv : (flat l)[t]? = some v) : W.cell? ⟨blk, t, none⟩ = some v ∧ W.frozen? ⟨blk, t, none⟩ = false := by
  obtain ⟨cur, h1, h2, h3⟩ := h.row
  have ht : t < l.length * 2 := by have := (List.getElem?_eq_some_iff.1 hv).1; rwa [flat_len] at this
  rw [← h3, List.getElem?_take_of_lt ht] at hv
  exact ⟨by simp [World.cell?, h1, ← hv], by simp [World.frozen?, h1]⟩
theorem cell0 (h : Row w0 blk cap l W) (j : Nat) (hj : j < l.length) : W.cell? ⟨blk, j * 2, none⟩ = some (.int .u64 (l[j]!).f0) ∧ W.frozen? ⟨blk, j * 2, none⟩ = false := h.cell _ _ (flat_get0 l j hj)
theorem cell1 (h : Row w0 blk cap l W) (j : Nat) (hj : j < l.length) : W.cell? ⟨blk, j * 2 + 1, none⟩ = some (.int .u64 (l[j]!).f1) ∧ W.frozen? ⟨blk, j * 2 + 1, none⟩ = false := h.cell _ _ (flat_get1 l j hj)
theorem splice_take {A E : List Value} {a L : Nat} (hE : E.length = 2) (h1 : a + 2 ≤ L) (h2 : L ≤ A.length) : (A.take a ++ E ++ A.drop (a + 2)).take L = (A.take L).take a ++ E ++ (A.take L).drop (a + 2) := by
  have e1 : (A.take a).length = a := by simp; omega
  rw [List.append_assoc, List.take_append, e1, List.take_append, hE, List.take_of_length_le (show (A.take a).length ≤ L by omega), List.take_of_length_le (show E.length ≤ L - a by omega), List.take_take, Nat.min_eq_left (by omega), List.drop_take, List.append_assoc, show L - a - 2 = L - (a + 2) by omega]
theorem flat_set : ∀ (l : List Sp) (i : Nat) (x : Sp), i < l.length → flat (l.set i x) = (flat l).take (i * 2) ++ encS x ++ (flat l).drop (i * 2 + 2)
  | y :: l, 0, x, _ => rfl
  | y :: l, i + 1, x, h => by
    rw [List.set_cons_succ, flat_cons, flat_cons, flat_set l i x (by simpa using h), show (i + 1) * 2 = i * 2 + 1 + 1 by omega, show i * 2 + 1 + 1 + 2 = i * 2 + 2 + 1 + 1 by omega]
    rfl
theorem set (h : Row w0 blk cap l W) (i : Nat) (hi : i < l.length) (x : Sp) : Row w0 blk cap (l.set i x) ((W.setCell ⟨blk, i * 2, none⟩ (.int .u64 x.f0)).setCell ⟨blk, i * 2 + 1, none⟩ (.int .u64 x.f1)) := by
  obtain ⟨cur, h1, h2, h3⟩ := h.row
  have hl : l.length * 2 ≤ cur.size := by
    have := congrArg List.length h3
    simp only [flat_len, List.length_take, Array.length_toList] at this
    omega
  obtain ⟨cur', g1, g2, g3⟩ := setCells_row (encS x) (i * 2) W cur h1 (by rw [encS_len]; omega)
  refine ⟨h.os, h.tape, h.output, by have := h.size; simpa [World.setCell] using this, fun k hk hn => ?_, h.lt, cur', g1, g2.trans h2, ?_⟩
  · rw [Below.heap_setCell _ _ _ _ (by exact hn), Below.heap_setCell _ _ _ _ (by exact hn)]
    exact h.other k hk hn
  · rw [g3, List.length_set, flat_set l i x hi, ← h3, encS_len]
    exact splice_take (encS_len x) (by omega) (by simpa using hl)
theorem cut (h : Row w0 blk cap l W) (m : Nat) : Row w0 blk cap (l.take m) W := by
  obtain ⟨cur, h1, h2, h3⟩ := h.row
  refine ⟨h.os, h.tape, h.output, h.size, h.other, h.lt, cur, h1, h2, ?_⟩
  have e : ∀ (l : List Sp) (m : Nat), flat (l.take m) = (flat l).take (m * 2) := by
    intro l
    induction l with
    | nil => intro m; simp [flat]
    | cons x l ih =>
      intro m
      cases m with
      | zero => rfl
      | succ m => rw [List.take_succ_cons, flat_cons, flat_cons, ih m, show (m + 1) * 2 = m * 2 + 1 + 1 by omega]; rfl
  rw [e, ← h3, List.take_take, List.length_take, show min m l.length * 2 = min (m * 2) (l.length * 2) by omega]
/-- Stores behind the row's first m elements. -/
theorem behind (h : Row w0 blk cap l W) (m n : Nat) (vs : List Value) (hm : l.length = m) (hn : m * 2 + vs.length ≤ cap * 2) : Row w0 blk cap l (W.setCells blk (m * 2) vs) := by
  obtain ⟨cur, h1, h2, h3⟩ := h.row
  obtain ⟨cur', g1, g2, g3⟩ := setCells_row vs (m * 2) W cur h1 (by omega)
  obtain ⟨s1, s2, s3, s4⟩ := setCells_same blk vs (m * 2) W
  refine ⟨s1.trans h.os, s2.trans h.tape, s3.trans h.output, by rw [s4]; exact h.size, fun k hk hn => (setCells_far vs _ k hn).trans (h.other k hk hn), h.lt, cur', g1, g2.trans h2, ?_⟩
  rw [g3, hm, List.append_assoc, List.take_append, List.length_take, Array.length_toList, Nat.min_eq_left (by omega), Nat.sub_self, List.take_zero, List.append_nil, List.take_take, Nat.min_self, ← hm, h3]
theorem holds (h : Row w0 blk cap l W) : HoldsK encS 2 W blk 0 l.toArray := by
  intro j hj
  have hj' : j < l.length * 2 := by simpa using hj
  have e : (flat l)[j]? = some (id (flatK encS 2 l.toArray)[j]!) := by
    have hd : j / 2 < l.length := by omega
    rw [get_flatK encS 2 l.toArray j (by simpa using hj'), show l.toArray[j / 2]! = l[j / 2]! from by simp]
    rcases (by omega : j % 2 = 0 ∨ j % 2 = 1) with h0 | h0
    · have := flat_get0 l (j / 2) hd
      rw [show j / 2 * 2 = j by omega] at this
      rw [this, h0]; rfl
    · have := flat_get1 l (j / 2) hd
      rw [show j / 2 * 2 + 1 = j by omega] at this
      rw [this, h0]; rfl
  rw [Nat.zero_add]
  exact h.cell j _ e
/-- Behind the sort. -/
theorem sorted (h : Row w0 blk cap l W) (n : Nat) (d : Array Sp) (os : Array Obj) (hd : d.size = l.length) : Row w0 blk cap d.toList (sortWorldK encS 2 W blk 0 n d os) := by
  obtain ⟨cur, h1, h2, h3⟩ := h.row
  have hl : l.length * 2 ≤ cur.size := by
    have := congrArg List.length h3
    simp only [flat_len, List.length_take, Array.length_toList] at this
    omega
  have hb : blk < W.heap.size := Nat.lt_of_lt_of_le h.lt h.size
  have hH : ∀ k, k < W.heap.size → (sortWorldK encS 2 W blk 0 n d os).heap[k]? = (putRowK encS 2 (Sort.ahead W n) blk 0 d).heap[k]? := fun k hk => by
    unfold sortWorldK
    exact heap_grow_old _ _ (by rw [size_putRowK]; exact hk)
  refine ⟨h.os, h.tape, h.output, ?_, fun k hk hn => ?_, h.lt, putCells id 0 (flatK encS 2 d) cur, ?_, ?_, ?_⟩
  · unfold sortWorldK; rw [size_grow, size_putRowK]; show w0.heap.size ≤ W.heap.size + _; have := h.size; omega
  · rw [hH k (Nat.lt_of_lt_of_le hk h.size), ← h.other k hk hn]
    unfold putRowK putRow mapBlock
    simp only [Array.getElem?_modify]
    rw [if_neg (fun e => hn e.symm)]
    rfl
  · rw [hH blk hb]
    unfold putRowK putRow mapBlock
    simp only [Array.getElem?_modify, if_true]
    rw [show (Sort.ahead W n).heap[blk]? = W.heap[blk]? from rfl, h1]
    rfl
  · simp [putCells, h2]
  · apply List.ext_getElem?
    intro t
    by_cases ht : t < d.toList.length * 2
    · rw [List.getElem?_take_of_lt ht]
      have ht' : t < d.size * 2 := by simpa using ht
      have e : (flat d.toList)[t]? = some (flatK encS 2 d)[t]! := by
        have hd : t / 2 < d.toList.length := by omega
        rw [get_flatK encS 2 d t ht']
        have hx : d[t / 2]! = d.toList[t / 2]! := by rw [getElem!_pos d.toList _ hd, getElem!_pos d _ (by simpa using hd)]; simp
        rw [hx]
        rcases (by omega : t % 2 = 0 ∨ t % 2 = 1) with h0 | h0
        · have := flat_get0 d.toList (t / 2) hd
          rw [show t / 2 * 2 = t by omega] at this
          rw [this, h0]; rfl
        · have := flat_get1 d.toList (t / 2) hd
          rw [show t / 2 * 2 + 1 = t by omega] at this
          rw [this, h0]; rfl
      rw [e]
      have hc : t < cur.size := by omega
      simp only [putCells, Array.getElem?_toList, Array.getElem?_mapIdx, Array.getElem?_eq_getElem hc, Option.map_some]
      rw [if_pos ⟨Nat.zero_le _, by rw [size_flatK]; omega⟩, Nat.sub_zero]
      rfl
    · rw [List.getElem?_take_eq_none (by omega), List.getElem?_eq_none (by rw [flat_len]; omega)]
end Row

/-! ### slices.IndexFunc, slices.DeleteFunc -/
theorem predBelow (w : World) : PredBelow Try.prog 27 #[] (fun x => .agg (encS x).toArray) dead w := fun W x hb =>
  (deads x W).mono fun e w' ⟨he, hw⟩ => ⟨he, hw ▸ hb.alloc hb.size _⟩
set_option maxHeartbeats 1000000 in
theorem idx (blk cap c : Nat) (l : List Sp) (w0 w : World) (h : Row w0 blk cap l w) (hn : l.length ≤ 9223372036854775807) :
    Calls Try.prog 31 #[.slice (some ⟨blk, 0, none⟩) l.length c, .func (.func 27) #[] #[]] w fun e w' => e = .returned (.int .i64 (Lib.idxBy (fun _ y => dead y) l default)) ∧ Below w.heap.size w w' := by
  have := AnyQ.slices_IndexFunc (P := Try.prog) Try.idxSp 2 Try.isAgg29 Try.sizeOf29 encS encS_len dead 27 #[] (fun args w => enters_of Try.func27 (by kernel_rfl) rfl args w) blk 0 l.length c l w (predBelow w) (Nat.le_refl _) hn (Nat.lt_of_lt_of_le h.lt h.size) (fun j hj i v hv => ?_)
  · rw [List.take_length] at this
    exact this
  · rw [Nat.zero_add]
    match i, hv with
    | 0, hv => cases hv; exact (h.cell0 j hj).1
    | 1, hv => cases hv; exact (h.cell1 j hj).1
    | i + 2, hv => cases hv
def DelPost (w0 : World) (blk cap : Nat) (l : List Sp) (e : Ending) (w' : World) : Prop := e = .returned (.slice (some ⟨blk, 0, none⟩) (l.filter fun x => !dead x).length cap) ∧ Row w0 blk cap (l.filter fun x => !dead x) w'
set_option maxHeartbeats 8000000 in
set_option maxRecDepth 1000000 in
theorem del (blk cap : Nat) (l : List Sp) (w0 w : World) (h : Row w0 blk cap l w) (hcap : l.length ≤ cap) (hn : l.length ≤ 4611686018427387904) :
    Calls Try.prog 25 #[.slice (some ⟨blk, 0, none⟩) l.length cap, .func (.func 27) #[] #[]] w (DelPost w0 blk cap l) := by
  have hIF := idx blk cap cap l w0 w h (by omega)
  obtain ⟨kp, HK⟩ : ∃ kp : Nat → Bool, Hid (kp = fun j => !dead l.toArray[j]!) := ⟨_, rfl⟩
  have hfil : (l.filter fun x => !dead x) = keptUpTo kp l.toArray l.toArray.size := by rw [HK.out]; exact (keptUpTo_filter (fun x => !dead x) l.toArray).symm
  have HR := Aside0.mk h
  rcases idxByFrom_spec (fun _ y => dead y) default l 0 with ⟨e1, hall⟩ | ⟨k0, hk0, e1, ht, hall⟩
  · have e2 : Lib.idxBy (fun _ y => dead y) l default = -1 := e1
    rw [e2] at hIF
    have hkeep : ∀ j, j < l.length → kp j = true := fun j hj => by rw [HK.out]; show (!dead l.toArray[j]!) = true; rw [show l.toArray[j]! = l[j]! by simp, hall j hj]; rfl
    have e3 : keptUpTo kp l.toArray l.toArray.size = l := by rw [keptUpTo_all kp _ _ (fun j hj => hkeep j (by simpa using hj)), range_map_get]
    have HF := Aside0.mk (hfil.trans e3)
    clear h hfil e3 hkeep hall e1 e2 HK
    go_enter Try.func25, Try.ntmps25
    go_wp2_with (go_at_call 31; refine hIF.mono ?_; rintro e w' ⟨rfl, hb⟩)
    go_ret
    unfold DelPost
    rw [HF.out]
    exact ⟨rfl, HR.out.below hb⟩
  · have e2 : Lib.idxBy (fun _ y => dead y) l default = (k0 : Int) := by unfold Lib.idxBy; rw [e1]; simp
    rw [e2] at hIF
    have hkeep : ∀ j, j < k0 → kp j = true := fun j hj => by rw [HK.out]; show (!dead l.toArray[j]!) = true; rw [show l.toArray[j]! = l[j]! by simp, hall j hj]; rfl
    have hdrop : kp k0 = false := by rw [HK.out]; show (!dead l.toArray[k0]!) = false; rw [show l.toArray[k0]! = l[k0]! by simp, show dead l[k0]! = true from ht]; rfl
    have hne1 : ((k0 : Int) == -1) = false := beq_eq_false_iff_ne.2 (by omega)
    have I0 : Aside0 (KeptInv kp l.toArray (k0 + 1) k0 l.toArray) := ⟨KeptInv.start hkeep hdrop⟩
    have HF := Aside0.mk hfil
    have HLT : Aside0 (∀ j : Nat, l.toArray[j]! = l[j]!) := ⟨fun j => by simp⟩
    clear h hfil e1 e2 hkeep hdrop hall ht
    obtain ⟨n, hnn⟩ : ∃ n, l.length = n := ⟨_, rfl⟩
    have HN := Aside0.mk hnn
    rw [hnn] at hIF hcap hn hk0 ⊢
    clear hnn
    go_enter Try.func25, Try.ntmps25
    go_wp2_with (go_at_call 31; refine hIF.mono ?_; rintro e w' ⟨rfl, hb⟩)
    have HR1 := Aside0.mk (HR.out.below hb)
    clear hb HR hIF
    go_loopg [5, 6] n (fun gg s5 s6 wr => ∃ (i j : Nat) (dk : Array Sp), s5 = .int .i64 i ∧ s6 = .int .i64 j ∧ j ≤ n ∧ n - j ≤ gg ∧ Aside0 (KeptInv kp l.toArray j i dk) ∧ Aside0 (Row w0 blk cap dk.toList wr))
    case atStart => exact ⟨k0, k0 + 1, l.toArray, rfl, by go_num, by omega, by omega, I0, by simpa using HR1⟩
    case round =>
      clear I0 HR1
      obtain ⟨i, j, dk, rfl, rfl, hjd, hgg, HI, HW⟩ := hrel
      have hij := HI.out.lt
      have hsz : dk.size = n := by rw [HI.out.size, List.size_toArray, HN.out]
      have HSZ := Aside0.mk hsz
      clear hsz
      by_cases hlt : j < n
      · have hltz : (j : Int) < (n : Int) := by omega
        obtain ⟨cj0, -⟩ := HW.out.cell0 j (by rw [Array.length_toList, HSZ.out]; exact hlt)
        obtain ⟨cj1, -⟩ := HW.out.cell1 j (by rw [Array.length_toList, HSZ.out]; exact hlt)
        obtain ⟨ci0, fi0⟩ := HW.out.cell0 i (by rw [Array.length_toList, HSZ.out]; omega)
        obtain ⟨ci1, fi1⟩ := HW.out.cell1 i (by rw [Array.length_toList, HSZ.out]; omega)
        generalize dk.toList[i]! = old at ci0 ci1
        have hbw : blk < wr.heap.size := Nat.lt_of_lt_of_le HW.out.lt HW.out.size
        have hu : dk.toList[j]! = l[j]! := by
          rw [← HLT.out j, ← HI.out.high j (by omega)]
          rw [getElem!_pos dk.toList j (by rw [Array.length_toList, HSZ.out]; exact hlt), getElem!_pos dk j (by rw [HSZ.out]; exact hlt)]
          simp
        rw [hu] at cj0 cj1
        clear hu
        obtain ⟨u, HU⟩ : ∃ u, Hid (l[j]! = u) := ⟨_, rfl⟩
        rw [HU.out] at cj0 cj1
        have hcall := fun W => deads u W
        cases hq : dead u with
        | false =>
          rw [hq] at hcall
          go_wp2_with (go_at_call 27; refine (hcall _).mono ?_; rintro e w' ⟨rfl, rfl⟩)
          go_roundg (n - (j + 1))
          case measure => omega
          case rel =>
            refine ⟨i + 1, j + 1, dk.setIfInBounds i u, by go_num, by go_num, by omega, Nat.le_refl _, (show Aside0 _ from ⟨?_⟩), (show Aside0 _ from ⟨?_⟩)⟩
            · have := HI.out.keep (by rw [List.size_toArray, HN.out]; exact hlt) (by rw [HK.out]; show (!dead l.toArray[j]!) = true; rw [HLT.out, HU.out, hq]; rfl)
              rwa [HLT.out, HU.out] at this
            · have := ((HW.out.set i (by rw [Array.length_toList, HSZ.out]; omega) u).alloc (Obj.cells #[Value.int IntKind.u64 u.f0, Value.int IntKind.u64 u.f1] 29)).alloc (Obj.cells #[Value.int IntKind.u64 u.f0, Value.int IntKind.u64 u.f1] 29)
              rwa [← Array.toList_setIfInBounds] at this
        | true =>
          rw [hq] at hcall
          go_wp2_with (go_at_call 27; refine (hcall _).mono ?_; rintro e w' ⟨rfl, rfl⟩)
          go_roundg (n - (j + 1))
          case measure => omega
          case rel =>
            refine ⟨i, j + 1, dk, rfl, by go_num, by omega, Nat.le_refl _, (show Aside0 _ from ⟨?_⟩), (show Aside0 _ from ⟨?_⟩)⟩
            · exact HI.out.skip (by rw [HK.out]; show (!dead l.toArray[j]!) = false; rw [HLT.out, HU.out, hq]; rfl)
            · exact (HW.out.alloc _).alloc _
      · obtain rfl : j = n := by omega
        have hltz : ¬ (j : Int) < (j : Int) := by omega
        obtain ⟨m, hm⟩ : ∃ m, j - i = m + 1 := ⟨j - i - 1, by omega⟩
        obtain ⟨zs, hzs⟩ : ∃ zs, (Builtin.zeroCells #[(Value.int .u64 0), (Value.int .u64 0)] (j - i)).toList = zs := ⟨_, rfl⟩
        have hzl : zs.length = (j - i) * 2 := by rw [← hzs]; simp [Builtin.zeroCells]
        have hz1 : ∀ v ∈ zs, v.oneCell' = true := fun v hv => by
          rw [← hzs] at hv
          simp only [Builtin.zeroCells, Array.toList_map, List.mem_map] at hv
          obtain ⟨q, _, rfl⟩ := hv
          rcases (by omega : q % 2 = 0 ∨ q % 2 = 1) with h0 | h0
          · rw [show q % (#[Value.int IntKind.u64 0, Value.int IntKind.u64 0] : Array Value).size = 0 from h0]; rfl
          · rw [show q % (#[Value.int IntKind.u64 0, Value.int IntKind.u64 0] : Array Value).size = 1 from h0]; rfl
        have hst := run_storeCells_cells (P := Try.prog) blk (i * 2) zs 0 wr (fun t ht => by
            have hh := HW.out.holds (i * 2 + t) (by rw [size_flatK, List.size_toArray, Array.length_toList, HSZ.out]; omega)
            rw [show i * 2 + 0 + t = 0 + (i * 2 + t) by omega, hh.1]; rfl) (fun t ht => by
            have hh := HW.out.holds (i * 2 + t) (by rw [size_flatK, List.size_toArray, Array.length_toList, HSZ.out]; omega)
            rw [show i * 2 + 0 + t = 0 + (i * 2 + t) by omega]; exact hh.2) hz1
        have hcl : ∀ ty, (Builtin.clear_ #[24] ty #[.slice (some ⟨blk, i * 2, none⟩) (j - i) (cap - i)]).run Try.prog wr = .ok (.tuple #[]) (wr.setCells blk (i * 2) zs) := fun ty => by
          rw [hm] at hzs ⊢
          simp only [Nat.add_zero] at hst
          have hv := Try.zeroValue29
          have hu := run_underlying (P := Try.prog) Try.underlying24
          simp [Builtin.clear_, hu, hv, Value.cells, hzs, hst]
        have HW2 : Aside0 (Row w0 blk cap (dk.toList.take i) (wr.setCells blk (i * 2) zs)) := ⟨(HW.out.cut i).behind i 0 zs (by rw [List.length_take, Array.length_toList, HSZ.out]; omega) (by omega)⟩
        have HD : Aside0 ((l.filter fun x => !dead x).length = i ∧ dk.toList.take i = l.filter fun x => !dead x) := by
          have hl := HI.out.len
          have e : keptUpTo kp l.toArray j = l.filter fun x => !dead x := by rw [HF.out, List.size_toArray, HN.out]
          rw [e] at hl
          refine ⟨hl, ?_⟩
          apply List.ext_getElem?
          intro t
          by_cases ht : t < i
          · have := HI.out.low t ht
            rw [e] at this
            rw [this, List.getElem?_take_of_lt ht, Array.getElem?_toList, getElem!_pos dk t (by rw [HSZ.out]; omega), Array.getElem?_eq_getElem]
          · rw [List.getElem?_take_eq_none (by omega), List.getElem?_eq_none (by omega)]
        clear hst hzs hz1 hzl hm
        go_wp2
        go_ret
        refine ⟨by rw [HD.out.1]; rfl, ?_⟩
        rw [← HD.out.2]
        exact HW2.out

/-! ### slices.Clone, and span.sorted -/
set_option maxHeartbeats 2000000 in
theorem clone_nil (n c : Nat) (w : World) : Calls Try.prog 26 #[.slice none n c] w fun e w' => e = .returned (.slice none 0 0) ∧ w' = w := by
  have q := fun (w : World) (a : Option Addr) (n c n' c' : Nat) => Lib.run_eql_slice_nil w 24 _ a n c n' c' Try.underlying24
  go_enter Try.func26, Try.ntmps26
  go_wp2
  go_ret
  exact ⟨rfl, rfl⟩
def ClonePost (l : List Sp) (w : World) (e : Ending) (w' : World) : Prop := ∃ g cap, e = .returned (.slice (some ⟨g, 0, none⟩) l.length cap) ∧ l.length ≤ cap ∧ cap ≤ maxLen ∧ w.heap.size ≤ g ∧ Below w.heap.size w w' ∧ Row w' g cap l w'
set_option maxHeartbeats 2000000 in
set_option maxRecDepth 100000 in
theorem clone (ad : Addr) (c : Nat) (l : List Sp) (w : World) (hC : Kd.C k29 w (some ad) l.length l) (hbig : l.length ≤ 8796093022208) :
    Calls Try.prog 26 #[.slice (some ad) l.length c] w (ClonePost l w) := by
  have q := fun (w : World) (a : Option Addr) (n c n' c' : Nat) => Lib.run_eql_slice_nil w 24 _ a n c n' c' Try.underlying24
  obtain ⟨i0, hi, hz0, hz1, hz2⟩ := info_parts info29
  have hnews : ∀ j u, (flat l)[j]? = some u → w.cell? (ad.add j) = some u := fun j u hu => by
    have hj : j < l.length * 2 := by have := (List.getElem?_eq_some_iff.1 hu).1; rwa [flat_len] at this
    obtain ⟨ad', e, hp⟩ := hC.2.2 (by omega)
    cases e
    obtain ⟨cs, hl, hK, hc⟩ := hp (j / 2) _ (List.getElem?_eq_getElem (by omega))
    obtain rfl := k29_open hK
    have hg : l[j / 2]! = l[j / 2]'(by omega) := getElem!_pos l (j / 2) (by omega)
    rcases (by omega : j % 2 = 0 ∨ j % 2 = 1) with h0 | h0
    · have := flat_get0 l (j / 2) (by omega)
      rw [show j / 2 * 2 = j by omega, hu, hg] at this
      have h2 : w.cell? (ad.add (j / 2 * 2 + 0)) = _ := hc 0 _ rfl
      rw [show j / 2 * 2 + 0 = j by omega] at h2
      rw [h2, this]
    · have := flat_get1 l (j / 2) (by omega)
      rw [show j / 2 * 2 + 1 = j by omega, hu, hg] at this
      have h2 : w.cell? (ad.add (j / 2 * 2 + 1)) = _ := hc 1 _ rfl
      rw [show j / 2 * 2 + 1 = j by omega] at h2
      rw [h2, this]
  have A := Aside0.mk hnews
  have h1 : ∀ u ∈ flat l, u.oneCell' = true := fun u hu => by
    obtain ⟨x, _, hx⟩ := List.mem_flatMap.1 hu
    exact encS_one x u hx
  obtain ⟨n, hn⟩ : ∃ n, l.length = n := ⟨_, rfl⟩
  have HN := Aside0.mk hn
  have hL : (flat l).length = n * 2 := by rw [flat_len, hn]
  rw [hn] at hbig ⊢
  clear hC hnews hn
  go_enter Try.func26, Try.ntmps26
  go_wp2_with (at_builtin; refine wpList_append_own _ rfl _ _ 24 rfl w.heap.size 29 i0 (.agg #[(.int .u64 0), (.int .u64 0)]) 2 16 Try.underlying24 hi hz0 hz1 hz2 rfl (by decide) _ _ _ rfl (World.ownsRow_made w #[] 0 (Nat.le_refl _) (Nat.zero_le _) (by simp)) ad n c (flat l) rfl ?qc1 ?qc2 ?qc3 ?qc4 ?qc5 ?qc6 ?_)
  case qc1 => exact hL
  case qc2 =>
    intro j u hj
    exact Lib.cell?_alloc_some _ (A.out j u hj)
  case qc3 => exact h1
  case qc4 => unfold maxLen; omega
  case qc5 => omega
  case qc6 => simp
  intro v' w1 hown hgrow hnil
  have HO := Aside0.mk hown
  have HG := Aside0.mk hgrow
  have HX := Aside0.mk hnil
  clear hown hgrow hnil
  go_wp2
  go_ret
  obtain ⟨h2, h3⟩ := HO.out
  have hb : Below w.heap.size w w1 := ((Below.refl _ w).alloc (Nat.le_refl _) _).grown HG.out (by simp) (by intro k hk; simp [Value.ownBlock] at hk; omega)
  rcases h3 with ⟨h3, _⟩ | ⟨g, cap, cur, rfl, hg, hh, hc, hm, hs, ht⟩
  · exact absurd h3 HX.out
  · have hgl : g < w1.heap.size := by
      by_cases hlt : g < w1.heap.size
      · exact hlt
      · rw [Array.getElem?_eq_none (by omega)] at hh; exact absurd hh (by simp)
    refine ⟨g, cap, by rw [HN.out]; rfl, by rw [HN.out]; exact hc, hm, hg, hb, rfl, rfl, rfl, Nat.le_refl _, fun _ _ _ => rfl, hgl, cur, hh, hs, ?_⟩
    rw [HN.out]
    exact ht

set_option maxHeartbeats 1000000 in
theorem idx_nil (c : Nat) (fv : Value) (w : World) : Calls Try.prog 31 #[.slice none 0 c, fv] w fun e w' => e = .returned (.int .i64 (-1)) ∧ w' = w := by
  go_enter Try.func31, Try.ntmps31
  go_wp2
  refine wp_loop_rounds 1 ?_
  rw [rounds_succ]
  go_wp2
  go_ret
  exact ⟨rfl, rfl⟩
set_option maxHeartbeats 1000000 in
theorem del_nil (c : Nat) (fv : Value) (w : World) : Calls Try.prog 25 #[.slice none 0 c, fv] w fun e w' => e = .returned (.slice none 0 c) ∧ w' = w := by
  go_enter Try.func25, Try.ntmps25
  go_wp2_with (go_at_call 31; refine (idx_nil _ _ _).mono ?_; rintro e w' ⟨rfl, hw⟩; rw [hw])
  go_ret
  exact ⟨rfl, rfl⟩
theorem sort_nil (c : Nat) (fv : Value) (w : World) : Calls Try.prog 28 #[.slice none 0 c, fv] w fun e w' => e = .returned (.tuple #[]) ∧ w' = w :=
  AnyF.slices_SortFunc_none (P := Try.prog) Try.sortSp none c fv w
/-- What span.sorted gives: those that aren't empty, as Go's sort lays them. -/
def sortOf (l : List Sp) : List Sp := (pdq (ltOf cf) (l.filter fun x => !dead x).toArray 0 (l.filter fun x => !dead x).toArray.size (Lib.bitLen (l.filter fun x => !dead x).toArray.size) true true).toList
theorem sortOf_spec (l : List Sp) : PermIn 0 (l.filter fun x => !dead x).toArray.size (l.filter fun x => !dead x).toArray (sortOf l).toArray ∧ SortedIn (ltOf cf) 0 (l.filter fun x => !dead x).toArray.size (sortOf l).toArray := by
  have h := pdq_sorts (ltOf cf) swo (l.filter fun x => !dead x).toArray 0 (l.filter fun x => !dead x).toArray.size (Lib.bitLen (l.filter fun x => !dead x).toArray.size) true true (Nat.zero_le _) (Nat.le_refl _) (Or.inl rfl)
  unfold sortOf
  exact ⟨h.1, h.2⟩
theorem sort (blk cap : Nat) (l : List Sp) (w0 w : World) (h : Row w0 blk cap (l.filter fun x => !dead x) w) (hn : (l.filter fun x => !dead x).length < 4611686018427387904) :
    Calls Try.prog 28 #[.slice (some ⟨blk, 0, none⟩) (l.filter fun x => !dead x).length cap, .func (.func 29) #[] #[]] w fun e w' => e = .returned (.tuple #[]) ∧ Row w0 blk cap (sortOf l) w' := by
  have hs : (sortOf l).toArray.size = (l.filter fun x => !dead x).toArray.size := (sortOf_spec l).1.1
  have := AnyQ.slices_SortFunc_eq (P := Try.prog) Try.sortSp 2 Try.isAgg29 Try.sizeOf29 encS encS_len encS_one cf swo 29 #[] blk 0 cap (l.filter fun x => !dead x).toArray w (fun args w => enters_of Try.func29 (by kernel_rfl) rfl args w) (cmpLays _ _ _ _) h.holds (Nat.lt_of_lt_of_le h.lt h.size) (by simpa using hn)
  refine Calls.mono (P := Try.prog) this ?_
  rintro e w' ⟨rfl, n, os, rfl⟩
  refine ⟨rfl, ?_⟩
  exact h.sorted n _ os (by simpa [sortOf] using hs)
theorem reps {w : World} {base : Nat} {ok : Nat → Prop} : ∀ l : List Sp, Reps (k29.M w base ok) 2 l (flat l)
  | [] => Reps.none _ _
  | x :: l => Reps.c2 (k29_mkM w base ok x) (reps l)
end Go.Proofs.Yteoeohkjomehoaa.Spn
