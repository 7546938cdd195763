/- A row of bytes that a constant's conversion made: '[]byte("abc")': the run-time's mark stands behind its last cell; it is written and read as any row. -/
import Derived.Test.YtjmjebbjfjgbeaaDoorPts
import Derived.Lib.SlBytesConst
namespace Go.Proofs.YtjmjebbjfjgbeaaDoor.Q
open Go.RowKit Go.Proofs.YtjmjebbjfjgbeaaDoorW.PrintWords Go.Proofs.YtjmjebbjfjgbeaaDoorW.PrintLast Go.Proofs.YtjmjebbjfjgbeaaDoorW.PrintMore
set_option linter.unusedVariables false
namespace Mk
/-- A marked row of bytes (of the type e), from the block base on, of a block that is ok. -/
def R (e : Nat) (w : World) (base : Nat) (ok : Nat → Prop) (v : Value) (xs : List Int) : Prop :=
  ∃ g c, v = .slice (some ⟨g, 0, none⟩) xs.length c ∧ xs.length ≤ c ∧ xs.length ≤ 9223372036854775807 ∧ base ≤ g ∧ ok g ∧ w.heap[g]? = some (.cells (xs.map (Value.int .u8)).toArray e (xs.length, xs.length + 1))
section
variable {e : Nat} {w w1 W : World} {base b : Nat} {ok ok' oku okv : Nat → Prop} {u v v1 : Value} {xs ys : List Int} {A : Option Addr} {n c g cap : Nat}
theorem lt_of (h : w.heap[g]? = some (.cells (xs.map (Value.int .u8)).toArray e (xs.length, xs.length + 1))) : g < w.heap.size := (Array.getElem?_eq_some_iff.mp h).1
theorem R_move (h : R e w base ok v xs) (hm : ∀ k, v.ownBlock = some k → base ≤ k → ok k → k < w.heap.size → w1.heap[k]? = w.heap[k]?) : R e w1 base ok v xs := by
  obtain ⟨g, c, rfl, h1, h2, h3, h4, h5⟩ := h
  exact ⟨g, c, rfl, h1, h2, h3, h4, by rw [hm g (by simp [Value.ownBlock]) h3 h4 (lt_of h5)]; exact h5⟩
theorem R_mono (h : R e w base ok v xs) (hok : ∀ k, ok k → ok' k) : R e w base ok' v xs := by
  obtain ⟨g, c, rfl, h1, h2, h3, h4, h5⟩ := h
  exact ⟨g, c, rfl, h1, h2, h3, hok _ h4, h5⟩
theorem R_also (h : R e w base ok v xs) (hok : ∀ k, v.ownBlock = some k → base ≤ k → k < w.heap.size → ok k → ok' k) : R e w base ok' v xs := by
  obtain ⟨g, c, rfl, h1, h2, h3, h4, h5⟩ := h
  exact ⟨g, c, rfl, h1, h2, h3, hok _ (by simp [Value.ownBlock]) h3 (lt_of h5) h4, h5⟩
theorem R_lower {base' : Nat} (h : R e w base ok v xs) (hb : base' ≤ base) : R e w base' ok v xs := by
  obtain ⟨g, c, rfl, h1, h2, h3, h4, h5⟩ := h
  exact ⟨g, c, rfl, h1, h2, Nat.le_trans hb h3, h4, h5⟩
theorem R_below (h : R e w base ok v xs) (hb : Below w.heap.size w w1) : R e w1 base ok v xs := R_move h (fun k _ _ _ hk => hb.block k hk)
theorem R_alloc (h : R e w base ok v xs) (o : Obj) : R e (w.alloc o) base ok v xs := R_below h (below_alloc (Below.refl _ _) o)
theorem R_drew (h : R e w base ok v xs) : R e w.drew base ok v xs := R_below h (below_drew (Below.refl _ _))
theorem R_drewN (h : R e w base ok v xs) (m : Nat) : R e (w.drewN m) base ok v xs := R_below h (pw_below_drewN (Below.refl _ _) m)
theorem R_slice (h : R e w base ok v xs) : ∃ A c, v = .slice A xs.length c := by
  obtain ⟨g, c, e, _⟩ := h
  exact ⟨_, c, e⟩
theorem R_base (h : R e w base ok v xs) : ∀ k, v.ownBlock = some k → base ≤ k := by
  obtain ⟨g, c, rfl, h1, h2, h3, h4, h5⟩ := h
  intro k hk
  have : g = k := by simpa [Value.ownBlock] using hk
  omega
theorem R_lt (h : R e w base ok v xs) : ∀ k, v.ownBlock = some k → k < w.heap.size := by
  obtain ⟨g, c, rfl, h1, h2, h3, h4, h5⟩ := h
  intro k hk
  have : g = k := by simpa [Value.ownBlock] using hk
  have := lt_of h5
  omega
theorem cells_at (h5 : w.heap[g]? = some (.cells (xs.map (Value.int .u8)).toArray e (xs.length, xs.length + 1))) (i : Nat) (hi : i < xs.length) : w.cell? ⟨g, i, none⟩ = some (.int .u8 (xs.getD i 0)) := by
  unfold World.cell?
  rw [h5]
  simp [List.getElem?_eq_getElem hi]
theorem R_reads' (h : R e w base ok (.slice A n c) xs) : n = xs.length ∧ n ≤ c ∧ (Kd.int .u8).C w A xs.length xs := by
  obtain ⟨g, c', e, h1, h2, h3, h4, h5⟩ := h
  injection e with e1 e2 e3
  subst e1 e2 e3
  refine ⟨rfl, h1, rfl, h2, fun _ => ⟨_, rfl, fun j p hj => ⟨[.int .u8 p], rfl, rfl, fun i u hu => ?_⟩⟩⟩
  obtain ⟨hlt, rfl⟩ := List.getElem?_eq_some_iff.mp hj
  cases i with
  | succ i => simp at hu
  | zero =>
    obtain rfl := Option.some.inj (show some _ = some u from hu)
    rw [show j * (Kd.int .u8).sz + 0 = j from Nat.mul_one j, add_plain]
    have := cells_at h5 j hlt
    simpa [hlt] using this
theorem R_form (h : R e w base ok v xs) (hp : 0 < xs.length) : ∃ g cap, v = .slice (some ⟨g, 0, none⟩) xs.length cap ∧ base ≤ g ∧ g < w.heap.size ∧ ∃ cells, w.heap[g]? = some (.cells cells e (xs.length, xs.length + 1)) := by
  obtain ⟨g, c, rfl, h1, h2, h3, h4, h5⟩ := h
  exact ⟨g, c, rfl, h3, lt_of h5, _, h5⟩
theorem R_celln (d : Int) (h : R e W base ok (.slice (some ⟨g, 0, none⟩) n cap) xs) (i : Int) (h0 : 0 ≤ i) (hi : i < n) : W.cell? ⟨g, i.toNat, none⟩ = some (.int .u8 (rdOf d xs i)) ∧ W.frozen? ⟨g, i.toNat, none⟩ = false := by
  obtain ⟨g', c', e, h1, h2, h3, h4, h5⟩ := h
  injection e with e1 e2 e3
  injection e1 with e1
  injection e1 with e1
  subst e1 e2
  have hn : i.toNat < xs.length := by omega
  refine ⟨?_, ?_⟩
  · have := cells_at h5 i.toNat hn
    unfold rdOf
    rw [this]
    simp [hn]
  · unfold World.frozen?
    rw [h5]
    show (decide (xs.length ≤ i.toNat) && _) = false
    rw [decide_eq_false (by omega)]
    rfl
theorem R_putg (h : R e W base ok (.slice (some ⟨g, 0, none⟩) n cap) xs) (i x : Int) : R e (W.setCell ⟨g, i.toNat, none⟩ (.int .u8 x)) base ok (.slice (some ⟨g, 0, none⟩) n cap) (xs.set i.toNat x) ∧ W.grownBy (W.setCell ⟨g, i.toNat, none⟩ (.int .u8 x)) (some g) := by
  obtain ⟨g', c', e, h1, h2, h3, h4, h5⟩ := h
  injection e with e1 e2 e3
  injection e1 with e1
  injection e1 with e1
  subst e1 e2 e3
  refine ⟨⟨g, cap, by rw [List.length_set], by rw [List.length_set]; exact h1, by rw [List.length_set]; exact h2, h3, h4, ?_⟩, rfl, rfl, rfl, by simp [World.setCell], fun k _ hk => Below.heap_setCell _ _ _ _ (fun e => hk (by rw [e]))⟩
  unfold World.setCell
  rw [List.length_set]
  show (W.heap.modify g _)[g]? = _
  rw [Array.getElem?_modify, if_pos rfl, h5]
  simp [List.map_set]
theorem R_after (h : R e W base (fun k => ok k ∧ some k ≠ v.ownBlock) u xs) (hg : W.grownBy w1 v.ownBlock) (hat : v1.ownBlock = v.ownBlock ∨ ∃ b, v1.ownBlock = some b ∧ W.heap.size ≤ b) : R e w1 base (fun k => ok k ∧ some k ≠ v1.ownBlock) u xs := by
  refine R_move (R_also h (fun k _ _ hk hk2 => ⟨hk2.1, ?_⟩)) (fun k hk _ _ hlt => hg.block k hlt ?_)
  · rcases hat with hat | ⟨b, hb, hle⟩
    · rw [hat]; exact hk2.2
    · rw [hb]
      intro he
      injection he with he
      omega
  · obtain ⟨g, c, rfl, _, _, _, h4, _⟩ := h
    have : g = k := by simpa [Value.ownBlock] using hk
    subst this
    exact h4.2
theorem R_elder' (hu : R e W base ok u xs) (hbase : ∀ k, v.ownBlock = some k → W.heap.size ≤ k) (hb : Below W.heap.size W w1) : R e w1 base (fun k => ok k ∧ some k ≠ v.ownBlock) u xs :=
  R_move (R_also hu (fun k _ _ hk hk2 => ⟨hk2, fun he => by have := hbase k he.symm; omega⟩)) (fun k _ _ _ hlt => hb.block k hlt)
theorem R_new' (h : R e w1 W.heap.size ok v xs) (hlt : ∀ k, u.ownBlock = some k → k < W.heap.size) : R e w1 W.heap.size (fun k => ok k ∧ some k ≠ u.ownBlock) v xs :=
  R_also h (fun k _ hb _ hk => ⟨hk, fun he => by have := hlt k he.symm; omega⟩)
theorem own_string {P : Program} {src dst : TypeId} (hs : P.underlying src = some (.slice e)) (he : P.underlying e = some (.int .u8)) (hd : P.underlying dst = some .string)
    (h : R e w base ok v xs) : (convert src dst v).run P w = .ok (.string (strOfNums xs)) w := by
  obtain ⟨g, c, rfl, h1, h2, h3, h4, h5⟩ := h
  exact run_convert_bytes_arg w src e hs he g 0 xs.length c xs rfl (fun i hi => by rw [Nat.zero_add]; exact cells_at h5 i hi) dst hd
end
section
variable {P : Program} {ops : Array Oper} {rest : List Oper} {o o2 : Oper} {a : Act} {Q : Exit → Act → World → Prop}
/-- '[]byte("abc")': the literal, and the conversion to its own type. -/
theorem R_lit2 {w0 W : World} (base e t : Nat) (hgd : o.guard = none) (hgd2 : o2.guard = none) {N : Tmp} (_hd : o.dst = some N) {xs : List Int} {ok : Nat → Prop}
    (hrun : (execOp a.eval o).run P W = .ok (.value (.slice (some ⟨W.heap.size, 0, none⟩) xs.length xs.length)) (W.alloc (.cells (xs.map (Value.int .u8)).toArray e)))
    (ho2 : o2.op = .convert t t (.tmp N)) (hev : ∀ v, (a.put (some N) v).eval (.tmp N) = v) (ht : P.underlying t = some (.slice e)) (he : P.underlying e = some (.int .u8))
    (hfresh : ok W.heap.size) (HB : Below base w0 W) (hbase : base ≤ W.heap.size) (hm : xs.length ≤ 9223372036854775807)
    (h : ∀ v1 w1, R e w1 base ok v1 xs → Below base w0 w1 → W.grownBy w1 none → (∃ b, v1.ownBlock = some b ∧ W.heap.size ≤ b) → wpList P ops Q rest ((a.put o.dst v1).put o2.dst v1) w1) : wpList P ops Q (o :: o2 :: rest) a W := by
  refine Kd.event_run hgd hrun (Kd.event_run (w1 := W.alloc (.cells (xs.map (Value.int .u8)).toArray e ((xs.map (Value.int .u8)).toArray.size, (xs.map (Value.int .u8)).toArray.size + 1))) (v := .slice (some ⟨W.heap.size, 0, none⟩) xs.length xs.length) hgd2 ?_ (h _ _ ⟨W.heap.size, xs.length, rfl, Nat.le_refl _, hm, hbase, hfresh, ?_⟩ (HB.alloc hbase _) (World.grownBy_alloc W _ none) ⟨W.heap.size, by simp [Value.ownBlock], Nat.le_refl _⟩))
  · have hc := Lib.run_convert_bytes_const (P := P) W t e (xs.map (Value.int .u8)).toArray xs.length xs.length ht he
    rw [_hd]
    simp [execOp, ho2, hev, hc, Result.andThen]
  · show (W.heap.push _)[W.heap.size]? = _
    simp
end
end Mk
end Go.Proofs.YtjmjebbjfjgbeaaDoor.Q
