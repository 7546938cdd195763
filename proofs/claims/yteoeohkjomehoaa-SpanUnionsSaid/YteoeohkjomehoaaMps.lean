/- A set of numbers: a map of the call's own from uint64 to bool whose values are all true; its keys, as they came, are a list. -/
import Derived.Test.YteoeohkjomehoaaQ0
import Derived.WideMake
/-- A key put in. -/
def Go.Proofs.Yteoeohkjomehoaa.Q.mapAdd (xs : List Int) (x : Int) : List Int := if x ∈ xs then xs else xs ++ [x]
/-- Is it there? -/
def Go.Proofs.Yteoeohkjomehoaa.Q.mapMem (xs : List Int) (x : Int) : Bool := decide (x ∈ xs)
namespace Go.Proofs.YteoeohkjomehoaaW.PrintWords
open Go.RowKit Go.Proofs.Yteoeohkjomehoaa.Q
set_option linter.unusedVariables false
def ents (es : List MapEntry) (xs : List Int) : Prop := es.map (fun e => (e.key, e.val)) = xs.map (fun x => (Value.int .u64 x, Value.bool true))
theorem ents_find (x : Int) : ∀ (xs : List Int) (es : List MapEntry) (i : Nat), ents es xs →
    (∃ j, x ∈ xs ∧ Instr.findNow (.int .u64) (.int .u64 x) es i = some (some (i + j, .bool true)) ∧ (es[j]?).map (·.key) = some (.int .u64 x)) ∨ (¬ x ∈ xs ∧ Instr.findNow (.int .u64) (.int .u64 x) es i = some none)
  | [], [], i, _ => Or.inr ⟨by simp, rfl⟩
  | [], _ :: _, i, h => by simp [ents] at h
  | _ :: _, [], i, h => by simp [ents] at h
  | p :: l, e :: es, i, h => by
    simp only [ents, List.map_cons, List.cons.injEq, Prod.mk.injEq] at h
    obtain ⟨⟨h1, h2⟩, h3⟩ := h
    have hs : Instr.sameNow (.int .u64) (.int .u64 x) e.key = some (x == p) := by rw [h1]; simp [Instr.sameNow]
    by_cases c : x = p
    · refine Or.inl ⟨0, by simp [c], ?_, by simp [h1, c]⟩
      unfold Instr.findNow
      rw [hs, beq_iff_eq.mpr c, h2]
      simp
    · have hb : (x == p) = false := beq_eq_false_iff_ne.mpr c
      have e1 : Instr.findNow (.int .u64) (.int .u64 x) (e :: es) i = Instr.findNow (.int .u64) (.int .u64 x) es (i + 1) := by
        conv => lhs; unfold Instr.findNow
        rw [hs, hb]
      rw [e1]
      rcases ents_find x l es (i + 1) h3 with ⟨j, g1, g2, g3⟩ | ⟨g1, g2⟩
      · exact Or.inl ⟨j + 1, by simp [g1], by rw [g2]; simp; omega, by simpa using g3⟩
      · exact Or.inr ⟨by simp [c, g1], g2⟩
theorem ents_again {es : List MapEntry} {xs : List Int} (h : ents es xs) (x : Int) (j : Nat) (hj : (es[j]?).map (·.key) = some (.int .u64 x)) : ents (es.modify j fun e => { e with key := .int .u64 x, val := .bool true }) xs := by
  unfold ents at h ⊢
  rw [← h]
  apply List.ext_getElem?
  intro i
  rw [List.getElem?_map, List.getElem?_map, List.getElem?_modify]
  by_cases c : j = i
  · subst c
    cases hq : es[j]? with
    | none => simp
    | some e =>
      rw [hq] at hj
      have h0 := congrArg (·[j]?) h
      simp only [List.getElem?_map, hq, Option.map_some] at h0 hj
      cases hx : xs[j]? with
      | none => rw [hx] at h0; cases h0
      | some y =>
        rw [hx] at h0
        simp only [Option.map_some, Option.some.injEq, Prod.mk.injEq] at h0
        simp only [if_true]
        show some (Value.int .u64 x, Value.bool true) = some (e.key, e.val)
        rw [h0.2, Option.some.inj hj]
  · simp [c]
/-- The set has been written. -/
def MpUp (w w1 : World) (b : Nat) : Prop := (∃ es c, w.heap[b]? = some (.map es c)) ∧ ∃ es c, w1 = { w with heap := w.heap.setIfInBounds b (.map es c) }
theorem MpUp.block {w w1 : World} {b : Nat} (h : MpUp w w1 b) (k : Nat) (hk : k ≠ b) : w1.heap[k]? = w.heap[k]? := by
  obtain ⟨_, es, c, rfl⟩ := h
  show (w.heap.setIfInBounds b _)[k]? = _
  rw [Array.getElem?_setIfInBounds_ne (by omega)]
theorem blk_up {W w1 : World} {b g : Nat} {o : Obj} (h : W.heap[g]? = some o) (hu : MpUp W w1 b) (ho : ∀ es c, o ≠ .map es c) : w1.heap[g]? = some o := by
  rw [hu.block g (fun e => ?_)]
  · exact h
  · obtain ⟨⟨es, c, hm⟩, _⟩ := hu
    subst e
    rw [hm] at h
    exact ho es c (Option.some.inj h).symm
namespace Kd
def Mp (d : Kd Int) (e : Nat) (w : World) (base : Nat) (ok : Nat → Prop) (v : Value) (xs : List Int) : Prop :=
  ∃ b, v = .map (some b) ∧ base ≤ b ∧ ok b ∧ ∃ es clock, w.heap[b]? = some (.map es clock) ∧ ents es.toList xs
section
variable {α : Type} {d : Kd Int} {d' : Kd α} {e e' : Nat} {w w1 W : World} {base base' : Nat} {ok ok' : Nat → Prop} {u v v1 : Value} {xs : List Int} {ys : List α}
theorem Mp_move (h : d.Mp e w base ok v xs) (hm : ∀ k, base ≤ k → ok k → k < w.heap.size → (∃ es c, w.heap[k]? = some (.map es c)) → w1.heap[k]? = w.heap[k]?) : d.Mp e w1 base ok v xs := by
  obtain ⟨b, rfl, h1, h2, es, c, h3, h4⟩ := h
  exact ⟨b, rfl, h1, h2, es, c, by rw [hm b h1 h2 (Array.getElem?_eq_some_iff.mp h3).1 ⟨_, _, h3⟩]; exact h3, h4⟩
theorem Mp_also (h : d.Mp e w base ok v xs) (hok : ∀ k, base ≤ k → k < w.heap.size → ok k → ok' k) : d.Mp e w base ok' v xs := by
  obtain ⟨b, rfl, h1, h2, es, c, h3, h4⟩ := h
  exact ⟨b, rfl, h1, hok _ h1 (Array.getElem?_eq_some_iff.mp h3).1 h2, es, c, h3, h4⟩
theorem Mp_mono (h : d.Mp e w base ok v xs) (hok : ∀ k, ok k → ok' k) : d.Mp e w base ok' v xs := Mp_also h (fun k _ _ => hok k)
theorem Mp_lower (h : d.Mp e w base ok v xs) (hb : base' ≤ base) : d.Mp e w base' ok v xs := by
  obtain ⟨b, rfl, h1, h2, es, c, h3, h4⟩ := h
  exact ⟨b, rfl, Nat.le_trans hb h1, h2, es, c, h3, h4⟩
theorem Mp_below (h : d.Mp e w base ok v xs) (hb : Below w.heap.size w w1) : d.Mp e w1 base ok v xs := Mp_move h (fun k _ _ hk _ => hb.block k hk)
theorem Mp_alloc (h : d.Mp e w base ok v xs) (o : Obj) : d.Mp e (w.alloc o) base ok v xs := Mp_below h (below_alloc (Below.refl _ _) o)
theorem Mp_drew (h : d.Mp e w base ok v xs) : d.Mp e w.drew base ok v xs := Mp_below h (below_drew (Below.refl _ _))
theorem Mp_drewN (h : d.Mp e w base ok v xs) (m : Nat) : d.Mp e (w.drewN m) base ok v xs := Mp_below h (pw_below_drewN (Below.refl _ _) m)
theorem Mp_own (h : d.Mp e w base ok v xs) : v.ownBlock = none := by
  obtain ⟨b, rfl, _⟩ := h
  rfl
theorem Mp_lt (h : d.Mp e w base ok v xs) : ∀ k, v.ownBlock = some k → k < w.heap.size := fun k hk => by rw [Mp_own h] at hk; cases hk
theorem Mp_base (h : d.Mp e w base ok v xs) : ∀ k, v.ownBlock = some k → base ≤ k := fun k hk => by rw [Mp_own h] at hk; cases hk
theorem Mp_base2 (h : d.Mp e w base ok v xs) : v.ownBlock = none ∨ ∃ k, v.ownBlock = some k ∧ base ≤ k := Or.inl (Mp_own h)
theorem Mp_typed (h : d.Mp e w base ok v xs) : ∀ k, v.ownBlock = some k → ∃ cells, w.heap[k]? = some (.cells cells e (0, 0)) := fun k hk => by rw [Mp_own h] at hk; cases hk
theorem Mp_grown (h : d.Mp e w base ok v xs) {row : Option Nat} (hg : w.grownBy w1 row) (hok : ∀ k, ok k → some k ≠ row) : d.Mp e w1 base ok v xs := Mp_move h (fun k _ ho hk _ => hg.block k hk (hok k ho))
theorem Mp_far (h : d.Mp e w base ok v xs) {p : Addr} (hok : ∀ k, ok k → k ≠ p.block) (u : Value) : d.Mp e (w.setCell p u) base ok v xs := Mp_move h (fun k _ ho _ _ => Below.heap_setCell w p u k (hok k ho))
theorem Mp_types (h : d.Mp e w base ok v xs) {g t : Nat} {cells : Array Value} (hb : w.heap[g]? = some (.cells cells t (0, 0))) (ht : ∀ q, q ∈ e :: d.E → q ≠ t) : d.Mp e w base (fun k => ok k ∧ k ≠ g) v xs := by
  obtain ⟨b, rfl, h1, h2, es, c, h3, h4⟩ := h
  exact ⟨b, rfl, h1, ⟨h2, fun e => by subst e; rw [h3] at hb; cases hb⟩, es, c, h3, h4⟩
theorem Mp_after (h : d.Mp e W base (fun k => ok k ∧ some k ≠ v.ownBlock) u xs) (hg : W.grownBy w1 v.ownBlock) (hat : v1.ownBlock = v.ownBlock ∨ ∃ b, v1.ownBlock = some b ∧ W.heap.size ≤ b) : d.Mp e w1 base (fun k => ok k ∧ some k ≠ v1.ownBlock) u xs := by
  obtain ⟨b, rfl, h1, h2, es, c, h3, h4⟩ := h
  have hlt := (Array.getElem?_eq_some_iff.mp h3).1
  refine ⟨b, rfl, h1, ⟨h2.1, ?_⟩, es, c, by rw [hg.block b hlt h2.2]; exact h3, h4⟩
  rcases hat with hat | ⟨b', hb, hle⟩
  · rw [hat]; exact h2.2
  · rw [hb]
    intro he
    injection he with he
    omega
theorem Mp_over' (h : d.Mp e W base ok u xs) (hty : ∀ k, v.ownBlock = some k → ∃ cells, W.heap[k]? = some (.cells cells e' (0, 0))) (ht : ∀ q, q ∈ e :: d.E → q ≠ e') (hg : W.grownBy w1 v.ownBlock) : d.Mp e w1 base ok u xs := by
  refine Mp_move h (fun k _ _ hlt hm => hg.block k hlt (fun he => ?_))
  obtain ⟨es, c, hm⟩ := hm
  obtain ⟨cells, hc⟩ := hty k he.symm
  rw [hm] at hc
  cases hc
theorem Mp_elder' (hu : d.Mp e W base ok u xs) (hbase : ∀ k, v.ownBlock = some k → W.heap.size ≤ k) (hb : Below W.heap.size W w1) : d.Mp e w1 base (fun k => ok k ∧ some k ≠ v.ownBlock) u xs :=
  Mp_move (Mp_also hu (fun k _ hlt hk => ⟨hk, fun he => by have := hbase k he.symm; omega⟩)) (fun k _ _ hlt _ => hb.block k hlt)
theorem Mp_new' (h : d.Mp e w1 W.heap.size ok v xs) (hlt : ∀ k, u.ownBlock = some k → k < W.heap.size) : d.Mp e w1 W.heap.size (fun k => ok k ∧ some k ≠ u.ownBlock) v xs :=
  Mp_also h (fun k hb _ hk => ⟨hk, fun he => by have := hlt k he.symm; omega⟩)
/-- Another row: the set's writing leaves it. -/
theorem R_other (h : d'.R e w base ok v ys) {b : Nat} (hu : MpUp w w1 b) : d'.R e w1 base ok v ys := by
  refine R_mono (R_move (R_bound h) (fun k hk => hu.block k (fun he => ?_))) (fun _ hk => hk.1)
  obtain ⟨_, _, _, q, hq, cells, hc⟩ := hk
  obtain ⟨⟨es, c, hm⟩, _⟩ := hu
  rw [he, hm] at hc
  cases hc
end
end Kd
section
variable {P : Program} {t k e : TypeId} {w w0 : World} {base B : Nat} {ok : Nat → Prop} {d : Kd Int} {v : Value} {xs : List Int}
theorem mp_key_ok (hk : P.underlying k = some (.int .u64)) (x : Int) (c : Bool) (w : World) : (Instr.checkKey c 10000 k (.int .u64 x)).run P w = .ok () w := MapKept.run_checkKey (k := .int .u64 x) hk (by simp [MapKept.IsKey]) c 9999
theorem mp_insert (ht : P.underlying t = some (.map k e)) (hk : P.underlying k = some (.int .u64)) (h : d.Mp t w base ok v xs) (x : Int) :
    ∃ w' b, (Instr.mapUpdate t v (.int .u64 x) (.bool true)).run P w = .ok () w' ∧ d.Mp t w' base ok v (mapAdd xs x) ∧ MpUp w w' b ∧ base ≤ b := by
  obtain ⟨b, rfl, h1, h2, es, clock, hb, he⟩ := h
  have hlt : b < w.heap.size := (Array.getElem?_eq_some_iff.mp hb).1
  rcases ents_find x xs es.toList 0 he with ⟨j, g1, g2, g3⟩ | ⟨g1, g2⟩
  · rw [Nat.zero_add] at g2
    have hj : es[j]?.map (·.key) = some (.int .u64 x) := by simpa using g3
    refine ⟨_, b, ?_, ⟨b, rfl, h1, h2, es.modify j fun e => { e with key := .int .u64 x, val := .bool true }, clock, ?_, ?_⟩, ⟨⟨es, clock, hb⟩, es.modify j fun e => { e with key := .int .u64 x, val := .bool true }, clock, rfl⟩, h1⟩
    · have hkt : (Instr.keyThatStays ((es[j]?.map (·.key)).getD (.int .u64 x)) (.int .u64 x)).run P w = .ok (.int .u64 x) w := by
        rw [hj]
        simp [Instr.keyThatStays, Instr.sameBits]
      simp [Instr.mapUpdate, run_underlying ht, MapKept.run_getObj_map hb, mp_key_ok hk, MapKept.run_findKey hk g2, MapKept.run_setObj_map _ hb, Result.andThen, hkt]
    · show (w.heap.setIfInBounds b _)[b]? = _
      rw [Array.getElem?_setIfInBounds_self_of_lt hlt]
    · have : mapAdd xs x = xs := if_pos g1
      rw [this]
      have := ents_again he x j g3
      simpa using this
  · refine ⟨_, b, ?_, ⟨b, rfl, h1, h2, es.push { key := .int .u64 x, val := .bool true, born := clock }, clock + 1, ?_, ?_⟩, ⟨⟨es, clock, hb⟩, es.push { key := .int .u64 x, val := .bool true, born := clock }, clock + 1, rfl⟩, h1⟩
    · simp [Instr.mapUpdate, run_underlying ht, MapKept.run_getObj_map hb, mp_key_ok hk, MapKept.run_findKey hk g2, MapKept.run_setObj_map _ hb, Result.andThen]
    · show (w.heap.setIfInBounds b _)[b]? = _
      rw [Array.getElem?_setIfInBounds_self_of_lt hlt]
    · have : mapAdd xs x = xs ++ [x] := if_neg g1
      rw [this]
      unfold ents at he ⊢
      simp [he]
theorem mp_look (ht : P.underlying t = some (.map k e)) (hk : P.underlying k = some (.int .u64)) (hz : (zeroValue e).run P w = .ok (.bool false) w) (h : d.Mp t w base ok v xs) (x : Int) :
    (Instr.lookup t v (.int .u64 x) false).run P w = .ok (.bool (mapMem xs x)) w := by
  obtain ⟨b, rfl, h1, h2, es, clock, hb, he⟩ := h
  rcases ents_find x xs es.toList 0 he with ⟨j, g1, g2, g3⟩ | ⟨g1, g2⟩
  · simp [Instr.lookup, run_underlying ht, MapKept.run_getObj_map hb, mp_key_ok hk, MapKept.run_findKey hk g2, Result.andThen, mapMem, g1]
  · simp [Instr.lookup, run_underlying ht, MapKept.run_getObj_map hb, mp_key_ok hk, MapKept.run_findKey hk g2, Result.andThen, mapMem, g1, hz]
theorem mp_len (ht : P.underlying t = some (.map k e)) (h : d.Mp t w base ok v xs) (ty : TypeId) : (Builtin.len_ #[t] ty #[v]).run P w = .ok (.int .i64 (xs.length : Int)) w := by
  obtain ⟨b, rfl, h1, h2, es, clock, hb, he⟩ := h
  have : es.size = xs.length := by simpa using congrArg List.length he
  simp [Builtin.len_, run_underlying ht, MapKept.run_getObj_map hb, goInt, Result.andThen, this]
end
section
variable {P : Program} {ops : Array Oper} {rest : List Oper} {o : Oper} {a : Act} {Q : Exit → Act → World → Prop} {W w0 : World} {base : Nat} {ok okp : Nat → Prop} {t k e : TypeId} {xs : List Int}
theorem Kd.Mp_make (d : Kd Int) (t : TypeId) (hgd : o.guard = none) {N : Tmp} (_hd : o.dst = some N) (ho : o.op = .makeMap t none) (hfresh : ok W.heap.size) (HB : Below base w0 W) (hbase : base ≤ W.heap.size)
    (h : ∀ v1 w1, d.Mp t w1 base ok v1 [] → Below base w0 w1 → W.grownBy w1 none → True → wpList P ops Q rest (a.put o.dst v1) w1) : wpList P ops Q (o :: rest) a W := by
  refine Kd.event_run (v := .map (some W.heap.size)) (w1 := W.alloc (.map #[] 0)) hgd (by simp [execOp, ho, run_makeMap_plain, Result.andThen]) (h _ _ ⟨W.heap.size, rfl, hbase, hfresh, #[], 0, ?_, rfl⟩ (HB.alloc hbase _) (World.grownBy_alloc W _ none) trivial)
  show (W.heap.push _)[W.heap.size]? = _
  simp
theorem gate_mapUp {m x : Operand} {y : Value} (_ho : o.op = .mapUpdate t m x (.const y)) (h : wpList P ops Q (o :: rest) a W) : wpList P ops Q (o :: rest) a W := h
theorem Kd.Mp_up {d : Kd Int} {v : Value} {m y : Operand} (hgd : o.guard = none) (hN : o.dst = none) (ho : o.op = .mapUpdate t m y (.const (.bool true))) (ht : P.underlying t = some (.map k e)) (hk : P.underlying k = some (.int .u64))
    (hm : a.eval m = v) (HO : d.Mp t W base ok v xs) (x : Int) (hy : a.eval y = .int .u64 x)
    (h : ∀ w1 b, d.Mp t w1 base ok v (mapAdd xs x) → MpUp W w1 b → base ≤ b → wpList P ops Q rest a w1) : wpList P ops Q (o :: rest) a W := by
  obtain ⟨w1, b, hrun, h1, h2, h3⟩ := mp_insert ht hk HO x
  refine wpList_plain hgd fun K hK => ?_
  have e1 : a.eval (.const (.bool true)) = .bool true := rfl
  have hr : (execOp a.eval o).run P W = .ok .skip w1 := by simp [execOp, ho, hm, hy, e1, hrun, Result.andThen]
  unfold Oper.wp
  rw [hr]
  show K (a.put o.dst undef) w1
  rw [hN]
  exact hK _ _ (h w1 b h1 h2 h3)
theorem Kd.Mp_look {d : Kd Int} {v : Value} {m y : Operand} (hgd : o.guard = none) {N : Tmp} (hd : o.dst = some N) (ho : o.op = .lookup t m y false) (ht : P.underlying t = some (.map k e)) (hk : P.underlying k = some (.int .u64)) (hz : (zeroValue e).run P W = .ok (.bool false) W)
    (hm : a.eval m = v) (HO : d.Mp t W base ok v xs) (x : Int) (hy : a.eval y = .int .u64 x) (h : wpList P ops Q rest (a.put (some N) (.bool (mapMem xs x))) W) : wpList P ops Q (o :: rest) a W :=
  Kd.event_run (v := .bool (mapMem xs x)) (w1 := W) hgd (by simp [execOp, ho, hm, hy, mp_look ht hk hz HO x, Result.andThen]) (by rw [hd]; exact h)
theorem Below_up {w0 w w1 : World} {B b : Nat} (HB : Below B w0 w) (hu : MpUp w w1 b) (hb : B ≤ b) : Below B w0 w1 := by
  refine HB.trans ?_
  obtain ⟨_, es, c, rfl⟩ := hu
  refine ⟨rfl, rfl, rfl, by simp, fun j hj => ?_⟩
  show (w.heap.setIfInBounds b _)[j]? = _
  rw [Array.getElem?_setIfInBounds_ne (by omega)]
end
end Go.Proofs.YteoeohkjomehoaaW.PrintWords
