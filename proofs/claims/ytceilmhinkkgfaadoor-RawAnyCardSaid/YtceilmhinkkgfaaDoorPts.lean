/- Pointers as a kind of element; what the laid tables say of a world. -/
import Derived.Test.YtceilmhinkkgfaaDoorQ0
import Derived.Laws.CopyOwn
import Derived.OpenShut
import Derived.ChangeSame
import Derived.Laws.CopyRow
set_option linter.unusedVariables false
set_option linter.unusedSimpArgs false
section
namespace Go.Proofs.YtceilmhinkkgfaaDoor.Q
open Go.RowKit Go.Proofs.YtceilmhinkkgfaaDoorW.PrintWords Go.Proofs.YtceilmhinkkgfaaDoorW.PrintMore

def kAddr : Kd (Option Addr) := Kd.scalar Value.pointer (fun _ => rfl)
theorem at_addr {w : World} {A : Option Addr} {n : Nat} {xs : List (Option Addr)} (h : kAddr.C w A n xs) (i : Int) (h0 : 0 ≤ i) (h1 : i < n) : ∃ ad, A = some ad ∧ w.cell? (ad.add i.toNat) = some (.pointer (rdOf none xs i)) :=
  ReadsOf.at_ (Kd.reads_of_C (enc := Value.pointer) (d := none) (h1 := fun _ => rfl) h) i h0 h1
def tab_ehdr_sizes : List Int := [2, 2, 4, 0, 0, 0, 4, 2, 2, 2, 2, 2, 2]
def tab_shdr_sizes : List Int := [4, 4, 0, 0, 0, 0, 4, 4, 0, 0]
def tab_phdr_wideSizes : List Int := [4, 4, 0, 0, 0, 0, 0, 0]
def tab_phdr_narrowSizes : List Int := [4, 0, 0, 0, 0, 0, 4, 0]
theorem C_of_cells {w : World} {g : Nat} {zs : List Int} (h : ∀ i, i < zs.length → w.cell? ⟨g, i, none⟩ = some (.int .i64 (zs.getD i 0))) (hn : zs.length ≤ 9223372036854775807) : (Kd.int .i64).C w (some ⟨g, 0, none⟩) zs.length zs := by
  refine ⟨rfl, hn, fun _ => ⟨_, rfl, fun j p hj => ⟨[.int .i64 p], rfl, rfl, fun i u hu => ?_⟩⟩⟩
  obtain ⟨hlt, rfl⟩ := List.getElem?_eq_some_iff.mp hj
  cases i with
  | succ i => simp at hu
  | zero =>
    obtain rfl := Option.some.inj (show some _ = some u from hu)
    rw [show j * (Kd.int .i64).sz + 0 = j from Nat.mul_one j, add_plain, h j hlt]
    simp [hlt]
structure Laid_ehdr (w : World) : Prop where
  ehdr_sizes : (Kd.int .i64).C w (some ⟨0, 0, none⟩) 13 tab_ehdr_sizes
theorem Laid_ehdr.below {w w1 : World} (h : Laid_ehdr w) (hb : Below w.heap.size w w1) : Laid_ehdr w1 :=
  ⟨Kd.C_below h.ehdr_sizes hb⟩
structure Laid_shdr (w : World) : Prop where
  shdr_sizes : (Kd.int .i64).C w (some ⟨1, 0, none⟩) 10 tab_shdr_sizes
theorem Laid_shdr.below {w w1 : World} (h : Laid_shdr w) (hb : Below w.heap.size w w1) : Laid_shdr w1 :=
  ⟨Kd.C_below h.shdr_sizes hb⟩
structure Laid_phdr (w : World) : Prop where
  phdr_wideSizes : (Kd.int .i64).C w (some ⟨2, 0, none⟩) 8 tab_phdr_wideSizes
  phdr_narrowSizes : (Kd.int .i64).C w (some ⟨3, 0, none⟩) 8 tab_phdr_narrowSizes
theorem Laid_phdr.below {w w1 : World} (h : Laid_phdr w) (hb : Below w.heap.size w w1) : Laid_phdr w1 :=
  ⟨Kd.C_below h.phdr_wideSizes hb, Kd.C_below h.phdr_narrowSizes hb⟩
theorem run_store_block {P : Program} {W : World} {T g t : Nat} {old cells : Array Value} {ρ : Operand → Value} {o : Oper} {x y : Operand} (ho : o.op = .store T x y) (hx : ρ x = .pointer (some ⟨g, 0, none⟩)) (hy : ρ y = .agg cells)
    (hg : W.heap[g]? = some (.cells old t (0, 0))) (hi : (P.info? T).map (·.size) = some cells.size) (hl : old.size = cells.size) (h1 : cells.all (·.oneCell') = true) : (execOp ρ o).run P W = .ok .skip (W.setRow g cells) := by
  have h := run_storeVar_row (P := P) W g t T old cells hg hi hl h1
  simp [execOp, ho, hx, hy, Instr.storeAt, Instr.sureAddr, h]
theorem wpList_store_row {P : Program} {ops : Array Oper} {rest : List Oper} {o : Oper} {a : Act} {Q : Exit → Act → World → Prop} {W : World} (hgd : o.guard = none) (hN : o.dst = none) {T : TypeId} {p : Tmp} {y : Operand} (ho : o.op = .store T (.tmp p) y) (g t : Nat) (old cells : Array Value)
    (hx : a.eval (.tmp p) = .pointer (some ⟨g, 0, none⟩)) (hy : a.eval y = .agg cells) (hg : W.heap[g]? = some (.cells old t (0, 0))) (hi : (P.info? T).map (·.size) = some cells.size) (hl : old.size = cells.size) (h1 : cells.all (·.oneCell') = true)
    (h : ∀ w', w' = W.setRow g cells → wpList P ops Q rest a w') : wpList P ops Q (o :: rest) a W :=
  store_event hgd ho hN (run_store_block ho hx hy hg hi hl h1) h
theorem row_at {W : World} {g t : Nat} {old : Array Value} (cells : Array Value) (hg : W.heap[g]? = some (.cells old t (0, 0))) : (W.setRow g cells).heap[g]? = some (.cells cells t (0, 0)) := setRow_heap W g old cells t _ hg
end Go.Proofs.YtceilmhinkkgfaaDoor.Q
end
section
namespace Go.Proofs.YtceilmhinkkgfaaDoorW.PrintLast
open Go.RowKit Go.Proofs.YtceilmhinkkgfaaDoor.Q Go.Proofs.YtceilmhinkkgfaaDoorW.PrintWords
section
variable {P : Program} {ops : Array Oper} {Q : Exit → Act → World → Prop} {md : Region.Mode} {S : World → Prop} {ds : List Nat}
theorem pU (i K : Nat) (l' : Array Bool) {oi : Oper} {v : Value} {fuel : Nat} {l : Array Bool} {a a' : Act} {w : World} (h : wpAnyLast P md ops Q S ds fuel l' a' w)
    (hi : ops[i]? = some oi := by exact rfl) (hN : oi.dst = some K := by exact rfl) (hc : anyB md ops l l' i = true := by exact any_of HT_.out (by kernel_rfl))
    (hQ : ∀ c a w, Q (.panic c) (a.put oi.dst v) w → Q (.panic c) a w := by exact fun _ _ _ h => h)
    (hw : Region.wanted oi (yielded ops a.tmps) = true := by rfl) (hr : ∀ w, (execOp a.eval oi).run P w = .ok (.value v) w := by (intro w'; go_simp; with_reducible rfl))
    (ha : a.put (some K) v = a' := by (simp only [Act.put, aput]; rfl)) : wpAnyLast P md ops Q S ds (fuel + 1) l a w := pure_ l' hi hN hc hQ (Or.inl ⟨hw, hr⟩) ha h
theorem tU (i K : Nat) (l' : Array Bool) {oi : Oper} {v : Value} {fuel : Nat} {l : Array Bool} {a a' : Act} {w : World} (hS : S w) (h : wpAnyLast P md ops Q S ds fuel l' a' w)
    (hi : ops[i]? = some oi := by exact rfl) (hN : oi.dst = some K := by exact rfl) (hc : takeB md ops ds l l' i = true := by exact take_ofW HT_.out HW_.out (by kernel_rfl))
    (hQ : ∀ c a w, Q (.panic c) (a.put oi.dst v) w → Q (.panic c) a w := by exact fun _ _ _ h => h)
    (hw : Region.wanted oi (yielded ops a.tmps) = true := by rfl) (hr : ∀ w, S w → (execOp a.eval oi).run P w = .ok (.value v) w := by (intro w' s0; go_simp; with_reducible rfl))
    (ha : a.put (some K) v = a' := by (simp only [Act.put, aput]; rfl)) : wpAnyLast P md ops Q S ds (fuel + 1) l a w := take_ l' hi hN hc hQ (Or.inl ⟨hw, hr⟩) hS ha h
theorem gL {rest : List Oper} {oi : Oper} {a : Act} {w : World} (N : Option Tmp) {f : FuncId} {fn : Func} {ars : Array Operand} {ts : Array TypeId} (hf : P.funcs[f]? = some fn) (args : Array Value)
    (h : Calls P f args w fun e w' => ∃ v, e = .returned v ∧ wpList P ops Q rest (a.put N v) w')
    (hd : oi.dst = N := by exact rfl) (hg : oi.guard = none := by exact rfl) (hname : (fn.name == "runtime.NumGoroutine") = false := by kernel_rfl) (hb : fn.body.isSome = true := by exact rfl)
    (hop : oi.op = .call { callee := .value (.func f), args := ars, argTypes := ts } := by exact rfl)
    (hargs : ars.map a.eval = args := by ((try simp only [List.map_toArray, List.map_cons, List.map_nil]); first | done | rfl | (simp only [List.length_drop, List.length_take]; rfl))) : wpList P ops Q (oi :: rest) a w := goesL_ N hd hg hf hname hb args hop hargs h
theorem gF {rest : List Oper} {oi : Oper} {a : Act} {w : World} (N : Option Tmp) {f : FuncId} {fn : Func} {x : Tmp} {cap : Array Value} {ars : Array Operand} {ts : Array TypeId} (hf : P.funcs[f]? = some fn) (args : Array Value)
    (h : Calls P f args w fun e w' => ∃ v, e = .returned v ∧ wpList P ops Q rest (a.put N v) w')
    (hx : a.eval (.tmp x) = .func (.func f) #[] cap := by exact rfl)
    (hd : oi.dst = N := by exact rfl) (hg : oi.guard = none := by exact rfl) (hname : (fn.name == "runtime.NumGoroutine") = false := by kernel_rfl) (hb : fn.body.isSome = true := by exact rfl)
    (hop : oi.op = .call { callee := .value (.tmp x), args := ars, argTypes := ts } := by exact rfl)
    (hargs : ars.map a.eval ++ cap = args := by ((try simp only [List.map_toArray, List.map_cons, List.map_nil]); first | done | rfl)) : wpList P ops Q (oi :: rest) a w := by
  refine wpList_plain hg fun K hK => ?_
  have he := enters_ hf hname hb args w
  have hrun : (execOp a.eval oi).run P w = .ok (.enter f args) w := by
    unfold execOp
    simp [hop, resolve, Deferred.ofValue, invoke, hx, hargs, he]
  unfold Oper.wp
  rw [hrun, Oper.upon_enter]
  refine h.mono fun e w'' hh => ?_
  obtain ⟨v, rfl, hk⟩ := hh
  subst hd
  exact hK _ _ hk
end
end Go.Proofs.YtceilmhinkkgfaaDoorW.PrintLast
namespace Go.Proofs.YtceilmhinkkgfaaDoorW.PrintWords
open Go.RowKit Go.Proofs.YtceilmhinkkgfaaDoor.Q
theorem hbN {B : Nat} {w W : World} (h : Below B w W := by repeat (first | (with_reducible first | exact HB.out | apply below_alloc | apply pw_below_drewN | apply below_drew1) | exact HB.out)) : Below B w W := h
theorem hbS {B : Nat} {w W : World} (h : Below B w W := by repeat (first | (with_reducible first | exact HB.out | apply below_alloc | apply pw_below_drewN | apply below_drew1 | refine below_set ?_ (Aside0.out (by with_reducible assumption))) | exact HB.out)) : Below B w W := h
theorem bsz {w W : World} {g : Nat} (hg : g = W.heap.size) (h : Below w.heap.size w W) : w.heap.size ≤ g := by
  rw [hg]
  exact below_size h
theorem bkN {W : World} {g : Nat} {o : Obj} (h : W.heap[g]? = some o := by ((with_reducible repeat (first | refine blk_drewN ?_ _ | refine blk_drew ?_ | refine blk_alloc ?_ _)); exact Aside0.out (by first | (with_reducible assumption) | assumption))) : W.heap[g]? = some o := h
section
variable {P : Program} {ops : Array Oper} {rest : List Oper} {o : Oper} {a : Act} {Q : Exit → Act → World → Prop} {Kc : Act → World → Prop} {W : World}
theorem bE (N : Nat) (cs : Array Value) (t : TypeId)
    (h : ∀ g, g = W.heap.size → ∀ w1, w1.heap[g]? = some (.cells cs t (0, 0)) → Below W.heap.size W w1 → wpList P ops Q rest (a.put o.dst (.pointer (some ⟨g, 0, none⟩))) w1)
    (hgd : o.guard = none := by exact rfl) (hd : o.dst = some N := by exact rfl)
    (hrun : (execOp a.eval o).run P W = .ok (.value (.pointer (some ⟨W.heap.size, 0, none⟩))) (W.alloc (.cells cs t (0, 0))) := by first | (go_simp; done) | (go_simp; rfl)) : wpList P ops Q (o :: rest) a W := box_event hgd hd hrun h
theorem bS (N : Nat) (cs : Array Value) (t : TypeId)
    (h : ∀ g, g = W.heap.size → ∀ w1, w1.heap[g]? = some (.cells cs t (0, 0)) → Below W.heap.size W w1 → Kc (a.put o.dst (.pointer (some ⟨g, 0, none⟩))) w1)
    (hw : Region.wanted o (yielded ops a.tmps) = true := by exact rfl) (hd : o.dst = some N := by exact rfl)
    (hrun : (execOp a.eval o).run P W = .ok (.value (.pointer (some ⟨W.heap.size, 0, none⟩))) (W.alloc (.cells cs t (0, 0))) := by first | (go_simp; done) | (go_simp; rfl)) : if Region.wanted o (yielded ops a.tmps) = true then Oper.wp P o a W Kc Q else Kc (a.put o.dst undef) W := box_step hw hd hrun h
end
end Go.Proofs.YtceilmhinkkgfaaDoorW.PrintWords
end
section
namespace Go.Proofs.YtceilmhinkkgfaaDoorW.PrintWords
open Go.RowKit Go.Proofs.YtceilmhinkkgfaaDoor.Q
theorem put1 {w : World} {g : Nat} {t : TypeId} {cs cs' : Array Value} {i : Nat} {u : Value} (h : w.heap[g]? = some (.cells cs t (0, 0))) (e : cs.setIfInBounds i u = cs') : (w.setCell ⟨g, i, none⟩ u).heap[g]? = some (.cells cs' t (0, 0)) := blk_put h i u e
theorem far1 {w : World} {g g' : Nat} {t : TypeId} {cs : Array Value} {i : Nat} {u : Value} (h : w.heap[g]? = some (.cells cs t (0, 0))) (hp : Aside0 (g ≠ g')) : (w.setCell ⟨g', i, none⟩ u).heap[g]? = some (.cells cs t (0, 0)) := blk_far h (p := ⟨g', i, none⟩) hp.out u
theorem pb {W : World} {g : Nat} {o : Obj} (h : W.heap[g]? = some o := by
    ((repeat (first | (with_reducible first | refine blk_drewN ?_ _ | refine blk_drew ?_ | refine blk_alloc ?_ _ | apply put1 | apply far1)));
     (exact Aside0.out (by first | (with_reducible assumption) | assumption));
     all_goals first | (simp only [List.setIfInBounds_toArray, List.set_cons_zero, List.set_cons_succ] <;> rfl) | rfl | (with_reducible assumption))) : W.heap[g]? = some o := h
theorem rF {α : Type} {d : Kd α} {e : TypeId} {w : World} {base : Nat} {ok : Nat → Prop} {v : Value} {xs : List α} (h : d.R e w base ok v xs) {p : Addr} {u : Value} (hok : ∀ k, ok k → k ≠ p.block := by exact fun _ hk => hk.2) : d.R e (w.setCell p u) base ok v xs := Kd.R_far h hok u
theorem nL {W : World} {g g' : Nat} {o : Obj} (hg : g' = W.heap.size) (h : W.heap[g]? = some o := by exact pb) : g ≠ g' := by
  rw [hg]
  exact Nat.ne_of_lt (blk_lt h)
theorem nG {W : World} {g g' : Nat} {o : Obj} (hg : g' = W.heap.size) (h : W.heap[g]? = some o := by exact pb) : g' ≠ g := by
  rw [hg]
  exact Nat.ne_of_gt (blk_lt h)
theorem sr {α : Type} {a b : α} (h : a = b := by first | rfl | (simp; done) | (simp [*]; done)) : a = b := h
theorem qd {P : Prop} (h : P := by first | exact ⟨rfl, _, World.drewN_drewN _ _ _⟩ | exact ⟨rfl, _, Eq.trans (World.drewN_drewN _ _ _) (congrArg (World.drewN _) (Nat.add_assoc _ _ _))⟩) : P := h
theorem er {α : Type} {a b : α} (h : a = b := by first | rfl | (simp [errW_none, errW_some] <;> rfl) | (simp [*, errW_none, errW_some] <;> rfl)) : a = b := h
theorem mv {w W : World} {p : Addr} {v : Value} (h : Below w.heap.size w W) (c : w.cell? p = some v) : W.cell? p = some v := (h.cell (World.block_lt_of_cell? w p c)).trans c
end Go.Proofs.YtceilmhinkkgfaaDoorW.PrintWords
end
section
namespace Go.Proofs.YtceilmhinkkgfaaDoorW.PrintLast
open Go.RowKit Go.Proofs.YtceilmhinkkgfaaDoorW.PrintWords
theorem bc2 {W : World} {g t : Nat} {v0 v1 : Value} (h : W.heap[g]? = some (.cells #[v0, v1] t (0, 0))) : W.cell? ⟨g, 0, none⟩ = some v0 ∧ W.cell? ⟨g, 1, none⟩ = some v1 ∧ W.frozen? ⟨g, 0, none⟩ = false ∧ W.frozen? ⟨g, 1, none⟩ = false :=
  ⟨(blk_cell h 0).trans rfl, (blk_cell h 1).trans rfl, blk_frozen h 0, blk_frozen h 1⟩
theorem bc5 {W : World} {g t : Nat} {v0 v1 v2 v3 v4 : Value} (h : W.heap[g]? = some (.cells #[v0, v1, v2, v3, v4] t (0, 0))) : W.cell? ⟨g, 0, none⟩ = some v0 ∧ W.cell? ⟨g, 1, none⟩ = some v1 ∧ W.cell? ⟨g, 2, none⟩ = some v2 ∧ W.cell? ⟨g, 3, none⟩ = some v3 ∧ W.cell? ⟨g, 4, none⟩ = some v4 ∧ W.frozen? ⟨g, 0, none⟩ = false ∧ W.frozen? ⟨g, 1, none⟩ = false ∧ W.frozen? ⟨g, 2, none⟩ = false ∧ W.frozen? ⟨g, 3, none⟩ = false ∧ W.frozen? ⟨g, 4, none⟩ = false :=
  ⟨(blk_cell h 0).trans rfl, (blk_cell h 1).trans rfl, (blk_cell h 2).trans rfl, (blk_cell h 3).trans rfl, (blk_cell h 4).trans rfl, blk_frozen h 0, blk_frozen h 1, blk_frozen h 2, blk_frozen h 3, blk_frozen h 4⟩
theorem bc6 {W : World} {g t : Nat} {v0 v1 v2 v3 v4 v5 : Value} (h : W.heap[g]? = some (.cells #[v0, v1, v2, v3, v4, v5] t (0, 0))) : W.cell? ⟨g, 0, none⟩ = some v0 ∧ W.cell? ⟨g, 1, none⟩ = some v1 ∧ W.cell? ⟨g, 2, none⟩ = some v2 ∧ W.cell? ⟨g, 3, none⟩ = some v3 ∧ W.cell? ⟨g, 4, none⟩ = some v4 ∧ W.cell? ⟨g, 5, none⟩ = some v5 ∧ W.frozen? ⟨g, 0, none⟩ = false ∧ W.frozen? ⟨g, 1, none⟩ = false ∧ W.frozen? ⟨g, 2, none⟩ = false ∧ W.frozen? ⟨g, 3, none⟩ = false ∧ W.frozen? ⟨g, 4, none⟩ = false ∧ W.frozen? ⟨g, 5, none⟩ = false :=
  ⟨(blk_cell h 0).trans rfl, (blk_cell h 1).trans rfl, (blk_cell h 2).trans rfl, (blk_cell h 3).trans rfl, (blk_cell h 4).trans rfl, (blk_cell h 5).trans rfl, blk_frozen h 0, blk_frozen h 1, blk_frozen h 2, blk_frozen h 3, blk_frozen h 4, blk_frozen h 5⟩
theorem bc8 {W : World} {g t : Nat} {v0 v1 v2 v3 v4 v5 v6 v7 : Value} (h : W.heap[g]? = some (.cells #[v0, v1, v2, v3, v4, v5, v6, v7] t (0, 0))) : W.cell? ⟨g, 0, none⟩ = some v0 ∧ W.cell? ⟨g, 1, none⟩ = some v1 ∧ W.cell? ⟨g, 2, none⟩ = some v2 ∧ W.cell? ⟨g, 3, none⟩ = some v3 ∧ W.cell? ⟨g, 4, none⟩ = some v4 ∧ W.cell? ⟨g, 5, none⟩ = some v5 ∧ W.cell? ⟨g, 6, none⟩ = some v6 ∧ W.cell? ⟨g, 7, none⟩ = some v7 ∧ W.frozen? ⟨g, 0, none⟩ = false ∧ W.frozen? ⟨g, 1, none⟩ = false ∧ W.frozen? ⟨g, 2, none⟩ = false ∧ W.frozen? ⟨g, 3, none⟩ = false ∧ W.frozen? ⟨g, 4, none⟩ = false ∧ W.frozen? ⟨g, 5, none⟩ = false ∧ W.frozen? ⟨g, 6, none⟩ = false ∧ W.frozen? ⟨g, 7, none⟩ = false :=
  ⟨(blk_cell h 0).trans rfl, (blk_cell h 1).trans rfl, (blk_cell h 2).trans rfl, (blk_cell h 3).trans rfl, (blk_cell h 4).trans rfl, (blk_cell h 5).trans rfl, (blk_cell h 6).trans rfl, (blk_cell h 7).trans rfl, blk_frozen h 0, blk_frozen h 1, blk_frozen h 2, blk_frozen h 3, blk_frozen h 4, blk_frozen h 5, blk_frozen h 6, blk_frozen h 7⟩
theorem bc10 {W : World} {g t : Nat} {v0 v1 v2 v3 v4 v5 v6 v7 v8 v9 : Value} (h : W.heap[g]? = some (.cells #[v0, v1, v2, v3, v4, v5, v6, v7, v8, v9] t (0, 0))) : W.cell? ⟨g, 0, none⟩ = some v0 ∧ W.cell? ⟨g, 1, none⟩ = some v1 ∧ W.cell? ⟨g, 2, none⟩ = some v2 ∧ W.cell? ⟨g, 3, none⟩ = some v3 ∧ W.cell? ⟨g, 4, none⟩ = some v4 ∧ W.cell? ⟨g, 5, none⟩ = some v5 ∧ W.cell? ⟨g, 6, none⟩ = some v6 ∧ W.cell? ⟨g, 7, none⟩ = some v7 ∧ W.cell? ⟨g, 8, none⟩ = some v8 ∧ W.cell? ⟨g, 9, none⟩ = some v9 ∧ W.frozen? ⟨g, 0, none⟩ = false ∧ W.frozen? ⟨g, 1, none⟩ = false ∧ W.frozen? ⟨g, 2, none⟩ = false ∧ W.frozen? ⟨g, 3, none⟩ = false ∧ W.frozen? ⟨g, 4, none⟩ = false ∧ W.frozen? ⟨g, 5, none⟩ = false ∧ W.frozen? ⟨g, 6, none⟩ = false ∧ W.frozen? ⟨g, 7, none⟩ = false ∧ W.frozen? ⟨g, 8, none⟩ = false ∧ W.frozen? ⟨g, 9, none⟩ = false :=
  ⟨(blk_cell h 0).trans rfl, (blk_cell h 1).trans rfl, (blk_cell h 2).trans rfl, (blk_cell h 3).trans rfl, (blk_cell h 4).trans rfl, (blk_cell h 5).trans rfl, (blk_cell h 6).trans rfl, (blk_cell h 7).trans rfl, (blk_cell h 8).trans rfl, (blk_cell h 9).trans rfl, blk_frozen h 0, blk_frozen h 1, blk_frozen h 2, blk_frozen h 3, blk_frozen h 4, blk_frozen h 5, blk_frozen h 6, blk_frozen h 7, blk_frozen h 8, blk_frozen h 9⟩
theorem bc13 {W : World} {g t : Nat} {v0 v1 v2 v3 v4 v5 v6 v7 v8 v9 v10 v11 v12 : Value} (h : W.heap[g]? = some (.cells #[v0, v1, v2, v3, v4, v5, v6, v7, v8, v9, v10, v11, v12] t (0, 0))) : W.cell? ⟨g, 0, none⟩ = some v0 ∧ W.cell? ⟨g, 1, none⟩ = some v1 ∧ W.cell? ⟨g, 2, none⟩ = some v2 ∧ W.cell? ⟨g, 3, none⟩ = some v3 ∧ W.cell? ⟨g, 4, none⟩ = some v4 ∧ W.cell? ⟨g, 5, none⟩ = some v5 ∧ W.cell? ⟨g, 6, none⟩ = some v6 ∧ W.cell? ⟨g, 7, none⟩ = some v7 ∧ W.cell? ⟨g, 8, none⟩ = some v8 ∧ W.cell? ⟨g, 9, none⟩ = some v9 ∧ W.cell? ⟨g, 10, none⟩ = some v10 ∧ W.cell? ⟨g, 11, none⟩ = some v11 ∧ W.cell? ⟨g, 12, none⟩ = some v12 ∧ W.frozen? ⟨g, 0, none⟩ = false ∧ W.frozen? ⟨g, 1, none⟩ = false ∧ W.frozen? ⟨g, 2, none⟩ = false ∧ W.frozen? ⟨g, 3, none⟩ = false ∧ W.frozen? ⟨g, 4, none⟩ = false ∧ W.frozen? ⟨g, 5, none⟩ = false ∧ W.frozen? ⟨g, 6, none⟩ = false ∧ W.frozen? ⟨g, 7, none⟩ = false ∧ W.frozen? ⟨g, 8, none⟩ = false ∧ W.frozen? ⟨g, 9, none⟩ = false ∧ W.frozen? ⟨g, 10, none⟩ = false ∧ W.frozen? ⟨g, 11, none⟩ = false ∧ W.frozen? ⟨g, 12, none⟩ = false :=
  ⟨(blk_cell h 0).trans rfl, (blk_cell h 1).trans rfl, (blk_cell h 2).trans rfl, (blk_cell h 3).trans rfl, (blk_cell h 4).trans rfl, (blk_cell h 5).trans rfl, (blk_cell h 6).trans rfl, (blk_cell h 7).trans rfl, (blk_cell h 8).trans rfl, (blk_cell h 9).trans rfl, (blk_cell h 10).trans rfl, (blk_cell h 11).trans rfl, (blk_cell h 12).trans rfl, blk_frozen h 0, blk_frozen h 1, blk_frozen h 2, blk_frozen h 3, blk_frozen h 4, blk_frozen h 5, blk_frozen h 6, blk_frozen h 7, blk_frozen h 8, blk_frozen h 9, blk_frozen h 10, blk_frozen h 11, blk_frozen h 12⟩
theorem bc21 {W : World} {g t : Nat} {v0 v1 v2 v3 v4 v5 v6 v7 v8 v9 v10 v11 v12 v13 v14 v15 v16 v17 v18 v19 v20 : Value} (h : W.heap[g]? = some (.cells #[v0, v1, v2, v3, v4, v5, v6, v7, v8, v9, v10, v11, v12, v13, v14, v15, v16, v17, v18, v19, v20] t (0, 0))) : W.cell? ⟨g, 0, none⟩ = some v0 ∧ W.cell? ⟨g, 1, none⟩ = some v1 ∧ W.cell? ⟨g, 2, none⟩ = some v2 ∧ W.cell? ⟨g, 3, none⟩ = some v3 ∧ W.cell? ⟨g, 4, none⟩ = some v4 ∧ W.cell? ⟨g, 5, none⟩ = some v5 ∧ W.cell? ⟨g, 6, none⟩ = some v6 ∧ W.cell? ⟨g, 7, none⟩ = some v7 ∧ W.cell? ⟨g, 8, none⟩ = some v8 ∧ W.cell? ⟨g, 9, none⟩ = some v9 ∧ W.cell? ⟨g, 10, none⟩ = some v10 ∧ W.cell? ⟨g, 11, none⟩ = some v11 ∧ W.cell? ⟨g, 12, none⟩ = some v12 ∧ W.cell? ⟨g, 13, none⟩ = some v13 ∧ W.cell? ⟨g, 14, none⟩ = some v14 ∧ W.cell? ⟨g, 15, none⟩ = some v15 ∧ W.cell? ⟨g, 16, none⟩ = some v16 ∧ W.cell? ⟨g, 17, none⟩ = some v17 ∧ W.cell? ⟨g, 18, none⟩ = some v18 ∧ W.cell? ⟨g, 19, none⟩ = some v19 ∧ W.cell? ⟨g, 20, none⟩ = some v20 ∧ W.frozen? ⟨g, 0, none⟩ = false ∧ W.frozen? ⟨g, 1, none⟩ = false ∧ W.frozen? ⟨g, 2, none⟩ = false ∧ W.frozen? ⟨g, 3, none⟩ = false ∧ W.frozen? ⟨g, 4, none⟩ = false ∧ W.frozen? ⟨g, 5, none⟩ = false ∧ W.frozen? ⟨g, 6, none⟩ = false ∧ W.frozen? ⟨g, 7, none⟩ = false ∧ W.frozen? ⟨g, 8, none⟩ = false ∧ W.frozen? ⟨g, 9, none⟩ = false ∧ W.frozen? ⟨g, 10, none⟩ = false ∧ W.frozen? ⟨g, 11, none⟩ = false ∧ W.frozen? ⟨g, 12, none⟩ = false ∧ W.frozen? ⟨g, 13, none⟩ = false ∧ W.frozen? ⟨g, 14, none⟩ = false ∧ W.frozen? ⟨g, 15, none⟩ = false ∧ W.frozen? ⟨g, 16, none⟩ = false ∧ W.frozen? ⟨g, 17, none⟩ = false ∧ W.frozen? ⟨g, 18, none⟩ = false ∧ W.frozen? ⟨g, 19, none⟩ = false ∧ W.frozen? ⟨g, 20, none⟩ = false :=
  ⟨(blk_cell h 0).trans rfl, (blk_cell h 1).trans rfl, (blk_cell h 2).trans rfl, (blk_cell h 3).trans rfl, (blk_cell h 4).trans rfl, (blk_cell h 5).trans rfl, (blk_cell h 6).trans rfl, (blk_cell h 7).trans rfl, (blk_cell h 8).trans rfl, (blk_cell h 9).trans rfl, (blk_cell h 10).trans rfl, (blk_cell h 11).trans rfl, (blk_cell h 12).trans rfl, (blk_cell h 13).trans rfl, (blk_cell h 14).trans rfl, (blk_cell h 15).trans rfl, (blk_cell h 16).trans rfl, (blk_cell h 17).trans rfl, (blk_cell h 18).trans rfl, (blk_cell h 19).trans rfl, (blk_cell h 20).trans rfl, blk_frozen h 0, blk_frozen h 1, blk_frozen h 2, blk_frozen h 3, blk_frozen h 4, blk_frozen h 5, blk_frozen h 6, blk_frozen h 7, blk_frozen h 8, blk_frozen h 9, blk_frozen h 10, blk_frozen h 11, blk_frozen h 12, blk_frozen h 13, blk_frozen h 14, blk_frozen h 15, blk_frozen h 16, blk_frozen h 17, blk_frozen h 18, blk_frozen h 19, blk_frozen h 20⟩
end Go.Proofs.YtceilmhinkkgfaaDoorW.PrintLast
end
section
namespace Go.Proofs.YtceilmhinkkgfaaDoorW.PrintLast
open Go.RowKit Go.Proofs.YtceilmhinkkgfaaDoor.Q Go.Proofs.YtceilmhinkkgfaaDoorW.PrintWords
def setFrom (g : Nat) : List Value → Nat → World → World
  | [], _, W => W
  | v :: l, i, W => setFrom g l (i + 1) (W.setCell ⟨g, i, none⟩ v)
theorem setFrom_row {g t : Nat} : ∀ (l pre mid : List Value) (W : World), W.heap[g]? = some (.cells (pre ++ mid).toArray t (0, 0)) → mid.length = l.length → setFrom g l pre.length W = W.setRow g (pre ++ l).toArray
  | [], pre, mid, W, hg, h => by
    have : mid = [] := List.eq_nil_of_length_eq_zero (by simpa using h)
    subst this
    exact (setRow_self W g _ t (0, 0) hg).symm
  | v :: l, pre, [], W, hg, h => by simp at h
  | v :: l, pre, m :: mid, W, hg, h => by
    have e : (pre ++ m :: mid).toArray.setIfInBounds pre.length v = (pre ++ v :: mid).toArray := by simp
    show setFrom g l (pre.length + 1) (W.setCell ⟨g, pre.length, none⟩ v) = _
    rw [setCell_eq_setRow W g pre.length _ t (0, 0) v hg, e]
    have := setFrom_row (t := t) l (pre ++ [v]) mid (W.setRow g (pre ++ v :: mid).toArray) (by rw [setRow_heap W g _ _ t _ hg]; simp) (by simpa using h)
    rw [List.length_append, List.length_singleton] at this
    rw [this, setRow_setRow]
    simp
theorem sB {P : Program} {ops : Array Oper} {oi : Oper} {a : Act} {w : World} {K : Act → World → Prop} {Q : Exit → Act → World → Prop} (T : TypeId) {g t : Nat} {old : Array Value} (vs : List Value) (hg : w.heap[g]? = some (.cells old t (0, 0))) (h : K a (setFrom g vs 0 w))
    {x y : Operand} (ho : oi.op = .store T x y := by exact rfl) (hx : a.eval x = .pointer (some ⟨g, 0, none⟩) := by exact rfl) (hy : a.eval y = .agg vs.toArray := by exact rfl)
    (hi : (P.info? T).map (·.size) = some vs.toArray.size := by kernel_rfl) (hl : old.size = vs.toArray.size := by exact rfl) (h1 : vs.toArray.all (·.oneCell') = true := by first | exact rfl | simp [Value.oneCell'])
    (hw : Region.wanted oi (yielded ops a.tmps) = true := by exact rfl) (hN : oi.dst = none := by exact rfl) :
    if Region.wanted oi (yielded ops a.tmps) = true then Oper.wp P oi a w K Q else K (a.put none undef) w := by
  refine skip_ hw hN ?_ h
  have e := setFrom_row vs [] old.toList w (by simpa using hg) (by simpa using hl)
  rw [List.length_nil] at e
  rw [e]
  exact run_store_block ho hx hy hg hi hl h1
theorem sBL {P : Program} {ops : Array Oper} {rest : List Oper} {o : Oper} {a : Act} {Q : Exit → Act → World → Prop} {W : World} (T : TypeId) {g t : Nat} {old : Array Value} (vs : List Value) (hg : W.heap[g]? = some (.cells old t (0, 0))) (h : wpList P ops Q rest a (setFrom g vs 0 W))
    {p : Tmp} {y : Operand} (ho : o.op = .store T (.tmp p) y := by exact rfl) (hx : a.eval (.tmp p) = .pointer (some ⟨g, 0, none⟩) := by exact rfl) (hy : a.eval y = .agg vs.toArray := by exact rfl)
    (hi : (P.info? T).map (·.size) = some vs.toArray.size := by kernel_rfl) (hl : old.size = vs.toArray.size := by exact rfl) (h1 : vs.toArray.all (·.oneCell') = true := by first | exact rfl | simp [Value.oneCell'])
    (hgd : o.guard = none := by exact rfl) (hN : o.dst = none := by exact rfl) : wpList P ops Q (o :: rest) a W := by
  have e := setFrom_row vs [] old.toList W (by simpa using hg) (by simpa using hl)
  rw [List.length_nil] at e
  refine Go.Proofs.YtceilmhinkkgfaaDoor.Q.wpList_store_row hgd hN ho g t old vs.toArray hx hy hg hi hl h1 (fun w' hw' => ?_)
  rw [hw']
  rw [e] at h
  exact h
theorem sF_ne {W : World} {g t k : Nat} {old : Array Value} {o : Obj} (vs : List Value) (hg : W.heap[g]? = some (.cells old t (0, 0))) (hl : old.size = vs.toArray.size) (hk : k ≠ g) (h : W.heap[k]? = some o) : (setFrom g vs 0 W).heap[k]? = some o := by
  have e := setFrom_row vs [] old.toList W (by simpa using hg) (by simpa using hl)
  rw [List.length_nil] at e
  rw [e, setRow_other W g k _ hk]
  exact h
theorem sF_eq {W : World} {g t : Nat} {old : Array Value} (vs : List Value) (hg : W.heap[g]? = some (.cells old t (0, 0))) (hl : old.size = vs.toArray.size) : (setFrom g vs 0 W).heap[g]? = some (.cells vs.toArray t (0, 0)) := by
  have e := setFrom_row vs [] old.toList W (by simpa using hg) (by simpa using hl)
  rw [List.length_nil] at e
  rw [e]
  exact setRow_heap W g _ _ t _ hg
theorem sF_below {w W : World} {g t : Nat} {old : Array Value} (vs : List Value) (hg : W.heap[g]? = some (.cells old t (0, 0))) (hl : old.size = vs.toArray.size) (h : Below w.heap.size w W) (hge : w.heap.size ≤ g) : Below w.heap.size w (setFrom g vs 0 W) := by
  have e := setFrom_row vs [] old.toList W (by simpa using hg) (by simpa using hl)
  rw [List.length_nil] at e
  rw [e]
  exact below_setRow h hge _
theorem R_setFrom {α : Type} {d : Kd α} {e : TypeId} {w : World} {base : Nat} {ok : Nat → Prop} {v : Value} {xs : List α} {g : Nat} (h : d.R e w base ok v xs) (hok : ∀ k, ok k → k ≠ g) : ∀ (vs : List Value) (i : Nat), d.R e (setFrom g vs i w) base ok v xs := by
  intro vs
  induction vs generalizing w with
  | nil => exact fun _ => h
  | cons v' l ih => exact fun i => ih (Kd.R_far h (p := ⟨g, i, none⟩) hok v') (i + 1)
theorem evL {P : Program} {ops : Array Oper} {rest : List Oper} {o : Oper} {a : Act} {Q : Exit → Act → World → Prop} {W w1 : World} (v : Value) (h : wpList P ops Q rest (a.put o.dst v) w1) (hrun : (execOp a.eval o).run P W = .ok (.value v) w1) (hgd : o.guard = none := by exact rfl) : wpList P ops Q (o :: rest) a W := by
  refine wpList_plain hgd fun K hK => ?_
  unfold Oper.wp
  rw [hrun]
  exact hK _ _ h
theorem nxt {P : Program} {ops : Array Oper} {rest : List Oper} {a a' : Act} {Q : Exit → Act → World → Prop} {W : World} (h : wpList P ops Q rest a' W) (ha : a = a' := by (simp only [Act.put, aput]; rfl)) : wpList P ops Q rest a W := by
  rw [ha]
  exact h
end Go.Proofs.YtceilmhinkkgfaaDoorW.PrintLast
end
section
namespace Go.Proofs.YtceilmhinkkgfaaDoor.Q
open Go.RowKit Go.Proofs.YtceilmhinkkgfaaDoorW.PrintWords Go.Proofs.YtceilmhinkkgfaaDoorW.PrintLast
theorem run_lit1 {W : World} {o : Oper} {a : Act} {x : Nat} {v0 v1 v2 v3 v4 v5 v6 v7 v8 v9 : Value} (ho : o.op = .buildSlice 39 1 #[(0, .tmp x)] := by exact rfl) (hx : a.eval (.tmp x) = .agg #[v0, v1, v2, v3, v4, v5, v6, v7, v8, v9] := by exact rfl) :
    (execOp a.eval o).run Tryd.prog W = .ok (.value (.slice (some ⟨W.heap.size, 0, none⟩) 1 1)) (W.alloc (.cells #[v0, v1, v2, v3, v4, v5, v6, v7, v8, v9] 52)) := by
  have hu39 := Tryd.underlying39
  have hu52 := Tryd.underlying52
  simp [go_sem] at hx
  unfold execOp
  rw [ho]
  go_simp
end Go.Proofs.YtceilmhinkkgfaaDoor.Q
end
