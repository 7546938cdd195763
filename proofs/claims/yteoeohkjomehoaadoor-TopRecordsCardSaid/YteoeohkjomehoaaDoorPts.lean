/- Pointers as a kind of element; what the laid tables say of a world. -/
import Derived.Test.YteoeohkjomehoaaDoorQ0
import Derived.Laws.CopyOwn
import Derived.OpenShut
import Derived.ChangeSame
import Derived.Laws.CopyRow
section
namespace Go.Proofs.YteoeohkjomehoaaDoor.Q
open Go.RowKit Go.Proofs.YteoeohkjomehoaaDoorW.PrintWords Go.Proofs.YteoeohkjomehoaaDoorW.PrintMore
set_option linter.unusedVariables false

def kAddr : Kd (Option Addr) := Kd.scalar Value.pointer (fun _ => rfl)
theorem at_addr {w : World} {A : Option Addr} {n : Nat} {xs : List (Option Addr)} (h : kAddr.C w A n xs) (i : Int) (h0 : 0 ≤ i) (h1 : i < n) : ∃ ad, A = some ad ∧ w.cell? (ad.add i.toNat) = some (.pointer (rdOf none xs i)) :=
  ReadsOf.at_ (Kd.reads_of_C (enc := Value.pointer) (d := none) (h1 := fun _ => rfl) h) i h0 h1
def tab_ehdr_sizes : List Int := [2, 2, 4, 0, 0, 0, 4, 2, 2, 2, 2, 2, 2]
def tab_shdr_sizes : List Int := [4, 4, 0, 0, 0, 0, 4, 4, 0, 0]
def tab_phdr_wideSizes : List Int := [4, 4, 0, 0, 0, 0, 0, 0]
def tab_phdr_narrowSizes : List Int := [4, 0, 0, 0, 0, 0, 4, 0]
def tab_symrec_wideSizes : List Int := [4, 1, 1, 2, 0, 0]
def tab_symrec_narrowSizes : List Int := [4, 0, 0, 1, 1, 2]
theorem C_of_cells {w : World} {g : Nat} {zs : List Int} (h : ∀ i, i < zs.length → w.cell? ⟨g, i, none⟩ = some (.int .i64 (zs.getD i 0))) (hn : zs.length ≤ 9223372036854775807) : (Kd.int .i64).C w (some ⟨g, 0, none⟩) zs.length zs := by
  refine ⟨rfl, hn, fun _ => ⟨_, rfl, fun j p hj => ⟨[.int .i64 p], rfl, rfl, fun i u hu => ?_⟩⟩⟩
  obtain ⟨hlt, rfl⟩ := List.getElem?_eq_some_iff.mp hj
  cases i with
  | succ i => simp at hu
  | zero =>
    obtain rfl := Option.some.inj (show some _ = some u from hu)
    rw [show j * (Kd.int .i64).sz + 0 = j from Nat.mul_one j, add_plain, h j hlt]
    simp [hlt]
structure Laid_ehdr (w : World) : Prop where
  ehdr_sizes : (Kd.int .i64).C w (some ⟨3, 0, none⟩) 13 tab_ehdr_sizes
theorem Laid_ehdr.below {w w1 : World} (h : Laid_ehdr w) (hb : Below w.heap.size w w1) : Laid_ehdr w1 :=
  ⟨Kd.C_below h.ehdr_sizes hb⟩
structure Laid_shdr (w : World) : Prop where
  shdr_sizes : (Kd.int .i64).C w (some ⟨4, 0, none⟩) 10 tab_shdr_sizes
theorem Laid_shdr.below {w w1 : World} (h : Laid_shdr w) (hb : Below w.heap.size w w1) : Laid_shdr w1 :=
  ⟨Kd.C_below h.shdr_sizes hb⟩
structure Laid_phdr (w : World) : Prop where
  phdr_wideSizes : (Kd.int .i64).C w (some ⟨5, 0, none⟩) 8 tab_phdr_wideSizes
  phdr_narrowSizes : (Kd.int .i64).C w (some ⟨6, 0, none⟩) 8 tab_phdr_narrowSizes
theorem Laid_phdr.below {w w1 : World} (h : Laid_phdr w) (hb : Below w.heap.size w w1) : Laid_phdr w1 :=
  ⟨Kd.C_below h.phdr_wideSizes hb, Kd.C_below h.phdr_narrowSizes hb⟩
structure Laid_symrec (w : World) : Prop where
  symrec_wideSizes : (Kd.int .i64).C w (some ⟨7, 0, none⟩) 6 tab_symrec_wideSizes
  symrec_narrowSizes : (Kd.int .i64).C w (some ⟨8, 0, none⟩) 6 tab_symrec_narrowSizes
theorem Laid_symrec.below {w w1 : World} (h : Laid_symrec w) (hb : Below w.heap.size w w1) : Laid_symrec w1 :=
  ⟨Kd.C_below h.symrec_wideSizes hb, Kd.C_below h.symrec_narrowSizes hb⟩
theorem cells_of_strs {H : Type} {enc : TypeId × Value → H} {P : Program} {w : World} {base : Nat} {sp : Nat → Bool} {held : Bool} {fuel : Nat} {t e : TypeId} {n : Nat} {cs : List Value} {zs : List ByteArray} {p : List MemPlace}
    (ht : P.underlying t = some (.array n e)) (he : P.underlying e = some .string) (hce : P.cellsOf e = 1) (hct : P.cellsOf t = n)
    (h : DataW.trod enc P w base sp held fuel t cs = some (.agg (zs.map fun z => .lit (.string z.data.toList)), p)) : cs = zs.map Value.string := by
  obtain ⟨xs, m, _, hx, hl, hxl, hf⟩ := DataW.trod_array ht h
  rw [hce] at hf
  have hxs : xs.map (·.1) = zs.map fun z => (DataW.lit (.string z.data.toList) : DataW H) := by
    have := congrArg Prod.fst hx
    simpa using this.symm
  have hzl : zs.length = n := by
    have := congrArg List.length hxs
    simp at this
    omega
  apply List.ext_getElem?
  intro i
  by_cases hi : i < n
  · have h1 := hf i hi
    rw [Nat.mul_one, List.getElem?_eq_getElem (by omega)] at h1
    obtain ⟨s, e1, e2, _⟩ := DataW.trod_string he h1
    have e3 := congrArg (·[0]?) e1
    simp only [List.getElem?_take_of_lt (Nat.zero_lt_one), List.getElem?_drop, Nat.add_zero, List.getElem?_cons_zero] at e3
    have e4 := congrArg (·[i]?) hxs
    simp only [List.getElem?_map, List.getElem?_eq_getElem (show i < xs.length by omega), List.getElem?_eq_getElem (show i < zs.length by omega), Option.map_some, e2] at e4
    have e5 : s = zs[i] := by
      have e6 : s.data.toList = zs[i].data.toList := by simpa using e4
      have e7 : s.data = zs[i].data := Array.toList_inj.mp e6
      cases s; cases hz : zs[i]; rw [hz] at e7; simp at e7; rw [e7]
    rw [e3, List.getElem?_map, List.getElem?_eq_getElem (show i < zs.length by omega), e5]
    rfl
  · rw [List.getElem?_eq_none (by omega), List.getElem?_eq_none (by simp; omega)]
def StrsIs (P : Program) (w : World) (name : String) (zs : List ByteArray) : Prop := w.var? P name = some (zs.map Value.string).toArray
theorem strsIs_of_head {P : Program} {W : World} {name : String} {zs : List ByteArray} {rest : List (String × DataW Unit)} {g : Nat} {t e : TypeId} {n : Nat}
    (hg : P.globalNamed name = some g) (hty : (P.globals[g]?).map (·.type) = some t) (ht : P.underlying t = some (.array n e)) (he : P.underlying e = some .string) (hce : P.cellsOf e = 1) (hct : P.cellsOf t = n)
    (h : laidMet P ((name, .agg (zs.map fun z => .lit (.string z.data.toList))) :: rest) W) : StrsIs P W name zs := by
  obtain ⟨ps, ⟨g', t', cs, fuel, p, q, hg', ht', hvar, hd, _, _⟩, _⟩ := h
  obtain rfl := Option.some.inj (hg.symm.trans hg')
  obtain rfl := Option.some.inj (hty.symm.trans ht')
  unfold StrsIs
  rw [hvar, ← cells_of_strs ht he hce hct hd]
theorem StrsIs.row {P : Program} {w : World} {name : String} {zs : List ByteArray} {g : Nat} (h : StrsIs P w name zs) (hg : P.globalNamed name = some g) (hn : zs.length ≤ 9223372036854775807) : Kd.string.C w (some ⟨g, 0, none⟩) zs.length zs := by
  refine ⟨rfl, hn, fun _ => ⟨_, rfl, fun j p hj => ⟨[.string p], rfl, rfl, fun i u hu => ?_⟩⟩⟩
  obtain ⟨hlt, rfl⟩ := List.getElem?_eq_some_iff.mp hj
  cases i with
  | succ i => simp at hu
  | zero =>
    obtain rfl := Option.some.inj (show some _ = some u from hu)
    rw [show j * Kd.string.sz + 0 = j from Nat.mul_one j, add_plain, World.var?_cell hg h j]
    simp [hlt]
def tabS_shdr_names : List ByteArray := [⟨#[78, 85, 76, 76]⟩, ⟨#[80, 82, 79, 71, 66, 73, 84, 83]⟩, ⟨#[83, 89, 77, 84, 65, 66]⟩, ⟨#[83, 84, 82, 84, 65, 66]⟩, ⟨#[82, 69, 76, 65]⟩, ⟨#[72, 65, 83, 72]⟩, ⟨#[68, 89, 78, 65, 77, 73, 67]⟩, ⟨#[78, 79, 84, 69]⟩, ⟨#[78, 79, 66, 73, 84, 83]⟩, ⟨#[82, 69, 76]⟩, ⟨#[83, 72, 76, 73, 66]⟩, ⟨#[68, 89, 78, 83, 89, 77]⟩, ⟨#[]⟩, ⟨#[]⟩, ⟨#[73, 78, 73, 84, 95, 65, 82, 82, 65, 89]⟩, ⟨#[70, 73, 78, 73, 95, 65, 82, 82, 65, 89]⟩, ⟨#[80, 82, 69, 73, 78, 73, 84, 95, 65, 82, 82, 65, 89]⟩, ⟨#[71, 82, 79, 85, 80]⟩, ⟨#[83, 89, 77, 84, 65, 66, 95, 83, 72, 78, 68, 88]⟩]
def tabS_symrec_bindings : List ByteArray := [⟨#[76, 79, 67, 65, 76]⟩, ⟨#[71, 76, 79, 66, 65, 76]⟩, ⟨#[87, 69, 65, 75]⟩]
def tabS_symrec_kinds : List ByteArray := [⟨#[78, 79, 84, 89, 80, 69]⟩, ⟨#[79, 66, 74, 69, 67, 84]⟩, ⟨#[70, 85, 78, 67]⟩, ⟨#[83, 69, 67, 84, 73, 79, 78]⟩, ⟨#[70, 73, 76, 69]⟩, ⟨#[67, 79, 77, 77, 79, 78]⟩, ⟨#[84, 76, 83]⟩]
structure Laid_shdrn (w : World) : Prop where
  shdr_names : Kd.string.C w (some ⟨2, 0, none⟩) 19 tabS_shdr_names
theorem Laid_shdrn.below {w w1 : World} (h : Laid_shdrn w) (hb : Below w.heap.size w w1) : Laid_shdrn w1 :=
  ⟨Kd.C_below h.shdr_names hb⟩
structure Laid_symrecn (w : World) : Prop where
  symrec_bindings : Kd.string.C w (some ⟨0, 0, none⟩) 3 tabS_symrec_bindings
  symrec_kinds : Kd.string.C w (some ⟨1, 0, none⟩) 7 tabS_symrec_kinds
theorem Laid_symrecn.below {w w1 : World} (h : Laid_symrecn w) (hb : Below w.heap.size w w1) : Laid_symrecn w1 :=
  ⟨Kd.C_below h.symrec_bindings hb, Kd.C_below h.symrec_kinds hb⟩
theorem run_store_block {P : Program} {W : World} {T g t : Nat} {old cells : Array Value} {ρ : Operand → Value} {o : Oper} {x y : Operand} (ho : o.op = .store T x y) (hx : ρ x = .pointer (some ⟨g, 0, none⟩)) (hy : ρ y = .agg cells)
    (hg : W.heap[g]? = some (.cells old t (0, 0))) (hi : (P.info? T).map (·.size) = some cells.size) (hl : old.size = cells.size) (h1 : cells.all (·.oneCell') = true) : (execOp ρ o).run P W = .ok .skip (W.setRow g cells) := by
  have h := run_storeVar_row (P := P) W g t T old cells hg hi hl h1
  simp [execOp, ho, hx, hy, Instr.storeAt, Instr.sureAddr, h]
theorem wpList_store_row {P : Program} {ops : Array Oper} {rest : List Oper} {o : Oper} {a : Act} {Q : Exit → Act → World → Prop} {W : World} (hgd : o.guard = none) (hN : o.dst = none) {T : TypeId} {p : Tmp} {y : Operand} (ho : o.op = .store T (.tmp p) y) (g t : Nat) (old cells : Array Value)
    (hx : a.eval (.tmp p) = .pointer (some ⟨g, 0, none⟩)) (hy : a.eval y = .agg cells) (hg : W.heap[g]? = some (.cells old t (0, 0))) (hi : (P.info? T).map (·.size) = some cells.size) (hl : old.size = cells.size) (h1 : cells.all (·.oneCell') = true)
    (h : ∀ w', w' = W.setRow g cells → wpList P ops Q rest a w') : wpList P ops Q (o :: rest) a W :=
  store_event hgd ho hN (run_store_block ho hx hy hg hi hl h1) h
theorem row_at {W : World} {g t : Nat} {old : Array Value} (cells : Array Value) (hg : W.heap[g]? = some (.cells old t (0, 0))) : (W.setRow g cells).heap[g]? = some (.cells cells t (0, 0)) := setRow_heap W g old cells t _ hg
theorem row_ne {W : World} {g k : Nat} (cells : Array Value) (hk : k ≠ g) : (W.setRow g cells).heap[k]? = W.heap[k]? := by
  unfold World.setRow
  simp [Array.getElem?_modify, hk.symm]

end Go.Proofs.YteoeohkjomehoaaDoor.Q
end
section
namespace Go.Proofs.YteoeohkjomehoaaDoorW.PrintLast
open Go.RowKit Go.Proofs.YteoeohkjomehoaaDoor.Q Go.Proofs.YteoeohkjomehoaaDoorW.PrintWords
set_option linter.unusedVariables false
section
variable {P : Program} {ops : Array Oper} {Q : Exit → Act → World → Prop} {md : Region.Mode} {S : World → Prop} {ds : List Nat}
/-- A pure operation of a region. -/
theorem pU (i K : Nat) (l' : Array Bool) {oi : Oper} {v : Value} {fuel : Nat} {l : Array Bool} {a a' : Act} {w : World} (h : wpAnyLast P md ops Q S ds fuel l' a' w)
    (hi : ops[i]? = some oi := by exact rfl) (hN : oi.dst = some K := by exact rfl) (hc : anyB md ops l l' i = true := by exact any_of HT_.out (by kernel_rfl))
    (hQ : ∀ c a w, Q (.panic c) (a.put oi.dst v) w → Q (.panic c) a w := by exact fun _ _ _ h => h)
    (hw : Region.wanted oi (yielded ops a.tmps) = true := by rfl) (hr : ∀ w, (execOp a.eval oi).run P w = .ok (.value v) w := by (intro w'; go_simp; with_reducible rfl))
    (ha : a.put (some K) v = a' := by (simp only [Act.put, aput]; rfl)) : wpAnyLast P md ops Q S ds (fuel + 1) l a w := pure_ l' hi hN hc hQ (Or.inl ⟨hw, hr⟩) ha h
/-- One that isn't wanted. -/
theorem pN (i K : Nat) (l' : Array Bool) {oi : Oper} {fuel : Nat} {l : Array Bool} {a a' : Act} {w : World} (h : wpAnyLast P md ops Q S ds fuel l' a' w)
    (hi : ops[i]? = some oi := by exact rfl) (hN : oi.dst = some K := by exact rfl) (hc : anyB md ops l l' i = true := by exact any_of HT_.out (by kernel_rfl))
    (hQ : ∀ c a w, Q (.panic c) (a.put oi.dst undef) w → Q (.panic c) a w := by exact fun _ _ _ h => h)
    (hw : Region.wanted oi (yielded ops a.tmps) = false := by rfl)
    (ha : a.put (some K) undef = a' := by (simp only [Act.put, aput]; rfl)) : wpAnyLast P md ops Q S ds (fuel + 1) l a w := pure_ l' hi hN hc hQ (Or.inr ⟨hw, rfl⟩) ha h
/-- A read. -/
theorem tU (i K : Nat) (l' : Array Bool) {oi : Oper} {v : Value} {fuel : Nat} {l : Array Bool} {a a' : Act} {w : World} (hS : S w) (h : wpAnyLast P md ops Q S ds fuel l' a' w)
    (hi : ops[i]? = some oi := by exact rfl) (hN : oi.dst = some K := by exact rfl) (hc : takeB md ops ds l l' i = true := by exact take_ofW HT_.out HW_.out (by kernel_rfl))
    (hQ : ∀ c a w, Q (.panic c) (a.put oi.dst v) w → Q (.panic c) a w := by exact fun _ _ _ h => h)
    (hw : Region.wanted oi (yielded ops a.tmps) = true := by rfl) (hr : ∀ w, S w → (execOp a.eval oi).run P w = .ok (.value v) w := by (intro w' s0; go_simp; with_reducible rfl))
    (ha : a.put (some K) v = a' := by (simp only [Act.put, aput]; rfl)) : wpAnyLast P md ops Q S ds (fuel + 1) l a w := take_ l' hi hN hc hQ (Or.inl ⟨hw, hr⟩) hS ha h
/-- A call in a plain region. -/
theorem gL {rest : List Oper} {oi : Oper} {a : Act} {w : World} (N : Option Tmp) {f : FuncId} {fn : Func} {ars : Array Operand} {ts : Array TypeId} (hf : P.funcs[f]? = some fn) (args : Array Value)
    (h : Calls P f args w fun e w' => ∃ v, e = .returned v ∧ wpList P ops Q rest (a.put N v) w')
    (hd : oi.dst = N := by exact rfl) (hg : oi.guard = none := by exact rfl) (hname : (fn.name == "runtime.NumGoroutine") = false := by kernel_rfl) (hb : fn.body.isSome = true := by exact rfl)
    (hop : oi.op = .call { callee := .value (.func f), args := ars, argTypes := ts } := by exact rfl)
    (hargs : ars.map a.eval = args := by ((try simp only [List.map_toArray, List.map_cons, List.map_nil]); first | done | rfl | (simp only [List.length_drop, List.length_take]; rfl))) : wpList P ops Q (oi :: rest) a w := goesL_ N hd hg hf hname hb args hop hargs h
end
end Go.Proofs.YteoeohkjomehoaaDoorW.PrintLast
namespace Go.Proofs.YteoeohkjomehoaaDoorW.PrintWords
open Go.RowKit Go.Proofs.YteoeohkjomehoaaDoor.Q
set_option linter.unusedVariables false
/-- What is below, as the walk stands. -/
theorem hbN {B : Nat} {w W : World} (h : Below B w W := by repeat (first | (with_reducible first | exact HB.out | apply below_alloc | apply pw_below_drewN | apply below_drew1) | exact HB.out)) : Below B w W := h
/-- And behind stores into blocks of the call's own. -/
theorem hbS {B : Nat} {w W : World} (h : Below B w W := by repeat (first | (with_reducible first | exact HB.out | apply below_alloc | apply pw_below_drewN | apply below_drew1 | refine below_set ?_ (Aside0.out (by with_reducible assumption))) | exact HB.out)) : Below B w W := h
theorem bsz {w W : World} {g : Nat} (hg : g = W.heap.size) (h : Below w.heap.size w W) : w.heap.size ≤ g := by
  rw [hg]
  exact below_size h
/-- A block, as the walk stands. -/
theorem bkN {W : World} {g : Nat} {o : Obj} (h : W.heap[g]? = some o := by ((with_reducible repeat (first | refine blk_drewN ?_ _ | refine blk_drew ?_ | refine blk_alloc ?_ _)); exact Aside0.out (by first | (with_reducible assumption) | assumption))) : W.heap[g]? = some o := h
section
variable {P : Program} {ops : Array Oper} {rest : List Oper} {o : Oper} {a : Act} {Q : Exit → Act → World → Prop} {Kc : Act → World → Prop} {W : World}
/-- A box made, in a plain region. -/
theorem bE (N : Nat) (cs : Array Value) (t : TypeId)
    (h : ∀ g, g = W.heap.size → ∀ w1, w1.heap[g]? = some (.cells cs t (0, 0)) → Below W.heap.size W w1 → wpList P ops Q rest (a.put o.dst (.pointer (some ⟨g, 0, none⟩))) w1)
    (hgd : o.guard = none := by exact rfl) (hd : o.dst = some N := by exact rfl)
    (hrun : (execOp a.eval o).run P W = .ok (.value (.pointer (some ⟨W.heap.size, 0, none⟩))) (W.alloc (.cells cs t (0, 0))) := by first | (go_simp; done) | (go_simp; rfl)) : wpList P ops Q (o :: rest) a W := box_event hgd hd hrun h
/-- A box made, in a region that draws. -/
theorem bS (N : Nat) (cs : Array Value) (t : TypeId)
    (h : ∀ g, g = W.heap.size → ∀ w1, w1.heap[g]? = some (.cells cs t (0, 0)) → Below W.heap.size W w1 → Kc (a.put o.dst (.pointer (some ⟨g, 0, none⟩))) w1)
    (hw : Region.wanted o (yielded ops a.tmps) = true := by exact rfl) (hd : o.dst = some N := by exact rfl)
    (hrun : (execOp a.eval o).run P W = .ok (.value (.pointer (some ⟨W.heap.size, 0, none⟩))) (W.alloc (.cells cs t (0, 0))) := by first | (go_simp; done) | (go_simp; rfl)) : if Region.wanted o (yielded ops a.tmps) = true then Oper.wp P o a W Kc Q else Kc (a.put o.dst undef) W := box_step hw hd hrun h
end
end Go.Proofs.YteoeohkjomehoaaDoorW.PrintWords
end
section
namespace Go.Proofs.YteoeohkjomehoaaDoorW.PrintLast
open Go.RowKit Go.Proofs.YteoeohkjomehoaaDoor.Q Go.Proofs.YteoeohkjomehoaaDoorW.PrintWords
set_option linter.unusedVariables false
def setFrom (g : Nat) : List Value → Nat → World → World
  | [], _, W => W
  | v :: l, i, W => setFrom g l (i + 1) (W.setCell ⟨g, i, none⟩ v)
theorem setFrom_row {g t : Nat} : ∀ (l pre mid : List Value) (W : World), W.heap[g]? = some (.cells (pre ++ mid).toArray t (0, 0)) → mid.length = l.length → setFrom g l pre.length W = W.setRow g (pre ++ l).toArray
  | [], pre, mid, W, hg, h => by
    have : mid = [] := List.eq_nil_of_length_eq_zero (by simpa using h)
    subst this
    exact (setRow_self W g _ t (0, 0) hg).symm
  | v :: l, pre, [], W, hg, h => by simp at h
  | v :: l, pre, m :: mid, W, hg, h => by
    have e : (pre ++ m :: mid).toArray.setIfInBounds pre.length v = (pre ++ v :: mid).toArray := by simp
    show setFrom g l (pre.length + 1) (W.setCell ⟨g, pre.length, none⟩ v) = _
    rw [setCell_eq_setRow W g pre.length _ t (0, 0) v hg, e]
    have := setFrom_row (t := t) l (pre ++ [v]) mid (W.setRow g (pre ++ v :: mid).toArray) (by rw [setRow_heap W g _ _ t _ hg]; simp) (by simpa using h)
    rw [List.length_append, List.length_singleton] at this
    rw [this, setRow_setRow]
    simp
theorem sB {P : Program} {ops : Array Oper} {oi : Oper} {a : Act} {w : World} {K : Act → World → Prop} {Q : Exit → Act → World → Prop} (T : TypeId) {g t : Nat} {old : Array Value} (vs : List Value) (hg : w.heap[g]? = some (.cells old t (0, 0))) (h : K a (setFrom g vs 0 w))
    {x y : Operand} (ho : oi.op = .store T x y := by exact rfl) (hx : a.eval x = .pointer (some ⟨g, 0, none⟩) := by exact rfl) (hy : a.eval y = .agg vs.toArray := by exact rfl)
    (hi : (P.info? T).map (·.size) = some vs.toArray.size := by kernel_rfl) (hl : old.size = vs.toArray.size := by exact rfl) (h1 : vs.toArray.all (·.oneCell') = true := by first | exact rfl | simp [Value.oneCell'])
    (hw : Region.wanted oi (yielded ops a.tmps) = true := by exact rfl) (hN : oi.dst = none := by exact rfl) :
    if Region.wanted oi (yielded ops a.tmps) = true then Oper.wp P oi a w K Q else K (a.put none undef) w := by
  refine skip_ hw hN ?_ h
  have e := setFrom_row vs [] old.toList w (by simpa using hg) (by simpa using hl)
  rw [List.length_nil] at e
  rw [e]
  exact run_store_block ho hx hy hg hi hl h1
theorem sBL {P : Program} {ops : Array Oper} {rest : List Oper} {o : Oper} {a : Act} {Q : Exit → Act → World → Prop} {W : World} (T : TypeId) {g t : Nat} {old : Array Value} (vs : List Value) (hg : W.heap[g]? = some (.cells old t (0, 0))) (h : wpList P ops Q rest a (setFrom g vs 0 W))
    {p : Tmp} {y : Operand} (ho : o.op = .store T (.tmp p) y := by exact rfl) (hx : a.eval (.tmp p) = .pointer (some ⟨g, 0, none⟩) := by exact rfl) (hy : a.eval y = .agg vs.toArray := by exact rfl)
    (hi : (P.info? T).map (·.size) = some vs.toArray.size := by kernel_rfl) (hl : old.size = vs.toArray.size := by exact rfl) (h1 : vs.toArray.all (·.oneCell') = true := by first | exact rfl | simp [Value.oneCell'])
    (hgd : o.guard = none := by exact rfl) (hN : o.dst = none := by exact rfl) : wpList P ops Q (o :: rest) a W := by
  have e := setFrom_row vs [] old.toList W (by simpa using hg) (by simpa using hl)
  rw [List.length_nil] at e
  refine Go.Proofs.YteoeohkjomehoaaDoor.Q.wpList_store_row hgd hN ho g t old vs.toArray hx hy hg hi hl h1 (fun w' hw' => ?_)
  rw [hw']
  rw [e] at h
  exact h
theorem sF_ne {W : World} {g t k : Nat} {old : Array Value} {o : Obj} (vs : List Value) (hg : W.heap[g]? = some (.cells old t (0, 0))) (hl : old.size = vs.toArray.size) (hk : k ≠ g) (h : W.heap[k]? = some o) : (setFrom g vs 0 W).heap[k]? = some o := by
  have e := setFrom_row vs [] old.toList W (by simpa using hg) (by simpa using hl)
  rw [List.length_nil] at e
  rw [e, setRow_other W g k _ hk]
  exact h
theorem sF_eq {W : World} {g t : Nat} {old : Array Value} (vs : List Value) (hg : W.heap[g]? = some (.cells old t (0, 0))) (hl : old.size = vs.toArray.size) : (setFrom g vs 0 W).heap[g]? = some (.cells vs.toArray t (0, 0)) := by
  have e := setFrom_row vs [] old.toList W (by simpa using hg) (by simpa using hl)
  rw [List.length_nil] at e
  rw [e]
  exact setRow_heap W g _ _ t _ hg
theorem sF_below {w W : World} {g t : Nat} {old : Array Value} (vs : List Value) (hg : W.heap[g]? = some (.cells old t (0, 0))) (hl : old.size = vs.toArray.size) (h : Below w.heap.size w W) (hge : w.heap.size ≤ g) : Below w.heap.size w (setFrom g vs 0 W) := by
  have e := setFrom_row vs [] old.toList W (by simpa using hg) (by simpa using hl)
  rw [List.length_nil] at e
  rw [e]
  exact below_setRow h hge _
/-- An operation of a plain region that gives a value. -/
theorem evL {P : Program} {ops : Array Oper} {rest : List Oper} {o : Oper} {a : Act} {Q : Exit → Act → World → Prop} {W w1 : World} (v : Value) (h : wpList P ops Q rest (a.put o.dst v) w1) (hrun : (execOp a.eval o).run P W = .ok (.value v) w1) (hgd : o.guard = none := by exact rfl) : wpList P ops Q (o :: rest) a W := by
  refine wpList_plain hgd fun K hK => ?_
  unfold Oper.wp
  rw [hrun]
  exact hK _ _ h
/-- The frame written out. -/
theorem nxt {P : Program} {ops : Array Oper} {rest : List Oper} {a a' : Act} {Q : Exit → Act → World → Prop} {W : World} (h : wpList P ops Q rest a' W) (ha : a = a' := by (simp only [Act.put, aput]; rfl)) : wpList P ops Q rest a W := by
  rw [ha]
  exact h
theorem run_neq0 {P : Program} {W : World} {o : Oper} {a : Act} {T T' x : Nat} {t : Int} (ho : o.op = .binOp .neq T (.tmp x) (.const (.int .i64 0)) T' := by exact rfl) (hx : a.eval (.tmp x) = .int .i64 t := by exact rfl) : (execOp a.eval o).run P W = .ok (.value (.bool (t != 0))) W := by
  simp [go_sem] at hx
  unfold execOp
  rw [ho]
  go_simp
theorem run_pickf {P : Program} {W : World} {o : Oper} {a : Act} {x y : Nat} {z : Operand} {v : Value} (ho : o.op = .pick (.tmp x) z (.tmp y) := by exact rfl) (hx : a.eval (.tmp x) = .bool false := by exact rfl) (hy : a.eval (.tmp y) = v := by exact rfl) : (execOp a.eval o).run P W = .ok (.value v) W := by
  simp [go_sem] at hx hy
  unfold execOp
  rw [ho]
  go_simp
end Go.Proofs.YteoeohkjomehoaaDoorW.PrintLast
end
