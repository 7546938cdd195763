/- Pointers as a kind of element; what the laid tables say of a world. -/
import Derived.Test.YtjmjebbjfjgbeaaDoorQ0
import Derived.Laws.CopyOwn
import Derived.OpenShut
import Derived.ChangeSame
import Derived.Test.YtjmjebbjfjgbeaaDoorFmt
import Derived.Shelf.Unicode.PredsPay
namespace Go.Proofs.YtjmjebbjfjgbeaaDoor.Q
open Go.RowKit Go.Proofs.YtjmjebbjfjgbeaaDoorW.PrintWords Go.Proofs.YtjmjebbjfjgbeaaDoorW.PrintMore
set_option linter.unusedVariables false

def kAddr : Kd (Option Addr) := Kd.scalar Value.pointer (fun _ => rfl)
theorem at_addr {w : World} {A : Option Addr} {n : Nat} {xs : List (Option Addr)} (h : kAddr.C w A n xs) (i : Int) (h0 : 0 ≤ i) (h1 : i < n) : ∃ ad, A = some ad ∧ w.cell? (ad.add i.toNat) = some (.pointer (rdOf none xs i)) :=
  ReadsOf.at_ (Kd.reads_of_C (enc := Value.pointer) (d := none) (h1 := fun _ => rfl) h) i h0 h1
def tab_ehdr_sizes : List Int := [2, 2, 4, 0, 0, 0, 4, 2, 2, 2, 2, 2, 2]
def tab_shdr_sizes : List Int := [4, 4, 0, 0, 0, 0, 4, 4, 0, 0]
def tab_phdr_wideSizes : List Int := [4, 4, 0, 0, 0, 0, 0, 0]
def tab_phdr_narrowSizes : List Int := [4, 0, 0, 0, 0, 0, 4, 0]
def tab_symrec_wideSizes : List Int := [4, 1, 1, 2, 0, 0]
def tab_symrec_narrowSizes : List Int := [4, 0, 0, 1, 1, 2]
theorem C_of_cells {w : World} {g : Nat} {zs : List Int} (h : ∀ i, i < zs.length → w.cell? ⟨g, i, none⟩ = some (.int .i64 (zs.getD i 0))) (hn : zs.length ≤ 9223372036854775807) : (Kd.int .i64).C w (some ⟨g, 0, none⟩) zs.length zs := by
  refine ⟨rfl, hn, fun _ => ⟨_, rfl, fun j p hj => ⟨[.int .i64 p], rfl, rfl, fun i u hu => ?_⟩⟩⟩
  obtain ⟨hlt, rfl⟩ := List.getElem?_eq_some_iff.mp hj
  cases i with
  | succ i => simp at hu
  | zero =>
    obtain rfl := Option.some.inj (show some _ = some u from hu)
    rw [show j * (Kd.int .i64).sz + 0 = j from Nat.mul_one j, add_plain, h j hlt]
    simp [hlt]
structure Laid_ehdr (w : World) : Prop where
  ehdr_sizes : (Kd.int .i64).C w (some ⟨5, 0, none⟩) 13 tab_ehdr_sizes
theorem Laid_ehdr.below {w w1 : World} (h : Laid_ehdr w) (hb : Below w.heap.size w w1) : Laid_ehdr w1 :=
  ⟨Kd.C_below h.ehdr_sizes hb⟩
structure Laid_shdr (w : World) : Prop where
  shdr_sizes : (Kd.int .i64).C w (some ⟨6, 0, none⟩) 10 tab_shdr_sizes
theorem Laid_shdr.below {w w1 : World} (h : Laid_shdr w) (hb : Below w.heap.size w w1) : Laid_shdr w1 :=
  ⟨Kd.C_below h.shdr_sizes hb⟩
structure Laid_phdr (w : World) : Prop where
  phdr_wideSizes : (Kd.int .i64).C w (some ⟨8, 0, none⟩) 8 tab_phdr_wideSizes
  phdr_narrowSizes : (Kd.int .i64).C w (some ⟨9, 0, none⟩) 8 tab_phdr_narrowSizes
theorem Laid_phdr.below {w w1 : World} (h : Laid_phdr w) (hb : Below w.heap.size w w1) : Laid_phdr w1 :=
  ⟨Kd.C_below h.phdr_wideSizes hb, Kd.C_below h.phdr_narrowSizes hb⟩
structure Laid_symrec (w : World) : Prop where
  symrec_wideSizes : (Kd.int .i64).C w (some ⟨3, 0, none⟩) 6 tab_symrec_wideSizes
  symrec_narrowSizes : (Kd.int .i64).C w (some ⟨4, 0, none⟩) 6 tab_symrec_narrowSizes
theorem Laid_symrec.below {w w1 : World} (h : Laid_symrec w) (hb : Below w.heap.size w w1) : Laid_symrec w1 :=
  ⟨Kd.C_below h.symrec_wideSizes hb, Kd.C_below h.symrec_narrowSizes hb⟩
theorem cells_of_strs {H : Type} {enc : TypeId × Value → H} {P : Program} {w : World} {base : Nat} {sp : Nat → Bool} {held : Bool} {fuel : Nat} {t e : TypeId} {n : Nat} {cs : List Value} {zs : List ByteArray} {p : List MemPlace}
    (ht : P.underlying t = some (.array n e)) (he : P.underlying e = some .string) (hce : P.cellsOf e = 1) (hct : P.cellsOf t = n)
    (h : DataW.trod enc P w base sp held fuel t cs = some (.agg (zs.map fun z => .lit (.string z.data.toList)), p)) : cs = zs.map Value.string := by
  obtain ⟨xs, m, _, hx, hl, hxl, hf⟩ := DataW.trod_array ht h
  rw [hce] at hf
  have hxs : xs.map (·.1) = zs.map fun z => (DataW.lit (.string z.data.toList) : DataW H) := by
    have := congrArg Prod.fst hx
    simpa using this.symm
  have hzl : zs.length = n := by
    have := congrArg List.length hxs
    simp at this
    omega
  apply List.ext_getElem?
  intro i
  by_cases hi : i < n
  · have h1 := hf i hi
    rw [Nat.mul_one, List.getElem?_eq_getElem (by omega)] at h1
    obtain ⟨s, e1, e2, _⟩ := DataW.trod_string he h1
    have e3 := congrArg (·[0]?) e1
    simp only [List.getElem?_take_of_lt (Nat.zero_lt_one), List.getElem?_drop, Nat.add_zero, List.getElem?_cons_zero] at e3
    have e4 := congrArg (·[i]?) hxs
    simp only [List.getElem?_map, List.getElem?_eq_getElem (show i < xs.length by omega), List.getElem?_eq_getElem (show i < zs.length by omega), Option.map_some, e2] at e4
    have e5 : s = zs[i] := by
      have e6 : s.data.toList = zs[i].data.toList := by simpa using e4
      have e7 : s.data = zs[i].data := Array.toList_inj.mp e6
      cases s; cases hz : zs[i]; rw [hz] at e7; simp at e7; rw [e7]
    rw [e3, List.getElem?_map, List.getElem?_eq_getElem (show i < zs.length by omega), e5]
    rfl
  · rw [List.getElem?_eq_none (by omega), List.getElem?_eq_none (by simp; omega)]
def StrsIs (P : Program) (w : World) (name : String) (zs : List ByteArray) : Prop := w.var? P name = some (zs.map Value.string).toArray
theorem strsIs_of_head {P : Program} {W : World} {name : String} {zs : List ByteArray} {rest : List (String × DataW Unit)} {g : Nat} {t e : TypeId} {n : Nat}
    (hg : P.globalNamed name = some g) (hty : (P.globals[g]?).map (·.type) = some t) (ht : P.underlying t = some (.array n e)) (he : P.underlying e = some .string) (hce : P.cellsOf e = 1) (hct : P.cellsOf t = n)
    (h : laidMet P ((name, .agg (zs.map fun z => .lit (.string z.data.toList))) :: rest) W) : StrsIs P W name zs := by
  obtain ⟨ps, ⟨g', t', cs, fuel, p, q, hg', ht', hvar, hd, _, _⟩, _⟩ := h
  obtain rfl := Option.some.inj (hg.symm.trans hg')
  obtain rfl := Option.some.inj (hty.symm.trans ht')
  unfold StrsIs
  rw [hvar, ← cells_of_strs ht he hce hct hd]
theorem StrsIs.row {P : Program} {w : World} {name : String} {zs : List ByteArray} {g : Nat} (h : StrsIs P w name zs) (hg : P.globalNamed name = some g) (hn : zs.length ≤ 9223372036854775807) : Kd.string.C w (some ⟨g, 0, none⟩) zs.length zs := by
  refine ⟨rfl, hn, fun _ => ⟨_, rfl, fun j p hj => ⟨[.string p], rfl, rfl, fun i u hu => ?_⟩⟩⟩
  obtain ⟨hlt, rfl⟩ := List.getElem?_eq_some_iff.mp hj
  cases i with
  | succ i => simp at hu
  | zero =>
    obtain rfl := Option.some.inj (show some _ = some u from hu)
    rw [show j * Kd.string.sz + 0 = j from Nat.mul_one j, add_plain, World.var?_cell hg h j]
    simp [hlt]
def tabS_ehdr_types : List ByteArray := [⟨#[78, 79, 78, 69]⟩, ⟨#[82, 69, 76]⟩, ⟨#[69, 88, 69, 67]⟩, ⟨#[68, 89, 78]⟩, ⟨#[67, 79, 82, 69]⟩]
def tabS_phdr_names : List ByteArray := [⟨#[78, 85, 76, 76]⟩, ⟨#[76, 79, 65, 68]⟩, ⟨#[68, 89, 78, 65, 77, 73, 67]⟩, ⟨#[73, 78, 84, 69, 82, 80]⟩, ⟨#[78, 79, 84, 69]⟩, ⟨#[83, 72, 76, 73, 66]⟩, ⟨#[80, 72, 68, 82]⟩, ⟨#[84, 76, 83]⟩]
/-- A table of numbers and texts, as its cells. -/
def rowM (l : List (Int × ByteArray)) : List Value := l.flatMap fun p => [Value.int .u64 p.1, Value.string p.2]
theorem rowM_even : ∀ (l : List (Int × ByteArray)) (i : Nat), (rowM l)[2 * i]? = l[i]?.map (fun p => Value.int .u64 p.1)
  | [], i => by simp [rowM]
  | p :: l, 0 => by simp [rowM]
  | p :: l, i + 1 => by
    have := rowM_even l i
    unfold rowM at this
    rw [show 2 * (i + 1) = 2 * i + 1 + 1 by omega]
    simpa [rowM] using this
theorem rowM_odd : ∀ (l : List (Int × ByteArray)) (i : Nat), (rowM l)[2 * i + 1]? = l[i]?.map (fun p => Value.string p.2)
  | [], i => by simp [rowM]
  | p :: l, 0 => by simp [rowM]
  | p :: l, i + 1 => by
    have := rowM_odd l i
    unfold rowM at this
    rw [show 2 * (i + 1) + 1 = 2 * i + 1 + 1 + 1 by omega]
    simpa [rowM] using this
theorem cells_of_machs {H : Type} {enc : TypeId × Value → H} {P : Program} {w : World} {base : Nat} {sp : Nat → Bool} {held : Bool} {fuel : Nat} {t e : TypeId} {f0 f1 : Field} {n : Nat} {cs : List Value} {zs : List (Int × ByteArray)} {p : List MemPlace}
    (ht : P.underlying t = some (.array n e)) (he : P.underlying e = some (.struct #[f0, f1])) (h0 : P.underlying f0.type = some (.int .u64)) (h1 : P.underlying f1.type = some .string) (ho0 : f0.offset = 0) (ho1 : f1.offset = 1)
    (hc0 : P.cellsOf f0.type = 1) (hc1 : P.cellsOf f1.type = 1) (hce : P.cellsOf e = 2) (hct : P.cellsOf t = 2 * n)
    (h : DataW.trod enc P w base sp held fuel t cs = some (.agg (zs.map fun z => .agg [.lit (.int .u64 z.1), .lit (.string z.2.data.toList)]), p)) : cs = rowM zs := by
  obtain ⟨xs, m, _, hx, hl, hxl, hf⟩ := DataW.trod_array ht h
  rw [hce] at hf
  have hxs : xs.map (·.1) = zs.map fun z => (DataW.agg [.lit (.int .u64 z.1), .lit (.string z.2.data.toList)] : DataW H) := by
    have := congrArg Prod.fst hx
    simpa using this.symm
  have hzl : zs.length = n := by
    have := congrArg List.length hxs
    simp at this
    omega
  have key : ∀ i (hi : i < zs.length), cs[2 * i]? = some (Value.int .u64 zs[i].1) ∧ cs[2 * i + 1]? = some (Value.string zs[i].2) := by
    intro i hi
    have h2 := hf i (by omega)
    rw [List.getElem?_eq_getElem (show i < xs.length by omega)] at h2
    obtain ⟨y0, y1, q, e1, _, e3, e4⟩ := ChangeShapes.trod_struct2 he h2
    rw [ho0, hc0] at e3
    rw [ho1, hc1] at e4
    obtain ⟨v, g1, g2, _⟩ := DataW.trod_int h0 e3
    obtain ⟨s, g3, g4, _⟩ := DataW.trod_string h1 e4
    have e5 := congrArg (·[i]?) hxs
    simp only [List.getElem?_map, List.getElem?_eq_getElem (show i < xs.length by omega), List.getElem?_eq_getElem hi, Option.map_some, e1, g2, g4] at e5
    have e6 : v = zs[i].1 ∧ s.data.toList = zs[i].2.data.toList := by simpa using e5
    have e7 : s = zs[i].2 := by
      have e8 : s.data = (zs[i].2).data := Array.toList_inj.mp e6.2
      cases s; cases hz : zs[i].2; rw [hz] at e8; simp at e8; rw [e8]
    have a0 := congrArg (·[0]?) g1
    have a1 := congrArg (·[0]?) g3
    simp only [List.getElem?_take_of_lt (Nat.zero_lt_one), List.getElem?_drop, List.getElem?_take, List.drop_zero, List.getElem?_cons_zero, Nat.add_zero] at a0 a1
    rw [← e6.1, ← e7]
    refine ⟨?_, ?_⟩
    · simpa [Nat.mul_comm] using a0
    · simpa [Nat.mul_comm] using a1
  apply List.ext_getElem?
  intro j
  rcases Nat.mod_two_eq_zero_or_one j with hj | hj
  · obtain ⟨i, rfl⟩ : ∃ i, j = 2 * i := ⟨j / 2, by omega⟩
    rw [rowM_even]
    by_cases hi : i < zs.length
    · rw [(key i hi).1, List.getElem?_eq_getElem hi]; rfl
    · rw [List.getElem?_eq_none (by omega), List.getElem?_eq_none (show zs.length ≤ i by omega)]; rfl
  · obtain ⟨i, rfl⟩ : ∃ i, j = 2 * i + 1 := ⟨j / 2, by omega⟩
    rw [rowM_odd]
    by_cases hi : i < zs.length
    · rw [(key i hi).2, List.getElem?_eq_getElem hi]; rfl
    · rw [List.getElem?_eq_none (by omega), List.getElem?_eq_none (show zs.length ≤ i by omega)]; rfl
def MachsIs (P : Program) (w : World) (name : String) (zs : List (Int × ByteArray)) : Prop := w.var? P name = some (rowM zs).toArray
theorem machsIs_of_head {P : Program} {W : World} {name : String} {zs : List (Int × ByteArray)} {rest : List (String × DataW Unit)} {g : Nat} {t e : TypeId} {f0 f1 : Field} {n : Nat}
    (hg : P.globalNamed name = some g) (hty : (P.globals[g]?).map (·.type) = some t) (ht : P.underlying t = some (.array n e)) (he : P.underlying e = some (.struct #[f0, f1])) (h0 : P.underlying f0.type = some (.int .u64)) (h1 : P.underlying f1.type = some .string) (ho0 : f0.offset = 0) (ho1 : f1.offset = 1)
    (hc0 : P.cellsOf f0.type = 1) (hc1 : P.cellsOf f1.type = 1) (hce : P.cellsOf e = 2) (hct : P.cellsOf t = 2 * n)
    (h : laidMet P ((name, .agg (zs.map fun z => .agg [.lit (.int .u64 z.1), .lit (.string z.2.data.toList)])) :: rest) W) : MachsIs P W name zs := by
  obtain ⟨ps, ⟨g', t', cs, fuel, p, q, hg', ht', hvar, hd, _, _⟩, _⟩ := h
  obtain rfl := Option.some.inj (hg.symm.trans hg')
  obtain rfl := Option.some.inj (hty.symm.trans ht')
  unfold MachsIs
  rw [hvar, ← cells_of_machs ht he h0 h1 ho0 ho1 hc0 hc1 hce hct hd]
theorem MachsIs.row {P : Program} {w : World} {name : String} {zs : List (Int × ByteArray)} {g : Nat} (h : MachsIs P w name zs) (hg : P.globalNamed name = some g) : ∃ t fr, w.heap[g]? = some (.cells (rowM zs).toArray t fr) := by
  unfold MachsIs World.var? at h
  rw [hg] at h
  simp only [Option.bind_some] at h
  split at h
  · rename_i c1 c2 c3 h2
    obtain rfl := Option.some.inj h
    exact ⟨_, _, h2⟩
  · cases h
def tabM_ehdr_machines : List (Int × ByteArray) := [(0, (⟨#[110, 111, 110, 101]⟩ : ByteArray)), (3, (⟨#[51, 56, 54]⟩ : ByteArray)), (8, (⟨#[77, 73, 80, 83]⟩ : ByteArray)), (20, (⟨#[80, 111, 119, 101, 114, 80, 67]⟩ : ByteArray)), (21, (⟨#[80, 111, 119, 101, 114, 80, 67, 54, 52]⟩ : ByteArray)), (22, (⟨#[83, 51, 57, 48]⟩ : ByteArray)), (40, (⟨#[65, 82, 77]⟩ : ByteArray)), (62, (⟨#[88, 56, 54, 45, 54, 52]⟩ : ByteArray)), (183, (⟨#[65, 65, 114, 99, 104, 54, 52]⟩ : ByteArray)), (243, (⟨#[82, 73, 83, 67, 45, 86]⟩ : ByteArray)), (258, (⟨#[76, 111, 111, 110, 103, 65, 114, 99, 104]⟩ : ByteArray))]
structure Laid_ehdrn (w : World) : Prop where
  ehdr_types : Kd.string.C w (some ⟨0, 0, none⟩) 5 tabS_ehdr_types
  ehdr_machines : ∃ t fr, w.heap[1]? = some (.cells (rowM tabM_ehdr_machines).toArray t fr)
theorem Laid_ehdrn.below {w w1 : World} (h : Laid_ehdrn w) (hb : Below w.heap.size w w1) : Laid_ehdrn w1 :=
  ⟨Kd.C_below h.ehdr_types hb, (by obtain ⟨t, fr, e⟩ := h.ehdr_machines; exact ⟨t, fr, by rw [hb.block _ (Array.getElem?_eq_some_iff.mp e).1]; exact e⟩)⟩
structure Laid_phdrn (w : World) : Prop where
  phdr_names : Kd.string.C w (some ⟨2, 0, none⟩) 8 tabS_phdr_names
theorem Laid_phdrn.below {w w1 : World} (h : Laid_phdrn w) (hb : Below w.heap.size w w1) : Laid_phdrn w1 :=
  ⟨Kd.C_below h.phdr_names hb⟩
structure Laid_strconv (w : World) : Prop where
  pow10 : Lib.TabIs Tryd.prog w "internal/strconv.uint64pow10" .u64 Lib.pow10Tab
  bruijn : Lib.TabIs Tryd.prog w "math/bits.deBruijn64tab" .u8 Fmt.tab64
theorem Laid_strconv.below {w w1 : World} (h : Laid_strconv w) (hb : Below w.heap.size w w1) : Laid_strconv w1 :=
  ⟨TabIs_below (g := 10) (by kernel_rfl) h.pow10 hb, TabIs_below (g := 12) (by kernel_rfl) h.bruijn hb⟩
theorem run_store_block {P : Program} {W : World} {T g t : Nat} {old cells : Array Value} {ρ : Operand → Value} {o : Oper} {x y : Operand} (ho : o.op = .store T x y) (hx : ρ x = .pointer (some ⟨g, 0, none⟩)) (hy : ρ y = .agg cells)
    (hg : W.heap[g]? = some (.cells old t (0, 0))) (hi : (P.info? T).map (·.size) = some cells.size) (hl : old.size = cells.size) (h1 : cells.all (·.oneCell') = true) : (execOp ρ o).run P W = .ok .skip (W.setRow g cells) := by
  have h := run_storeVar_row (P := P) W g t T old cells hg hi hl h1
  simp [execOp, ho, hx, hy, Instr.storeAt, Instr.sureAddr, h]
theorem wpList_store_row {P : Program} {ops : Array Oper} {rest : List Oper} {o : Oper} {a : Act} {Q : Exit → Act → World → Prop} {W : World} (hgd : o.guard = none) (hN : o.dst = none) {T : TypeId} {p : Tmp} {y : Operand} (ho : o.op = .store T (.tmp p) y) (g t : Nat) (old cells : Array Value)
    (hx : a.eval (.tmp p) = .pointer (some ⟨g, 0, none⟩)) (hy : a.eval y = .agg cells) (hg : W.heap[g]? = some (.cells old t (0, 0))) (hi : (P.info? T).map (·.size) = some cells.size) (hl : old.size = cells.size) (h1 : cells.all (·.oneCell') = true)
    (h : ∀ w', w' = W.setRow g cells → wpList P ops Q rest a w') : wpList P ops Q (o :: rest) a W :=
  store_event hgd ho hN (run_store_block ho hx hy hg hi hl h1) h
theorem row_at {W : World} {g t : Nat} {old : Array Value} (cells : Array Value) (hg : W.heap[g]? = some (.cells old t (0, 0))) : (W.setRow g cells).heap[g]? = some (.cells cells t (0, 0)) := setRow_heap W g old cells t _ hg
theorem row_ne {W : World} {g k : Nat} (cells : Array Value) (hk : k ≠ g) : (W.setRow g cells).heap[k]? = W.heap[k]? := by
  unfold World.setRow
  simp [Array.getElem?_modify, hk.symm]

end Go.Proofs.YtjmjebbjfjgbeaaDoor.Q
