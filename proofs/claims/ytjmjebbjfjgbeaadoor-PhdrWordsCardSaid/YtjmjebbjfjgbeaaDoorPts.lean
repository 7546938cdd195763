/- Pointers as a kind of element; what the laid tables say of a world. -/
import Derived.Test.YtjmjebbjfjgbeaaDoorQ0
import Derived.Laws.CopyOwn
import Derived.OpenShut
import Derived.Test.YtjmjebbjfjgbeaaDoorFmt
import Derived.Shelf.Unicode.PredsPay
namespace Go.Proofs.YtjmjebbjfjgbeaaDoor.Q
open Go.RowKit Go.Proofs.YtjmjebbjfjgbeaaDoorW.PrintWords Go.Proofs.YtjmjebbjfjgbeaaDoorW.PrintMore
set_option linter.unusedVariables false

def kAddr : Kd (Option Addr) := Kd.scalar Value.pointer (fun _ => rfl)
theorem at_addr {w : World} {A : Option Addr} {n : Nat} {xs : List (Option Addr)} (h : kAddr.C w A n xs) (i : Int) (h0 : 0 ≤ i) (h1 : i < n) : ∃ ad, A = some ad ∧ w.cell? (ad.add i.toNat) = some (.pointer (rdOf none xs i)) :=
  ReadsOf.at_ (Kd.reads_of_C (enc := Value.pointer) (d := none) (h1 := fun _ => rfl) h) i h0 h1
def tab_ehdr_sizes : List Int := [2, 2, 4, 0, 0, 0, 4, 2, 2, 2, 2, 2, 2]
def tab_shdr_sizes : List Int := [4, 4, 0, 0, 0, 0, 4, 4, 0, 0]
def tab_phdr_wideSizes : List Int := [4, 4, 0, 0, 0, 0, 0, 0]
def tab_phdr_narrowSizes : List Int := [4, 0, 0, 0, 0, 0, 4, 0]
def tab_symrec_wideSizes : List Int := [4, 1, 1, 2, 0, 0]
def tab_symrec_narrowSizes : List Int := [4, 0, 0, 1, 1, 2]
theorem C_of_cells {w : World} {g : Nat} {zs : List Int} (h : ∀ i, i < zs.length → w.cell? ⟨g, i, none⟩ = some (.int .i64 (zs.getD i 0))) (hn : zs.length ≤ 9223372036854775807) : (Kd.int .i64).C w (some ⟨g, 0, none⟩) zs.length zs := by
  refine ⟨rfl, hn, fun _ => ⟨_, rfl, fun j p hj => ⟨[.int .i64 p], rfl, rfl, fun i u hu => ?_⟩⟩⟩
  obtain ⟨hlt, rfl⟩ := List.getElem?_eq_some_iff.mp hj
  cases i with
  | succ i => simp at hu
  | zero =>
    obtain rfl := Option.some.inj (show some _ = some u from hu)
    rw [show j * (Kd.int .i64).sz + 0 = j from Nat.mul_one j, add_plain, h j hlt]
    simp [hlt]
structure Laid_ehdr (w : World) : Prop where
  ehdr_sizes : (Kd.int .i64).C w (some ⟨5, 0, none⟩) 13 tab_ehdr_sizes
theorem Laid_ehdr.below {w w1 : World} (h : Laid_ehdr w) (hb : Below w.heap.size w w1) : Laid_ehdr w1 :=
  ⟨Kd.C_below h.ehdr_sizes hb⟩
structure Laid_shdr (w : World) : Prop where
  shdr_sizes : (Kd.int .i64).C w (some ⟨6, 0, none⟩) 10 tab_shdr_sizes
theorem Laid_shdr.below {w w1 : World} (h : Laid_shdr w) (hb : Below w.heap.size w w1) : Laid_shdr w1 :=
  ⟨Kd.C_below h.shdr_sizes hb⟩
structure Laid_phdr (w : World) : Prop where
  phdr_wideSizes : (Kd.int .i64).C w (some ⟨8, 0, none⟩) 8 tab_phdr_wideSizes
  phdr_narrowSizes : (Kd.int .i64).C w (some ⟨9, 0, none⟩) 8 tab_phdr_narrowSizes
theorem Laid_phdr.below {w w1 : World} (h : Laid_phdr w) (hb : Below w.heap.size w w1) : Laid_phdr w1 :=
  ⟨Kd.C_below h.phdr_wideSizes hb, Kd.C_below h.phdr_narrowSizes hb⟩
structure Laid_symrec (w : World) : Prop where
  symrec_wideSizes : (Kd.int .i64).C w (some ⟨3, 0, none⟩) 6 tab_symrec_wideSizes
  symrec_narrowSizes : (Kd.int .i64).C w (some ⟨4, 0, none⟩) 6 tab_symrec_narrowSizes
theorem Laid_symrec.below {w w1 : World} (h : Laid_symrec w) (hb : Below w.heap.size w w1) : Laid_symrec w1 :=
  ⟨Kd.C_below h.symrec_wideSizes hb, Kd.C_below h.symrec_narrowSizes hb⟩
theorem cells_of_strs {H : Type} {enc : TypeId × Value → H} {P : Program} {w : World} {base : Nat} {sp : Nat → Bool} {held : Bool} {fuel : Nat} {t e : TypeId} {n : Nat} {cs : List Value} {zs : List ByteArray} {p : List MemPlace}
    (ht : P.underlying t = some (.array n e)) (he : P.underlying e = some .string) (hce : P.cellsOf e = 1) (hct : P.cellsOf t = n)
    (h : DataW.trod enc P w base sp held fuel t cs = some (.agg (zs.map fun z => .lit (.string z.data.toList)), p)) : cs = zs.map Value.string := by
  obtain ⟨xs, m, _, hx, hl, hxl, hf⟩ := DataW.trod_array ht h
  rw [hce] at hf
  have hxs : xs.map (·.1) = zs.map fun z => (DataW.lit (.string z.data.toList) : DataW H) := by
    have := congrArg Prod.fst hx
    simpa using this.symm
  have hzl : zs.length = n := by
    have := congrArg List.length hxs
    simp at this
    omega
  apply List.ext_getElem?
  intro i
  by_cases hi : i < n
  · have h1 := hf i hi
    rw [Nat.mul_one, List.getElem?_eq_getElem (by omega)] at h1
    obtain ⟨s, e1, e2, _⟩ := DataW.trod_string he h1
    have e3 := congrArg (·[0]?) e1
    simp only [List.getElem?_take_of_lt (Nat.zero_lt_one), List.getElem?_drop, Nat.add_zero, List.getElem?_cons_zero] at e3
    have e4 := congrArg (·[i]?) hxs
    simp only [List.getElem?_map, List.getElem?_eq_getElem (show i < xs.length by omega), List.getElem?_eq_getElem (show i < zs.length by omega), Option.map_some, e2] at e4
    have e5 : s = zs[i] := by
      have e6 : s.data.toList = zs[i].data.toList := by simpa using e4
      have e7 : s.data = zs[i].data := Array.toList_inj.mp e6
      cases s; cases hz : zs[i]; rw [hz] at e7; simp at e7; rw [e7]
    rw [e3, List.getElem?_map, List.getElem?_eq_getElem (show i < zs.length by omega), e5]
    rfl
  · rw [List.getElem?_eq_none (by omega), List.getElem?_eq_none (by simp; omega)]
def StrsIs (P : Program) (w : World) (name : String) (zs : List ByteArray) : Prop := w.var? P name = some (zs.map Value.string).toArray
theorem strsIs_of_head {P : Program} {W : World} {name : String} {zs : List ByteArray} {rest : List (String × DataW Unit)} {g : Nat} {t e : TypeId} {n : Nat}
    (hg : P.globalNamed name = some g) (hty : (P.globals[g]?).map (·.type) = some t) (ht : P.underlying t = some (.array n e)) (he : P.underlying e = some .string) (hce : P.cellsOf e = 1) (hct : P.cellsOf t = n)
    (h : laidMet P ((name, .agg (zs.map fun z => .lit (.string z.data.toList))) :: rest) W) : StrsIs P W name zs := by
  obtain ⟨ps, ⟨g', t', cs, fuel, p, q, hg', ht', hvar, hd, _, _⟩, _⟩ := h
  obtain rfl := Option.some.inj (hg.symm.trans hg')
  obtain rfl := Option.some.inj (hty.symm.trans ht')
  unfold StrsIs
  rw [hvar, ← cells_of_strs ht he hce hct hd]
theorem StrsIs.row {P : Program} {w : World} {name : String} {zs : List ByteArray} {g : Nat} (h : StrsIs P w name zs) (hg : P.globalNamed name = some g) (hn : zs.length ≤ 9223372036854775807) : Kd.string.C w (some ⟨g, 0, none⟩) zs.length zs := by
  refine ⟨rfl, hn, fun _ => ⟨_, rfl, fun j p hj => ⟨[.string p], rfl, rfl, fun i u hu => ?_⟩⟩⟩
  obtain ⟨hlt, rfl⟩ := List.getElem?_eq_some_iff.mp hj
  cases i with
  | succ i => simp at hu
  | zero =>
    obtain rfl := Option.some.inj (show some _ = some u from hu)
    rw [show j * Kd.string.sz + 0 = j from Nat.mul_one j, add_plain, World.var?_cell hg h j]
    simp [hlt]
def tabS_ehdr_types : List ByteArray := [⟨#[78, 79, 78, 69]⟩, ⟨#[82, 69, 76]⟩, ⟨#[69, 88, 69, 67]⟩, ⟨#[68, 89, 78]⟩, ⟨#[67, 79, 82, 69]⟩]
def tabS_phdr_names : List ByteArray := [⟨#[78, 85, 76, 76]⟩, ⟨#[76, 79, 65, 68]⟩, ⟨#[68, 89, 78, 65, 77, 73, 67]⟩, ⟨#[73, 78, 84, 69, 82, 80]⟩, ⟨#[78, 79, 84, 69]⟩, ⟨#[83, 72, 76, 73, 66]⟩, ⟨#[80, 72, 68, 82]⟩, ⟨#[84, 76, 83]⟩]
structure Laid_ehdrn (w : World) : Prop where
  ehdr_types : Kd.string.C w (some ⟨0, 0, none⟩) 5 tabS_ehdr_types
theorem Laid_ehdrn.below {w w1 : World} (h : Laid_ehdrn w) (hb : Below w.heap.size w w1) : Laid_ehdrn w1 :=
  ⟨Kd.C_below h.ehdr_types hb⟩
structure Laid_phdrn (w : World) : Prop where
  phdr_names : Kd.string.C w (some ⟨2, 0, none⟩) 8 tabS_phdr_names
theorem Laid_phdrn.below {w w1 : World} (h : Laid_phdrn w) (hb : Below w.heap.size w w1) : Laid_phdrn w1 :=
  ⟨Kd.C_below h.phdr_names hb⟩
structure Laid_strconv (w : World) : Prop where
  pow10 : Lib.TabIs Tryd.prog w "internal/strconv.uint64pow10" .u64 Lib.pow10Tab
  bruijn : Lib.TabIs Tryd.prog w "math/bits.deBruijn64tab" .u8 Fmt.tab64
theorem Laid_strconv.below {w w1 : World} (h : Laid_strconv w) (hb : Below w.heap.size w w1) : Laid_strconv w1 :=
  ⟨TabIs_below (g := 10) (by kernel_rfl) h.pow10 hb, TabIs_below (g := 12) (by kernel_rfl) h.bruijn hb⟩
theorem run_store_block {P : Program} {W : World} {T g t : Nat} {old cells : Array Value} {ρ : Operand → Value} {o : Oper} {x y : Operand} (ho : o.op = .store T x y) (hx : ρ x = .pointer (some ⟨g, 0, none⟩)) (hy : ρ y = .agg cells)
    (hg : W.heap[g]? = some (.cells old t (0, 0))) (hi : (P.info? T).map (·.size) = some cells.size) (hl : old.size = cells.size) (h1 : cells.all (·.oneCell') = true) : (execOp ρ o).run P W = .ok .skip (W.setRow g cells) := by
  have h := run_storeVar_row (P := P) W g t T old cells hg hi hl h1
  simp [execOp, ho, hx, hy, Instr.storeAt, Instr.sureAddr, h]
theorem wpList_store_row {P : Program} {ops : Array Oper} {rest : List Oper} {o : Oper} {a : Act} {Q : Exit → Act → World → Prop} {W : World} (hgd : o.guard = none) (hN : o.dst = none) {T : TypeId} {p : Tmp} {y : Operand} (ho : o.op = .store T (.tmp p) y) (g t : Nat) (old cells : Array Value)
    (hx : a.eval (.tmp p) = .pointer (some ⟨g, 0, none⟩)) (hy : a.eval y = .agg cells) (hg : W.heap[g]? = some (.cells old t (0, 0))) (hi : (P.info? T).map (·.size) = some cells.size) (hl : old.size = cells.size) (h1 : cells.all (·.oneCell') = true)
    (h : ∀ w', w' = W.setRow g cells → wpList P ops Q rest a w') : wpList P ops Q (o :: rest) a W :=
  store_event hgd ho hN (run_store_block ho hx hy hg hi hl h1) h
theorem row_at {W : World} {g t : Nat} {old : Array Value} (cells : Array Value) (hg : W.heap[g]? = some (.cells old t (0, 0))) : (W.setRow g cells).heap[g]? = some (.cells cells t (0, 0)) := setRow_heap W g old cells t _ hg
theorem row_ne {W : World} {g k : Nat} (cells : Array Value) (hk : k ≠ g) : (W.setRow g cells).heap[k]? = W.heap[k]? := by
  unfold World.setRow
  simp [Array.getElem?_modify, hk.symm]

end Go.Proofs.YtjmjebbjfjgbeaaDoor.Q
