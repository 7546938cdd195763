/- A map literal of numbers to texts, laid once and looked up: its entries are a list. -/
import Derived.Test.YtjmjebbjfjgbeaaDoorPts
import Derived.WideMake
namespace Go.Proofs.YtjmjebbjfjgbeaaDoor.Q
open Go.RowKit Go.Proofs.YtjmjebbjfjgbeaaDoorW.PrintWords Go.Proofs.YtjmjebbjfjgbeaaDoorW.PrintLast Go.Proofs.YtjmjebbjfjgbeaaDoorW.PrintMore
set_option linter.unusedVariables false
/-- The text at a number. -/
def mapStr : List (Int × ByteArray) → Int → ByteArray
  | [], _ => ByteArray.empty
  | p :: l, x => if x = p.1 then p.2 else mapStr l x
/-- Is there one? -/
def mapHas : List (Int × ByteArray) → Int → Bool
  | [], _ => false
  | p :: l, x => if x = p.1 then true else mapHas l x
namespace Mpl
def Is (w : World) (b : Nat) (l : List (Int × ByteArray)) : Prop := ∃ es clock, w.heap[b]? = some (.map es clock) ∧ es.toList.map (fun e => (e.key, e.val)) = l.map (fun p => (Value.int .u64 p.1, Value.string p.2))
theorem find (x : Int) : ∀ (l : List (Int × ByteArray)) (es : List MapEntry) (i : Nat), es.map (fun e => (e.key, e.val)) = l.map (fun p => (Value.int .u64 p.1, Value.string p.2)) →
    (∃ j, mapHas l x = true ∧ Instr.findNow (.int .u64) (.int .u64 x) es i = some (some (j, .string (mapStr l x)))) ∨ (mapHas l x = false ∧ mapStr l x = ByteArray.empty ∧ Instr.findNow (.int .u64) (.int .u64 x) es i = some none)
  | [], [], i, _ => Or.inr ⟨rfl, rfl, rfl⟩
  | [], _ :: _, i, h => by simp at h
  | _ :: _, [], i, h => by simp at h
  | p :: l, e :: es, i, h => by
    simp only [List.map_cons, List.cons.injEq, Prod.mk.injEq] at h
    obtain ⟨⟨h1, h2⟩, h3⟩ := h
    have hs : Instr.sameNow (.int .u64) (.int .u64 x) e.key = some (x == p.1) := by rw [h1]; simp [Instr.sameNow]
    by_cases c : x = p.1
    · refine Or.inl ⟨i, by simp [mapHas, c], ?_⟩
      unfold Instr.findNow
      rw [hs, beq_iff_eq.mpr c, h2]
      simp [mapStr, c]
    · have hb : (x == p.1) = false := beq_eq_false_iff_ne.mpr c
      have e1 : Instr.findNow (.int .u64) (.int .u64 x) (e :: es) i = Instr.findNow (.int .u64) (.int .u64 x) es (i + 1) := by
        conv => lhs; unfold Instr.findNow
        rw [hs, hb]
      have e2 : mapHas (p :: l) x = mapHas l x := by simp [mapHas, c]
      have e3 : mapStr (p :: l) x = mapStr l x := by simp [mapStr, c]
      rw [e1, e2, e3]
      exact find x l es (i + 1) h3
section
variable {P : Program} {t k e : TypeId} {w w0 : World} {b B : Nat} {l : List (Int × ByteArray)}
theorem key_ok (hk : P.underlying k = some (.int .u64)) (x : Int) (c : Bool) (w : World) : (Instr.checkKey c 10000 k (.int .u64 x)).run P w = .ok () w := MapKept.run_checkKey (k := .int .u64 x) hk (by simp [MapKept.IsKey]) c 9999
theorem insert (ht : P.underlying t = some (.map k e)) (hk : P.underlying k = some (.int .u64)) (h : Is w b l) (x : Int) (s : ByteArray) (hn : mapHas l x = false) (HB : Below B w0 w) (hB : B ≤ b) :
    ∃ w', (Instr.mapUpdate t (.map (some b)) (.int .u64 x) (.string s)).run P w = .ok () w' ∧ Is w' b (l ++ [(x, s)]) ∧ Below B w0 w' := by
  obtain ⟨es, clock, hb, he⟩ := h
  have hf : Instr.findNow (.int .u64) (.int .u64 x) es.toList 0 = some none := by
    rcases find x l es.toList 0 he with ⟨j, h1, _⟩ | ⟨_, _, h3⟩
    · rw [h1] at hn; cases hn
    · exact h3
  refine ⟨{ w with heap := w.heap.setIfInBounds b (.map (es.push { key := .int .u64 x, val := .string s, born := clock }) (clock + 1)) }, ?_, ⟨es.push { key := .int .u64 x, val := .string s, born := clock }, clock + 1, ?_, ?_⟩, ?_⟩
  · simp [Instr.mapUpdate, run_underlying ht, MapKept.run_getObj_map hb, key_ok hk, MapKept.run_findKey hk hf, MapKept.run_setObj_map _ hb, Result.andThen]
  · have hlt : b < w.heap.size := (Array.getElem?_eq_some_iff.mp hb).1
    show (w.heap.setIfInBounds b _)[b]? = _
    rw [Array.getElem?_setIfInBounds_self_of_lt hlt]
  · simp [he]
  · refine HB.trans ⟨rfl, rfl, rfl, by simp, fun j hj => ?_⟩
    show (w.heap.setIfInBounds b _)[j]? = _
    rw [Array.getElem?_setIfInBounds_ne (by omega)]
theorem look (ht : P.underlying t = some (.map k e)) (hk : P.underlying k = some (.int .u64)) (hz : (zeroValue e).run P w = .ok (.string ByteArray.empty) w) (h : Is w b l) (x : Int) :
    (Instr.lookup t (.map (some b)) (.int .u64 x) true).run P w = .ok (.tuple #[.string (mapStr l x), .bool (mapHas l x)]) w := by
  obtain ⟨es, clock, hb, he⟩ := h
  rcases find x l es.toList 0 he with ⟨j, h1, h2⟩ | ⟨h1, h2, h3⟩
  · simp [Instr.lookup, run_underlying ht, MapKept.run_getObj_map hb, key_ok hk, MapKept.run_findKey hk h2, Result.andThen, h1]
  · simp [Instr.lookup, run_underlying ht, MapKept.run_getObj_map hb, key_ok hk, MapKept.run_findKey hk h3, Result.andThen, h1, h2, hz]
end
section
variable {P : Program} {ops : Array Oper} {rest : List Oper} {o : Oper} {a : Act} {Q : Exit → Act → World → Prop}
def OpsAre (t : TypeId) (m : Operand) : List Oper → List (Int × ByteArray) → Prop
  | [], [] => True
  | o :: os, p :: ps => (o.guard = none ∧ o.dst = none ∧ o.op = .insert t m (.const (.int .u64 p.1)) (.const (.string p.2))) ∧ OpsAre t m os ps
  | _, _ => False
def fresh (done : List (Int × ByteArray)) : List (Int × ByteArray) → Bool
  | [] => true
  | p :: ps => !(mapHas done p.1) && fresh (done ++ [p]) ps
theorem skip_event {W w1 : World} (hgd : o.guard = none) (hN : o.dst = none) (hrun : (execOp a.eval o).run P W = .ok .skip w1) (h : wpList P ops Q rest a w1) : wpList P ops Q (o :: rest) a W := by
  refine wpList_plain hgd fun K hK => ?_
  unfold Oper.wp
  rw [hrun]
  show K (a.put o.dst undef) w1
  rw [hN]
  exact hK _ _ h
theorem inserts {t k e : TypeId} {m : Operand} {w0 : World} {b B : Nat} (ht : P.underlying t = some (.map k e)) (hk : P.underlying k = some (.int .u64)) (hm : a.eval m = .map (some b)) (hB : B ≤ b) :
    ∀ (ents done : List (Int × ByteArray)) (os rest : List Oper) (w : World), OpsAre t m os ents → fresh done ents = true → Is w b done → Below B w0 w → (∀ w', Is w' b (done ++ ents) → Below B w0 w' → wpList P ops Q rest a w') → wpList P ops Q (os ++ rest) a w
  | [], done, [], rest, w, _, _, hi, hb, h => h w (by rw [List.append_nil]; exact hi) hb
  | [], done, _ :: _, rest, w, ho, _, _, _, _ => by simp [OpsAre] at ho
  | _ :: _, done, [], rest, w, ho, _, _, _, _ => by simp [OpsAre] at ho
  | p :: ps, done, o :: os, rest, w, ho, hf, hi, hb, h => by
    obtain ⟨⟨g1, g2, g3⟩, ho⟩ := ho
    simp only [fresh, Bool.and_eq_true, Bool.not_eq_true'] at hf
    obtain ⟨w', hrun, hi', hb'⟩ := insert ht hk hi p.1 p.2 hf.1 hb hB
    refine skip_event (w1 := w') g1 g2 ?_ (inserts ht hk hm hB ps (done ++ [p]) os rest w' ho hf.2 hi' hb' (fun w2 h2 => h w2 (by rw [List.append_assoc] at h2; exact h2)))
    have e1 : a.eval (.const (.int .u64 p.1)) = .int .u64 p.1 := rfl
    have e2 : a.eval (.const (.string p.2)) = .string p.2 := rfl
    simp [execOp, g3, hm, e1, e2, hrun, Result.andThen]
/-- 'map[..]string{..}': the map and its entries. -/
theorem lit {t k e : TypeId} {w w0 : World} {B : Nat} (hgd : o.guard = none) {N : Tmp} (hd : o.dst = some N) (ho : o.op = .makeMap t none) (n : Nat) (ents : List (Int × ByteArray)) (ht : P.underlying t = some (.map k e)) (hk : P.underlying k = some (.int .u64))
    (hos : OpsAre t (.tmp N) (rest.take n) ents) (hf : fresh [] ents = true) (hev : ∀ v, (a.put (some N) v).eval (.tmp N) = v) (HB : Below B w0 w) (hB : B ≤ w.heap.size)
    (h : ∀ b w', Is w' b ents → Below B w0 w' → wpList P ops Q (rest.drop n) (a.put (some N) (.map (some b))) w') : wpList P ops Q (o :: rest) a w := by
  refine Kd.event_run (v := .map (some w.heap.size)) (w1 := w.alloc (.map #[] 0)) hgd ?_ ?_
  · simp [execOp, ho, run_makeMap_plain, Result.andThen]
  · rw [hd, ← List.take_append_drop n rest]
    refine inserts ht hk (hev _) hB ents [] _ _ _ hos hf ⟨#[], 0, ?_, rfl⟩ (HB.alloc hB _) (fun w' h1 h2 => h _ _ h1 h2)
    show (w.heap.push _)[w.heap.size]? = _
    simp
/-- 'v, ok := m[x]'. -/
theorem look_event {t k e : TypeId} {w : World} {b : Nat} {l : List (Int × ByteArray)} {m y : Operand} (hgd : o.guard = none) {N : Tmp} (hd : o.dst = some N) (ho : o.op = .lookup t m y true) (ht : P.underlying t = some (.map k e)) (hk : P.underlying k = some (.int .u64))
    (hz : (zeroValue e).run P w = .ok (.string ByteArray.empty) w) (hi : Is w b l) (hm : a.eval m = .map (some b)) (x : Int) (hy : a.eval y = .int .u64 x)
    (h : wpList P ops Q rest (a.put (some N) (.tuple #[.string (mapStr l x), .bool (mapHas l x)])) w) : wpList P ops Q (o :: rest) a w := by
  refine Kd.event_run (v := .tuple #[.string (mapStr l x), .bool (mapHas l x)]) (w1 := w) hgd ?_ (by rw [hd]; exact h)
  simp [execOp, ho, hm, hy, look ht hk hz hi x, Result.andThen]
end
end Mpl
end Go.Proofs.YtjmjebbjfjgbeaaDoor.Q
