/- What Go functions of the program compute, each as a Lean function with the proof that the call returns just that. No condition but those in the statements. -/
import Derived.Test.YtjmjebbjfjgbeaaDoorQ0
import Derived.Test.YtjmjebbjfjgbeaaDoorQ9
import Derived.Test.YtjmjebbjfjgbeaaDoorPts
import Derived.Test.YtjmjebbjfjgbeaaDoorPts
import Derived.Test.YtjmjebbjfjgbeaaDoorMpl
namespace Go.Proofs.YtjmjebbjfjgbeaaDoor.Q
open Go.RowKit Go.Proofs.YtjmjebbjfjgbeaaDoorW.PrintWords Go.Proofs.YtjmjebbjfjgbeaaDoorW.PrintLast Go.Proofs.YtjmjebbjfjgbeaaDoorW.PrintMore
attribute [local go_sem] max2_int min2_int max_two min_two max_three min_three max_four min_four   -- for this text's walks alone
set_option linter.unusedVariables false
set_option linter.unusedSimpArgs false

/-! ### ehdr_TypeName: function 27 -/
def ehdr_TypeName.f (a0 : Int) : Option (ByteArray) := if a0 < 5 then (if 0 ≤ a0 then some (rdOf ByteArray.empty tabS_ehdr_types a0) else none) else ((strconv_FormatUint.f a0 16).bind fun t => (if 2 + t.size ≤ 9223372036854775807 then (some ((⟨#[48, 120]⟩ : ByteArray) ++ t)) else (none)))
set_option maxHeartbeats 4000000 in
set_option maxRecDepth 100000 in
theorem ehdr_TypeName.calls (a0 : Int) (r : ByteArray) (w : World) (hlaid_ehdrn : Laid_ehdrn w) (hlaid_strconv : Laid_strconv w) (h : ehdr_TypeName.f a0 = some r) :
    Calls Tryd.prog 27 #[.int .u64 a0] w fun e w' => e = .returned (.string r) ∧ Below w.heap.size w w' := by
  unfold ehdr_TypeName.f at h
  by_cases c : a0 < 5
  · rw [if_pos c] at h
    by_cases c0 : 0 ≤ a0
    · rw [if_pos c0] at h
      obtain ⟨i, rfl⟩ := Int.eq_ofNat_of_zero_le c0
      have hcell : w.cell? ⟨0, i, none⟩ = some (.string (rdOf ByteArray.empty tabS_ehdr_types (i : Int))) := by
        obtain ⟨ad, e, hc⟩ := Kd.at_string hlaid_ehdrn.ehdr_types (i : Int) c0 (by show (i : Int) < ((5 : Nat) : Int); omega)
        cases e
        simpa [add_plain] using hc
      obtain rfl := Option.some.inj h
      clear h
      generalize rdOf ByteArray.empty tabS_ehdr_types (i : Int) = s at hcell ⊢
      clear hlaid_ehdrn hlaid_strconv
      have hlt : decide ((i : Int) < 5) = true := decide_eq_true c
      go_enter Tryd.func27, Tryd.ntmps27
      go_wp2
      go_ret
      exact ⟨rfl, Below.refl _ _⟩
    · rw [if_neg c0] at h; cases h
  · rw [if_neg c] at h
    obtain ⟨t, ht, h⟩ := Option.bind_eq_some_iff.mp h
    have hcall := strconv_FormatUint.calls a0 16 t w hlaid_strconv ht
    by_cases c3 : 2 + t.size ≤ 9223372036854775807
    · rw [if_pos c3] at h
      obtain rfl := Option.some.inj h
      have c3b0 := eq_true c3
      have c3b1 : decide (2 + t.size ≤ 9223372036854775807) = true := decide_eq_true c3
      have c3b2 : (9223372036854775807 < 2 + t.size) = False := eq_false (Nat.not_lt.2 c3)
      have hlt : decide (a0 < 5) = false := decide_eq_false c
      clear h ht c hlaid_ehdrn hlaid_strconv
      go_enter Tryd.func27, Tryd.ntmps27
      go_wp2_with (go_at_call 52; refine hcall.mono ?_; rintro e w' ⟨rfl, hb⟩)
      go_ret
      exact ⟨rfl, hb⟩
    · rw [if_neg c3] at h; cases h


/-! ### ehdr_MachineName: function 28 -/
def ehdr_MachineName.f (a0 : Int) : Option (ByteArray) := if mapHas tabM_ehdr_machines a0 = true then some (mapStr tabM_ehdr_machines a0) else ((strconv_FormatUint.f a0 16).bind fun t => (if 2 + t.size ≤ 9223372036854775807 then (some ((⟨#[48, 120]⟩ : ByteArray) ++ t)) else (none)))
def ehdr_MachineName.key (i : Nat) : Int := (tabM_ehdr_machines.getD i (0, ByteArray.empty)).1
def ehdr_MachineName.str (i : Nat) : ByteArray := (tabM_ehdr_machines.getD i (0, ByteArray.empty)).2
theorem ehdr_MachineName.hit (a0 : Int) : ∀ i, i < 11 → (∀ j, j < i → a0 ≠ ehdr_MachineName.key j) → a0 = ehdr_MachineName.key i → mapHas tabM_ehdr_machines a0 = true ∧ mapStr tabM_ehdr_machines a0 = ehdr_MachineName.str i := by
  intro i hi hj h
  have h1 : ∀ i, i < 11 → mapHas tabM_ehdr_machines (ehdr_MachineName.key i) = true ∧ mapStr tabM_ehdr_machines (ehdr_MachineName.key i) = ehdr_MachineName.str i := by decide +kernel
  rw [h]; exact h1 i hi
theorem ehdr_MachineName.missL (l : List (Int × ByteArray)) (a0 : Int) (h : ∀ p ∈ l, a0 ≠ p.1) : mapHas l a0 = false := by
  induction l with
  | nil => rfl
  | cons p l ih =>
    unfold mapHas
    rw [if_neg (h p (by simp))]
    exact ih (fun q hq => h q (by simp [hq]))
theorem ehdr_MachineName.miss (a0 : Int) (h : ∀ j, j < 11 → a0 ≠ ehdr_MachineName.key j) : mapHas tabM_ehdr_machines a0 = false := by
  refine ehdr_MachineName.missL _ _ (fun p hp => ?_)
  obtain ⟨i, hi, rfl⟩ := List.mem_iff_getElem.mp hp
  have := h i hi
  unfold ehdr_MachineName.key at this
  rwa [List.getD_eq_getElem?_getD, List.getElem?_eq_getElem hi] at this
theorem ehdr_MachineName.index (i : Nat) (hi : i < 11) (w : World) : (Instr.index 106 (.agg (rowM tabM_ehdr_machines).toArray) (.int .i64 (i : Int))).run Tryd.prog w = .ok (.agg #[.int .u64 (ehdr_MachineName.key i), .string (ehdr_MachineName.str i)]) w := by
  have hz : (sizeOf 105).run Tryd.prog w = .ok 2 w := by kernel_rfl
  have hx : (rowM tabM_ehdr_machines).toArray.extract (i * 2) (i * 2 + 2) = #[.int .u64 (ehdr_MachineName.key i), .string (ehdr_MachineName.str i)] := by
    have hs : i = 0 ∨ i = 1 ∨ i = 2 ∨ i = 3 ∨ i = 4 ∨ i = 5 ∨ i = 6 ∨ i = 7 ∨ i = 8 ∨ i = 9 ∨ i = 10 := by omega
    rcases hs with h | h | h | h | h | h | h | h | h | h | h <;> (rw [h]; simp [rowM, tabM_ehdr_machines, ehdr_MachineName.key, ehdr_MachineName.str])
  have hp : (part 105 (rowM tabM_ehdr_machines).toArray (i * 2)).run Tryd.prog w = .ok (.agg #[.int .u64 (ehdr_MachineName.key i), .string (ehdr_MachineName.str i)]) w := by
    unfold part isAgg
    simp [run_underlying Tryd.underlying105, hz, Result.andThen]
    simpa using congrArg Array.toList hx
  have c1 : (0 : Int) ≤ (i : Int) := by omega
  have c2 : (i : Int) < ((11 : Nat) : Int) := by omega
  unfold Instr.index
  simp [asIntOf, run_underlying Tryd.underlying106, Result.andThen, c1, hi, hz, hp]
theorem ehdr_MachineName.load_event {P : Program} {ops : Array Oper} {rest : List Oper} {o : Oper} {a : Act} {Q : Exit → Act → World → Prop} {w : World} {t : TypeId} {x : Operand} {u : Value} {N : Tmp} (hgd : o.guard = none) (hd : o.dst = some N) (ho : o.op = .load t x)
    (hrun : (Instr.loadAt t (a.eval x)).run P w = .ok u w) (h : wpList P ops Q rest (a.put (some N) u) w) : wpList P ops Q (o :: rest) a w :=
  Kd.event_run (v := u) (w1 := w) hgd (by simp [execOp, ho, hrun, Result.andThen]) (by rw [hd]; exact h)
theorem ehdr_MachineName.index_event {P : Program} {ops : Array Oper} {rest : List Oper} {o : Oper} {a : Act} {Q : Exit → Act → World → Prop} {w : World} {t : TypeId} {x y : Operand} {u : Value} {N : Tmp} (hgd : o.guard = none) (hd : o.dst = some N) (ho : o.op = .index t x y)
    (hrun : (Instr.index t (a.eval x) (a.eval y)).run P w = .ok u w) (h : wpList P ops Q rest (a.put (some N) u) w) : wpList P ops Q (o :: rest) a w :=
  Kd.event_run (v := u) (w1 := w) hgd (by simp [execOp, ho, hrun, Result.andThen]) (by rw [hd]; exact h)
set_option maxHeartbeats 4000000 in
set_option maxRecDepth 100000 in
theorem ehdr_MachineName.calls (a0 : Int) (r : ByteArray) (w : World) (hlaid_ehdrn : Laid_ehdrn w) (hlaid_strconv : Laid_strconv w) (h : ehdr_MachineName.f a0 = some r) :
    Calls Tryd.prog 28 #[.int .u64 a0] w fun e w' => e = .returned (.string r) ∧ Below w.heap.size w w' := by
  have hload : (Instr.loadAt 106 (.pointer (some ⟨1, 0, none⟩))).run Tryd.prog w = .ok (.agg (rowM tabM_ehdr_machines).toArray) w := by
    obtain ⟨rt, fr, hrow⟩ := hlaid_ehdrn.ehdr_machines
    have h1 := run_loadVar_row (P := Tryd.prog) w 1 rt 106 (rowM tabM_ehdr_machines).toArray fr _ hrow Tryd.underlying106 rfl (by kernel_rfl)
    simp [Instr.loadAt, Instr.sureAddr, h1]
  have hix := ehdr_MachineName.index
  have H := Aside0.mk h
  have HS := Aside0.mk hlaid_strconv
  clear h hlaid_ehdrn hlaid_strconv
  generalize (rowM tabM_ehdr_machines).toArray = C at hload hix
  go_enter Tryd.func28, Tryd.ntmps28
  go_wp2_with ((with_reducible refine gate_dst (N := 5) rfl ?_); refine ehdr_MachineName.load_event rfl rfl rfl hload ?_)
  go_loopg [6] 12 (fun kq v6 w' => ∃ (i : Nat), v6 = .int .i64 (i : Int) ∧ i + kq = 12 ∧ i ≤ 11 ∧ Aside0 (∀ j, j < i → a0 ≠ ehdr_MachineName.key j) ∧ Aside0 (Below w.heap.size w w'))
  case atStart => exact ⟨0, rfl, rfl, by decide, ⟨fun j hj => absurd hj (Nat.not_lt_zero _)⟩, ⟨Below.refl _ _⟩⟩
  case round =>
    obtain ⟨i, rfl, hk, hi, HN, HB⟩ := hrel
    by_cases c : i < 11
    · have hlt : decide ((i : Int) < 11) = true := decide_eq_true (by omega)
      have h1 := hix i c wr
      generalize hkey : ehdr_MachineName.key i = x at h1
      generalize hstr : ehdr_MachineName.str i = s at h1
      by_cases e : x = a0
      · have heq : (x == a0) = true := beq_iff_eq.mpr e
        obtain ⟨g1, g2⟩ := ehdr_MachineName.hit a0 i c HN.out (by rw [hkey, e])
        have hr := H.out
        unfold ehdr_MachineName.f at hr
        rw [if_pos g1, g2, hstr] at hr
        obtain rfl := Option.some.inj hr
        clear hix hload H HN HS hr g1 g2 e
        go_wp2_with ((with_reducible refine gate_dst (N := 8) rfl ?_); refine ehdr_MachineName.index_event rfl rfl rfl h1 ?_)
        go_ret
        exact ⟨rfl, below_alloc HB.out _⟩
      · have heq : (x == a0) = false := beq_eq_false_iff_ne.mpr e
        have HN2 : Aside0 (∀ j, j < i + 1 → a0 ≠ ehdr_MachineName.key j) := ⟨fun j hj => by
          rcases Nat.lt_or_eq_of_le (Nat.le_of_lt_succ hj) with h2 | h2
          · exact HN.out j h2
          · rw [h2, hkey]; exact fun h3 => e h3.symm⟩
        clear hix hload HN e
        cases gk with
        | zero => omega
        | succ k1 =>
          go_wp2_with ((with_reducible refine gate_dst (N := 8) rfl ?_); refine ehdr_MachineName.index_event rfl rfl rfl h1 ?_)
          go_roundg k1
          case measure => exact Nat.lt_succ_self _
          case rel => exact ⟨i + 1, by rw [Int.natCast_add]; rfl, by omega, by omega, HN2, ⟨below_alloc HB.out _⟩⟩
    · obtain rfl : i = 11 := Nat.le_antisymm hi (Nat.not_lt.1 c)
      have hlt : decide (((11 : Nat) : Int) < 11) = false := by decide
      have hr := H.out
      unfold ehdr_MachineName.f at hr
      rw [if_neg (by rw [ehdr_MachineName.miss a0 HN.out]; decide)] at hr
      obtain ⟨t, ht, hr⟩ := Option.bind_eq_some_iff.mp hr
      have hcall := strconv_FormatUint.calls a0 16 t wr (Laid_strconv.below HS.out HB.out) ht
      by_cases c3 : 2 + t.size ≤ 9223372036854775807
      · rw [if_pos c3] at hr
        obtain rfl := Option.some.inj hr
        have c3b0 := eq_true c3
        have c3b1 : decide (2 + t.size ≤ 9223372036854775807) = true := decide_eq_true c3
        have c3b2 : (9223372036854775807 < 2 + t.size) = False := eq_false (Nat.not_lt.2 c3)
        clear hix hload HN H HS hr ht
        go_wp2_with (go_at_call 52; refine hcall.mono ?_; rintro e w' ⟨rfl, hb⟩)
        go_ret
        exact ⟨rfl, below_step HB.out hb⟩
      · rw [if_neg c3] at hr; cases hr


end Go.Proofs.YtjmjebbjfjgbeaaDoor.Q
