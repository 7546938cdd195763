/- A type's, a machine's name; two numbers never have the same: for every input; no condition but the tables. -/
import Derived.Test.YtjmjebbjfjgbeaaDoorWds
import Derived.Test.YtjmjebbjfjgbeaaDoorQ10
import Derived.Test.YtjmjebbjfjgbeaaDoorQ11
import Derived.Test.YtjmjebbjfjgbeaaDoorQ8
import Derived.Test.YtjmjebbjfjgbeaaDoorQ9
namespace Go.Proofs.YtjmjebbjfjgbeaaDoor.Pure
open Go.RowKit Go.Proofs.YtjmjebbjfjgbeaaDoor.Q Go.Proofs.YtjmjebbjfjgbeaaDoorW.PrintWords Go.Proofs.YtjmjebbjfjgbeaaDoorW.PrintLast Go.Proofs.YtjmjebbjfjgbeaaDoorW.PrintMore Go.Proofs.YtjmjebbjfjgbeaaDoor.Mth
set_option linter.unusedVariables false
set_option linter.unusedSimpArgs false

theorem speaks05 : Ev (fun k => graverlaw05_speaks.f k) true := Ev.of graverlaw05_speaks.mono (k := 40) (by decide +kernel)
/-! ### kinds' words -/
def hexW (u : Nat) : List UInt8 := 48 :: 120 :: Fmt.hexDigits u
theorem hexW_inj (a b : Nat) (h : hexW a = hexW b) : a = b := Fmt.hex_inj a b (List.cons.inj (List.cons.inj h).2).2
theorem hex_size (u : Nat) (h : u < 18446744073709551616) : (Fmt.hexDigits u).length ≤ 16 := Fmt.hex_length 15 u (by simpa using h)
theorem hex_eq {a : Int} (h0 : 0 ≤ a) (h1 : a < 18446744073709551616) : ((strconv_FormatUint.f a 16).bind fun t => (if 2 + t.size ≤ 9223372036854775807 then (some ((⟨#[48, 120]⟩ : ByteArray) ++ t)) else (none))) = some ⟨(hexW a.toNat).toArray⟩ := by
  unfold strconv_FormatUint.f
  rw [if_pos ⟨h0, h1, Or.inr rfl⟩]
  have hs : (⟨(Fmt.fmtOf a 16).toArray⟩ : ByteArray).size = (Fmt.hexDigits a.toNat).length := rfl
  have hl := hex_size a.toNat (by omega)
  show (if 2 + (⟨(Fmt.fmtOf a 16).toArray⟩ : ByteArray).size ≤ 9223372036854775807 then _ else _) = _
  rw [if_pos (by rw [hs]; omega)]
  congr 1
/-- The law's own list of words. -/
def wds : List ByteArray := [(⟨#[78, 79, 78, 69]⟩ : ByteArray), (⟨#[82, 69, 76]⟩ : ByteArray), (⟨#[69, 88, 69, 67]⟩ : ByteArray), (⟨#[68, 89, 78]⟩ : ByteArray), (⟨#[67, 79, 82, 69]⟩ : ByteArray)]
abbrev tn := nm wds hexW
theorem names : Names wds hexW where
  inj := hexW_inj
  no := fun i hi x hx h => by
    have h1 : ∀ i, i < 5 → (wds.getD i ByteArray.empty).data.toList.head? ≠ some 48 := by decide
    exact h1 i hi (by rw [h]; rfl)
  one := by have h : ∀ i, i < 5 → ∀ j, j < 5 → (wds.getD i ByteArray.empty).data.toList = (wds.getD j ByteArray.empty).data.toList → i = j := by decide
            exact fun i j hi hj => h i hi j hj
theorem type_eq {a : Int} (h0 : 0 ≤ a) (h1 : a < 18446744073709551616) : ehdr_TypeName.f a = some ⟨(tn a).toArray⟩ := by
  unfold ehdr_TypeName.f
  by_cases c : a < 5
  · rw [if_pos c, if_pos h0]
    have e : tn a = (rdOf ByteArray.empty wds a).data.toList := nm_in (by show a < ((5 : Nat) : Int); omega)
    rw [e, mk_same]
    rfl
  · rw [if_neg c, hex_eq h0 h1]
    show _ = some (⟨(nm wds hexW a).toArray⟩ : ByteArray)
    rw [nm_out (by show ¬ a < ((5 : Nat) : Int); omega)]

theorem type_same {n m : Nat} (hn : n < 18446744073709551616) (hm : m < 18446744073709551616) : (⟨(tn (n : Int)).toArray⟩ : ByteArray).toList = (⟨(tn (m : Int)).toArray⟩ : ByteArray).toList ↔ n = m := by
  rw [mk_toList, mk_toList]
  exact (names.same (by omega) (by omega)).trans (by omega)

/-! ### machines -/
/-- A machine's word: its name, or its numeral. -/
def mn (n : Nat) : List UInt8 := if mapHas tabM_ehdr_machines (n : Int) = true then (mapStr tabM_ehdr_machines (n : Int)).data.toList else hexW n
theorem mach_eq {n : Nat} (h1 : n < 18446744073709551616) : ehdr_MachineName.f (n : Int) = some ⟨(mn n).toArray⟩ := by
  unfold ehdr_MachineName.f mn
  by_cases c : mapHas tabM_ehdr_machines (n : Int) = true
  · rw [if_pos c, if_pos c, mk_same]
  · rw [if_neg c, if_neg c, hex_eq (by omega) (by omega)]
    rfl
theorem has_mem : ∀ (l : List (Int × ByteArray)) (x : Int), mapHas l x = true → ∃ p, p ∈ l ∧ p.1 = x ∧ mapStr l x = p.2
  | [], x, h => by cases h
  | p :: l, x, h => by
    by_cases c : x = p.1
    · exact ⟨p, by simp, c.symm, by unfold mapStr; rw [if_pos c]⟩
    · unfold mapHas at h
      rw [if_neg c] at h
      obtain ⟨q, h1, h2, h3⟩ := has_mem l x h
      exact ⟨q, by simp [h1], h2, by unfold mapStr; rw [if_neg c]; exact h3⟩
theorem mn_inj {n m : Nat} (h : mn n = mn m) : n = m := by
  have h0 : ∀ p, p ∈ tabM_ehdr_machines → p.2.data.toList.head? ≠ some 48 := by decide
  have h1 : ∀ p, p ∈ tabM_ehdr_machines → ∀ q, q ∈ tabM_ehdr_machines → p.2.data.toList = q.2.data.toList → p.1 = q.1 := by decide
  unfold mn at h
  by_cases c : mapHas tabM_ehdr_machines (n : Int) = true
  · obtain ⟨p, p1, p2, p3⟩ := has_mem _ _ c
    rw [if_pos c, p3] at h
    by_cases d : mapHas tabM_ehdr_machines (m : Int) = true
    · obtain ⟨q, q1, q2, q3⟩ := has_mem _ _ d
      rw [if_pos d, q3] at h
      have := h1 p p1 q q1 h
      omega
    · rw [if_neg d] at h
      exact absurd (by rw [h]; rfl) (h0 p p1)
  · rw [if_neg c] at h
    by_cases d : mapHas tabM_ehdr_machines (m : Int) = true
    · obtain ⟨q, q1, q2, q3⟩ := has_mem _ _ d
      rw [if_pos d, q3] at h
      exact absurd (by rw [← h]; rfl) (h0 q q1)
    · rw [if_neg d] at h
      exact hexW_inj _ _ h

/-! ### the law -/
theorem types_end {n m : Nat} (hn : n < 18446744073709551616) (hm : m < 18446744073709551616) : ((ehdr_TypeName.f (n : Int)).bind fun t => ((ehdr_TypeName.f (m : Int)).bind fun u => (if t.toList = u.toList then (some ((n : Int) == (m : Int))) else (some (!((n : Int) == (m : Int))))))) = some true := by
  rw [type_eq (by omega) (by omega), type_eq (by omega) (by omega)]
  show (if (⟨(tn (n : Int)).toArray⟩ : ByteArray).toList = (⟨(tn (m : Int)).toArray⟩ : ByteArray).toList then _ else _) = some true
  by_cases c : n = m
  · rw [if_pos ((type_same hn hm).2 c), c]; simp
  · rw [if_neg (fun h => c ((type_same hn hm).1 h))]
    have : ((n : Int) == (m : Int)) = false := beq_eq_false_iff_ne.mpr (by omega)
    rw [this]; rfl
theorem law_end {n m : Nat} (hn : n < 18446744073709551616) (hm : m < 18446744073709551616) : ((ehdr_MachineName.f (m : Int)).bind fun t => (if (⟨(mn n).toArray⟩ : ByteArray).toList = t.toList then (if (n : Int) = (m : Int) then ((ehdr_TypeName.f (n : Int)).bind fun t => ((ehdr_TypeName.f (m : Int)).bind fun u => (if t.toList = u.toList then (some ((n : Int) == (m : Int))) else (some (!((n : Int) == (m : Int))))))) else (some false)) else (if (n : Int) = (m : Int) then (some false) else ((ehdr_TypeName.f (n : Int)).bind fun t => ((ehdr_TypeName.f (m : Int)).bind fun u => (if t.toList = u.toList then (some ((n : Int) == (m : Int))) else (some (!((n : Int) == (m : Int)))))))))) = some true := by
  rw [mach_eq hm]
  show (if (⟨(mn n).toArray⟩ : ByteArray).toList = (⟨(mn m).toArray⟩ : ByteArray).toList then _ else _) = some true
  rw [mk_toList, mk_toList]
  have T := types_end hn hm
  by_cases c : n = m
  · rw [if_pos (by rw [c]), if_pos (by omega)]
    exact T
  · rw [if_neg (fun h => c (mn_inj h)), if_neg (by omega)]
    exact T
theorem EhdrWords : graverlaw05_EhdrWords.Pure := by
  intro a b wa wb
  obtain ⟨a0, a1⟩ := wf_u64 wa
  obtain ⟨b0, b1⟩ := wf_u64 wb
  obtain ⟨n, rfl⟩ := Int.eq_ofNat_of_zero_le a0
  obtain ⟨m, rfl⟩ := Int.eq_ofNat_of_zero_le b0
  have L := law_end (n := n) (m := m) (by omega) (by omega)
  have J : Ev (fun k => graverlaw05_EhdrWords.j0 k (n : Int) (m : Int) false) true := by
    refine Ev.step (graverlaw05_EhdrWords.j0.eq_2 _ _ _) (ev_neg (by decide) (ev_const (mach_eq (by omega)) ?_))
    by_cases c : mapHas tabM_ehdr_machines (n : Int) = true
    · refine ev_pos c (ev_pos ?_ ⟨0, fun _ _ => L⟩)
      rw [mk_toList, toList_data]
      unfold mn
      rw [if_pos c]
    · have e : mn n = hexW n := if_neg c
      refine ev_neg c (ev_pos (by decide) (ev_pos ?_ (ev_pos ?_ ⟨0, fun _ _ => L⟩)))
      · rw [e]
        show (2 : Int) ≤ (((hexW n).length : Nat) : Int)
        unfold hexW
        simp
        omega
      · rw [e, toList_data, extract_data]
        rfl
  refine Ev.rounds (Ev.congr (fun k => graverlaw05_EhdrWords.f.eq_1 k (n : Int) (m : Int)) ?_)
  refine Ev.bind speaks05 (ev_pos rfl (ev_const rfl ?_))
  have ht := type_eq a0 a1
  by_cases c : (n : Int) < 5
  · refine ev_pos c (ev_const ht (ev_pos a0 (ev_pos (by show (n : Int) < ((5 : Nat) : Int); omega) (ev_pos ?_ (ev_neg (by omega) J)))))
    rw [mk_toList, toList_data]
    exact nm_in (by show (n : Int) < ((5 : Nat) : Int); omega)
  · refine ev_neg c (ev_pos (by omega) (ev_const ht (ev_pos (by decide) ?_)))
    have e : tn (n : Int) = hexW n := nm_out (by show ¬ (n : Int) < ((5 : Nat) : Int); omega)
    rw [e]
    refine ev_pos (by show (2 : Int) ≤ (((hexW n).length : Nat) : Int); unfold hexW; simp; omega) ?_
    have e2 : ((⟨(hexW n).toArray⟩ : ByteArray).extract 0 2).toList = [48, 120] := by
      rw [toList_data, extract_data]
      rfl
    rw [e2]
    exact J
end Go.Proofs.YtjmjebbjfjgbeaaDoor.Pure
