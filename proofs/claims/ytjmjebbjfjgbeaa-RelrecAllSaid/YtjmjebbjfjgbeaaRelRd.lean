/- What reading relocations comes to: plain facts on the printed functions; no Go, no memory. -/
import Derived.Test.YtjmjebbjfjgbeaaRel
import Derived.Test.YtjmjebbjfjgbeaaRdr
import Derived.Test.YtjmjebbjfjgbeaaQ10
import Derived.Test.YtjmjebbjfjgbeaaQ11
import Derived.Test.YtjmjebbjfjgbeaaQ13
import Derived.Test.YtjmjebbjfjgbeaaQ3
namespace Go.Proofs.Ytjmjebbjfjgbeaa.Q
open Go.RowKit Go.Proofs.YtjmjebbjfjgbeaaW.PrintWords Go.Proofs.YtjmjebbjfjgbeaaW.PrintMore Go.Proofs.Ytjmjebbjfjgbeaa.Mth
set_option linter.unusedVariables false
set_option linter.unusedSimpArgs false

def wordN (w : Bool) : Nat := if w = true then 8 else 4
theorem word_nat (w : Bool) : word w = ((wordN w : Nat) : Int) := by cases w <;> rfl
theorem wordN_le (w : Bool) : 4 ≤ wordN w ∧ wordN w ≤ 8 := by cases w <;> decide
theorem and_mask (w : Bool) (x : Int) (n : Nat) (hn : n = 8 ∨ n = 32) (h : u64P x) : Go.bits .and .u64 x (IntKind.u64.wrap ((shl .u64 1 (n : Int)) - 1)) = x % 2 ^ n := by
  have h64 : ∀ n : Int, 0 ≤ n → n < 2 ^ 64 → IntKind.u64.wrap n = n := fun n h0 h1 => wrapu_id h0 (by simpa using h1)
  have hs : IntKind.u64.wrap ((shl .u64 1 (n : Int)) - 1) = (2 : Int) ^ n - 1 := by
    rcases hn with rfl | rfl <;> decide
  rw [hs]
  exact bits_mask .u64 64 (by decide) h64 n (by omega) x h.1 (by have := h.2; simpa using this)
/-- The numbers that stand in bytes: a relocation, if there are enough. -/
def relOf (big w a : Bool) (l : List UInt8) : Int × Int × Int × Int :=
  (numAt big l 0 (wordN w), numAt big l (wordN w) (wordN w) / typeP w, numAt big l (wordN w) (wordN w) % typeP w, if a = true then numAt big l (2 * wordN w) (wordN w) else 0)
theorem relRead_ev (big w a : Bool) (s : ByteArray) (hs : s.size ≤ 140737488351300) (h : wordsN a * wordN w ≤ s.size) :
    Ev (fun k => relrec_Read.f k big w a s) ((relOf big w a s.data.toList).1, (relOf big w a s.data.toList).2.1, (relOf big w a s.data.toList).2.2.1, (relOf big w a s.data.toList).2.2.2, true) := by
  have hw := wordN_le w
  refine Ev.congr (fun k => relrec_Read.f.eq_1 k big w a s) ?_
  refine ev_const (relSize_is big w a) (ev_neg (by rw [word_nat, ← Int.natCast_mul]; omega) ?_)
  have hsp : relrec_split.f big w = some (if w = true then (32, 32) else (8, 24)) := by unfold relrec_split.f; cases w <;> rfl
  have hrd : order_Order_Read.f big s 0 = some (big, s, 0, false) := rfl
  refine ev_const hsp (ev_const hrd (ev_const (word_is big w) ?_))
  have hwa : wordsN a ≥ 2 := by unfold wordsN; split <;> omega
  have hww : 2 * wordN w ≤ wordsN a * wordN w := Nat.mul_le_mul_right _ hwa
  have n1 := next_ev big s 0 (wordN w) (by omega) (by omega) (by omega) hs
  have n2 := next_ev big s (0 + wordN w) (wordN w) (by omega) (by omega) (by omega) hs
  rw [← word_nat] at n1 n2
  refine Ev.bind n1 (ev_const (word_is big w) (Ev.bind n2 ?_))
  have hr := numAt_range big s.data.toList (0 + wordN w) (wordN w)
  have hshr : shr .u64 (numAt big s.data.toList (0 + wordN w) (wordN w)) (if w = true then ((32 : Int), (32 : Int)) else (8, 24)).1 = numAt big s.data.toList (wordN w) (wordN w) / typeP w := by
    rw [Nat.zero_add]
    cases w <;> rfl
  have hand : Go.bits .and .u64 (numAt big s.data.toList (0 + wordN w) (wordN w)) (IntKind.u64.wrap ((shl .u64 1 (if w = true then ((32 : Int), (32 : Int)) else (8, 24)).1) - 1)) = numAt big s.data.toList (wordN w) (wordN w) % typeP w := by
    rw [Nat.zero_add] at hr ⊢
    cases w
    · exact and_mask false _ 8 (.inl rfl) hr
    · exact and_mask true _ 32 (.inr rfl) hr
  refine ev_pos (by cases w <;> decide) ?_
  rw [hshr, hand]
  cases a
  · refine ev_neg (by decide) (ev_now ?_)
    rfl
  · refine ev_pos rfl (ev_const (word_is big w) ?_)
    have h3 : 3 * wordN w ≤ s.size := h
    have n3 := next_ev big s (0 + wordN w + wordN w) (wordN w) (by omega) (by omega) (by omega) hs
    rw [← word_nat] at n3
    refine Ev.bind n3 (ev_now ?_)
    unfold relOf
    rw [show 0 + wordN w + wordN w = 2 * wordN w by omega]
    rfl
theorem relRead_short (big w a : Bool) (s : ByteArray) (h : ¬ wordsN a * wordN w ≤ s.size) : Ev (fun k => relrec_Read.f k big w a s) (0, 0, 0, 0, false) := by
  refine Ev.congr (fun k => relrec_Read.f.eq_1 k big w a s) ?_
  exact ev_const (relSize_is big w a) (ev_pos (by rw [word_nat, ← Int.natCast_mul]; omega) (Ev.now _))
theorem typeP_pos (w : Bool) : 0 < typeP w := by cases w <;> decide
theorem u64_list2 {a b : Int} (h1 : u64P a) (h2 : u64P b) : U64 [a, b] := by
  intro x hx
  rcases List.mem_cons.1 hx with rfl | hx
  · exact h1
  · rcases List.mem_cons.1 hx with rfl | hx
    · exact h2
    · cases hx
theorem u64_list3 {a b c : Int} (h1 : u64P a) (h2 : u64P b) (h3 : u64P c) : U64 [a, b, c] := by
  intro x hx
  rcases List.mem_cons.1 hx with rfl | hx
  · exact h1
  · exact u64_list2 h2 h3 x hx
/-- The document's relocation. -/
theorem refPut09 (big w a : Bool) (off sym ty add : Int) (h1 : u64P off) (h2 : u64P sym) (h3 : u64P ty) (h4 : u64P add) : Ev (fun k => graverref09_Put.f k w big a off sym ty add) (relR big w a off sym ty add) := by
  have tp := typeP_pos w
  have main : Ev (fun k => graverref09_Put.j0 k w big a (typeP w) (symQ w) off sym ty add) (relR big w a off sym ty add) := by
    refine Ev.step (fun k => graverref09_Put.j0.eq_2 _ _ _ _ _ _ _ _ _ _) ?_
    have bad : goodR w a off sym ty add = false → Ev (fun k => graverref09_Put.j1 k w big a (typeP w) true off sym ty add) (relR big w a off sym ty add) := by
      intro hg
      refine Ev.step (fun k => graverref09_Put.j1.eq_2 _ _ _ _ _ _ _ _ _ _) (ev_pos rfl (ev_now ?_))
      unfold relR
      rw [hg]
      rfl
    by_cases c1 : ty ≥ typeP w
    · refine ev_pos c1 (bad ?_)
      unfold goodR
      rw [decide_eq_false (show ¬ ty < typeP w by omega)]
      simp
    · refine ev_neg c1 ?_
      by_cases c2 : sym ≥ symQ w
      · refine ev_pos c2 (bad ?_)
        unfold goodR
        rw [decide_eq_false (show ¬ sym < symQ w by omega)]
        simp
      · refine ev_neg c2 ?_
        have hinfo : IntKind.u64.wrap ((IntKind.u64.wrap (sym * typeP w)) + ty) = sym * typeP w + ty ∧ u64P (sym * typeP w + ty) := by
          have hm : 0 ≤ sym * typeP w := Int.mul_nonneg h2.1 (by omega)
          have hlt : sym * typeP w + ty < 18446744073709551616 := by
            unfold symQ typeP at *
            have := h3.1
            cases w <;> simp at * <;> omega
          have ht := h3.1
          rw [wrapu_id hm (by omega), wrapu_id (by omega) hlt]
          exact ⟨rfl, by omega, hlt⟩
        have good : (a || decide (add = 0)) = true → Ev (fun k => graverref09_Put.j1 k w big a (typeP w) false off sym ty add) (relR big w a off sym ty add) := by
          intro ha
          refine Ev.step (fun k => graverref09_Put.j1.eq_2 _ _ _ _ _ _ _ _ _ _) (ev_neg (by decide) ?_)
          rw [hinfo.1]
          have hrel : relR big w a off sym ty add = recR big w (List.replicate (wordsN a) 0) (([off, sym * typeP w + ty, add] : List Int).take (wordsN a)) := by
            unfold relR goodR
            rw [decide_eq_true (show ty < typeP w by omega), decide_eq_true (show sym < symQ w by omega), ha]
            simp only [Bool.and_true]
            by_cases hf : (decide (off < 256 ^ (word w).toNat) && decide (add < 256 ^ (word w).toNat)) = true
            · rw [if_pos hf]
            · rw [if_neg hf]
              have hbad : allF (full w (List.replicate (wordsN a) 0)) (([off, sym * typeP w + ty, add] : List Int).take (wordsN a)) = false := by
                have hf' : (decide (off < 256 ^ (word w).toNat) && decide (add < 256 ^ (word w).toNat)) = false := Bool.eq_false_iff.2 hf
                have hok : ∀ x, decide (x < (256 : Int) ^ (word w).toNat) = false → okF x (word w) = false := by
                  intro x hx
                  unfold okF
                  rw [hx]
                  simp
                rw [Bool.and_eq_false_iff] at hf'
                cases a
                · have hadd : add = 0 := by simpa using ha
                  rcases hf' with hf' | hf'
                  · have := hok off hf'
                    simp [wordsN, full, allF, this]
                  · exfalso
                    rw [hadd] at hf'
                    cases w <;> simp [word] at hf'
                · rcases hf' with hf' | hf'
                  · have := hok off hf'
                    simp [wordsN, full, allF, this]
                  · have := hok add hf'
                    simp [wordsN, full, allF, this]
              unfold recR
              rw [hbad]
              split <;> rfl
          rw [hrel]
          cases a
          · exact ev_neg (by decide) (Ev.bind (refRecord_ev w big [0, 0] [off, sym * typeP w + ty] (by simp) (u64_list2 h1 hinfo.2)) (ev_now rfl))
          · exact ev_pos rfl (Ev.bind (refRecord_ev w big [0, 0, 0] [off, sym * typeP w + ty, add] (by simp) (u64_list3 h1 hinfo.2 h4)) (ev_now rfl))
        cases a
        · refine ev_neg (by decide) ?_
          by_cases h0 : add = 0
          · rw [h0] at good ⊢
            exact good (by decide)
          · rw [show (add != 0) = true by simpa using h0]
            exact bad (by unfold goodR; rw [decide_eq_false h0]; simp)
        · exact ev_pos rfl (good rfl)
  refine Ev.congr (fun k => graverref09_Put.f.eq_1 k _ _ _ _ _ _ _) ?_
  cases w
  · exact ev_neg (by decide) main
  · exact ev_pos rfl main
end Go.Proofs.Ytjmjebbjfjgbeaa.Q
