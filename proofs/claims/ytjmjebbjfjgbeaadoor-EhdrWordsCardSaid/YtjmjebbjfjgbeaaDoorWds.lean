/- Names by numbers, and numerals where there is no name: two numbers never have the same word. Plain. -/
import Derived.Test.YtjmjebbjfjgbeaaDoorMth
import Derived.Test.YtjmjebbjfjgbeaaDoorPts

namespace Go.Proofs.YtjmjebbjfjgbeaaDoor.Q
open Go.RowKit Go.Proofs.YtjmjebbjfjgbeaaDoorW.PrintWords Go.Proofs.YtjmjebbjfjgbeaaDoorW.PrintMore Go.Proofs.YtjmjebbjfjgbeaaDoor.Mth
set_option linter.unusedVariables false
set_option linter.unusedSimpArgs false
theorem mk_toList (l : List UInt8) : (⟨l.toArray⟩ : ByteArray).toList = l := by rw [toList_data]
theorem mk_same (s : ByteArray) : (⟨s.data.toList.toArray⟩ : ByteArray) = s := by cases s; rfl
/-- The word of a number: its name in a table, or its numeral. -/
def nm (tab : List ByteArray) (num : Nat → List UInt8) (a : Int) : List UInt8 := if a < (tab.length : Int) then (rdOf ByteArray.empty tab a).data.toList else num a.toNat
theorem nm_in {tab : List ByteArray} {num : Nat → List UInt8} {a : Int} (h : a < (tab.length : Int)) : nm tab num a = (rdOf ByteArray.empty tab a).data.toList := if_pos h
theorem nm_out {tab : List ByteArray} {num : Nat → List UInt8} {a : Int} (h : ¬ a < (tab.length : Int)) : nm tab num a = num a.toNat := if_neg h
/-- Names that are no numerals, and are all other ones. -/
structure Names (tab : List ByteArray) (num : Nat → List UInt8) : Prop where
  inj : ∀ x y, num x = num y → x = y
  no : ∀ i, i < tab.length → ∀ x, tab.length ≤ x → (tab.getD i ByteArray.empty).data.toList ≠ num x
  one : ∀ i j, i < tab.length → j < tab.length → (tab.getD i ByteArray.empty).data.toList = (tab.getD j ByteArray.empty).data.toList → i = j
theorem Names.same {tab : List ByteArray} {num : Nat → List UInt8} (N : Names tab num) {a b : Int} (ha : 0 ≤ a) (hb : 0 ≤ b) : nm tab num a = nm tab num b ↔ a = b := by
  constructor
  · intro h
    by_cases h1 : a < (tab.length : Int)
    · by_cases h2 : b < (tab.length : Int)
      · rw [nm_in h1, nm_in h2] at h
        have := N.one a.toNat b.toNat (by omega) (by omega) h
        omega
      · rw [nm_in h1, nm_out h2] at h
        exact absurd h (N.no a.toNat (by omega) _ (by omega))
    · by_cases h2 : b < (tab.length : Int)
      · rw [nm_out h1, nm_in h2] at h
        exact absurd h.symm (N.no b.toNat (by omega) _ (by omega))
      · rw [nm_out h1, nm_out h2] at h
        have := N.inj _ _ h
        omega
  · rintro rfl; rfl
/-- Bytes of which one is no digit are no numeral. -/
theorem no_dec {l : List UInt8} (h : l.any (fun c => decide (58 ≤ c.toNat)) = true) (x : Nat) : l ≠ Lib.decDigits x := by
  rintro rfl
  obtain ⟨c, hc, h1⟩ := List.any_eq_true.1 h
  have := Fmt.dec_digit x c hc
  have := of_decide_eq_true h1
  omega
end Go.Proofs.YtjmjebbjfjgbeaaDoor.Q
