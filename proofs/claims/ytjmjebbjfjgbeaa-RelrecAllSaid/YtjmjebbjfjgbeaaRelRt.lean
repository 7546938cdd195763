/- A relocation's bytes are read as it, and what is read of bytes has these bytes: plain. -/
import Derived.Test.YtjmjebbjfjgbeaaRelRd

namespace Go.Proofs.Ytjmjebbjfjgbeaa.Q
open Go.RowKit Go.Proofs.YtjmjebbjfjgbeaaW.PrintWords Go.Proofs.YtjmjebbjfjgbeaaW.PrintMore Go.Proofs.Ytjmjebbjfjgbeaa.Mth
set_option linter.unusedVariables false
set_option linter.unusedSimpArgs false

theorem full_rep (w : Bool) (n : Nat) : full w (List.replicate n 0) = List.replicate n (word w) := by simp [full]
theorem okF_word (w : Bool) (x : Int) : okF x (word w) = decide (x < 256 ^ (wordN w)) := by
  unfold okF
  cases w <;> simp [word, wordN]
theorem pow_word (w : Bool) : (256 : Int) ^ (wordN w) = if w = true then 18446744073709551616 else 4294967296 := by cases w <;> decide
theorem good_iff (w a : Bool) (off sym ty add : Int) : goodR w a off sym ty add = true ↔ off < 256 ^ wordN w ∧ add < 256 ^ wordN w ∧ ty < typeP w ∧ sym < symQ w ∧ (a = true ∨ add = 0) := by
  unfold goodR
  have : (word w).toNat = wordN w := by cases w <;> rfl
  rw [this]
  simp only [Bool.and_eq_true, Bool.or_eq_true, decide_eq_true_iff, and_assoc]
theorem info_lt (w : Bool) (sym ty : Int) (h2 : u64P sym) (h3 : u64P ty) (hs : sym < symQ w) (ht : ty < typeP w) : sym * typeP w + ty < 256 ^ wordN w := by
  rw [pow_word]
  unfold symQ typeP at *
  have := h2.1
  have := h3.1
  cases w <;> simp at * <;> omega
theorem relR_good (big w a : Bool) (off sym ty add : Int) (h2 : u64P sym) (h3 : u64P ty) (h : goodR w a off sym ty add = true) :
    relR big w a off sym ty add = (⟨((putL big off (wordN w) ++ (putL big (sym * typeP w + ty) (wordN w) ++ (if a = true then putL big add (wordN w) else []))) : List UInt8).toArray⟩, true) := by
  have hg := (good_iff w a off sym ty add).1 h
  have hi := info_lt w sym ty h2 h3 hg.2.2.2.1 hg.2.2.1
  unfold relR
  rw [if_pos h]
  unfold recR
  rw [full_rep]
  cases a
  · have hall : allF (List.replicate (wordsN false) (word w)) (([off, sym * typeP w + ty, add] : List Int).take (wordsN false)) = true := by
      simp [wordsN, allF, okF_word, hg.1, hi]
    rw [hall, if_pos (by simp [wordsN]), if_pos rfl]
    simp [wordsN, flat, word_nat]
  · have hall : allF (List.replicate (wordsN true) (word w)) (([off, sym * typeP w + ty, add] : List Int).take (wordsN true)) = true := by
      simp [wordsN, allF, okF_word, hg.1, hi, hg.2.1]
    rw [hall, if_pos (by simp [wordsN]), if_pos rfl]
    simp [wordsN, flat, word_nat]
theorem relR_ok (big w a : Bool) (off sym ty add : Int) (h2 : u64P sym) (h3 : u64P ty) : (relR big w a off sym ty add).2 = goodR w a off sym ty add := by
  by_cases h : goodR w a off sym ty add = true
  · rw [relR_good big w a off sym ty add h2 h3 h, h]
  · have h' : goodR w a off sym ty add = false := Bool.eq_false_iff.2 h
    unfold relR
    rw [h']
    rfl
theorem putW_len (big w : Bool) (x : Int) : (putL big x (wordN w)).length = wordN w := by
  have := wordN_le w
  rw [putL_length, if_pos (by omega)]
  simp
theorem getW (big w : Bool) (x : Int) (h0 : 0 ≤ x) (h : x < 256 ^ wordN w) : getL big (putL big x (wordN w)) = x := by
  have := wordN_le w
  exact getL_putL_fit big x _ (by omega) (by omega) h0 (by simpa using h)
theorem split_info (w : Bool) (sym ty : Int) (h3 : 0 ≤ ty) (ht : ty < typeP w) : (sym * typeP w + ty) / typeP w = sym ∧ (sym * typeP w + ty) % typeP w = ty := by
  have tp := typeP_pos w
  constructor
  · rw [Int.add_comm, Int.add_mul_ediv_right _ _ (by omega), Int.ediv_eq_zero_of_lt h3 ht]
    omega
  · rw [Int.add_comm, Int.add_mul_emod_self_right, Int.emod_eq_of_lt h3 ht]
theorem relOf_put (big w a : Bool) (off sym ty add : Int) (h1 : u64P off) (h2 : u64P sym) (h3 : u64P ty) (h4 : u64P add) (h : goodR w a off sym ty add = true) (rest : List UInt8) :
    relOf big w a ((putL big off (wordN w) ++ (putL big (sym * typeP w + ty) (wordN w) ++ (if a = true then putL big add (wordN w) else []))) ++ rest) = (off, sym, ty, add) := by
  have hg := (good_iff w a off sym ty add).1 h
  have hi := info_lt w sym ty h2 h3 hg.2.2.2.1 hg.2.2.1
  have hp := typeP_pos w
  have hi0 : 0 ≤ sym * typeP w + ty := Int.add_nonneg (Int.mul_nonneg h2.1 (by omega)) h3.1
  have l1 := putW_len big w off
  have l2 := putW_len big w (sym * typeP w + ty)
  have l3 := putW_len big w add
  have e1 : numAt big ((putL big off (wordN w) ++ (putL big (sym * typeP w + ty) (wordN w) ++ (if a = true then putL big add (wordN w) else []))) ++ rest) 0 (wordN w) = off := by
    have := numAt_app big [] (putL big off (wordN w)) ((putL big (sym * typeP w + ty) (wordN w) ++ (if a = true then putL big add (wordN w) else [])) ++ rest) (wordN w) l1
    rw [List.nil_append, ← List.append_assoc, getW big w off h1.1 hg.1] at this
    exact this
  have e2 : numAt big ((putL big off (wordN w) ++ (putL big (sym * typeP w + ty) (wordN w) ++ (if a = true then putL big add (wordN w) else []))) ++ rest) (wordN w) (wordN w) = sym * typeP w + ty := by
    have := numAt_app big (putL big off (wordN w)) (putL big (sym * typeP w + ty) (wordN w)) ((if a = true then putL big add (wordN w) else []) ++ rest) (wordN w) l2
    rw [l1, getW big w _ hi0 hi] at this
    rw [List.append_assoc, List.append_assoc]
    exact this
  have hs := split_info w sym ty h3.1 hg.2.2.1
  unfold relOf
  rw [e1, e2, hs.1, hs.2]
  cases a
  · have h0 : add = 0 := by simpa using hg.2.2.2.2
    rw [h0]
    rfl
  · rw [if_pos rfl]
    have e3 : numAt big ((putL big off (wordN w) ++ (putL big (sym * typeP w + ty) (wordN w) ++ (if true = true then putL big add (wordN w) else []))) ++ rest) (2 * wordN w) (wordN w) = add := by
      have := numAt_app big (putL big off (wordN w) ++ putL big (sym * typeP w + ty) (wordN w)) (putL big add (wordN w)) rest (wordN w) l3
      rw [List.length_append, l1, l2, getW big w add h4.1 hg.2.1] at this
      rw [if_pos rfl, List.append_assoc, List.append_assoc, Nat.two_mul]
      rw [List.append_assoc] at this
      exact this
    rw [e3]
theorem relOf_good (big w a : Bool) (l : List UInt8) (h : wordsN a * wordN w ≤ l.length) :
    goodR w a (relOf big w a l).1 (relOf big w a l).2.1 (relOf big w a l).2.2.1 (relOf big w a l).2.2.2 = true ∧ u64P (relOf big w a l).1 ∧ u64P (relOf big w a l).2.1 ∧ u64P (relOf big w a l).2.2.1 ∧ u64P (relOf big w a l).2.2.2 ∧
    (putL big (relOf big w a l).1 (wordN w) ++ (putL big ((relOf big w a l).2.1 * typeP w + (relOf big w a l).2.2.1) (wordN w) ++ (if a = true then putL big (relOf big w a l).2.2.2 (wordN w) else []))) = l.take (wordsN a * wordN w) := by
  have hw := wordN_le w
  have hwa : wordsN a ≥ 2 := by unfold wordsN; split <;> omega
  have hww : 2 * wordN w ≤ wordsN a * wordN w := Nat.mul_le_mul_right _ hwa
  have tp := typeP_pos w
  have r1 := numAt_range big l 0 (wordN w)
  have r2 := numAt_range big l (wordN w) (wordN w)
  have r3 := numAt_range big l (2 * wordN w) (wordN w)
  have b1 := numAt_lt big l 0 (wordN w) (by omega) (by omega)
  have b2 := numAt_lt big l (wordN w) (wordN w) (by omega) (by omega)
  have p1 := put_numAt big l 0 (wordN w) (by omega) (by omega) (by omega)
  have p2 := put_numAt big l (wordN w) (wordN w) (by omega) (by omega) (by omega)
  have hq : numAt big l (wordN w) (wordN w) / typeP w < symQ w := by
    rw [pow_word] at b2
    unfold typeP symQ
    cases w <;> simp at * <;> omega
  have hm := Int.emod_lt_of_pos (numAt big l (wordN w) (wordN w)) tp
  have hm0 := Int.emod_nonneg (numAt big l (wordN w) (wordN w)) (show typeP w ≠ 0 by omega)
  have hd0 := Int.ediv_nonneg r2.1 (show 0 ≤ typeP w by omega)
  have hdm := Int.mul_ediv_add_emod (numAt big l (wordN w) (wordN w)) (typeP w)
  have hinfo : numAt big l (wordN w) (wordN w) / typeP w * typeP w + numAt big l (wordN w) (wordN w) % typeP w = numAt big l (wordN w) (wordN w) := by rw [Int.mul_comm]; exact hdm
  have hsq : symQ w ≤ 18446744073709551616 ∧ typeP w ≤ 18446744073709551616 := by unfold symQ typeP; cases w <;> decide
  have t2 : (l.drop 0).take (wordN w) ++ (l.drop (wordN w)).take (wordN w) = l.take (2 * wordN w) := by
    rw [List.drop_zero, Nat.two_mul, List.take_add]
  cases a
  · have hgood : goodR w false (numAt big l 0 (wordN w)) (numAt big l (wordN w) (wordN w) / typeP w) (numAt big l (wordN w) (wordN w) % typeP w) 0 = true :=
      (good_iff _ _ _ _ _ _).2 ⟨b1, by rw [pow_word]; split <;> decide, hm, hq, .inr rfl⟩
    refine ⟨hgood, r1, ⟨hd0, by show numAt big l (wordN w) (wordN w) / typeP w < _; omega⟩, ⟨hm0, by show numAt big l (wordN w) (wordN w) % typeP w < _; omega⟩, (show u64P 0 from ⟨by decide, by decide⟩), ?_⟩
    show putL big (numAt big l 0 (wordN w)) (wordN w) ++ (putL big (numAt big l (wordN w) (wordN w) / typeP w * typeP w + numAt big l (wordN w) (wordN w) % typeP w) (wordN w) ++ []) = _
    rw [hinfo, p1, p2, List.append_nil, t2]
    rfl
  · have h3 : 3 * wordN w ≤ l.length := h
    have b3 := numAt_lt big l (2 * wordN w) (wordN w) (by omega) (by omega)
    have p3 := put_numAt big l (2 * wordN w) (wordN w) (by omega) (by omega) (by omega)
    have hgood : goodR w true (numAt big l 0 (wordN w)) (numAt big l (wordN w) (wordN w) / typeP w) (numAt big l (wordN w) (wordN w) % typeP w) (numAt big l (2 * wordN w) (wordN w)) = true :=
      (good_iff _ _ _ _ _ _).2 ⟨b1, b3, hm, hq, .inl rfl⟩
    refine ⟨hgood, r1, ⟨hd0, by show numAt big l (wordN w) (wordN w) / typeP w < _; omega⟩, ⟨hm0, by show numAt big l (wordN w) (wordN w) % typeP w < _; omega⟩, r3, ?_⟩
    show putL big (numAt big l 0 (wordN w)) (wordN w) ++ (putL big (numAt big l (wordN w) (wordN w) / typeP w * typeP w + numAt big l (wordN w) (wordN w) % typeP w) (wordN w) ++ putL big (numAt big l (2 * wordN w) (wordN w)) (wordN w)) = _
    rw [hinfo, p1, p2, p3, ← List.append_assoc, t2, ← List.take_add]
    congr 1
    show 2 * wordN w + wordN w = 3 * wordN w
    omega
end Go.Proofs.Ytjmjebbjfjgbeaa.Q
