/- Any numbers as a record of any form are the document's bytes, or don't fit just where the document says so: for every input; no condition. -/
import Derived.Test.YthbkjppaimjpmaaFrm
import Derived.Test.YthbkjppaimjpmaaQ26
import Derived.Test.YthbkjppaimjpmaaQ41
import Derived.Test.YthbkjppaimjpmaaQ42
namespace Go.Proofs.Ythbkjppaimjpmaa.Pure
open Go.RowKit Go.Proofs.Ythbkjppaimjpmaa.Q Go.Proofs.YthbkjppaimjpmaaW.PrintWords Go.Proofs.YthbkjppaimjpmaaW.PrintLast Go.Proofs.YthbkjppaimjpmaaW.PrintMore Go.Proofs.Ythbkjppaimjpmaa.Mth
set_option linter.unusedVariables false
set_option linter.unusedSimpArgs false

def ident04 : ByteArray := ⟨#[127, 69, 76, 70, 2, 1, 1, 3, 0, 97, 98, 99, 100, 101, 102, 103, 32, 109, 111, 114, 101]⟩
theorem read04 : class_Read.f ident04 = some (false, true, 3, 0, ⟨#[97, 98, 99, 100, 101, 102, 103]⟩, 0) := by
  decide +kernel
theorem speaks04 : Ev (fun k => graverlaw04_speaks.f k) true := by
  refine Ev.congr (fun k => graverlaw04_speaks.f.eq_1 k) ?_
  refine ev_const read04 (ev_pos rfl (ev_pos rfl (ev_neg (by decide) (ev_pos rfl (ev_pos (by rw [toList_data]) ?_)))))
  refine ev_const (word_is _ _) (ev_pos (by decide) ?_)
  exact Ev.bind (put_ev false 1 2 (by decide)) (ev_now (by rw [toList_data]; decide))
/-- Does each number fit into a word? -/
def fitsW (w : Bool) (l : List Int) : Bool := l.all fun x => w || decide (x < 4294967296)
theorem fitsW_is (w : Bool) (l : List Int) (hu : U64 l) : (l.all fun x => decide (x < 256 ^ (word w).toNat)) = fitsW w l := by
  unfold fitsW
  rw [Bool.eq_iff_iff, List.all_eq_true, List.all_eq_true]
  constructor
  · intro h x hx
    have := h x hx
    cases w
    · simpa [word] using this
    · rfl
  · intro h x hx
    have := h x hx
    cases w
    · simpa [word] using this
    · have := (hu x hx).2
      simp [word]
      omega
theorem fits_loop (s : ByteArray) (ok : Bool) (sum : Int) (b w : Bool) (L : List Int) (hu : U64 L) (hL : L.length ≤ 100) (hfin : ok = true → (s.size : Int) = sum) : ∀ (rest pre : List Int), L = pre ++ rest →
    Ev (fun k => graverlaw04_FormRecords.l1 k L s ok s ok sum sum (fitsW w pre) (pre.length : Int) b w) true := by
  intro rest
  induction rest with
  | nil =>
    intro pre h
    refine Ev.step (fun k => graverlaw04_FormRecords.l1.eq_2 _ _ _ _ _ _ _ _ _ _ _ _) (ev_neg (by rw [h]; simp) ?_)
    refine ev_pos rfl (ev_pos (by simp) (ev_pos rfl ?_))
    refine Ev.bind (formFits_ev b w L (by omega) hu) ?_
    rw [fitsW_is w L hu]
    have e : pre = L := by rw [h]; simp
    rw [e]
    refine ev_pos (by simp) ?_
    cases ok
    · exact ev_neg (by decide) (Ev.now true)
    · exact ev_pos rfl (ev_now (by rw [hfin rfl]; simp))
  | cons x rest ih =>
    intro pre h
    have hlen : pre.length < L.length := by rw [h]; simp
    have h' : L = (pre ++ [x]) ++ rest := by rw [h]; simp
    have ih' := ih (pre ++ [x]) h'
    have e1 : rd L (pre.length : Int) = x := by rw [h]; exact rd_at pre x rest
    have e2 : fitsW w (pre ++ [x]) = (fitsW w pre && (w || decide (x < 4294967296))) := by simp [fitsW]
    refine Ev.step (fun k => graverlaw04_FormRecords.l1.eq_2 _ _ _ _ _ _ _ _ _ _ _ _) (ev_pos (by omega) ?_)
    rw [step_at pre x (by omega)]
    cases hf : fitsW w pre
    · rw [e2, hf] at ih'
      exact ev_neg (by decide) ih'
    · rw [e2, hf] at ih'
      refine ev_pos rfl ?_
      cases w
      · refine ev_neg (by decide) (ev_pos (by omega) ?_)
        rw [e1]
        simpa using ih'
      · exact ev_pos rfl (by simpa using ih')
theorem sizes_walk (s : ByteArray) (ok b w : Bool) (A L : List Int) (hA : A.length ≤ 100) (hu : U64 L) (hL : L.length ≤ 100) (hfin : ok = true → (s.size : Int) = sumW 0 (full w A)) : ∀ (rest pre : List Int), A = pre ++ rest →
    Ev (fun k => graverlaw04_FormRecords.l0 k A L s ok s ok (full w A) (sumW 0 (full w A)) (sumW 0 (full w pre)) (pre.length : Int) b w) true := by
  intro rest
  induction rest with
  | nil =>
    intro pre h
    have e : pre = A := by rw [h]; simp
    refine Ev.step (fun k => graverlaw04_FormRecords.l0.eq_2 _ _ _ _ _ _ _ _ _ _ _ _ _) (ev_neg (by rw [h]; simp) ?_)
    rw [e]
    exact fits_loop s ok _ b w L hu hL hfin L [] rfl
  | cons x rest ih =>
    intro pre h
    have hlen : pre.length < A.length := by rw [h]; simp
    have h' : A = (pre ++ [x]) ++ rest := by rw [h]; simp
    have ih' := ih (pre ++ [x]) h'
    have e1 : rd A (pre.length : Int) = x := by rw [h]; exact rd_at pre x rest
    have hfl := full_length w A
    have e3 : rd (full w A) (pre.length : Int) = if x = 0 then word w else x := by
      rw [h]
      have : full w (pre ++ x :: rest) = full w pre ++ (if x = 0 then word w else x) :: full w rest := by simp [full]
      rw [this]
      have := rd_at (full w pre) (if x = 0 then word w else x) (full w rest)
      rw [full_length] at this
      exact this
    have e4 : sumW 0 (full w (pre ++ [x])) = wrap64 (sumW 0 (full w pre) + if x = 0 then word w else x) := by simp [full, sumW]
    refine Ev.step (fun k => graverlaw04_FormRecords.l0.eq_2 _ _ _ _ _ _ _ _ _ _ _ _ _) (ev_pos (by omega) (ev_pos (by omega) ?_))
    rw [step_at pre x (by omega), e1, e3]
    rw [e4] at ih'
    by_cases h0 : x = 0
    · rw [if_pos h0] at ih' ⊢
      refine ev_pos h0 (ev_const (word_is b w) (ev_pos (by omega) (ev_pos (by omega) (ev_pos rfl ih'))))
    · rw [if_neg h0] at ih' ⊢
      exact ev_neg h0 (ev_pos (by omega) (ev_pos (by omega) (ev_pos rfl ih')))
theorem rec_sum (big w : Bool) (A L : List Int) (hA : A.length ≤ 100) : (recR big w A L).2 = true → ((recR big w A L).1.size : Int) = sumW 0 (full w A) := by
  unfold recR
  split
  · rename_i hl
    split
    · rename_i ha
      intro _
      have hlen : (full w A).length = L.length := by rw [full_length]; exact hl
      have h1 := flat_length big (full w A) L ha hlen
      have hr := allF_range (full w A) L ha hlen
      have h2 := sumW_is (full w A) 0 (by omega) hr (by rw [full_length]; omega)
      rw [h2, Int.zero_add, ← h1, ba_size]
    · intro h; cases h
  · intro h; cases h
theorem FormRecords : graverlaw04_FormRecords.Pure := by
  intro n A L hn hA1 hA2 hwA hL1 hL2 hwL
  refine Ev.rounds (Ev.congr (fun k => graverlaw04_FormRecords.f.eq_1 k n A L) ?_)
  refine Ev.bind speaks04 (ev_pos rfl ?_)
  refine ev_pos (by rw [mn_eq]; omega) (ev_pos (by rw [mn_eq]; omega) (ev_pos (by rw [mn_eq]; omega) (ev_pos (by rw [mn_eq]; omega) ?_)))
  have hu := U64.take (U64.of_wf hwL) ((mn (L.length : Int) 12) : Int).toNat
  have hlA : (A.take ((mn (A.length : Int) 12) : Int).toNat).length ≤ 100 := by rw [List.length_take, mn_eq]; omega
  have hlL : (L.take ((mn (L.length : Int) 12) : Int).toNat).length ≤ 100 := by rw [List.length_take, mn_eq]; omega
  generalize A.take ((mn (A.length : Int) 12) : Int).toNat = A' at *
  generalize L.take ((mn (L.length : Int) 12) : Int).toNat = L' at *
  generalize ((Go.bits .and .i64 n 1) == 1) = b
  generalize ((Go.bits .and .i64 n 2) == 2) = w
  refine Ev.bind (record_ev b w A' L' (by omega) hu) (Ev.bind (refRecord_ev w b A' L' (by omega) hu) (Ev.bind (sizes_ev b w A' (by omega)) ?_))
  exact sizes_walk (recR b w A' L').1 (recR b w A' L').2 b w A' L' hlA hu hlL (rec_sum b w A' L' hlA) A' [] rfl

end Go.Proofs.Ythbkjppaimjpmaa.Pure
