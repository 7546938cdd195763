/- What records of numbers come to: the program's and the document's: plain facts on the printed functions; no Go, no memory. -/
import Derived.Test.YtjmjebbjfjgbeaaOrd
import Derived.Test.YtjmjebbjfjgbeaaQ3
import Derived.Test.YtjmjebbjfjgbeaaQ5
import Derived.Test.YtjmjebbjfjgbeaaQ9
namespace Go.Proofs.Ytjmjebbjfjgbeaa.Q
open Go.RowKit Go.Proofs.YtjmjebbjfjgbeaaW.PrintWords Go.Proofs.YtjmjebbjfjgbeaaW.PrintMore Go.Proofs.Ytjmjebbjfjgbeaa.Mth
set_option linter.unusedVariables false
set_option linter.unusedSimpArgs false

def word (w : Bool) : Int := if w = true then 8 else 4
def full (w : Bool) (l : List Int) : List Int := l.map fun n => if n = 0 then word w else n
def sumW (s : Int) (l : List Int) : Int := l.foldl (fun s n => wrap64 (s + n)) s
/-- A number that has a place in so many bytes. -/
def okF (x n : Int) : Bool := decide (1 ≤ n) && decide (n ≤ 8) && decide (x < 256 ^ n.toNat)
def flat (big : Bool) (sizes l : List Int) : List UInt8 := (List.zipWith (fun n x => putL big x n) sizes l).flatten
def allF (sizes l : List Int) : Bool := (List.zipWith (fun n x => okF x n) sizes l).all id
def recR (big w : Bool) (sizes l : List Int) : ByteArray × Bool :=
  if sizes.length = l.length then (if allF (full w sizes) l = true then (⟨(flat big (full w sizes) l).toArray⟩, true) else (⟨#[]⟩, false)) else (⟨#[]⟩, false)
theorem full_length (w : Bool) (l : List Int) : (full w l).length = l.length := by simp [full]
theorem rd_at (pre : List Int) (x : Int) (rest : List Int) : rd (pre ++ x :: rest) (pre.length : Int) = x := by
  unfold rd
  simp [List.getD_eq_getElem?_getD]
theorem word_is (b w : Bool) : class_Form_Word.f b w = some (word w) := by
  unfold class_Form_Word.f word
  split <;> rfl
theorem step_at (pre : List Int) (x : Int) (h : pre.length < 9223372036854775807) : wrap64 ((pre.length : Int) + 1) = ((pre ++ [x]).length : Int) := by
  rw [wrap64_id (by omega) (by omega)]
  simp
theorem sizes_loop (b w : Bool) (L : List Int) (hL : L.length < 17592186044416) : ∀ (rest pre : List Int), L = pre ++ rest → ∀ (acc : List Int) (s : Int), acc.length = pre.length →
    Ev (fun k => class_Form_Sizes.l0 k acc s L (L.length : Int) (pre.length : Int) b w) (acc ++ full w rest, sumW s (full w rest)) := by
  intro rest
  induction rest with
  | nil =>
    intro pre h acc s ha
    refine Ev.step (class_Form_Sizes.l0.eq_2 _ _ _ _ _ _ _) (ev_neg (by rw [h]; simp) (ev_now ?_))
    simp [full, sumW]
  | cons x rest ih =>
    intro pre h acc s ha
    have hlen : pre.length < L.length := by rw [h]; simp
    have h' : L = (pre ++ [x]) ++ rest := by rw [h]; simp
    refine Ev.step (class_Form_Sizes.l0.eq_2 _ _ _ _ _ _ _) (ev_pos (by omega) (ev_pos (by omega) (ev_pos (by omega) ?_)))
    have hx : rd L (pre.length : Int) = x := by rw [h]; exact rd_at pre x rest
    rw [hx, step_at pre x (by omega)]
    by_cases h0 : x = 0
    · refine ev_pos h0 (ev_const (word_is b w) (ev_pos (by omega) ?_))
      have := ih (pre ++ [x]) h' (acc ++ [word w]) (wrap64 (s + word w)) (by simp [ha])
      have e : full w (x :: rest) = word w :: full w rest := by simp [full, h0]
      rw [e]
      simpa [sumW] using this
    · refine ev_neg h0 (ev_pos (by omega) ?_)
      have := ih (pre ++ [x]) h' (acc ++ [x]) (wrap64 (s + x)) (by simp [ha])
      have e : full w (x :: rest) = x :: full w rest := by simp [full, h0]
      rw [e]
      simpa [sumW] using this
theorem sizes_ev (b w : Bool) (l : List Int) (hl : l.length < 17592186044416) : Ev (fun k => class_Form_Sizes.f k b w l) (full w l, sumW 0 (full w l)) := by
  refine Ev.congr (fun k => class_Form_Sizes.f.eq_1 k b w l) ?_
  have := sizes_loop b w l hl l [] rfl [] 0 rfl
  simpa using this
theorem pow8 (x : Int) (n : Nat) (h0 : 0 ≤ x) (hx : x < 18446744073709551616) (h : 8 ≤ n) : x < 256 ^ n := by
  have h1 : (256 : Int) ^ 8 ≤ 256 ^ n := by
    have := Nat.pow_le_pow_right (show 0 < 256 by omega) h
    have e : ∀ m : Nat, (256 : Int) ^ m = ((256 ^ m : Nat) : Int) := fun m => by rw [Int.natCast_pow]; rfl
    rw [e, e]; omega
  have h2 : (256 : Int) ^ 8 = 18446744073709551616 := by decide
  omega
theorem shr_zero (x : Int) (n : Nat) (h0 : 0 ≤ x) (hn : n < 8) : (shr .u64 x (8 * (n : Int)) == 0) = decide (x < 256 ^ n) := by
  rw [shr_u64 x n (by omega)]
  have hp : (0 : Int) < 256 ^ n := Int.pow_pos (by omega)
  rw [Bool.eq_iff_iff, beq_iff_eq, decide_eq_true_iff]
  constructor
  · intro h
    have h1 := Int.mul_ediv_add_emod x (256 ^ n)
    have h2 := Int.emod_lt_of_pos x hp
    rw [h, Int.mul_zero] at h1
    omega
  · intro h
    exact Int.ediv_eq_zero_of_lt h0 h
theorem fits_is (x n : Int) (h0 : 0 ≤ x) (hx : x < 18446744073709551616) (hn : 0 ≤ n) : class_fits.f x n = some (decide (x < 256 ^ n.toNat)) := by
  obtain ⟨m, rfl⟩ := Int.eq_ofNat_of_zero_le hn
  unfold class_fits.f
  by_cases h8 : (m : Int) ≥ 8
  · rw [if_pos h8, Int.toNat_natCast, decide_eq_true (pow8 x m h0 hx (by omega))]
  · rw [if_neg h8, wrap64_id (by omega) (by omega), if_pos (by omega), shr_zero x m h0 (by omega), Int.toNat_natCast]
/-- All numbers are whole numbers of 64 bits. -/
def U64 (l : List Int) : Prop := ∀ x ∈ l, 0 ≤ x ∧ x < 18446744073709551616
theorem U64.of_wf {l : List Int} (h : ∀ x ∈ l, (Lit.int .u64 x).wf = true) : U64 l := fun x hx => wf_u64 (h x hx)
theorem U64.take {l : List Int} (h : U64 l) (n : Nat) : U64 (l.take n) := fun x hx => h x (List.mem_of_mem_take hx)
theorem put_app (big : Bool) (s : ByteArray) (x n : Int) : (s ++ putS big x n).data.toList = s.data.toList ++ putL big x n := by
  rw [append_data, putS_list]
theorem fields_loop (big : Bool) (A L : List Int) (hA : A.length < 17592186044416) (hu : U64 L) (hl : A.length = L.length) : ∀ (ra rl pa pl : List Int), A = pa ++ ra → L = pl ++ rl → pa.length = pl.length → ∀ (s : ByteArray), s.size ≤ 8 * pa.length →
    Ev (fun k => order_Order_Fields.l0 k big A L s (pa.length : Int)) ⟨(s.data.toList ++ flat big ra rl).toArray⟩ := by
  intro ra
  induction ra with
  | nil =>
    intro rl pa pl h h2 hp s hs
    have hrl : rl = [] := by
      have e1 := congrArg List.length h
      have e2 := congrArg List.length h2
      simp at e1 e2
      exact List.eq_nil_of_length_eq_zero (by omega)
    refine Ev.step (fun k => order_Order_Fields.l0.eq_2 _ _ _ _ _ _) (ev_neg (by rw [mn_eq, h, h2]; simp; omega) (ev_now ?_))
    apply ba_ext
    rw [mk_list, hrl]
    simp [flat]
  | cons n ra ih =>
    intro rl pa pl h h2 hp s hs
    cases rl with
    | nil =>
      have e1 := congrArg List.length h
      have e2 := congrArg List.length h2
      simp at e1 e2
      omega
    | cons x rl =>
      have hx := hu x (by rw [h2]; simp)
      have hlenA : pa.length < A.length := by rw [h]; simp
      have hlenL : pa.length < L.length := by omega
      refine Ev.step (fun k => order_Order_Fields.l0.eq_2 _ _ _ _ _ _) (ev_pos (by rw [mn_eq]; omega) ?_)
      have e1 : rd A (pa.length : Int) = n := by rw [h]; exact rd_at pa n ra
      have e2 : rd L (pa.length : Int) = x := by rw [hp, h2]; exact rd_at pl x rl
      rw [e1, e2]
      refine Ev.bind (put_ev big x n hx.1) ?_
      have hsz := putS_size_le big x n
      refine ev_pos (by omega) ?_
      have := ih rl (pa ++ [n]) (pl ++ [x]) (by rw [h]; simp) (by rw [h2]; simp) (by simp [hp]) (s ++ putS big x n) (by rw [ByteArray.size_append]; simp; omega)
      have e3 : (((pa ++ [n]).length : Nat) : Int) = (pa.length : Int) + 1 := by simp
      rw [e3, put_app] at this
      have e4 : flat big (n :: ra) (x :: rl) = putL big x n ++ flat big ra rl := by simp [flat]
      rw [e4, ← List.append_assoc]
      exact this
theorem fields_ev (big : Bool) (A L : List Int) (hA : A.length < 17592186044416) (hu : U64 L) (hl : A.length = L.length) : Ev (fun k => order_Order_Fields.f k big A L) ⟨(flat big A L).toArray⟩ := by
  refine Ev.congr (fun k => order_Order_Fields.f.eq_1 k big A L) ?_
  have := fields_loop big A L hA hu hl A L [] [] rfl rfl rfl ⟨#[]⟩ (by simp [ByteArray.size])
  simpa using this
/-- The sizes of a record, none of them 0. -/
def NZ (A : List Int) : Prop := ∀ n ∈ A, n ≠ 0
theorem full_nz (w : Bool) (l : List Int) : NZ (full w l) := by
  intro n hn
  unfold full at hn
  obtain ⟨m, _, rfl⟩ := List.mem_map.1 hn
  split
  · unfold word; split <;> decide
  · assumption
theorem record_loop (big w : Bool) (A L : List Int) (hA : A.length < 17592186044416) (hu : U64 L) (hnz : NZ A) (hl : A.length = L.length) : ∀ (ra rl pa pl : List Int), A = pa ++ ra → L = pl ++ rl → pa.length = pl.length →
    Ev (fun k => class_Form_Record.l0 k L A A (A.length : Int) (pa.length : Int) big w) (if allF ra rl = true then (⟨(flat big A L).toArray⟩, true) else (⟨#[]⟩, false)) := by
  intro ra
  induction ra with
  | nil =>
    intro rl pa pl h h2 hp
    refine Ev.step (fun k => class_Form_Record.l0.eq_2 _ _ _ _ _ _ _ _) (ev_neg (by rw [h]; simp) ?_)
    refine Ev.bind (fields_ev big A L hA hu hl) (ev_now ?_)
    simp [allF]
  | cons n ra ih =>
    intro rl pa pl h h2 hp
    cases rl with
    | nil =>
      have e1 := congrArg List.length h
      have e2 := congrArg List.length h2
      simp at e1 e2
      omega
    | cons x rl =>
      have hx := hu x (by rw [h2]; simp)
      have hn0 := hnz n (by rw [h]; simp)
      have hlenA : pa.length < A.length := by rw [h]; simp
      have e1 : rd A (pa.length : Int) = n := by rw [h]; exact rd_at pa n ra
      have e2 : rd L (pa.length : Int) = x := by rw [hp, h2]; exact rd_at pl x rl
      have e4 : allF (n :: ra) (x :: rl) = (okF x n && allF ra rl) := by simp [allF]
      refine Ev.step (fun k => class_Form_Record.l0.eq_2 _ _ _ _ _ _ _ _) (ev_pos (by omega) (ev_pos (by omega) (ev_pos (by omega) ?_)))
      rw [e1, e4]
      by_cases hneg : n < 0
      · have : okF x n = false := by unfold okF; rw [decide_eq_false (by omega)]; rfl
        rw [this]
        exact ev_pos hneg (ev_now (by simp))
      · refine ev_neg hneg ?_
        by_cases h8 : n > 8
        · have : okF x n = false := by unfold okF; rw [decide_eq_false (show ¬ n ≤ 8 by omega)]; simp
          rw [this]
          exact ev_pos h8 (ev_now (by simp))
        · refine ev_neg h8 (ev_pos (by omega) ?_)
          rw [e2]
          refine ev_const (fits_is x n hx.1 hx.2 (by omega)) ?_
          have hok : okF x n = decide (x < 256 ^ n.toNat) := by
            unfold okF
            rw [decide_eq_true (show 1 ≤ n by omega), decide_eq_true (show n ≤ 8 by omega)]
            simp
          rw [hok]
          by_cases hf : x < 256 ^ n.toNat
          · rw [decide_eq_true hf]
            refine ev_pos rfl ?_
            have := ih rl (pa ++ [n]) (pl ++ [x]) (by rw [h]; simp) (by rw [h2]; simp) (by simp [hp])
            rw [step_at pa n (by omega)]
            simpa using this
          · rw [decide_eq_false hf]
            exact ev_neg (by decide) (ev_now (by simp))
theorem record_ev (big w : Bool) (sizes l : List Int) (hA : sizes.length < 17592186044416) (hu : U64 l) : Ev (fun k => class_Form_Record.f k big w sizes l) (recR big w sizes l) := by
  refine Ev.congr (fun k => class_Form_Record.f.eq_1 k big w sizes l) ?_
  unfold recR
  by_cases hl : sizes.length = l.length
  · rw [if_pos hl]
    refine ev_pos (by omega) (Ev.bind (sizes_ev big w sizes hA) ?_)
    exact record_loop big w (full w sizes) l (by rw [full_length]; exact hA) hu (full_nz w sizes) (by rw [full_length]; exact hl) (full w sizes) l [] [] rfl rfl rfl
  · rw [if_neg hl]
    exact ev_neg (by omega) (Ev.now _)
theorem okF_get (big : Bool) (x n : Int) (h0 : 0 ≤ x) (h1 : 1 ≤ n) (h8 : n ≤ 8) : (getL big (putL big x n) = x) ↔ okF x n = true := by
  rw [getL_putL big x n h1 h8 h0]
  unfold okF
  rw [decide_eq_true h1, decide_eq_true h8]
  simp only [Bool.true_and, decide_eq_true_iff]
  have hp : (0 : Int) < 256 ^ n.toNat := Int.pow_pos (by omega)
  constructor
  · intro h
    have := Int.emod_lt_of_pos x hp
    omega
  · intro h
    exact Int.emod_eq_of_lt h0 h
theorem refRecord_loop (w big : Bool) (A L : List Int) (hA : A.length < 17592186044416) (hu : U64 L) (hl : A.length = L.length) : ∀ (ra rl pa pl : List Int), A = pa ++ ra → L = pl ++ rl → pa.length = pl.length → ∀ (s : ByteArray), s.size ≤ 8 * pa.length →
    Ev (fun k => graverref04_Record.l0 k w big A L s (pa.length : Int)) (if allF (full w ra) rl = true then (⟨(s.data.toList ++ flat big (full w ra) rl).toArray⟩, true) else (⟨#[]⟩, false)) := by
  intro ra
  induction ra with
  | nil =>
    intro rl pa pl h h2 hp s hs
    have hrl : rl = [] := by
      have e1 := congrArg List.length h
      have e2 := congrArg List.length h2
      simp at e1 e2
      exact List.eq_nil_of_length_eq_zero (by omega)
    refine Ev.step (fun k => graverref04_Record.l0.eq_2 _ _ _ _ _ _ _) (ev_neg (by rw [h2, hrl, hp]; simp) (ev_now ?_))
    rw [hrl, if_pos (by rfl)]
    congr 1
    apply ba_ext
    rw [mk_list]
    simp [flat, full]
  | cons n ra ih =>
    intro rl pa pl h h2 hp s hs
    cases rl with
    | nil =>
      have e1 := congrArg List.length h
      have e2 := congrArg List.length h2
      simp at e1 e2
      omega
    | cons x rl =>
      have hx := hu x (by rw [h2]; simp)
      have hlenA : pa.length < A.length := by rw [h]; simp
      have hlenL : pa.length < L.length := by omega
      have e1 : rd A (pa.length : Int) = n := by rw [h]; exact rd_at pa n ra
      have e2 : rd L (pa.length : Int) = x := by rw [hp, h2]; exact rd_at pl x rl
      obtain ⟨m, hm⟩ : ∃ m, (if n = 0 then word w else n) = m := ⟨_, rfl⟩
      have hm0 : m ≠ 0 := by
        rw [← hm]
        split
        · unfold word; split <;> decide
        · assumption
      have e4 : allF (full w (n :: ra)) (x :: rl) = (okF x m && allF (full w ra) rl) := by simp [allF, full, hm]
      have e5 : flat big (full w (n :: ra)) (x :: rl) = putL big x m ++ flat big (full w ra) rl := by simp [flat, full, hm]
      have last : Ev (fun k => graverref04_Record.j3 k w big A L s (pa.length : Int) m) (if allF (full w (n :: ra)) (x :: rl) = true then (⟨(s.data.toList ++ flat big (full w (n :: ra)) (x :: rl)).toArray⟩, true) else (⟨#[]⟩, false)) := by
        refine Ev.step (fun k => graverref04_Record.j3.eq_2 _ _ _ _ _ _ _ _) (ev_pos (by omega) (ev_pos (by omega) ?_))
        rw [e2, e4, e5]
        refine Ev.bind (refPut_ev big x m hx.1 hx.2) ?_
        by_cases hr : 1 ≤ m ∧ m ≤ 8
        · have hlen := putL_length big x m
          rw [if_pos hr] at hlen
          refine ev_neg (by rw [toList_data, putS_list]; intro e; rw [e] at hlen; simp at hlen; omega) (Ev.bind (refGet_ev big _) ?_)
          have hgp : getS big (putS big x m) = getL big (putL big x m) := rfl
          rw [hgp]
          have hokg := okF_get big x m hx.1 hr.1 hr.2
          by_cases hf : getL big (putL big x m) = x
          · rw [hokg.1 hf]
            have hsz := putS_size_le big x m
            refine ev_pos hf (ev_pos (by omega) ?_)
            have := ih rl (pa ++ [n]) (pl ++ [x]) (by rw [h]; simp) (by rw [h2]; simp) (by simp [hp]) (s ++ putS big x m) (by rw [ByteArray.size_append]; simp; omega)
            rw [step_at pa n (by omega)]
            rw [put_app] at this
            simpa using this
          · have : okF x m = false := by
              cases hok : okF x m
              · rfl
              · exact absurd (hokg.2 hok) hf
            rw [this]
            exact ev_neg hf (ev_now (by simp))
        · have hlen : putL big x m = [] := by unfold putL; rw [if_neg hr]
          have hok : okF x m = false := by
            unfold okF
            by_cases h1 : 1 ≤ m
            · rw [decide_eq_true h1, decide_eq_false (show ¬ m ≤ 8 by omega)]; rfl
            · rw [decide_eq_false h1]; rfl
          rw [hok]
          exact ev_pos (by rw [toList_data, putS_list, hlen]) (ev_now (by simp))
      have mid : ∀ n', (if n' = 0 then 4 else n') = m → Ev (fun k => graverref04_Record.j2 k w big A L s (pa.length : Int) n') (if allF (full w (n :: ra)) (x :: rl) = true then (⟨(s.data.toList ++ flat big (full w (n :: ra)) (x :: rl)).toArray⟩, true) else (⟨#[]⟩, false)) := by
        intro n' hn'
        refine Ev.step (fun k => graverref04_Record.j2.eq_2 _ _ _ _ _ _ _ _) ?_
        by_cases h0 : n' = 0
        · rw [if_pos h0] at hn'
          refine ev_pos h0 ?_
          rw [hn']; exact last
        · rw [if_neg h0] at hn'
          refine ev_neg h0 ?_
          rw [hn']; exact last
      refine Ev.step (fun k => graverref04_Record.l0.eq_2 _ _ _ _ _ _ _) (ev_pos (by omega) (ev_pos (by omega) (ev_pos (by omega) ?_)))
      rw [e1]
      by_cases h0 : n = 0
      · refine ev_pos h0 (Ev.step (fun k => graverref04_Record.j1.eq_2 _ _ _ _ _ _ _ _ _) ?_)
        rw [if_pos h0] at hm
        cases w
        · exact ev_neg (by decide) (mid n (by rw [if_pos h0]; exact hm))
        · exact ev_pos rfl (mid 8 (by simpa [word] using hm))
      · refine ev_neg h0 (Ev.step (fun k => graverref04_Record.j1.eq_2 _ _ _ _ _ _ _ _ _) (ev_neg (by decide) (mid n ?_)))
        rw [if_neg h0] at hm ⊢
        exact hm
theorem refRecord_ev (w big : Bool) (sizes l : List Int) (hA : sizes.length < 17592186044416) (hu : U64 l) : Ev (fun k => graverref04_Record.f k w big sizes l) (recR big w sizes l) := by
  refine Ev.congr (fun k => graverref04_Record.f.eq_1 k w big sizes l) ?_
  unfold recR
  by_cases hl : sizes.length = l.length
  · rw [if_pos hl]
    refine ev_pos (by omega) ?_
    have := refRecord_loop w big sizes l hA hu hl sizes l [] [] rfl rfl rfl ⟨#[]⟩ (by simp [ByteArray.size])
    simpa using this
  · rw [if_neg hl]
    exact ev_neg (by omega) (Ev.now _)
theorem formFits_loop (b w : Bool) (L : List Int) (hL : L.length < 17592186044416) (hu : U64 L) : ∀ (rest pre : List Int), L = pre ++ rest →
    Ev (fun k => class_Form_Fits.l0 k L (L.length : Int) (pre.length : Int) b w) (rest.all fun x => decide (x < 256 ^ (word w).toNat)) := by
  intro rest
  induction rest with
  | nil =>
    intro pre h
    exact Ev.step (fun k => class_Form_Fits.l0.eq_2 _ _ _ _ _ _) (ev_neg (by rw [h]; simp) (ev_now (by simp)))
  | cons x rest ih =>
    intro pre h
    have hx := hu x (by rw [h]; simp)
    have hlen : pre.length < L.length := by rw [h]; simp
    have e1 : rd L (pre.length : Int) = x := by rw [h]; exact rd_at pre x rest
    refine Ev.step (fun k => class_Form_Fits.l0.eq_2 _ _ _ _ _ _) (ev_pos (by omega) (ev_pos (by omega) (ev_pos (by omega) (ev_const (word_is b w) ?_))))
    rw [e1]
    refine ev_const (fits_is x (word w) hx.1 hx.2 (by unfold word; split <;> decide)) ?_
    rw [List.all_cons]
    by_cases hf : x < 256 ^ (word w).toNat
    · rw [decide_eq_true hf, Bool.true_and]
      refine ev_pos rfl ?_
      have := ih (pre ++ [x]) (by rw [h]; simp)
      rw [step_at pre x (by omega)]
      exact this
    · rw [decide_eq_false hf, Bool.false_and]
      exact ev_neg (by decide) (Ev.now _)
theorem formFits_ev (b w : Bool) (l : List Int) (hl : l.length < 17592186044416) (hu : U64 l) : Ev (fun k => class_Form_Fits.f k b w l) (l.all fun x => decide (x < 256 ^ (word w).toNat)) :=
  Ev.congr (fun k => class_Form_Fits.f.eq_1 k b w l) (formFits_loop b w l hl hu l [] rfl)
theorem flat_length (big : Bool) : ∀ (A L : List Int), allF A L = true → A.length = L.length → (((flat big A L).length : Nat) : Int) = A.sum
  | [], L, _, h => by
    have : L = [] := List.eq_nil_of_length_eq_zero (by simpa using h.symm)
    simp [flat]
  | n :: A, [], _, h => by simp at h
  | n :: A, x :: L, ha, h => by
    have e4 : allF (n :: A) (x :: L) = (okF x n && allF A L) := by simp [allF]
    rw [e4, Bool.and_eq_true] at ha
    have e5 : flat big (n :: A) (x :: L) = putL big x n ++ flat big A L := by simp [flat]
    have hok := ha.1
    unfold okF at hok
    simp only [Bool.and_eq_true, decide_eq_true_iff] at hok
    have hlen := putL_length big x n
    rw [if_pos hok.1] at hlen
    have ih := flat_length big A L ha.2 (by simpa using h)
    rw [e5, List.length_append, List.sum_cons, hlen]
    omega
theorem sumW_is : ∀ (l : List Int) (s : Int), -1000 ≤ s → (∀ x ∈ l, 0 ≤ x ∧ x ≤ 8) → s + 8 * l.length ≤ 9223372036854775000 → sumW s l = s + l.sum
  | [], s, _, _, _ => by simp [sumW]
  | x :: l, s, hs, h, hb => by
    have hx := h x (by simp)
    simp only [List.length_cons] at hb
    have e : sumW s (x :: l) = sumW (wrap64 (s + x)) l := rfl
    rw [e, wrap64_id (by omega) (by omega), sumW_is l (s + x) (by omega) (fun y hy => h y (by simp [hy])) (by omega), List.sum_cons]
    omega
theorem allF_range : ∀ (A L : List Int), allF A L = true → A.length = L.length → ∀ x ∈ A, 0 ≤ x ∧ x ≤ 8
  | [], L, _, _ => by simp
  | n :: A, [], _, h => by simp at h
  | n :: A, x :: L, ha, h => by
    have e4 : allF (n :: A) (x :: L) = (okF x n && allF A L) := by simp [allF]
    rw [e4, Bool.and_eq_true] at ha
    have hok := ha.1
    unfold okF at hok
    simp only [Bool.and_eq_true, decide_eq_true_iff] at hok
    have ih := allF_range A L ha.2 (by simpa using h)
    intro y hy
    rcases List.mem_cons.1 hy with rfl | hy
    · omega
    · exact ih y hy
end Go.Proofs.Ytjmjebbjfjgbeaa.Q
