/- A reader through any acts reads what the document says, goes on where it says, and tells that something wasn't there just where it wasn't: for every input; no condition. -/
import Derived.Test.YthbkjppaimjpmaaSp01
import Derived.Test.YthbkjppaimjpmaaQ3
import Derived.Test.YthbkjppaimjpmaaQ4
import Derived.Test.YthbkjppaimjpmaaQ5
namespace Go.Proofs.Ythbkjppaimjpmaa.Pure
open Go.RowKit Go.Proofs.Ythbkjppaimjpmaa.Q Go.Proofs.YthbkjppaimjpmaaW.PrintWords Go.Proofs.YthbkjppaimjpmaaW.PrintLast Go.Proofs.YthbkjppaimjpmaaW.PrintMore Go.Proofs.Ythbkjppaimjpmaa.Mth
set_option linter.unusedVariables false
set_option linter.unusedSimpArgs false

/-- So many bytes are there from this place on, and nothing was missed before. -/
def there (s : ByteArray) (a n : Int) (bad : Bool) : Prop := bad = false ∧ a + n ≤ (s.size : Int)
theorem bytes_there (big : Bool) (s : ByteArray) (a n : Int) (ha : 0 ≤ a) (hn : 0 ≤ n) (h : a + n ≤ (s.size : Int)) (hs : s.size ≤ 200) :
    order_Reader_Bytes.f big s a false n = some (s.extract a.toNat (a + n).toNat, big, s, a + n, false) := by
  unfold order_Reader_Bytes.f
  rw [if_neg (by decide), wrapu_id (n := (s.size : Int)) (by omega) (by omega), if_neg (by omega), wrapu_id (n := (s.size : Int) - a) (by omega) (by omega), if_neg (by omega), if_pos (by omega), wrapu_id (n := a + n) (by omega) (by omega), if_pos (by omega), if_pos (by omega)]
theorem bytes_not (big : Bool) (s : ByteArray) (a n : Int) (bad : Bool) (ha : 0 ≤ a) (hn : 0 ≤ n) (h : ¬ (bad = false ∧ a + n ≤ (s.size : Int))) (hs : s.size ≤ 200) :
    order_Reader_Bytes.f big s a bad n = some (⟨#[]⟩, big, s, a, true) := by
  unfold order_Reader_Bytes.f
  cases bad with
  | true => rw [if_pos rfl]
  | false =>
    have h' : ¬ a + n ≤ (s.size : Int) := fun e => h ⟨rfl, e⟩
    rw [if_neg (by decide), wrapu_id (n := (s.size : Int)) (by omega) (by omega)]
    by_cases c : a > (s.size : Int)
    · rw [if_pos c]
    · rw [if_neg c, wrapu_id (n := (s.size : Int) - a) (by omega) (by omega), if_pos (by omega)]
theorem next_there (big : Bool) (s : ByteArray) (a n : Int) (ha : 0 ≤ a) (h1 : 1 ≤ n) (h8 : n ≤ 8) (h : a + n ≤ (s.size : Int)) (hs : s.size ≤ 200) :
    Ev (fun k => order_Reader_Next.f k big s a false n) (getS big (s.extract a.toNat (a + n).toNat), big, s, a + n, false) := by
  refine Ev.congr (fun k => order_Reader_Next.f.eq_1 k _ _ _ _ _) ?_
  refine ev_neg (by omega) (ev_neg (by omega) ?_)
  rw [wrapu_id (by omega) (by omega)]
  exact ev_const (bytes_there big s a n ha (by omega) h hs) (Ev.bind (get_ev big _) (ev_now rfl))
theorem next_not (big : Bool) (s : ByteArray) (a n : Int) (bad : Bool) (ha : 0 ≤ a) (hx : n < 9) (h : ¬ (bad = false ∧ 1 ≤ n ∧ n ≤ 8 ∧ a + n ≤ (s.size : Int))) (hs : s.size ≤ 200) :
    Ev (fun k => order_Reader_Next.f k big s a bad n) (0, big, s, a, true) := by
  refine Ev.congr (fun k => order_Reader_Next.f.eq_1 k _ _ _ _ _) ?_
  by_cases c : n < 1
  · exact ev_pos c (ev_now rfl)
  · refine ev_neg c (ev_neg (by omega) ?_)
    rw [wrapu_id (by omega) (by omega)]
    refine ev_const (bytes_not big s a n bad ha (by omega) (fun e => h ⟨e.1, by omega, by omega, e.2⟩) hs) (Ev.bind (get_ev big _) (ev_now ?_))
    have : getS big (⟨#[]⟩ : ByteArray) = 0 := getL_nil big
    rw [this]
theorem reads_end (s : ByteArray) (l : List Int) (a : Int) (bad : Bool) (i : Nat) (big : Bool) (hi : i < 9223372036854775807)
    (ih : Ev (fun k => graverlaw01_OrderReads.l0 k s l a bad ((i + 1 : Nat) : Int) big big s a bad) true) :
    Ev (fun k => graverlaw01_OrderReads.j4 k s l a bad (i : Int) big big s a bad) true := by
  refine Ev.step (graverlaw01_OrderReads.j4.eq_2 _ _ _ _ _ _ _ _ _ _) ?_
  have hw : wrap64 ((i : Int) + 1) = ((i + 1 : Nat) : Int) := by rw [wrap64_id (by omega) (by omega)]; omega
  refine ev_const rfl (ev_pos rfl ?_)
  rw [hw]
  have hbig : ¬ ((big != big) = true) := by simp
  cases bad with
  | true =>
    refine ev_const (x := (3, big, s, a, true)) rfl (ev_neg (show ¬ (((3 : Int) == 3) != true) = true by decide) ?_)
    exact ev_const (x := (3, big, s, a, true)) rfl (ev_neg (show ¬ (3 : Int) = 0 by decide) (ev_pos rfl (ev_neg hbig ih)))
  | false =>
    refine ev_const (x := (0, big, s, a, false)) rfl (ev_neg (show ¬ (((0 : Int) == 3) != false) = true by decide) ?_)
    exact ev_const (x := (0, big, s, a, false)) rfl (ev_pos rfl (ev_neg hbig ih))
theorem reads_loop (s : ByteArray) (l : List Int) (big : Bool) (hs : s.size ≤ 200) (hl : l.length < 9223372036854775807) (hw : ∀ x ∈ l, -9223372036854775808 ≤ x ∧ x < 9223372036854775808) :
    ∀ (d i : Nat) (a : Int) (bad : Bool), i + d = l.length → 0 ≤ a → a < 18446744073709551616 →
    Ev (fun k => graverlaw01_OrderReads.l0 k s l a bad (i : Int) big big s a bad) true := by
  intro d
  induction d with
  | zero =>
    intro i a bad hi h0 h1
    refine Ev.step (graverlaw01_OrderReads.l0.eq_2 _ _ _ _ _ _ _ _ _ _) (ev_neg (by omega) ?_)
    exact Ev.step (graverlaw01_OrderReads.j1.eq_2 _ _ _ _ _ _ _ _ _ _ _) (ev_neg (by decide) (Ev.now _))
  | succ d ih =>
    intro i a bad hi h0 h1
    refine Ev.step (graverlaw01_OrderReads.l0.eq_2 _ _ _ _ _ _ _ _ _ _) (ev_pos (by omega) ?_)
    refine Ev.step (graverlaw01_OrderReads.j1.eq_2 _ _ _ _ _ _ _ _ _ _ _) ?_
    by_cases c40 : (i : Int) < 40
    · refine ev_pos (decide_eq_true c40) (ev_pos (by omega) (ev_pos (by omega) ?_))
      have hx : rd l (i : Int) ∈ l := by
        unfold rd
        have : i < l.length := by omega
        simp only [Int.toNat_natCast]
        rw [List.getD_eq_getElem?_getD, List.getElem?_eq_getElem this]
        exact List.getElem_mem this
      obtain ⟨hx0, hx1⟩ := hw _ hx
      clear hx
      generalize rd l (i : Int) = x at *
      have iht : Ev (fun k => graverlaw01_OrderReads.j4 k s l a true (i : Int) big big s a true) true := reads_end s l a true i big (by omega) (ih (i + 1) a true (by omega) h0 h1)
      by_cases c9 : x < 9
      · refine ev_pos c9 ?_
        by_cases ok : bad = false ∧ 1 ≤ x ∧ x ≤ 8 ∧ a + x ≤ (s.size : Int)
        · obtain ⟨rfl, hx1, hx8, hax⟩ := ok
          refine Ev.bind (next_there big s a x h0 hx1 hx8 hax hs) ?_
          refine ev_neg (by decide) (ev_pos hx1 (ev_pos hx8 ?_))
          rw [wrapu_id (n := (s.size : Int)) (by omega) (by omega)]
          refine ev_pos (by omega) ?_
          rw [wrapu_id (n := x) (by omega) (by omega), wrapu_id (n := (s.size : Int) - a) (by omega) (by omega), decide_eq_true (show x ≤ (s.size : Int) - a by omega)]
          refine Ev.step (graverlaw01_OrderReads.j2.eq_2 _ _ _ _ _ _ _ _ _ _ _ _ _) (ev_pos rfl (ev_pos h0 ?_))
          rw [wrapu_id (n := x) (by omega) (by omega), wrapu_id (n := a + x) (by omega) (by omega)]
          refine ev_pos (by omega) (ev_pos hax (Ev.bind (refGet_ev big _) (ev_neg (by decide) (ev_pos rfl ?_))))
          exact reads_end s l (a + x) false i big (by omega) (ih (i + 1) (a + x) false (by omega) (by omega) (by omega))
        · refine Ev.bind (next_not big s a x bad h0 c9 ok hs) ?_
          have fin : Ev (fun k => graverlaw01_OrderReads.j2 k s l a bad (i : Int) x 0 false big big s a true) true := by
            refine Ev.step (graverlaw01_OrderReads.j2.eq_2 _ _ _ _ _ _ _ _ _ _ _ _ _) (ev_neg (by decide) ?_)
            by_cases cb : bad = true
            · exact ev_pos cb (ev_pos rfl iht)
            · exact ev_neg cb (ev_pos rfl iht)
          by_cases cb : bad = true
          · exact ev_pos cb fin
          · refine ev_neg cb ?_
            by_cases c1 : x ≥ 1
            · refine ev_pos c1 ?_
              by_cases c8 : x ≤ 8
              · refine ev_pos c8 ?_
                have hb : bad = false := Bool.eq_false_iff.mpr cb
                have hn : ¬ a + x ≤ (s.size : Int) := fun e => ok ⟨hb, c1, c8, e⟩
                rw [wrapu_id (n := (s.size : Int)) (by omega) (by omega)]
                by_cases ca : a ≤ (s.size : Int)
                · refine ev_pos ca ?_
                  rw [wrapu_id (n := x) (by omega) (by omega), wrapu_id (n := (s.size : Int) - a) (by omega) (by omega), decide_eq_false (show ¬ x ≤ (s.size : Int) - a by omega)]
                  exact fin
                · exact ev_neg ca fin
              · exact ev_neg c8 fin
            · exact ev_neg c1 fin
      · refine ev_neg c9 ?_
        have hx9 : IntKind.u64.wrap (wrap64 (x - 9)) = x - 9 := by rw [wrap64_id (by omega) (by omega), wrapu_id (by omega) (by omega)]
        rw [hx9]
        by_cases ok : bad = false ∧ a + (x - 9) ≤ (s.size : Int)
        · obtain ⟨rfl, hax⟩ := ok
          refine ev_const (bytes_there big s a (x - 9) h0 (by omega) hax hs) ?_
          refine ev_neg (by decide) ?_
          rw [wrapu_id (n := (s.size : Int)) (by omega) (by omega)]
          refine ev_pos (by omega) ?_
          rw [wrapu_id (n := (s.size : Int) - a) (by omega) (by omega), decide_eq_true (show x - 9 ≤ (s.size : Int) - a by omega)]
          refine Ev.step (graverlaw01_OrderReads.j3.eq_2 _ _ _ _ _ _ _ _ _ _ _ _ _) (ev_pos rfl (ev_pos h0 ?_))
          rw [wrapu_id (n := a + (x - 9)) (by omega) (by omega)]
          refine ev_pos (by omega) (ev_pos hax (ev_neg (by decide) (ev_pos rfl ?_)))
          exact reads_end s l (a + (x - 9)) false i big (by omega) (ih (i + 1) (a + (x - 9)) false (by omega) (by omega) (by omega))
        · refine ev_const (bytes_not big s a (x - 9) bad h0 (by omega) ok hs) ?_
          have fin : Ev (fun k => graverlaw01_OrderReads.j3 k s l a bad (i : Int) (x - 9) ⟨#[]⟩ false big big s a true) true := by
            refine Ev.step (graverlaw01_OrderReads.j3.eq_2 _ _ _ _ _ _ _ _ _ _ _ _ _) (ev_neg (by decide) ?_)
            have he : (⟨#[]⟩ : ByteArray).toList = ([] : List UInt8) := by rw [toList_data]
            by_cases cb : bad = true
            · exact ev_pos cb (ev_pos he iht)
            · exact ev_neg cb (ev_pos he iht)
          by_cases cb : bad = true
          · exact ev_pos cb fin
          · refine ev_neg cb ?_
            have hb : bad = false := Bool.eq_false_iff.mpr cb
            have hn : ¬ a + (x - 9) ≤ (s.size : Int) := fun e => ok ⟨hb, e⟩
            rw [wrapu_id (n := (s.size : Int)) (by omega) (by omega)]
            by_cases ca : a ≤ (s.size : Int)
            · refine ev_pos ca ?_
              rw [wrapu_id (n := (s.size : Int) - a) (by omega) (by omega), decide_eq_false (show ¬ x - 9 ≤ (s.size : Int) - a by omega)]
              exact fin
            · exact ev_neg ca fin
    · exact ev_neg (by rw [decide_eq_false c40]; decide) (Ev.now _)
theorem OrderReads : graverlaw01_OrderReads.Pure := by
  intro s a l hs hwa hl1 hl2 hwl
  obtain ⟨h0, h1⟩ := wf_u64 hwa
  refine Ev.rounds (Ev.congr (fun k => graverlaw01_OrderReads.f.eq_1 k s a l) ?_)
  refine Ev.bind speaks01 (ev_pos rfl (ev_pos (by rw [mn_eq]; omega) (ev_pos (by rw [mn_eq]; omega) (ev_const rfl ?_))))
  have hsz : (s.extract 0 (mn (s.size : Int) 200).toNat).size ≤ 200 := by
    rw [ba_size, extract_data, List.drop_zero, List.length_take, mn_eq]
    omega
  exact reads_loop _ l _ hsz (by omega) (fun x hx => wf_i64 (hwl x hx)) l.length 0 a false (by omega) h0 h1

end Go.Proofs.Ythbkjppaimjpmaa.Pure
