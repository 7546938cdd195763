/- Numbers of any sizes, one behind the other, are as the document puts them, and are read again, one by one; no reader reads nothing: for every input; no condition. -/
import Derived.Test.YthbkjppaimjpmaaSp01
import Derived.Test.YthbkjppaimjpmaaQ3
import Derived.Test.YthbkjppaimjpmaaQ4
import Derived.Test.YthbkjppaimjpmaaQ6
import Derived.Test.YthbkjppaimjpmaaQ7
namespace Go.Proofs.Ythbkjppaimjpmaa.Pure
open Go.RowKit Go.Proofs.Ythbkjppaimjpmaa.Q Go.Proofs.YthbkjppaimjpmaaW.PrintWords Go.Proofs.YthbkjppaimjpmaaW.PrintLast Go.Proofs.YthbkjppaimjpmaaW.PrintMore Go.Proofs.Ythbkjppaimjpmaa.Mth
set_option linter.unusedVariables false
set_option linter.unusedSimpArgs false

theorem fbytes_there (big : Bool) (s : ByteArray) (a n : Int) (ha : 0 ≤ a) (hn : 0 ≤ n) (h : a + n ≤ (s.size : Int)) (hs : s.size ≤ 200) :
    order_Reader_Bytes.f big s a false n = some (s.extract a.toNat (a + n).toNat, big, s, a + n, false) := by
  unfold order_Reader_Bytes.f
  rw [if_neg (by decide), wrapu_id (n := (s.size : Int)) (by omega) (by omega), if_neg (by omega), wrapu_id (n := (s.size : Int) - a) (by omega) (by omega), if_neg (by omega), if_pos (by omega), wrapu_id (n := a + n) (by omega) (by omega), if_pos (by omega), if_pos (by omega)]
theorem fnext_there (big : Bool) (s : ByteArray) (a n : Int) (ha : 0 ≤ a) (h1 : 1 ≤ n) (h8 : n ≤ 8) (h : a + n ≤ (s.size : Int)) (hs : s.size ≤ 200) :
    Ev (fun k => order_Reader_Next.f k big s a false n) (getS big (s.extract a.toNat (a + n).toNat), big, s, a + n, false) := by
  refine Ev.congr (fun k => order_Reader_Next.f.eq_1 k _ _ _ _ _) ?_
  refine ev_neg (by omega) (ev_neg (by omega) ?_)
  rw [wrapu_id (by omega) (by omega)]
  exact ev_const (fbytes_there big s a n ha (by omega) h hs) (Ev.bind (get_ev big _) (ev_now rfl))
/-- The bytes of the first so many numbers. -/
def fl (big : Bool) (A L : List Int) : Nat → List UInt8
  | 0 => []
  | i + 1 => fl big A L i ++ putL big (rd L (i : Int)) (rd A (i : Int))
def flS (big : Bool) (A L : List Int) (i : Nat) : ByteArray := ⟨(fl big A L i).toArray⟩
theorem flS_data (big : Bool) (A L : List Int) (i : Nat) : (flS big A L i).data.toList = fl big A L i := rfl
theorem flS_size (big : Bool) (A L : List Int) (i : Nat) : (flS big A L i).size = (fl big A L i).length := by rw [ba_size, flS_data]
theorem putL_len8 (big : Bool) (x n : Int) : (putL big x n).length ≤ 8 := by
  rw [putL_length]
  split <;> omega
theorem fl_len (big : Bool) (A L : List Int) (i : Nat) : (fl big A L i).length ≤ 8 * i := by
  induction i with
  | zero => simp [fl]
  | succ i ih =>
    have := putL_len8 big (rd L (i : Int)) (rd A (i : Int))
    simp only [fl, List.length_append]
    omega
theorem fl_pre (big : Bool) (A L : List Int) (i : Nat) : ∀ d, ∃ rest, fl big A L (i + d) = fl big A L i ++ rest := by
  intro d
  induction d with
  | zero => exact ⟨[], by simp⟩
  | succ d ih =>
    obtain ⟨rest, h⟩ := ih
    refine ⟨rest ++ putL big (rd L ((i + d : Nat) : Int)) (rd A ((i + d : Nat) : Int)), ?_⟩
    rw [← Nat.add_assoc]
    simp only [fl]
    rw [h, List.append_assoc]
theorem flS_step (big : Bool) (A L : List Int) (i : Nat) : flS big A L i ++ putS big (rd L (i : Int)) (rd A (i : Int)) = flS big A L (i + 1) := by
  apply ba_ext
  rw [append_data, putS_list, flS_data, flS_data]
  rfl
theorem rd_mem (l : List Int) (i : Nat) (h : i < l.length) : rd l (i : Int) ∈ l := by
  unfold rd
  simp only [Int.toNat_natCast]
  rw [List.getD_eq_getElem?_getD, List.getElem?_eq_getElem h]
  exact List.getElem_mem h
theorem ffields_loop (big : Bool) (A L : List Int) (n : Nat) (hn : n = min A.length L.length) (h20 : n ≤ 20) (hu : ∀ x ∈ L, 0 ≤ x ∧ x < 18446744073709551616) : ∀ (d i : Nat), i + d = n →
    Ev (fun k => order_Order_Fields.l0 k big A L (flS big A L i) (i : Int)) (flS big A L n) := by
  intro d
  induction d with
  | zero =>
    intro i hi
    obtain rfl : i = n := by omega
    exact Ev.step (fun k => order_Order_Fields.l0.eq_2 _ _ _ _ _ _) (ev_neg (by rw [mn_eq]; omega) (Ev.now _))
  | succ d ih =>
    intro i hi
    refine Ev.step (fun k => order_Order_Fields.l0.eq_2 _ _ _ _ _ _) (ev_pos (by rw [mn_eq]; omega) ?_)
    have hx := hu _ (rd_mem L i (by omega))
    refine Ev.bind (put_ev big _ _ hx.1) ?_
    have h1 := putS_size_le big (rd L (i : Int)) (rd A (i : Int))
    have h2 := fl_len big A L i
    have h3 := flS_size big A L i
    refine ev_pos (by omega) ?_
    rw [flS_step, show (i : Int) + 1 = ((i + 1 : Nat) : Int) by omega]
    exact ih (i + 1) (by omega)
theorem fields_read (big : Bool) (A L : List Int) (n : Nat) (hn : n = min A.length L.length) (h20 : n ≤ 20) (hu : ∀ x ∈ L, 0 ≤ x ∧ x < 18446744073709551616) : ∀ (d i : Nat), i + d = n →
    Ev (fun k => graverlaw01_OrderFields.l1 k big A L (flS big A L n) (flS big A L n) (i : Int) big (flS big A L n) ((fl big A L i).length : Int) false) true := by
  have hsz : (flS big A L n).size ≤ 200 := by
    have := fl_len big A L n
    rw [flS_size]
    omega
  intro d
  induction d with
  | zero =>
    intro i hi
    obtain rfl : i = n := by omega
    have fin : Ev (fun k => graverlaw01_OrderFields.j3 k big A L (flS big A L i) (flS big A L i) (i : Int) false big (flS big A L i) ((fl big A L i).length : Int) false) true := by
      refine Ev.step (graverlaw01_OrderFields.j3.eq_2 _ _ _ _ _ _ _ _ _ _ _) (ev_neg (by decide) (ev_pos rfl ?_))
      refine ev_const (x := (0, big, flS big A L i, ((fl big A L i).length : Int), false)) rfl (ev_pos rfl ?_)
      refine ev_const (x := (((fl big A L i).length : Int), big, flS big A L i, ((fl big A L i).length : Int), false)) rfl (ev_pos ?_ ?_)
      · rw [wrapu_id (by omega) (by omega), flS_size]
      · refine ev_const (x := 0) rfl (ev_pos rfl (ev_const (x := ⟨#[]⟩) rfl (ev_pos ?_ (ev_const (x := 1) rfl (ev_pos rfl (ev_const (x := 0) rfl (ev_now rfl)))))))
        rw [toList_data]
    refine Ev.step (graverlaw01_OrderFields.l1.eq_2 _ _ _ _ _ _ _ _ _ _) ?_
    by_cases c : (i : Int) < (A.length : Int)
    · refine ev_pos c ?_
      rw [decide_eq_false (show ¬ (i : Int) < (L.length : Int) by omega)]
      exact fin
    · exact ev_neg c fin
  | succ d ih =>
    intro i hi
    have ih' := ih (i + 1) (by omega)
    refine Ev.step (graverlaw01_OrderFields.l1.eq_2 _ _ _ _ _ _ _ _ _ _) (ev_pos (by omega) ?_)
    rw [decide_eq_true (show (i : Int) < (L.length : Int) by omega)]
    refine Ev.step (graverlaw01_OrderFields.j3.eq_2 _ _ _ _ _ _ _ _ _ _ _) (ev_pos rfl (ev_pos (by omega) (ev_pos (by omega) ?_)))
    have hw : wrap64 ((i : Int) + 1) = ((i + 1 : Nat) : Int) := by rw [wrap64_id (by omega) (by omega)]; omega
    have hx := hu _ (rd_mem L i (by omega))
    obtain ⟨rest, hr⟩ := fl_pre big A L (i + 1) d
    rw [show i + 1 + d = n by omega] at hr
    have hl1 : (fl big A L (i + 1)).length = (fl big A L i).length + (putL big (rd L (i : Int)) (rd A (i : Int))).length := by simp only [fl, List.length_append]
    have hp := putL_length big (rd L (i : Int)) (rd A (i : Int))
    by_cases ok : 1 ≤ rd A (i : Int) ∧ rd A (i : Int) ≤ 8
    · obtain ⟨h1, h8⟩ := ok
      rw [if_pos ⟨h1, h8⟩] at hp
      have hend : ((fl big A L i).length : Int) + rd A (i : Int) = ((fl big A L (i + 1)).length : Int) := by omega
      have hle : ((fl big A L i).length : Int) + rd A (i : Int) ≤ ((flS big A L n).size : Int) := by
        rw [hend, flS_size, hr, List.length_append]
        omega
      refine ev_neg (by omega) ?_
      rw [decide_eq_false (show ¬ rd A (i : Int) > 8 by omega)]
      refine Ev.step (graverlaw01_OrderFields.j4.eq_2 _ _ _ _ _ _ _ _ _ _ _) (ev_neg (by decide) (ev_pos (by omega) (ev_pos (by omega) ?_)))
      refine Ev.bind (fnext_there big (flS big A L n) _ _ (by omega) h1 h8 hle hsz) (ev_pos (by omega) ?_)
      refine Ev.bind (refPut_ev big _ _ hx.1 hx.2) (Ev.bind (refGet_ev big _) (ev_pos ?_ ?_))
      · show getS big _ = getS big _
        unfold getS
        congr 1
        rw [extract_data, flS_data, putS_list, hend, Int.toNat_natCast, Int.toNat_natCast, hr, hl1, Nat.add_sub_cancel_left]
        simp only [fl]
        rw [List.append_assoc, List.drop_left, List.take_left' rfl]
      · rw [hw]
        show Ev (fun k => graverlaw01_OrderFields.l1 k big A L (flS big A L n) (flS big A L n) ((i + 1 : Nat) : Int) big (flS big A L n) (((fl big A L i).length : Int) + rd A (i : Int)) false) true
        rw [hend]
        exact ih'
    · rw [if_neg ok] at hp
      have hlen : (fl big A L (i + 1)).length = (fl big A L i).length := by omega
      rw [hlen] at ih'
      have fin : Ev (fun k => graverlaw01_OrderFields.j4 k big A L (flS big A L n) (flS big A L n) (i : Int) true big (flS big A L n) ((fl big A L i).length : Int) false) true := by
        refine Ev.step (graverlaw01_OrderFields.j4.eq_2 _ _ _ _ _ _ _ _ _ _ _) (ev_pos rfl ?_)
        rw [hw]
        exact ih'
      by_cases c : rd A (i : Int) < 1
      · exact ev_pos c fin
      · refine ev_neg c ?_
        rw [decide_eq_true (show rd A (i : Int) > 8 by omega)]
        exact fin
theorem fields_want (big : Bool) (A L : List Int) (n : Nat) (hn : n = min A.length L.length) (h20 : n ≤ 20) (hu : ∀ x ∈ L, 0 ≤ x ∧ x < 18446744073709551616) : ∀ (d i : Nat), i + d = n →
    Ev (fun k => graverlaw01_OrderFields.l0 k big A L (flS big A L n) (flS big A L i) (i : Int) big) true := by
  intro d
  induction d with
  | zero =>
    intro i hi
    obtain rfl : i = n := by omega
    have fin : Ev (fun k => graverlaw01_OrderFields.j1 k big A L (flS big A L i) (flS big A L i) big) true := by
      refine Ev.step (graverlaw01_OrderFields.j1.eq_2 _ _ _ _ _ _) (ev_const rfl ?_)
      exact fields_read big A L i hn h20 hu i 0 (by omega)
    refine Ev.step (graverlaw01_OrderFields.l0.eq_2 _ _ _ _ _ _ _) ?_
    by_cases c : (i : Int) < (A.length : Int)
    · exact ev_pos c (ev_neg (by omega) fin)
    · exact ev_neg c fin
  | succ d ih =>
    intro i hi
    refine Ev.step (graverlaw01_OrderFields.l0.eq_2 _ _ _ _ _ _ _) (ev_pos (by omega) (ev_pos (by omega) (ev_pos (by omega) ?_)))
    have hx := hu _ (rd_mem L i (by omega))
    refine Ev.bind (refPut_ev big _ _ hx.1 hx.2) ?_
    have h1 := putS_size_le big (rd L (i : Int)) (rd A (i : Int))
    have h2 := fl_len big A L i
    have h3 := flS_size big A L i
    refine ev_pos (by omega) ?_
    rw [flS_step, wrap64_id (by omega) (by omega), show (i : Int) + 1 = ((i + 1 : Nat) : Int) by omega]
    exact ih (i + 1) (by omega)
theorem OrderFields : graverlaw01_OrderFields.Pure := by
  intro big A L h1 h2 h3 h4 h5 h6
  refine Ev.rounds (Ev.congr (fun k => graverlaw01_OrderFields.f.eq_1 k big A L) ?_)
  refine Ev.bind speaks01 (ev_pos rfl (ev_pos (by rw [mn_eq]; omega) (ev_pos (by rw [mn_eq]; omega) (ev_pos (by rw [mn_eq]; omega) (ev_pos (by rw [mn_eq]; omega) ?_)))))
  have hA : (A.take (mn (A.length : Int) 20).toNat).length ≤ 20 := by
    rw [List.length_take, mn_eq]
    omega
  have hu : ∀ x ∈ L.take (mn (L.length : Int) 20).toNat, 0 ≤ x ∧ x < 18446744073709551616 := fun x hx => wf_u64 (h6 x (List.mem_of_mem_take hx))
  generalize A.take (mn (A.length : Int) 20).toNat = A' at *
  generalize L.take (mn (L.length : Int) 20).toNat = L' at *
  refine Ev.bind (Ev.congr (fun k => order_Order_Fields.f.eq_1 k big A' L') (ffields_loop big A' L' (min A'.length L'.length) rfl (by omega) hu (min A'.length L'.length) 0 (by omega))) ?_
  exact fields_want big A' L' (min A'.length L'.length) rfl (by omega) hu (min A'.length L'.length) 0 (by omega)

end Go.Proofs.Ythbkjppaimjpmaa.Pure
