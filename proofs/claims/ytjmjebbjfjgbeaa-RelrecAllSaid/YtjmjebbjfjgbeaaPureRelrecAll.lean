/- Any relocations as bytes, and back; any bytes as relocations are those bytes again: for every input; no condition. -/
import Derived.Test.YtjmjebbjfjgbeaaRelRt
import Derived.Test.YtjmjebbjfjgbeaaQ11
import Derived.Test.YtjmjebbjfjgbeaaQ14
import Derived.Test.YtjmjebbjfjgbeaaQ15
import Derived.Test.YtjmjebbjfjgbeaaQ6
namespace Go.Proofs.Ytjmjebbjfjgbeaa.Pure
open Go.RowKit Go.Proofs.Ytjmjebbjfjgbeaa.Q Go.Proofs.YtjmjebbjfjgbeaaW.PrintWords Go.Proofs.YtjmjebbjfjgbeaaW.PrintLast Go.Proofs.YtjmjebbjfjgbeaaW.PrintMore Go.Proofs.Ytjmjebbjfjgbeaa.Mth
set_option linter.unusedVariables false
set_option linter.unusedSimpArgs false

abbrev R := S33
def okS (x : R) : Prop := u64P x.f0 ∧ u64P x.f1 ∧ u64P x.f2 ∧ u64P x.f3
def goodS (w a : Bool) (x : R) : Bool := goodR w a x.f0 x.f1 x.f2 x.f3
def bytesS (b w a : Bool) (x : R) : List UInt8 := putL b x.f0 (wordN w) ++ (putL b (x.f1 * typeP w + x.f2) (wordN w) ++ (if a = true then putL b x.f3 (wordN w) else []))
def lenS (w a : Bool) : Nat := wordsN a * wordN w
theorem lenS_pos (w a : Bool) : 8 ≤ lenS w a ∧ lenS w a ≤ 24 := by cases w <;> cases a <;> decide
theorem bytesS_len (b w a : Bool) (x : R) : (bytesS b w a x).length = lenS w a := by
  unfold bytesS lenS
  cases a
  · simp [wordsN, putW_len]; omega
  · simp [wordsN, putW_len]; omega
theorem relS (b w a : Bool) (x : R) (hx : okS x) : relR b w a x.f0 x.f1 x.f2 x.f3 = if goodS w a x = true then (⟨(bytesS b w a x).toArray⟩, true) else (⟨#[]⟩, false) := by
  by_cases h : goodS w a x = true
  · rw [if_pos h]
    exact relR_good b w a _ _ _ _ hx.2.1 hx.2.2.1 h
  · rw [if_neg h]
    unfold relR
    exact if_neg h
def allB (b w a : Bool) : List R → List UInt8
  | [] => []
  | x :: l => bytesS b w a x ++ allB b w a l
theorem allB_app (b w a : Bool) : ∀ l m : List R, allB b w a (l ++ m) = allB b w a l ++ allB b w a m
  | [], m => rfl
  | x :: l, m => by rw [List.cons_append, allB, allB, allB_app b w a l m, List.append_assoc]
theorem allB_len (b w a : Bool) : ∀ l : List R, (allB b w a l).length = l.length * lenS w a
  | [] => by simp [allB]
  | x :: l => by rw [allB, List.length_append, bytesS_len, allB_len b w a l, List.length_cons, Nat.succ_mul, Nat.add_comm]
theorem rd_mid (pre rest : List R) (x : R) : rd_T33 (pre ++ x :: rest) (pre.length : Int) = x := by
  unfold rd_T33
  simp [List.getD_eq_getElem?_getD]
def putAllR (b w a : Bool) (L : List R) : ByteArray × Bool := if L.all (goodS w a) = true then (⟨(allB b w a L).toArray⟩, true) else (⟨#[]⟩, false)
theorem mk_size (l : List UInt8) : (⟨l.toArray⟩ : ByteArray).size = l.length := by rw [ba_size]
theorem putAll_loop (b w a : Bool) (L : List R) (hL : L.length ≤ 1000) (hok : ∀ x ∈ L, okS x) : ∀ (rest pre : List R), L = pre ++ rest →
    Ev (fun k => relrec_PutAll.l0 k b w a L ⟨(allB b w a pre).toArray⟩ (pre.length : Int)) (if rest.all (goodS w a) = true then (⟨(allB b w a L).toArray⟩, true) else (⟨#[]⟩, false)) := by
  intro rest
  induction rest with
  | nil =>
    intro pre h
    have e : pre = L := by rw [h]; simp
    refine Ev.step (fun k => relrec_PutAll.l0.eq_2 ..) (ev_neg (by rw [h]; simp) (ev_now ?_))
    rw [e]
    rfl
  | cons x rest ih =>
    intro pre h
    have hx : okS x := hok x (by rw [h]; simp)
    have hlen : pre.length < L.length := by rw [h]; simp
    have ih' := ih (pre ++ [x]) (by rw [h]; simp)
    have e1 : rd_T33 L (pre.length : Int) = x := by rw [h]; exact rd_mid pre rest x
    have hp := relPut_ev b w a x.f0 x.f1 x.f2 x.f3 hx.1 hx.2.1 hx.2.2.1 hx.2.2.2
    rw [relS b w a x hx] at hp
    refine Ev.step (fun k => relrec_PutAll.l0.eq_2 ..) (ev_pos (by omega) ?_)
    rw [e1]
    refine Ev.bind hp ?_
    by_cases hg : goodS w a x = true
    · rw [if_pos hg]
      have hs := lenS_pos w a
      have e2 : (⟨(allB b w a pre).toArray⟩ : ByteArray) ++ ⟨(bytesS b w a x).toArray⟩ = ⟨(allB b w a (pre ++ [x])).toArray⟩ := by
        apply ba_ext
        rw [append_data, allB_app]
        simp [allB]
      have e3 : ((pre.length : Int) + 1) = ((pre ++ [x]).length : Int) := by simp
      have e4 : (x :: rest).all (goodS w a) = rest.all (goodS w a) := by simp [hg]
      refine ev_pos rfl (ev_pos ?_ ?_)
      · show (⟨(allB b w a pre).toArray⟩ : ByteArray).size + (⟨(bytesS b w a x).toArray⟩ : ByteArray).size ≤ _
        have : pre.length * lenS w a ≤ 1000 * 24 := Nat.mul_le_mul (by omega) hs.2
        rw [mk_size, mk_size, allB_len, bytesS_len]
        omega
      · show Ev (fun k => relrec_PutAll.l0 k b w a L ((⟨(allB b w a pre).toArray⟩ : ByteArray) ++ ⟨(bytesS b w a x).toArray⟩) ((pre.length : Int) + 1)) _
        rw [e2, e3, e4]
        exact ih'
    · rw [if_neg hg]
      refine ev_neg (by decide) (ev_now ?_)
      rw [if_neg (by simp [hg])]
theorem putAll_ev (b w a : Bool) (L : List R) (hL : L.length ≤ 1000) (hok : ∀ x ∈ L, okS x) : Ev (fun k => relrec_PutAll.f k b w a L) (putAllR b w a L) :=
  Ev.congr (fun k => relrec_PutAll.f.eq_1 k b w a L) (putAll_loop b w a L hL hok L [] rfl)
def rdS (b w a : Bool) (l : List UInt8) : R := ⟨(relOf b w a l).1, (relOf b w a l).2.1, (relOf b w a l).2.2.1, (relOf b w a l).2.2.2⟩
def chunks (b w a : Bool) : Nat → List UInt8 → List R
  | 0, _ => []
  | n + 1, l => rdS b w a l :: chunks b w a n (l.drop (lenS w a))
theorem readAll_loop (b w a : Bool) : ∀ (n : Nat) (s : ByteArray) (acc : List R), s.size = n * lenS w a → acc.length + n ≤ 1000 →
    Ev (fun k => relrec_ReadAll.l0 k a s (lenS w a : Int) acc b w) (acc ++ chunks b w a n s.data.toList, true) := by
  have hs := lenS_pos w a
  intro n
  induction n with
  | zero =>
    intro s acc h _
    have h0 : s.toList = [] := by
      rw [toList_data]
      exact List.eq_nil_of_length_eq_zero (by rw [← ba_size]; omega)
    exact Ev.step (fun k => relrec_ReadAll.l0.eq_2 ..) (ev_pos h0 (ev_now (by simp [chunks])))
  | succ n ih =>
    intro s acc h ha
    rw [Nat.succ_mul] at h
    have hmul : n * lenS w a ≤ 1000 * 24 := Nat.mul_le_mul (by omega) hs.2
    have h0 : ¬ s.toList = [] := by
      intro e
      rw [toList_data] at e
      have := ba_size s
      rw [e, List.length_nil] at this
      omega
    have he : (s.extract (lenS w a) s.size).data.toList = s.data.toList.drop (lenS w a) := by
      rw [extract_data]
      exact List.take_of_length_le (by rw [List.length_drop, ← ba_size]; exact Nat.le_refl _)
    have ih' := ih (s.extract (lenS w a) s.size) (acc ++ [rdS b w a s.data.toList]) (by rw [ba_size, he, List.length_drop, ← ba_size]; omega) (by simp; omega)
    rw [he] at ih'
    refine Ev.step (fun k => relrec_ReadAll.l0.eq_2 ..) (ev_neg h0 (Ev.bind (relRead_ev b w a s (by omega) (show lenS w a ≤ s.size by omega)) (ev_pos (by omega) (ev_pos (by omega) (ev_pos (by omega) ?_)))))
    rw [Int.toNat_natCast]
    refine ev_eq ih' ?_
    rw [chunks, List.append_assoc]
    rfl
theorem size_is (b w a : Bool) : relrec_Size.f b w a = some ((lenS w a : Nat) : Int) := by
  rw [relSize_is]
  congr 1
  unfold lenS
  rw [word_nat]
  simp
theorem readAll_yes (b w a : Bool) (s : ByteArray) (hs : s.size ≤ 1000) (n : Nat) (h : s.size = n * lenS w a) : Ev (fun k => relrec_ReadAll.f k b w a s) (chunks b w a n s.data.toList, true) := by
  have hp := lenS_pos w a
  have hn : n * 8 ≤ n * lenS w a := Nat.mul_le_mul_left n hp.1
  refine Ev.congr (fun k => relrec_ReadAll.f.eq_1 k b w a s) (ev_const (size_is b w a) (ev_neg (by omega) (ev_pos ?_ ?_)))
  · rw [h, Int.natCast_mul]
    exact Int.mul_emod_left _ _
  · exact readAll_loop b w a n s [] h (by simp; omega)
theorem readAll_no (b w a : Bool) (s : ByteArray) (h : ¬ s.size % lenS w a = 0) : Ev (fun k => relrec_ReadAll.f k b w a s) ([], false) := by
  have hp := lenS_pos w a
  exact Ev.congr (fun k => relrec_ReadAll.f.eq_1 k b w a s) (ev_const (size_is b w a) (ev_neg (by omega) (ev_neg (by omega) (Ev.now _))))
theorem chunks_all (b w a : Bool) : ∀ (L : List R), (∀ x ∈ L, okS x) → L.all (goodS w a) = true → chunks b w a L.length (allB b w a L) = L
  | [], _, _ => rfl
  | x :: L, hok, hg => by
    rw [List.all_cons, Bool.and_eq_true] at hg
    have hx := hok x (by simp)
    have h1 : rdS b w a (allB b w a (x :: L)) = x := by
      unfold rdS
      rw [allB]
      have := relOf_put b w a x.f0 x.f1 x.f2 x.f3 hx.1 hx.2.1 hx.2.2.1 hx.2.2.2 hg.1 (allB b w a L)
      unfold bytesS
      rw [this]
    have h2 : (allB b w a (x :: L)).drop (lenS w a) = allB b w a L := by
      rw [allB, ← bytesS_len b w a x, List.drop_left]
    rw [List.length_cons, chunks, h1, h2, chunks_all b w a L (fun y hy => hok y (by simp [hy])) hg.2]
theorem all_chunks (b w a : Bool) : ∀ (n : Nat) (l : List UInt8), l.length = n * lenS w a → allB b w a (chunks b w a n l) = l ∧ (chunks b w a n l).all (goodS w a) = true ∧ (∀ x ∈ chunks b w a n l, okS x) ∧ (chunks b w a n l).length = n
  | 0, l, h => ⟨by rw [List.eq_nil_of_length_eq_zero (by omega : l.length = 0)]; rfl, rfl, (fun x hx => (by cases hx)), rfl⟩
  | n + 1, l, h => by
    rw [Nat.succ_mul] at h
    obtain ⟨hg, u1, u2, u3, u4, hb⟩ := relOf_good b w a l (show lenS w a ≤ l.length by omega)
    obtain ⟨e1, e2, e3, e4⟩ := all_chunks b w a n (l.drop (lenS w a)) (by rw [List.length_drop]; omega)
    have hb' : bytesS b w a (rdS b w a l) = l.take (lenS w a) := hb
    refine ⟨?_, ?_, ?_, ?_⟩
    · rw [chunks, allB, hb', e1, List.take_append_drop]
    · rw [chunks, List.all_cons, e2]
      exact (Bool.and_true _).trans hg
    · intro x hx
      rw [chunks] at hx
      rcases List.mem_cons.1 hx with rfl | hx
      · exact ⟨u1, u2, u3, u4⟩
      · exact e3 x hx
    · rw [chunks, List.length_cons, e4]
theorem j5_ev (b w a : Bool) (s : ByteArray) : Ev (fun k => graverlaw09_RelrecAll.j5 k s a b w) true := by
  refine Ev.step (fun k => graverlaw09_RelrecAll.j5.eq_2 ..) (ev_pos (by rw [mn_eq]; omega) (ev_pos (by rw [mn_eq]; omega) ?_))
  have hcut : (s.extract 0 ((mn (s.size : Int) 100) : Int).toNat).size ≤ 100 := by rw [ByteArray.size_extract, mn_eq]; omega
  generalize s.extract 0 ((mn (s.size : Int) 100) : Int).toNat = t at *
  have hp := lenS_pos w a
  by_cases h : t.size % lenS w a = 0
  · have hn : t.size = t.size / lenS w a * lenS w a := by rw [Nat.div_mul_cancel (Nat.dvd_of_mod_eq_zero h)]
    generalize t.size / lenS w a = n at hn
    have hn8 : n * 8 ≤ n * lenS w a := Nat.mul_le_mul_left n hp.1
    obtain ⟨e1, e2, e3, e4⟩ := all_chunks b w a n t.data.toList (by rw [← ba_size]; exact hn)
    have hput := putAll_ev b w a (chunks b w a n t.data.toList) (by omega) e3
    unfold putAllR at hput
    rw [if_pos e2, e1] at hput
    have hm : ((t.size : Int) % ((lenS w a : Nat) : Int) == 0) = true := by rw [beq_iff_eq]; omega
    refine Ev.bind (readAll_yes b w a t (by omega) n hn) (ev_const (size_is b w a) (ev_neg (by omega) (ev_neg (by rw [hm]; simp) (Ev.bind hput (ev_pos rfl (ev_pos rfl (ev_now ?_)))))))
    rw [toList_data]
    exact beq_self_eq_true _
  · have hput := putAll_ev b w a [] (by simp) (fun x hx => by cases hx)
    have hm : ((t.size : Int) % ((lenS w a : Nat) : Int) == 0) = false := by rw [beq_eq_false_iff_ne]; omega
    exact Ev.bind (readAll_no b w a t h) (ev_const (size_is b w a) (ev_neg (by omega) (ev_neg (by rw [hm]; decide) (Ev.bind hput (ev_neg (by decide) (ev_pos rfl (Ev.now true)))))))
theorem l1_ev (b w a : Bool) (s : ByteArray) (P : List R) (hP : P.length ≤ 1000) : ∀ (rest pre : List R), P = pre ++ rest → Ev (fun k => graverlaw09_RelrecAll.l1 k s a P P (pre.length : Int) b w) true := by
  intro rest
  induction rest with
  | nil =>
    intro pre h
    exact Ev.step (fun k => graverlaw09_RelrecAll.l1.eq_2 ..) (ev_neg (by rw [h]; simp) (j5_ev b w a s))
  | cons x rest ih =>
    intro pre h
    have hlen : pre.length < P.length := by rw [h]; simp
    have ih' := ih (pre ++ [x]) (by rw [h]; simp)
    rw [← step_at pre x (by omega)] at ih'
    exact Ev.step (fun k => graverlaw09_RelrecAll.l1.eq_2 ..) (ev_pos (by omega) (ev_pos (by omega) (ev_pos (by omega) (ev_neg (by simp) ih'))))
  where
    step_at (pre : List R) (x : R) (h : pre.length < 9223372036854775807) : wrap64 ((pre.length : Int) + 1) = ((pre ++ [x]).length : Int) := by
      unfold wrap64; simp; omega
def wantB (b w a : Bool) : List R → List UInt8
  | [] => []
  | x :: l => (if goodS w a x = true then bytesS b w a x else []) ++ wantB b w a l
theorem wantB_app (b w a : Bool) : ∀ l m : List R, wantB b w a (l ++ m) = wantB b w a l ++ wantB b w a m
  | [], m => rfl
  | x :: l, m => by rw [List.cons_append, wantB, wantB, wantB_app b w a l m, List.append_assoc]
theorem wantB_len (b w a : Bool) : ∀ l : List R, (wantB b w a l).length ≤ l.length * 24
  | [] => by simp [wantB]
  | x :: l => by
    have := wantB_len b w a l
    have hs := lenS_pos w a
    rw [wantB, List.length_append, List.length_cons, Nat.succ_mul]
    split
    · rw [bytesS_len]; omega
    · simp; omega
theorem wantB_good (b w a : Bool) : ∀ l : List R, l.all (goodS w a) = true → wantB b w a l = allB b w a l
  | [], _ => rfl
  | x :: l, h => by
    rw [List.all_cons, Bool.and_eq_true] at h
    rw [wantB, allB, if_pos h.1, wantB_good b w a l h.2]
theorem j1_ev (b w a : Bool) (s : ByteArray) (P : List R) (hP : P.length ≤ 10) (hok : ∀ x ∈ P, okS x) : Ev (fun k => graverlaw09_RelrecAll.j1 k s a P ⟨(wantB b w a P).toArray⟩ (P.all (goodS w a)) b w) true := by
  have hs := lenS_pos w a
  refine Ev.step (fun k => graverlaw09_RelrecAll.j1.eq_2 ..) ?_
  have hput := putAll_ev b w a P (by omega) hok
  unfold putAllR at hput
  by_cases hg : P.all (goodS w a) = true
  · rw [if_pos hg] at hput
    rw [hg, wantB_good b w a P hg]
    have hl := allB_len b w a P
    have hm : P.length * lenS w a ≤ 10 * 24 := Nat.mul_le_mul hP hs.2
    have hrd := readAll_yes b w a ⟨(allB b w a P).toArray⟩ (by rw [mk_size]; omega) P.length (by rw [mk_size]; exact hl)
    rw [mk_list, chunks_all b w a P hok hg] at hrd
    refine Ev.bind hput (ev_neg (by simp) (ev_pos rfl (ev_pos rfl ?_)))
    refine Ev.step (fun k => graverlaw09_RelrecAll.j2.eq_2 ..) (ev_neg (by decide) (ev_pos rfl (Ev.bind hrd (ev_pos rfl ?_))))
    exact Ev.step (fun k => graverlaw09_RelrecAll.j3.eq_2 ..) (ev_neg (by simp) (l1_ev b w a s P (by omega) P [] rfl))
  · rw [if_neg hg] at hput
    have hf : P.all (goodS w a) = false := by simpa using hg
    rw [hf]
    refine Ev.bind hput (ev_neg (by decide) (ev_neg (by decide) ?_))
    exact Ev.step (fun k => graverlaw09_RelrecAll.j2.eq_2 ..) (ev_neg (by rw [toList_data]; decide) (ev_neg (by decide) (j5_ev b w a s)))
def conv (x : S24) : R := ⟨x.f0, x.f1, x.f2, x.f3⟩
theorem l0_ev (b w a : Bool) (s : ByteArray) (L : List S24) (hok : ∀ x ∈ L, okS (conv x)) : ∀ (rest pre : List S24), L = pre ++ rest → pre.length ≤ 10 →
    Ev (fun k => graverlaw09_RelrecAll.l0 k L s a (pre.map conv) ⟨(wantB b w a (pre.map conv)).toArray⟩ ((pre.map conv).all (goodS w a)) (pre.length : Int) b w) true := by
  intro rest
  induction rest with
  | nil =>
    intro pre h h10
    exact Ev.step (fun k => graverlaw09_RelrecAll.l0.eq_2 ..) (ev_neg (by rw [h]; simp) (j1_ev b w a s _ (by simpa using h10) (fun x hx => by obtain ⟨y, hy, rfl⟩ := List.mem_map.1 hx; exact hok y (by rw [h]; simp [hy]))))
  | cons x rest ih =>
    intro pre h h10
    have hlen : pre.length < L.length := by rw [h]; simp
    refine Ev.step (fun k => graverlaw09_RelrecAll.l0.eq_2 ..) (ev_pos (by omega) ?_)
    by_cases hl : pre.length < 10
    · have hx : okS (conv x) := hok x (by rw [h]; simp)
      have ih' := ih (pre ++ [x]) (by rw [h]; simp) (by simp; omega)
      have e1 : rd_T24 L (pre.length : Int) = x := by
        rw [h]
        unfold rd_T24
        simp [List.getD_eq_getElem?_getD]
      have e2 : wrap64 ((pre.length : Int) + 1) = ((pre ++ [x]).length : Int) := by unfold wrap64; simp; omega
      have hw := wantB_len b w a (pre.map conv)
      have hp := refPut09 b w a x.f0 x.f1 x.f2 x.f3 hx.1 hx.2.1 hx.2.2.1 hx.2.2.2
      have hr := relS b w a (conv x) hx
      have hr' : relR b w a x.f0 x.f1 x.f2 x.f3 = _ := hr
      rw [hr'] at hp
      refine ev_pos (by omega) (ev_pos (by omega) (ev_pos (by simp; omega) ?_))
      rw [e1, e2]
      have e3 : List.map conv (pre ++ [x]) = pre.map conv ++ [⟨x.f0, x.f1, x.f2, x.f3⟩] := by simp [conv]
      have e4 : (⟨(wantB b w a (pre.map conv)).toArray⟩ : ByteArray) ++ (if goodS w a (conv x) = true then ((⟨(bytesS b w a (conv x)).toArray⟩, true) : ByteArray × Bool) else (⟨#[]⟩, false)).1 = ⟨(wantB b w a (List.map conv (pre ++ [x]))).toArray⟩ := by
        apply ba_ext
        rw [append_data, List.map_append, wantB_app]
        by_cases hg : goodS w a (conv x) = true <;> simp [hg, wantB]
      have e5 : (List.map conv (pre ++ [x])).all (goodS w a) = ((pre.map conv).all (goodS w a) && goodS w a (conv x)) := by simp [List.all_append]
      have e6 : (if goodS w a (conv x) = true then ((⟨(bytesS b w a (conv x)).toArray⟩, true) : ByteArray × Bool) else (⟨#[]⟩, false)).2 = goodS w a (conv x) := by
        by_cases hg : goodS w a (conv x) = true <;> simp [hg]
      have hsz : (if goodS w a (conv x) = true then ((⟨(bytesS b w a (conv x)).toArray⟩, true) : ByteArray × Bool) else (⟨#[]⟩, false)).1.size ≤ 24 := by
        have hs := lenS_pos w a
        by_cases hg : goodS w a (conv x) = true
        · rw [if_pos hg]
          show (⟨(bytesS b w a (conv x)).toArray⟩ : ByteArray).size ≤ 24
          rw [mk_size, bytesS_len]
          exact hs.2
        · rw [if_neg hg]
          exact Nat.zero_le _
      refine ev_const rfl (Ev.bind hp (ev_pos (by rw [mk_size]; simp at hw; omega) ?_))
      rw [e4, e6, ← e3]
      rw [e5] at ih'
      by_cases hg0 : (pre.map conv).all (goodS w a) = true
      · rw [hg0] at ih' ⊢
        rw [Bool.true_and] at ih'
        exact ev_pos rfl ih'
      · have hf : (pre.map conv).all (goodS w a) = false := by simpa using hg0
        rw [hf] at ih' ⊢
        rw [Bool.false_and] at ih'
        exact ev_neg (by decide) ih'
    · exact ev_neg (by omega) (j1_ev b w a s _ (by simpa using h10) (fun x hx => by obtain ⟨y, hy, rfl⟩ := List.mem_map.1 hx; exact hok y (by rw [h]; simp [hy])))
theorem RelrecAll : graverlaw09_RelrecAll.Pure := by
  intro n L s hn hL hw hs
  refine Ev.rounds (Ev.congr (fun k => graverlaw09_RelrecAll.f.eq_1 k n L s) ?_)
  refine Ev.bind speaks09 (ev_pos rfl (ev_const (formOf_is n) ?_))
  generalize ((Go.bits .and .i64 n 1) == 1) = b
  generalize ((Go.bits .and .i64 n 2) == 2) = w
  generalize ((Go.bits .and .i64 n 4) == 4) = a
  exact l0_ev b w a s L (fun x hx => by obtain ⟨h1, h2, h3, h4⟩ := hw x hx; exact ⟨wf_u64 h1, wf_u64 h2, wf_u64 h3, wf_u64 h4⟩) L [] rfl (by simp)

end Go.Proofs.Ytjmjebbjfjgbeaa.Pure
