/- Any first bytes tell what the document says, or why not, and are these bytes again: for every input; no condition. -/
import Derived.Test.YtjmjebbjfjgbeaaIdt
import Derived.Test.YtjmjebbjfjgbeaaQ16
import Derived.Test.YtjmjebbjfjgbeaaQ18
namespace Go.Proofs.Ytjmjebbjfjgbeaa.Pure
open Go.RowKit Go.Proofs.Ytjmjebbjfjgbeaa.Q Go.Proofs.YtjmjebbjfjgbeaaW.PrintWords Go.Proofs.YtjmjebbjfjgbeaaW.PrintLast Go.Proofs.YtjmjebbjfjgbeaaW.PrintMore Go.Proofs.Ytjmjebbjfjgbeaa.Mth
set_option linter.unusedVariables false
set_option linter.unusedSimpArgs false

def whyV (x4 x5 x6 : UInt8) (m : List UInt8) : Int := if m = magicL then (if x4 = 1 ∨ x4 = 2 then (if x5 = 1 ∨ x5 = 2 then (if x6 = 1 then 0 else 7) else 6) else 5) else 4
theorem why_ev (s : ByteArray) (x0 x1 x2 x3 x4 x5 x6 x7 x8 : UInt8) (rest : List UInt8) (h : s.data.toList = x0 :: x1 :: x2 :: x3 :: x4 :: x5 :: x6 :: x7 :: x8 :: rest) (hr : 7 ≤ rest.length) :
    Ev (fun k => graverref04_Why.f k s) (whyV x4 x5 x6 [x0, x1, x2, x3]) := by
  have hl : s.data.toList.length = s.size := data_length s
  have hsz : 16 ≤ s.size := by rw [← hl, h]; simp; omega
  have b4 : bt s 4 = (x4.toNat : Int) := bt_at9 h 4 (by simp)
  have b5 : bt s 5 = (x5.toNat : Int) := bt_at9 h 5 (by simp)
  have b6 : bt s 6 = (x6.toNat : Int) := bt_at9 h 6 (by simp)
  have ht : (s.extract 0 4).toList = [x0, x1, x2, x3] := by rw [toList_data, extract_data, h]; rfl
  refine Ev.congr (fun k => graverref04_Why.f.eq_1 k s) ?_
  unfold whyV
  refine ev_neg (by omega) (ev_pos (by omega) (ev_pos (by omega) ?_))
  rw [ht]
  by_cases c0 : [x0, x1, x2, x3] = magicL
  · rw [if_pos c0]
    refine ev_pos c0 (ev_pos (by omega) ?_)
    rw [b4]
    have g5 : Ev (fun k => graverref04_Why.j0 k s false) (if x5 = 1 ∨ x5 = 2 then (if x6 = 1 then 0 else 7) else 6) := by
      refine Ev.step (fun k => graverref04_Why.j0.eq_2 _ _ _) (ev_neg (by decide) (ev_pos (by omega) ?_))
      rw [b5]
      have g6 : Ev (fun k => graverref04_Why.j1 k s false) (if x6 = 1 then 0 else 7) := by
        refine Ev.step (fun k => graverref04_Why.j1.eq_2 _ _ _) (ev_neg (by decide) (ev_pos (by omega) ?_))
        rw [b6]
        by_cases c6 : x6 = 1
        · exact ev_pos ((byte_1 x6).2 c6) (ev_now (by rw [if_pos c6]))
        · exact ev_neg (fun hh => c6 ((byte_1 x6).1 hh)) (ev_now (by rw [if_neg c6]))
      by_cases c5 : x5 = 1
      · refine ev_pos ((byte_1 x5).2 c5) ?_
        rw [if_pos (.inl c5)]
        exact g6
      · refine ev_neg (fun hh => c5 ((byte_1 x5).1 hh)) ?_
        by_cases c52 : x5 = 2
        · rw [show (((x5.toNat : Nat) : Int) != 2) = false from bne_eq_false_iff_eq.2 ((byte_2 x5).2 c52), if_pos (.inr c52)]
          exact g6
        · rw [show (((x5.toNat : Nat) : Int) != 2) = true from bne_iff_ne.2 (fun hh => c52 ((byte_2 x5).1 hh)), if_neg (fun hh => hh.elim c5 c52)]
          exact Ev.step (fun k => graverref04_Why.j1.eq_2 _ _ _) (ev_pos rfl (Ev.now 6))
    by_cases c4 : x4 = 1
    · refine ev_pos ((byte_1 x4).2 c4) ?_
      rw [if_pos (.inl c4)]
      exact g5
    · refine ev_neg (fun hh => c4 ((byte_1 x4).1 hh)) ?_
      by_cases c42 : x4 = 2
      · rw [show (((x4.toNat : Nat) : Int) != 2) = false from bne_eq_false_iff_eq.2 ((byte_2 x4).2 c42), if_pos (.inr c42)]
        exact g5
      · rw [show (((x4.toNat : Nat) : Int) != 2) = true from bne_iff_ne.2 (fun hh => c42 ((byte_2 x4).1 hh)), if_neg (fun hh => hh.elim c4 c42)]
        exact Ev.step (fun k => graverref04_Why.j0.eq_2 _ _ _) (ev_pos rfl (Ev.now 5))
  · rw [if_neg c0]
    exact ev_neg c0 (Ev.now 4)
theorem two_of (x : UInt8) (h : x = 1 ∨ x = 2) : twoB (x == 2) = x := by
  rcases h with rfl | rfl <;> rfl
theorem FormReads : graverlaw04_FormReads.Pure := by
  intro s hs
  refine Ev.rounds (Ev.congr (fun k => graverlaw04_FormReads.f.eq_1 k s) ?_)
  refine Ev.bind speaks04 (ev_pos rfl (ev_pos (by rw [mn_eq]; omega) (ev_pos (by rw [mn_eq]; omega) ?_)))
  have hcut : (s.extract 0 ((mn (s.size : Int) 30) : Int).toNat).size ≤ 30 := by rw [ByteArray.size_extract, mn_eq]; omega
  generalize s.extract 0 ((mn (s.size : Int) 30) : Int).toNat = t at *
  have hl : t.data.toList.length = t.size := data_length t
  by_cases h16 : t.size < 16
  · refine ev_const (read_short t h16) ?_
    refine Ev.bind (a := 3) (Ev.congr (fun k => graverref04_Why.f.eq_1 k t) (ev_pos (by omega) (Ev.now 3))) ?_
    exact ev_pos rfl (ev_neg (by decide) (ev_now (by rw [toList_data]; rfl)))
  · obtain ⟨x0, x1, x2, x3, x4, x5, x6, x7, x8, rest, h, hr⟩ := nine t.data.toList (by omega)
    refine ev_const (read_is t _ _ _ _ _ _ _ _ _ _ h hr) (Ev.bind (why_ev t _ _ _ _ _ _ _ _ _ _ h hr) ?_)
    have b4 : bt t 4 = (x4.toNat : Int) := bt_at9 h 4 (by simp)
    have b5 : bt t 5 = (x5.toNat : Int) := bt_at9 h 5 (by simp)
    have b7 : bt t 7 = (x7.toNat : Int) := bt_at9 h 7 (by simp)
    have b8 : bt t 8 = (x8.toNat : Int) := bt_at9 h 8 (by simp)
    have he : t.extract 9 16 = ⟨(rest.take 7).toArray⟩ := by
      apply ba_ext
      rw [extract_data, h]
      rfl
    rw [b4, b5, b7, b8, he]
    unfold readV whyV
    by_cases c0 : [x0, x1, x2, x3] = magicL
    · rw [if_pos c0, if_pos c0]
      by_cases c4 : x4 = 1 ∨ x4 = 2
      · rw [if_pos c4, if_pos c4]
        by_cases c5 : x5 = 1 ∨ x5 = 2
        · rw [if_pos c5, if_pos c5]
          by_cases c6 : x6 = 1
          · rw [if_pos c6, if_pos c6]
            have e4 : (((x4.toNat : Nat) : Int) == 2) = (x4 == 2) := by rw [Bool.eq_iff_iff, beq_iff_eq, beq_iff_eq]; exact byte_2 x4
            have e5 : (((x5.toNat : Nat) : Int) == 2) = (x5 == 2) := by rw [Bool.eq_iff_iff, beq_iff_eq, beq_iff_eq]; exact byte_2 x5
            rw [e4, e5]
            refine ev_pos rfl (ev_pos rfl (ev_pos (by omega) (ev_pos (by simp) (ev_pos (by omega) (ev_pos (by simp) (ev_pos (by omega) (ev_pos rfl (ev_pos (by omega) (ev_pos rfl (ev_pos (by omega) (ev_pos (by omega) (ev_pos rfl ?_))))))))))))
            refine ev_const (ident_is _ _ x7 x8 _ (by rw [ba_size, mk_list, List.length_take]; omega)) (ev_pos (by omega) (ev_now ?_))
            rw [toList_data, toList_data, extract_data, mk_list, h]
            unfold identL
            rw [two_of x4 c4, two_of x5 c5, mk_list, ← c0, c6]
            have hz : ((rest.take 7).take 7).length = 7 := by rw [List.length_take, List.length_take]; omega
            rw [hz, List.take_take]
            simp
          · rw [if_neg c6, if_neg c6]
            exact ev_pos rfl (ev_neg (by decide) (ev_now (by rw [toList_data]; rfl)))
        · rw [if_neg c5, if_neg c5]
          exact ev_pos rfl (ev_neg (by decide) (ev_now (by rw [toList_data]; rfl)))
      · rw [if_neg c4, if_neg c4]
        exact ev_pos rfl (ev_neg (by decide) (ev_now (by rw [toList_data]; rfl)))
    · rw [if_neg c0, if_neg c0]
      exact ev_pos rfl (ev_neg (by decide) (ev_now (by rw [toList_data]; rfl)))

end Go.Proofs.Ytjmjebbjfjgbeaa.Pure
