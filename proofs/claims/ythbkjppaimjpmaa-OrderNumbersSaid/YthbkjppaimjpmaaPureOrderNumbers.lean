/- Any number in any order and any size is put and read back as the document says, and any bytes are read as the document's number: for every input; no condition. -/
import Derived.Test.YthbkjppaimjpmaaOrd
import Derived.Test.YthbkjppaimjpmaaQ7
namespace Go.Proofs.Ythbkjppaimjpmaa.Pure
open Go.RowKit Go.Proofs.Ythbkjppaimjpmaa.Q Go.Proofs.YthbkjppaimjpmaaW.PrintWords Go.Proofs.YthbkjppaimjpmaaW.PrintLast Go.Proofs.YthbkjppaimjpmaaW.PrintMore Go.Proofs.Ythbkjppaimjpmaa.Mth
set_option linter.unusedVariables false
set_option linter.unusedSimpArgs false

theorem numbers_tail (big : Bool) (n : Int) (s : ByteArray) (hs : s.size ≤ 140737488351232) : Ev (fun k => graverlaw01_OrderNumbers.l0 k big n s 11 big) true := by
  refine Ev.step (graverlaw01_OrderNumbers.l0.eq_2 _ _ _ _ _) ?_
  refine ev_neg (by omega) (ev_pos (by rw [mn_eq]; omega) (ev_pos (by rw [mn_eq]; omega) ?_))
  exact Ev.bind (get_ev big _) (Ev.bind (refGet_ev big _) (ev_now (by simp)))
theorem numbers_loop (big : Bool) (n : Int) (s : ByteArray) (hs : s.size ≤ 140737488351232) (h0 : 0 ≤ n) (h1 : n < 18446744073709551616) : ∀ (d : Nat) (i : Int), i + d = 11 → -1 ≤ i →
    Ev (fun k => graverlaw01_OrderNumbers.l0 k big n s i big) true := by
  intro d
  induction d with
  | zero =>
    intro i hi h
    obtain rfl : i = 11 := by omega
    exact numbers_tail big n s hs
  | succ d ih =>
    intro i hi h
    have ih' := ih (i + 1) (by omega) (by omega)
    refine Ev.step (graverlaw01_OrderNumbers.l0.eq_2 _ _ _ _ _) (ev_pos (by omega) ?_)
    refine Ev.bind (put_ev big n i h0) (Ev.bind (refPut_ev big n i h0 h1) (ev_pos rfl ?_))
    refine Ev.bind (get_ev big _) (Ev.bind (refGet_ev big _) (ev_pos rfl ?_))
    rw [wrap64_id (by omega) (by omega)]
    exact ih'
theorem OrderNumbers : graverlaw01_OrderNumbers.Pure := by
  intro big n s hw hs
  obtain ⟨h0, h1⟩ := wf_u64 hw
  refine Ev.rounds (Ev.congr (fun k => graverlaw01_OrderNumbers.f.eq_1 k big n s) ?_)
  exact Ev.bind speaks01 (ev_pos rfl (numbers_loop big n s hs h0 h1 12 (-1) (by omega) (by omega)))

end Go.Proofs.Ythbkjppaimjpmaa.Pure
