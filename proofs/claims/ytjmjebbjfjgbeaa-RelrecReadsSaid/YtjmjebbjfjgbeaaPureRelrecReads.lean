/- Any bytes are read as the relocation whose bytes they are; fewer are none: for every input; no condition. -/
import Derived.Test.YtjmjebbjfjgbeaaRelRt
import Derived.Test.YtjmjebbjfjgbeaaQ14
namespace Go.Proofs.Ytjmjebbjfjgbeaa.Pure
open Go.RowKit Go.Proofs.Ytjmjebbjfjgbeaa.Q Go.Proofs.YtjmjebbjfjgbeaaW.PrintWords Go.Proofs.YtjmjebbjfjgbeaaW.PrintLast Go.Proofs.YtjmjebbjfjgbeaaW.PrintMore Go.Proofs.Ytjmjebbjfjgbeaa.Mth
set_option linter.unusedVariables false
set_option linter.unusedSimpArgs false

theorem RelrecReads : graverlaw09_RelrecReads.Pure := by
  intro n s hn hs
  refine Ev.rounds (Ev.congr (fun k => graverlaw09_RelrecReads.f.eq_1 k n s) ?_)
  refine Ev.bind speaks09 (ev_pos rfl (ev_const (formOf_is n) ?_))
  refine ev_pos (by rw [mn_eq]; omega) (ev_pos (by rw [mn_eq]; omega) ?_)
  generalize ((Go.bits .and .i64 n 1) == 1) = b
  generalize ((Go.bits .and .i64 n 2) == 2) = w
  generalize ((Go.bits .and .i64 n 4) == 4) = a
  have hcut : (s.extract 0 ((mn (s.size : Int) 60) : Int).toNat).size ≤ 60 := by rw [ByteArray.size_extract, mn_eq]; omega
  generalize s.extract 0 ((mn (s.size : Int) 60) : Int).toNat = t at *
  by_cases hsz : wordsN a * wordN w ≤ t.size
  · refine Ev.bind (relRead_ev b w a t (by omega) hsz) (ev_const (relSize_is b w a) (ev_neg (by rw [word_nat, ← Int.natCast_mul]; omega) ?_))
    have hl : t.data.toList.length = t.size := data_length t
    obtain ⟨hg, u1, u2, u3, u4, hb⟩ := relOf_good b w a t.data.toList (by omega)
    refine Ev.bind (refPut09 b w a _ _ _ _ u1 u2 u3 u4) ?_
    rw [relR_good b w a _ _ _ _ u2 u3 hg, hb]
    have hsize : (⟨(t.data.toList.take (wordsN a * wordN w)).toArray⟩ : ByteArray).size = wordsN a * wordN w := by
      rw [ba_size, mk_list, List.length_take]; omega
    refine ev_pos rfl (ev_pos rfl (ev_pos (by omega) (ev_pos (by rw [hsize]; omega) (ev_now ?_))))
    rw [hsize, Int.toNat_natCast, toList_data, toList_data, extract_data, mk_list]
    simp
  · exact Ev.bind (relRead_short b w a t hsz) (ev_const (relSize_is b w a) (ev_pos (by rw [word_nat, ← Int.natCast_mul]; omega) (ev_neg (by decide) (ev_now (by decide)))))

end Go.Proofs.Ytjmjebbjfjgbeaa.Pure
