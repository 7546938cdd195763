/- Any relocation is put as the document's bytes in any form, or refused just where the document refuses it, and read back: for every input; no condition. -/
import Derived.Test.YtjmjebbjfjgbeaaRelRt
import Derived.Test.YtjmjebbjfjgbeaaQ13
namespace Go.Proofs.Ytjmjebbjfjgbeaa.Pure
open Go.RowKit Go.Proofs.Ytjmjebbjfjgbeaa.Q Go.Proofs.YtjmjebbjfjgbeaaW.PrintWords Go.Proofs.YtjmjebbjfjgbeaaW.PrintLast Go.Proofs.YtjmjebbjfjgbeaaW.PrintMore Go.Proofs.Ytjmjebbjfjgbeaa.Mth
set_option linter.unusedVariables false
set_option linter.unusedSimpArgs false

theorem puts_last (b w a : Bool) (off sym ty add : Int) (h1 : u64P off) (h2 : u64P sym) (h3 : u64P ty) (h4 : u64P add) (more : ByteArray) (hm : more.size ≤ 140737488351232) :
    Ev (fun k => graverlaw09_RelrecPuts.j0 k more a (relR b w a off sym ty add).1 (relR b w a off sym ty add).2 false off sym ty add b w) true := by
  have hw := wordN_le w
  have hwa : wordsN a ≤ 3 := by unfold wordsN; split <;> omega
  have hcut : (more.extract 0 ((mn (more.size : Int) 9) : Int).toNat).size ≤ 9 := by
    rw [ByteArray.size_extract, mn_eq]; omega
  refine Ev.step (fun k => graverlaw09_RelrecPuts.j0.eq_2 _ _ _ _ _ _ _ _ _ _ _ _) (ev_neg (by decide) (ev_pos (by rw [mn_eq]; omega) (ev_pos (by rw [mn_eq]; omega) ?_)))
  generalize more.extract 0 ((mn (more.size : Int) 9) : Int).toNat = t at *
  by_cases h : goodR w a off sym ty add = true
  · rw [relR_good b w a off sym ty add h2 h3 h]
    have hlen : (⟨(putL b off (wordN w) ++ (putL b (sym * typeP w + ty) (wordN w) ++ (if a = true then putL b add (wordN w) else []))).toArray⟩ : ByteArray).size = wordsN a * wordN w := by
      rw [ba_size, mk_list, List.length_append, List.length_append, putW_len, putW_len]
      cases a
      · simp [wordsN]; omega
      · rw [if_pos rfl, putW_len]; simp [wordsN]; omega
    have hr := relOf_put b w a off sym ty add h1 h2 h3 h4 h t.data.toList
    generalize hs : (⟨(putL b off (wordN w) ++ (putL b (sym * typeP w + ty) (wordN w) ++ (if a = true then putL b add (wordN w) else []))).toArray⟩ : ByteArray) = s at *
    have hsl : s.data.toList = putL b off (wordN w) ++ (putL b (sym * typeP w + ty) (wordN w) ++ (if a = true then putL b add (wordN w) else [])) := by rw [← hs]
    have h24 : wordsN a * wordN w ≤ 24 := Nat.le_trans (Nat.mul_le_mul hwa hw.2) (by decide)
    refine ev_pos (show s.size + t.size ≤ 9223372036854775807 by omega) ?_
    have hrd := relRead_ev b w a (s ++ t) (by rw [ByteArray.size_append]; omega) (by rw [ByteArray.size_append]; omega)
    rw [append_data, hsl, hr] at hrd
    refine Ev.bind hrd (ev_pos rfl (ev_pos rfl (ev_pos (by simp) ?_)))
    refine ev_const (relSize_is b w a) (ev_now ?_)
    rw [hlen, word_nat, ← Int.natCast_mul]
    simp
  · have h' : goodR w a off sym ty add = false := Bool.eq_false_iff.2 h
    have e : relR b w a off sym ty add = (⟨#[]⟩, false) := by unfold relR; rw [h']; rfl
    rw [e]
    have hz : (⟨#[]⟩ : ByteArray).size = 0 := rfl
    refine ev_pos (by rw [hz]; omega) ?_
    by_cases hsz : wordsN a * wordN w ≤ (⟨#[]⟩ ++ t : ByteArray).size
    · exact Ev.bind (relRead_ev b w a _ (by rw [ByteArray.size_append, hz]; omega) hsz) (ev_neg (by decide) (Ev.now true))
    · exact Ev.bind (relRead_short b w a _ hsz) (ev_neg (by decide) (Ev.now true))
theorem RelrecPuts : graverlaw09_RelrecPuts.Pure := by
  intro n off sym ty add more hn w1 w2 w3 w4 hm
  have h1 := wf_u64 w1
  have h2 := wf_u64 w2
  have h3 := wf_u64 w3
  have h4 := wf_u64 w4
  refine Ev.rounds (Ev.congr (fun k => graverlaw09_RelrecPuts.f.eq_1 k n off sym ty add more) ?_)
  refine Ev.bind speaks09 (ev_pos rfl (ev_const (formOf_is n) ?_))
  generalize ((Go.bits .and .i64 n 1) == 1) = b
  generalize ((Go.bits .and .i64 n 2) == 2) = w
  generalize ((Go.bits .and .i64 n 4) == 4) = a
  refine Ev.bind (relPut_ev b w a off sym ty add h1 h2 h3 h4) (Ev.bind (refPut09 b w a off sym ty add h1 h2 h3 h4) (ev_pos rfl (ev_neg (by simp) ?_)))
  refine Ev.bind (good_ev b w a off sym ty add h1 h2 h3 h4) ?_
  rw [relR_ok b w a off sym ty add h2 h3, bne_self_eq_false, ← relR_ok b w a off sym ty add h2 h3]
  exact puts_last b w a off sym ty add h1 h2 h3 h4 more hm

end Go.Proofs.Ytjmjebbjfjgbeaa.Pure
