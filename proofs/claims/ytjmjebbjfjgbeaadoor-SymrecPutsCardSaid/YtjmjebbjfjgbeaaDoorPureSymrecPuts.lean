/- Any numbers in bytes of any form, or that one does not fit, and back: for every input; no condition but the tables of sizes. -/
import Derived.Test.YtjmjebbjfjgbeaaDoorHdsymrec
import Derived.Test.YtjmjebbjfjgbeaaDoorQ13
import Derived.Test.YtjmjebbjfjgbeaaDoorQ2
import Derived.Test.YtjmjebbjfjgbeaaDoorQ9
namespace Go.Proofs.YtjmjebbjfjgbeaaDoor.Pure
open Go.RowKit Go.Proofs.YtjmjebbjfjgbeaaDoor.Q Go.Proofs.YtjmjebbjfjgbeaaDoorW.PrintWords Go.Proofs.YtjmjebbjfjgbeaaDoorW.PrintLast Go.Proofs.YtjmjebbjfjgbeaaDoorW.PrintMore Go.Proofs.YtjmjebbjfjgbeaaDoor.Mth
set_option linter.unusedVariables false
set_option linter.unusedSimpArgs false


theorem speaks08 : Ev (fun k => graverlaw08_speaks.f k) true := Ev.of graverlaw08_speaks.mono (k := 40) (by decide +kernel)
theorem u64_symrec (w : Bool) (f0 f1 f2 f3 f4 f5 : Int) (h0 : 0 ≤ f0 ∧ f0 < 18446744073709551616) (h1 : 0 ≤ f1 ∧ f1 < 18446744073709551616) (h2 : 0 ≤ f2 ∧ f2 < 18446744073709551616) (h3 : 0 ≤ f3 ∧ f3 < 18446744073709551616) (h4 : 0 ≤ f4 ∧ f4 < 18446744073709551616) (h5 : 0 ≤ f5 ∧ f5 < 18446744073709551616) : U64 (symrec_Put.vals w f0 f1 f2 f3 f4 f5) := by
  intro x hx
  cases w
  all_goals
    simp only [symrec_Put.vals, List.mem_cons, List.not_mem_nil, or_false, if_true, if_false, Bool.false_eq_true] at hx
    rcases hx with rfl | rfl | rfl | rfl | rfl | rfl <;> assumption
theorem SymrecPuts : graverlaw08_SymrecPuts.Pure := by
  intro a0 a1_0 a1_1 a1_2 a1_3 a1_4 a1_5 a2 w0 w1_0 w1_1 w1_2 w1_3 w1_4 w1_5 hsz
  have hu := fun w => u64_symrec w a1_0 a1_1 a1_2 a1_3 a1_4 a1_5 (wf_u64 w1_0) (wf_u64 w1_1) (wf_u64 w1_2) (wf_u64 w1_3) (wf_u64 w1_4) (wf_u64 w1_5)
  refine Ev.rounds (Ev.congr (fun k => graverlaw08_SymrecPuts.f.eq_1 k a0 a1_0 a1_1 a1_2 a1_3 a1_4 a1_5 a2) ?_)
  obtain ⟨b, w, hf⟩ : ∃ b w, graverlaw08_formOf.f a0 = some (b, w) := ⟨_, _, rfl⟩
  refine Ev.bind speaks08 (ev_pos rfl (ev_const hf (Ev.bind (symrec_put_ev b w a1_0 a1_1 a1_2 a1_3 a1_4 a1_5 (hu w)) (Ev.bind (symrec_ref_ev b w a1_0 a1_1 a1_2 a1_3 a1_4 a1_5 (hu w)) (ev_pos rfl (ev_neg (by simp) (ev_pos (by rw [mn_eq]; omega) (ev_pos (by rw [mn_eq]; omega) ?_))))))))
  have hx : (a2.extract 0 ((mn (a2.size : Int) 20) : Int).toNat).size ≤ 20 := by rw [ba_size, fold_app, List.length_take, mn_eq]; omega
  generalize a2.extract 0 ((mn (a2.size : Int) 20) : Int).toNat = x at *
  rcases symrec_rec b w a1_0 a1_1 a1_2 a1_3 a1_4 a1_5 with ⟨e, ha⟩ | e
  · rw [e]
    have hfl := flat_length b (full w (symrec_Symbol_shape.tab w)) (symrec_Put.vals w a1_0 a1_1 a1_2 a1_3 a1_4 a1_5) ha (by rw [full_length, symrec_len w, symrec_valen])
    rw [symrec_sum] at hfl
    have ht := symrec_tot w
    have hsz2 : (⟨(flat b (full w (symrec_Symbol_shape.tab w)) (symrec_Put.vals w a1_0 a1_1 a1_2 a1_3 a1_4 a1_5)).toArray⟩ : ByteArray).size = (flat b (full w (symrec_Symbol_shape.tab w)) (symrec_Put.vals w a1_0 a1_1 a1_2 a1_3 a1_4 a1_5)).length := ba_size _
    generalize hs : (⟨(flat b (full w (symrec_Symbol_shape.tab w)) (symrec_Put.vals w a1_0 a1_1 a1_2 a1_3 a1_4 a1_5)).toArray⟩ : ByteArray) = s at *
    have hsa : (s ++ x).size = s.size + x.size := ByteArray.size_append
    refine ev_pos (show s.size + x.size ≤ 9223372036854775807 by omega) ?_
    obtain ⟨g0, g1, g2, g3, g4, g5, hev, hv⟩ := symrec_read_long b w (s ++ x) (by omega) (by omega)
    have hd : (s ++ x).data.toList = flat b (full w (symrec_Symbol_shape.tab w)) (symrec_Put.vals w a1_0 a1_1 a1_2 a1_3 a1_4 a1_5) ++ x.data.toList := by rw [append_data, ← hs]
    rw [hd, nums_flat b _ _ _ (symrec_in8 w) (hu w) (by rw [full_length, symrec_len w, symrec_valen]) ha] at hv
    obtain ⟨rfl, rfl, rfl, rfl, rfl, rfl⟩ := symrec_inj w _ _ _ _ _ _ _ _ _ _ _ _ hv
    exact Ev.bind hev (ev_pos rfl (ev_pos rfl (ev_now (by simp))))
  · rw [e]
    have hsa : ((⟨#[]⟩ : ByteArray) ++ x).size = 0 + x.size := ByteArray.size_append
    refine ev_pos (show 0 + x.size ≤ _ by omega) ?_
    by_cases hl : ((((⟨#[]⟩ : ByteArray) ++ x).size : Nat) : Int) < symrec_total w
    · exact Ev.bind (symrec_read_short b w _ hl) (ev_neg (by decide) (Ev.now true))
    · obtain ⟨g0, g1, g2, g3, g4, g5, hev, hv⟩ := symrec_read_long b w ((⟨#[]⟩ : ByteArray) ++ x) (by omega) (by omega)
      exact Ev.bind hev (ev_neg (by decide) (Ev.now true))

end Go.Proofs.YtjmjebbjfjgbeaaDoor.Pure
