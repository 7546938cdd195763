/- Any numbers in bytes of any form, or that one does not fit, and back: for every input; no condition but the tables of sizes. -/
import Derived.Test.YthbkjppaimjpmaaDoorHdphdr
import Derived.Test.YthbkjppaimjpmaaDoorQ15
import Derived.Test.YthbkjppaimjpmaaDoorQ17
import Derived.Test.YthbkjppaimjpmaaDoorQ18
namespace Go.Proofs.YthbkjppaimjpmaaDoor.Pure
open Go.RowKit Go.Proofs.YthbkjppaimjpmaaDoor.Q Go.Proofs.YthbkjppaimjpmaaDoorW.PrintWords Go.Proofs.YthbkjppaimjpmaaDoorW.PrintLast Go.Proofs.YthbkjppaimjpmaaDoorW.PrintMore Go.Proofs.YthbkjppaimjpmaaDoor.Mth
set_option linter.unusedVariables false
set_option linter.unusedSimpArgs false


theorem speaks07 : Ev (fun k => graverlaw07_speaks.f k) true := Ev.of graverlaw07_speaks.mono (k := 40) (by decide +kernel)
theorem u64_phdr (w : Bool) (f0 f1 f2 f3 f4 f5 f6 f7 : Int) (h0 : 0 ≤ f0 ∧ f0 < 18446744073709551616) (h1 : 0 ≤ f1 ∧ f1 < 18446744073709551616) (h2 : 0 ≤ f2 ∧ f2 < 18446744073709551616) (h3 : 0 ≤ f3 ∧ f3 < 18446744073709551616) (h4 : 0 ≤ f4 ∧ f4 < 18446744073709551616) (h5 : 0 ≤ f5 ∧ f5 < 18446744073709551616) (h6 : 0 ≤ f6 ∧ f6 < 18446744073709551616) (h7 : 0 ≤ f7 ∧ f7 < 18446744073709551616) : U64 (phdr_Put.vals w f0 f1 f2 f3 f4 f5 f6 f7) := by
  intro x hx
  cases w
  all_goals
    simp only [phdr_Put.vals, List.mem_cons, List.not_mem_nil, or_false, if_true, if_false, Bool.false_eq_true] at hx
    rcases hx with rfl | rfl | rfl | rfl | rfl | rfl | rfl | rfl <;> assumption
theorem PhdrPuts : graverlaw07_PhdrPuts.Pure := by
  intro a0 a1_0 a1_1 a1_2 a1_3 a1_4 a1_5 a1_6 a1_7 a2 w0 w1_0 w1_1 w1_2 w1_3 w1_4 w1_5 w1_6 w1_7 hsz
  have hu := fun w => u64_phdr w a1_0 a1_1 a1_2 a1_3 a1_4 a1_5 a1_6 a1_7 (wf_u64 w1_0) (wf_u64 w1_1) (wf_u64 w1_2) (wf_u64 w1_3) (wf_u64 w1_4) (wf_u64 w1_5) (wf_u64 w1_6) (wf_u64 w1_7)
  refine Ev.rounds (Ev.congr (fun k => graverlaw07_PhdrPuts.f.eq_1 k a0 a1_0 a1_1 a1_2 a1_3 a1_4 a1_5 a1_6 a1_7 a2) ?_)
  obtain ⟨b, w, hf⟩ : ∃ b w, graverlaw07_formOf.f a0 = some (b, w) := ⟨_, _, rfl⟩
  refine Ev.bind speaks07 (ev_pos rfl (ev_const hf (Ev.bind (phdr_put_ev b w a1_0 a1_1 a1_2 a1_3 a1_4 a1_5 a1_6 a1_7 (hu w)) (Ev.bind (phdr_ref_ev b w a1_0 a1_1 a1_2 a1_3 a1_4 a1_5 a1_6 a1_7 (hu w)) (ev_pos rfl (ev_neg (by simp) (ev_pos (by rw [mn_eq]; omega) (ev_pos (by rw [mn_eq]; omega) ?_))))))))
  have hx : (a2.extract 0 ((mn (a2.size : Int) 20) : Int).toNat).size ≤ 20 := by rw [ba_size, fold_app, List.length_take, mn_eq]; omega
  generalize a2.extract 0 ((mn (a2.size : Int) 20) : Int).toNat = x at *
  rcases phdr_rec b w a1_0 a1_1 a1_2 a1_3 a1_4 a1_5 a1_6 a1_7 with ⟨e, ha⟩ | e
  · rw [e]
    have hfl := flat_length b (full w (phdr_Segment_shape.tab w)) (phdr_Put.vals w a1_0 a1_1 a1_2 a1_3 a1_4 a1_5 a1_6 a1_7) ha (by rw [full_length, phdr_len w, phdr_valen])
    rw [phdr_sum] at hfl
    have ht := phdr_tot w
    have hsz2 : (⟨(flat b (full w (phdr_Segment_shape.tab w)) (phdr_Put.vals w a1_0 a1_1 a1_2 a1_3 a1_4 a1_5 a1_6 a1_7)).toArray⟩ : ByteArray).size = (flat b (full w (phdr_Segment_shape.tab w)) (phdr_Put.vals w a1_0 a1_1 a1_2 a1_3 a1_4 a1_5 a1_6 a1_7)).length := ba_size _
    generalize hs : (⟨(flat b (full w (phdr_Segment_shape.tab w)) (phdr_Put.vals w a1_0 a1_1 a1_2 a1_3 a1_4 a1_5 a1_6 a1_7)).toArray⟩ : ByteArray) = s at *
    have hsa : (s ++ x).size = s.size + x.size := ByteArray.size_append
    refine ev_pos (show s.size + x.size ≤ 9223372036854775807 by omega) ?_
    obtain ⟨g0, g1, g2, g3, g4, g5, g6, g7, hev, hv⟩ := phdr_read_long b w (s ++ x) (by omega) (by omega)
    have hd : (s ++ x).data.toList = flat b (full w (phdr_Segment_shape.tab w)) (phdr_Put.vals w a1_0 a1_1 a1_2 a1_3 a1_4 a1_5 a1_6 a1_7) ++ x.data.toList := by rw [append_data, ← hs]
    rw [hd, nums_flat b _ _ _ (phdr_in8 w) (hu w) (by rw [full_length, phdr_len w, phdr_valen]) ha] at hv
    obtain ⟨rfl, rfl, rfl, rfl, rfl, rfl, rfl, rfl⟩ := phdr_inj w _ _ _ _ _ _ _ _ _ _ _ _ _ _ _ _ hv
    exact Ev.bind hev (ev_pos rfl (ev_pos rfl (ev_now (by simp))))
  · rw [e]
    have hsa : ((⟨#[]⟩ : ByteArray) ++ x).size = 0 + x.size := ByteArray.size_append
    refine ev_pos (show 0 + x.size ≤ _ by omega) ?_
    by_cases hl : ((((⟨#[]⟩ : ByteArray) ++ x).size : Nat) : Int) < phdr_total w
    · exact Ev.bind (phdr_read_short b w _ hl) (ev_neg (by decide) (Ev.now true))
    · obtain ⟨g0, g1, g2, g3, g4, g5, g6, g7, hev, hv⟩ := phdr_read_long b w ((⟨#[]⟩ : ByteArray) ++ x) (by omega) (by omega)
      exact Ev.bind hev (ev_neg (by decide) (Ev.now true))

end Go.Proofs.YthbkjppaimjpmaaDoor.Pure
