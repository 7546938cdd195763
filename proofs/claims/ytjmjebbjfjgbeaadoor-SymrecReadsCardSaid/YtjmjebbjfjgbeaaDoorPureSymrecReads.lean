/- Any bytes as the numbers of a record of any form, and that these are these bytes again; fewer are none: for every input; no condition but the tables of sizes. -/
import Derived.Test.YtjmjebbjfjgbeaaDoorHdsymrec
import Derived.Test.YtjmjebbjfjgbeaaDoorQ14
import Derived.Test.YtjmjebbjfjgbeaaDoorQ2
import Derived.Test.YtjmjebbjfjgbeaaDoorQ9
namespace Go.Proofs.YtjmjebbjfjgbeaaDoor.Pure
open Go.RowKit Go.Proofs.YtjmjebbjfjgbeaaDoor.Q Go.Proofs.YtjmjebbjfjgbeaaDoorW.PrintWords Go.Proofs.YtjmjebbjfjgbeaaDoorW.PrintLast Go.Proofs.YtjmjebbjfjgbeaaDoorW.PrintMore Go.Proofs.YtjmjebbjfjgbeaaDoor.Mth
set_option linter.unusedVariables false
set_option linter.unusedSimpArgs false


theorem speaks08 : Ev (fun k => graverlaw08_speaks.f k) true := Ev.of graverlaw08_speaks.mono (k := 40) (by decide +kernel)
theorem SymrecReads : graverlaw08_SymrecReads.Pure := by
  intro a0 a1 w0 hsz
  refine Ev.rounds (Ev.congr (fun k => graverlaw08_SymrecReads.f.eq_1 k a0 a1) ?_)
  obtain ⟨b, w, hf⟩ : ∃ b w, graverlaw08_formOf.f a0 = some (b, w) := ⟨_, _, rfl⟩
  refine Ev.bind speaks08 (ev_pos rfl (ev_const hf (ev_pos (by rw [mn_eq]; omega) (ev_pos (by rw [mn_eq]; omega) ?_))))
  have hx : (a1.extract 0 ((mn (a1.size : Int) 200) : Int).toNat).size ≤ 200 := by rw [ba_size, fold_app, List.length_take, mn_eq]; omega
  generalize a1.extract 0 ((mn (a1.size : Int) 200) : Int).toNat = s at *
  have ht := symrec_tot w
  by_cases hl : (s.size : Int) < symrec_total w
  · exact Ev.bind (symrec_read_short b w s hl) (Ev.bind (symrec_size_ev b w) (ev_pos hl (ev_neg (by decide) (ev_now (by decide)))))
  · obtain ⟨f0, f1, f2, f3, f4, f5, hev, hv⟩ := symrec_read_long b w s (by omega) (by omega)
    have hu : U64 (symrec_Put.vals w f0 f1 f2 f3 f4 f5) := by rw [hv]; exact nums_u64 b _ _
    obtain ⟨ha, hfl⟩ := flat_nums b (full w (symrec_Symbol_shape.tab w)) s.data.toList (symrec_in8 w) (by rw [symrec_sum, ← ba_size]; omega)
    rw [← hv] at ha hfl
    rw [symrec_sum] at hfl
    have hr : recR b w (symrec_Symbol_shape.tab w) (symrec_Put.vals w f0 f1 f2 f3 f4 f5) = (⟨(flat b (full w (symrec_Symbol_shape.tab w)) (symrec_Put.vals w f0 f1 f2 f3 f4 f5)).toArray⟩, true) := by
      unfold recR
      rw [if_pos (by rw [symrec_len w, symrec_valen]), if_pos ha]
    have href := symrec_ref_ev b w f0 f1 f2 f3 f4 f5 hu
    rw [hr, hfl] at href
    have hsz3 : ((⟨(s.data.toList.take (symrec_total w).toNat).toArray⟩ : ByteArray).size : Int) = symrec_total w := by rw [ba_size]; show ((s.data.toList.take (symrec_total w).toNat).length : Int) = _; rw [List.length_take, ← ba_size]; omega
    refine Ev.bind hev (Ev.bind (symrec_size_ev b w) (ev_neg hl (Ev.bind href (ev_pos rfl (ev_pos rfl (ev_pos (by omega) (ev_pos (by show ((⟨(s.data.toList.take (symrec_total w).toNat).toArray⟩ : ByteArray).size : Int) ≤ (s.size : Int); omega) (ev_pos ?_ (Ev.bind (symrec_size_ev b w) (ev_now ?_)))))))))) 
    · show (⟨(s.data.toList.take (symrec_total w).toNat).toArray⟩ : ByteArray).toList = (s.extract 0 ((⟨(s.data.toList.take (symrec_total w).toNat).toArray⟩ : ByteArray).size : Int).toNat).toList
      rw [toList_data, toList_data, fold_app, hsz3]
    · show (((⟨(s.data.toList.take (symrec_total w).toNat).toArray⟩ : ByteArray).size : Int) == symrec_total w) = true
      rw [hsz3]; simp

end Go.Proofs.YtjmjebbjfjgbeaaDoor.Pure
