/- Any bytes as the numbers of a record of any form, and that these are these bytes again; fewer are none: for every input; no condition but the tables of sizes. -/
import Derived.Test.YthbkjppaimjpmaaDoorHdphdr
import Derived.Test.YthbkjppaimjpmaaDoorQ15
import Derived.Test.YthbkjppaimjpmaaDoorQ17
import Derived.Test.YthbkjppaimjpmaaDoorQ19
namespace Go.Proofs.YthbkjppaimjpmaaDoor.Pure
open Go.RowKit Go.Proofs.YthbkjppaimjpmaaDoor.Q Go.Proofs.YthbkjppaimjpmaaDoorW.PrintWords Go.Proofs.YthbkjppaimjpmaaDoorW.PrintLast Go.Proofs.YthbkjppaimjpmaaDoorW.PrintMore Go.Proofs.YthbkjppaimjpmaaDoor.Mth
set_option linter.unusedVariables false
set_option linter.unusedSimpArgs false


theorem speaks07 : Ev (fun k => graverlaw07_speaks.f k) true := Ev.of graverlaw07_speaks.mono (k := 40) (by decide +kernel)
theorem PhdrReads : graverlaw07_PhdrReads.Pure := by
  intro a0 a1 w0 hsz
  refine Ev.rounds (Ev.congr (fun k => graverlaw07_PhdrReads.f.eq_1 k a0 a1) ?_)
  obtain ⟨b, w, hf⟩ : ∃ b w, graverlaw07_formOf.f a0 = some (b, w) := ⟨_, _, rfl⟩
  refine Ev.bind speaks07 (ev_pos rfl (ev_const hf (ev_pos (by rw [mn_eq]; omega) (ev_pos (by rw [mn_eq]; omega) ?_))))
  have hx : (a1.extract 0 ((mn (a1.size : Int) 200) : Int).toNat).size ≤ 200 := by rw [ba_size, fold_app, List.length_take, mn_eq]; omega
  generalize a1.extract 0 ((mn (a1.size : Int) 200) : Int).toNat = s at *
  have ht := phdr_tot w
  by_cases hl : (s.size : Int) < phdr_total w
  · exact Ev.bind (phdr_read_short b w s hl) (Ev.bind (phdr_size_ev b w) (ev_pos hl (ev_neg (by decide) (ev_now (by decide)))))
  · obtain ⟨f0, f1, f2, f3, f4, f5, f6, f7, hev, hv⟩ := phdr_read_long b w s (by omega) (by omega)
    have hu : U64 (phdr_Put.vals w f0 f1 f2 f3 f4 f5 f6 f7) := by rw [hv]; exact nums_u64 b _ _
    obtain ⟨ha, hfl⟩ := flat_nums b (full w (phdr_Segment_shape.tab w)) s.data.toList (phdr_in8 w) (by rw [phdr_sum, ← ba_size]; omega)
    rw [← hv] at ha hfl
    rw [phdr_sum] at hfl
    have hr : recR b w (phdr_Segment_shape.tab w) (phdr_Put.vals w f0 f1 f2 f3 f4 f5 f6 f7) = (⟨(flat b (full w (phdr_Segment_shape.tab w)) (phdr_Put.vals w f0 f1 f2 f3 f4 f5 f6 f7)).toArray⟩, true) := by
      unfold recR
      rw [if_pos (by rw [phdr_len w, phdr_valen]), if_pos ha]
    have href := phdr_ref_ev b w f0 f1 f2 f3 f4 f5 f6 f7 hu
    rw [hr, hfl] at href
    have hsz3 : ((⟨(s.data.toList.take (phdr_total w).toNat).toArray⟩ : ByteArray).size : Int) = phdr_total w := by rw [ba_size]; show ((s.data.toList.take (phdr_total w).toNat).length : Int) = _; rw [List.length_take, ← ba_size]; omega
    refine Ev.bind hev (Ev.bind (phdr_size_ev b w) (ev_neg hl (Ev.bind href (ev_pos rfl (ev_pos rfl (ev_pos (by omega) (ev_pos (by show ((⟨(s.data.toList.take (phdr_total w).toNat).toArray⟩ : ByteArray).size : Int) ≤ (s.size : Int); omega) (ev_pos ?_ (Ev.bind (phdr_size_ev b w) (ev_now ?_)))))))))) 
    · show (⟨(s.data.toList.take (phdr_total w).toNat).toArray⟩ : ByteArray).toList = (s.extract 0 ((⟨(s.data.toList.take (phdr_total w).toNat).toArray⟩ : ByteArray).size : Int).toNat).toList
      rw [toList_data, toList_data, fold_app, hsz3]
    · show (((⟨(s.data.toList.take (phdr_total w).toNat).toArray⟩ : ByteArray).size : Int) == phdr_total w) = true
      rw [hsz3]; simp

end Go.Proofs.YthbkjppaimjpmaaDoor.Pure
