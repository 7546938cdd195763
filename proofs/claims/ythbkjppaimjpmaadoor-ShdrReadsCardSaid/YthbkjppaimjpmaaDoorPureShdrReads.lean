/- Any bytes as the numbers of a record of any form, and that these are these bytes again; fewer are none: for every input; no condition but the tables of sizes. -/
import Derived.Test.YthbkjppaimjpmaaDoorHdshdr
import Derived.Test.YthbkjppaimjpmaaDoorQ14
import Derived.Test.YthbkjppaimjpmaaDoorQ3
import Derived.Test.YthbkjppaimjpmaaDoorQ9
namespace Go.Proofs.YthbkjppaimjpmaaDoor.Pure
open Go.RowKit Go.Proofs.YthbkjppaimjpmaaDoor.Q Go.Proofs.YthbkjppaimjpmaaDoorW.PrintWords Go.Proofs.YthbkjppaimjpmaaDoorW.PrintLast Go.Proofs.YthbkjppaimjpmaaDoorW.PrintMore Go.Proofs.YthbkjppaimjpmaaDoor.Mth
set_option linter.unusedVariables false
set_option linter.unusedSimpArgs false


theorem speaks06 : Ev (fun k => graverlaw06_speaks.f k) true := Ev.of graverlaw06_speaks.mono (k := 40) (by decide +kernel)
theorem ShdrReads : graverlaw06_ShdrReads.Pure := by
  intro a0 a1 w0 hsz
  refine Ev.rounds (Ev.congr (fun k => graverlaw06_ShdrReads.f.eq_1 k a0 a1) ?_)
  obtain ⟨b, w, hf⟩ : ∃ b w, graverlaw06_formOf.f a0 = some (b, w) := ⟨_, _, rfl⟩
  refine Ev.bind speaks06 (ev_pos rfl (ev_const hf (ev_pos (by rw [mn_eq]; omega) (ev_pos (by rw [mn_eq]; omega) ?_))))
  have hx : (a1.extract 0 ((mn (a1.size : Int) 200) : Int).toNat).size ≤ 200 := by rw [ba_size, fold_app, List.length_take, mn_eq]; omega
  generalize a1.extract 0 ((mn (a1.size : Int) 200) : Int).toNat = s at *
  have ht := shdr_tot w
  by_cases hl : (s.size : Int) < shdr_total w
  · exact Ev.bind (shdr_read_short b w s hl) (Ev.bind (shdr_size_ev b w) (ev_pos hl (ev_neg (by decide) (ev_now (by decide)))))
  · obtain ⟨f0, f1, f2, f3, f4, f5, f6, f7, f8, f9, hev, hv⟩ := shdr_read_long b w s (by omega) (by omega)
    have hu : U64 (shdr_Put.vals w f0 f1 f2 f3 f4 f5 f6 f7 f8 f9) := by rw [hv]; exact nums_u64 b _ _
    obtain ⟨ha, hfl⟩ := flat_nums b (full w tab_shdr_sizes) s.data.toList (shdr_in8 w) (by rw [shdr_sum, ← ba_size]; omega)
    rw [← hv] at ha hfl
    rw [shdr_sum] at hfl
    have hr : recR b w tab_shdr_sizes (shdr_Put.vals w f0 f1 f2 f3 f4 f5 f6 f7 f8 f9) = (⟨(flat b (full w tab_shdr_sizes) (shdr_Put.vals w f0 f1 f2 f3 f4 f5 f6 f7 f8 f9)).toArray⟩, true) := by
      unfold recR
      rw [if_pos (by rw [shdr_len w, shdr_valen]), if_pos ha]
    have href := shdr_ref_ev b w f0 f1 f2 f3 f4 f5 f6 f7 f8 f9 hu
    rw [hr, hfl] at href
    have hsz3 : ((⟨(s.data.toList.take (shdr_total w).toNat).toArray⟩ : ByteArray).size : Int) = shdr_total w := by rw [ba_size]; show ((s.data.toList.take (shdr_total w).toNat).length : Int) = _; rw [List.length_take, ← ba_size]; omega
    refine Ev.bind hev (Ev.bind (shdr_size_ev b w) (ev_neg hl (Ev.bind href (ev_pos rfl (ev_pos rfl (ev_pos (by omega) (ev_pos (by show ((⟨(s.data.toList.take (shdr_total w).toNat).toArray⟩ : ByteArray).size : Int) ≤ (s.size : Int); omega) (ev_pos ?_ (Ev.bind (shdr_size_ev b w) (ev_now ?_)))))))))) 
    · show (⟨(s.data.toList.take (shdr_total w).toNat).toArray⟩ : ByteArray).toList = (s.extract 0 ((⟨(s.data.toList.take (shdr_total w).toNat).toArray⟩ : ByteArray).size : Int).toNat).toList
      rw [toList_data, toList_data, fold_app, hsz3]
    · show (((⟨(s.data.toList.take (shdr_total w).toNat).toArray⟩ : ByteArray).size : Int) == shdr_total w) = true
      rw [hsz3]; simp

end Go.Proofs.YthbkjppaimjpmaaDoor.Pure
