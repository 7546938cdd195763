/- Any bytes behind any first ones: the tables, or why not: the same number as the document's, for every input; no condition. -/
import Derived.Test.YtceilmhinkkgfaaDoorFct
import Derived.KernelRfl
import Derived.Test.YtceilmhinkkgfaaDoorQ32
set_option linter.unusedVariables false
set_option linter.unusedSimpArgs false
namespace Go.Proofs.YtceilmhinkkgfaaDoor.Pure
open Go.RowKit Go.Proofs.YtceilmhinkkgfaaDoor.Q Go.Proofs.YtceilmhinkkgfaaDoorW.PrintWords Go.Proofs.YtceilmhinkkgfaaDoorW.PrintLast Go.Proofs.YtceilmhinkkgfaaDoorW.PrintMore Go.Proofs.YtceilmhinkkgfaaDoor.Mth

set_option maxRecDepth 100000 in
theorem speaks_is : l11speaks.f 300 = some true := by kernel_rfl
theorem speaks_ev : Ev (fun k => l11speaks.f k) true := Ev.of l11speaks.mono speaks_is
theorem parse_num (s : ByteArray) (hs : s.size ≤ 140737488351232) : ∃ e f, Ev (fun k => rwP.f k s) f ∧ Ev (fun k => g11Why.f k s) e ∧ f.2.2.2.2.2.2.2.2.2.2.2.2.2.2.2.2.2.2.2.2.2 = e := by
  obtain ⟨e, f, hf, he, h1, h0⟩ := parse_why s hs
  refine ⟨e, f, hf, he, ?_⟩
  by_cases c : e = 0
  · obtain ⟨b, w, a2, a3, a4, hh, _⟩ := h0 c
    rw [hh, c]
    rfl
  · rw [h1 c]
    rfl
theorem RawAny : l11RawAny.Pure := by
  intro a0 a1 _ hs
  refine Ev.rounds ?_
  refine Ev.congr (fun k => l11RawAny.f.eq_1 ..) (Ev.bind speaks_ev (ev_pos rfl ?_))
  have hm : 0 ≤ mn (a1.size : Int) 400 ∧ mn (a1.size : Int) 400 ≤ (a1.size : Int) ∧ mn (a1.size : Int) 400 ≤ 400 := by unfold mn; omega
  refine ev_pos hm.1 (ev_pos hm.2.1 ?_)
  obtain ⟨m, em⟩ := Int.eq_ofNat_of_zero_le hm.1
  rw [em] at hm ⊢
  rw [Int.toNat_natCast]
  have hc : (a1.extract 0 m).size = m := by
    rw [← data_length, extract_data, List.length_take, List.length_drop, data_length]
    omega
  generalize a1.extract 0 m = c at hc ⊢
  have idt : ∀ b w : Bool, ∃ t : ByteArray, cI_Bytes.f b w 0 0 ⟨#[]⟩ = some t ∧ t.size = 16 := by
    intro b w
    refine ⟨_, ident_is b w 0 0 ⟨#[]⟩ (by decide), ?_⟩
    cases b <;> cases w <;> rfl
  refine ev_const (l11formOf.f.eq_1 a0) ?_
  obtain ⟨t, ht, hz⟩ := idt ((Go.bits .and .i64 a0 1) == 1) ((Go.bits .and .i64 a0 2) == 2)
  refine ev_const ht (ev_pos (by omega) ?_)
  obtain ⟨e1, f1, pf1, wf1, h1⟩ := parse_num (t ++ c) (by rw [ByteArray.size_append]; omega)
  obtain ⟨e2, f2, pf2, wf2, h2⟩ := parse_num c (by omega)
  exact Ev.bind pf1 (Ev.bind pf2 (Ev.bind wf1 (ev_pos h1 (Ev.bind wf2 (ev_now (by rw [h2]; exact beq_self_eq_true _))))))
end Go.Proofs.YtceilmhinkkgfaaDoor.Pure
