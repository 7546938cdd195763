/- What the program's words on spans come to: plain facts on the printed functions; no Go, no memory. -/
import Derived.Test.YteoeohkjomehoaaMth
import Derived.Test.YteoeohkjomehoaaSpn
import Derived.Test.YteoeohkjomehoaaQ2
import Derived.Test.YteoeohkjomehoaaQ3
import Derived.Test.YteoeohkjomehoaaQ4
namespace Go.Proofs.Yteoeohkjomehoaa.Q
open Go.RowKit Go.Proofs.YteoeohkjomehoaaW.PrintWords Go.Proofs.YteoeohkjomehoaaW.PrintMore Go.Proofs.Yteoeohkjomehoaa.Mth Go.Proofs.Yteoeohkjomehoaa.Spn
set_option linter.unusedVariables false
set_option linter.unusedSimpArgs false

theorem sorted_perm (l : List Sp) : (sortOf l).Perm (l.filter fun x => !dead x) := by
  obtain ⟨h1, h2, h3⟩ := (sortOf_spec l).1
  have e1 : (l.filter fun x => !dead x).toArray.extract 0 (l.filter fun x => !dead x).toArray.size = (l.filter fun x => !dead x).toArray := Array.extract_size
  have e2 : (sortOf l).toArray.extract 0 (l.filter fun x => !dead x).toArray.size = (sortOf l).toArray := by rw [← h1]; exact Array.extract_size
  rw [e1, e2] at h3
  exact h3
theorem sorted_le (l : List Sp) : (sortOf l).Pairwise fun x y => x.f0 ≤ y.f0 := by
  obtain ⟨h1, h2, h3⟩ := (sortOf_spec l).1
  have h := (sortOf_spec l).2
  rw [List.pairwise_iff_getElem]
  intro i j hi hj hij
  have := h i j (Nat.zero_le _) hij (by rw [← h1]; simpa using hj)
  rw [lt_def, show (sortOf l).toArray[j]! = (sortOf l)[j] by rw [getElem!_pos _ j (by simpa using hj)]; simp, show (sortOf l).toArray[i]! = (sortOf l)[i] by rw [getElem!_pos _ i (by simpa using hi)]; simp] at this
  simpa using this
/-- A span's numbers are whole numbers of 64 bits. -/
def Us (x : Sp) : Prop := 0 ≤ x.f0 ∧ x.f0 < 18446744073709551616 ∧ 0 ≤ x.f1 ∧ x.f1 < 18446744073709551616
theorem adS_eq {x y : Int} (hx : 0 ≤ x) (hy : 0 ≤ y) : adS x y = (x + y) % 18446744073709551616 := by unfold adS; omega
theorem adC_eq {x y : Int} (hx : 0 ≤ x) (hy : 0 ≤ y) : adC x y = (x + y) / 18446744073709551616 := by unfold adC; omega
def lastI (a n : Int) : Int := if a + n ≤ 18446744073709551616 then a + n - 1 else 18446744073709551615
theorem last_eq {a n : Int} (h0 : 0 ≤ a) (h1 : a < 18446744073709551616) (h2 : 0 < n) (h3 : n < 18446744073709551616) : span_Span_last.f a n = some (lastI a n) := by
  unfold span_Span_last.f lastI
  rw [wrapu_id (by omega) (by omega), adC_eq h0 (by omega), adS_eq h0 (by omega)]
  by_cases h : a + n ≤ 18446744073709551616
  · rw [if_pos (by omega), if_pos h]
    congr 1; omega
  · rw [if_neg (by omega), if_neg h]
def tot : Int → List Int → Int × Bool
  | s, [] => (s, true)
  | s, x :: r => if s + x < 18446744073709551616 then tot (s + x) r else (0, false)
theorem rd_at2 (pre : List Int) (x : Int) (rest : List Int) : rd (pre ++ x :: rest) (pre.length : Int) = x := by
  unfold rd
  simp
theorem add_loop (A : List Int) (hA : A.length < 9223372036854775807) (hu : ∀ x ∈ A, 0 ≤ x ∧ x < 18446744073709551616) : ∀ (rest pre : List Int) (s : Int), A = pre ++ rest → 0 ≤ s → s < 18446744073709551616 →
    Ev (fun k => span_Add.l0 k s A (A.length : Int) (pre.length : Int)) (tot s rest) := by
  intro rest
  induction rest with
  | nil =>
    intro pre s h h0 h1
    refine Ev.step (span_Add.l0.eq_2 _ _ _ _) (ev_neg (by rw [h]; simp) ?_)
    exact ev_now rfl
  | cons x r ih =>
    intro pre s h h0 h1
    have hx := hu x (by rw [h]; simp)
    have hl : A.length = pre.length + r.length + 1 := by rw [h]; simp; omega
    have e1 : rd A (pre.length : Int) = x := by rw [h]; exact rd_at2 pre x r
    refine Ev.step (span_Add.l0.eq_2 _ _ _ _) (ev_pos (by omega) (ev_pos (by omega) (ev_pos (by omega) ?_)))
    rw [e1]
    unfold tot
    by_cases c : s + x < 18446744073709551616
    · rw [if_pos c]
      refine ev_pos (by rw [adC_eq h0 hx.1]; omega) ?_
      rw [adS_eq h0 hx.1, wrap64_id (by omega) (by omega), show (s + x) % 18446744073709551616 = s + x by omega]
      have := ih (pre ++ [x]) (s + x) (by rw [h]; simp) (by omega) c
      rw [List.length_append] at this
      simpa using this
    · rw [if_neg c]
      exact ev_neg (by rw [adC_eq h0 hx.1]; omega) (ev_now rfl)
theorem add_ev (A : List Int) (hA : A.length < 9223372036854775807) (hu : ∀ x ∈ A, 0 ≤ x ∧ x < 18446744073709551616) : Ev (fun k => span_Add.f k A) (tot 0 A) := by
  refine Ev.congr (fun k => span_Add.f.eq_1 k A) ?_
  have := add_loop A hA hu A [] 0 rfl (by omega) (by omega)
  simpa using this
theorem add2_ev {a b : Int} (ha : 0 ≤ a) (ha' : a < 18446744073709551616) (hb : 0 ≤ b) (hb' : b < 18446744073709551616) : Ev (fun k => span_Add.f k [a, b]) (if a + b < 18446744073709551616 then (a + b, true) else (0, false)) := by
  refine ev_eq (add_ev [a, b] (by simp) (fun x hx => ?_)) ?_
  · simp at hx
    rcases hx with rfl | rfl <;> exact ⟨by assumption, by assumption⟩
  · unfold tot tot tot
    rw [if_pos (by omega), Int.zero_add]
theorem round_ev {n a : Int} (h0 : 0 ≤ n) (h1 : n < 18446744073709551616) (h2 : 0 ≤ a) (h3 : a < 18446744073709551616) :
    Ev (fun k => span_Round.f k n a) (if a < 2 then (n, true) else if n % a = 0 then (n, true) else if n + (a - n % a) < 18446744073709551616 then (n + (a - n % a), true) else (0, false)) := by
  refine Ev.congr (fun k => span_Round.f.eq_1 k n a) ?_
  by_cases c : a < 2
  · rw [if_pos c]; exact ev_pos c (ev_now rfl)
  · rw [if_neg c]
    have ht : Int.tmod n a = n % a := Int.tmod_eq_emod_of_nonneg h0
    refine ev_neg c (ev_neg (by omega) ?_)
    rw [ht]
    by_cases c2 : n % a = 0
    · rw [if_pos c2]; exact ev_pos c2 (ev_now rfl)
    · rw [if_neg c2]
      have hm := Int.emod_lt_of_pos n (show 0 < a by omega)
      have hm0 := Int.emod_nonneg n (show a ≠ 0 by omega)
      rw [wrapu_id (by omega) (by omega)]
      refine ev_neg c2 ?_
      refine Ev.bind (add2_ev h0 h1 (by omega) (by omega)) ?_
      by_cases c3 : n + (a - n % a) < 18446744073709551616
      · rw [if_pos c3]; exact ev_now rfl
      · rw [if_neg c3]; exact ev_now rfl
theorem sp_two (a b : Sp) (h : a.f0 < b.f0) (l r : List Sp) (hl : (l.filter fun x => !dead x) = [a, b]) (hp : r.Perm (l.filter fun x => !dead x)) (hs : r.Pairwise fun x y => x.f0 ≤ y.f0) : r = [a, b] := by
  rw [hl] at hp
  match r, hp.length_eq, hp, hs with
  | [x, y], _, hp, hs =>
    have hx : x ∈ [a, b] := hp.subset (by simp)
    have hy : y ∈ [a, b] := hp.subset (by simp)
    have hb : b ∈ [x, y] := hp.symm.subset (by simp)
    have ha : a ∈ [x, y] := hp.symm.subset (by simp)
    simp at hx hy ha hb hs
    rcases hx with rfl | rfl
    · rcases hy with rfl | rfl
      · rcases hb with rfl | rfl <;> omega
      · rfl
    · rcases hy with rfl | rfl
      · omega
      · rcases ha with rfl | rfl <;> omega
theorem speaks02 : Ev (fun k => graverlaw02_speaks.f k) true := by
  have e1 : sortOf [(⟨2, 3⟩ : Sp), ⟨4, 2⟩] = [⟨2, 3⟩, ⟨4, 2⟩] := sp_two ⟨2, 3⟩ ⟨4, 2⟩ (by decide) _ _ rfl (sorted_perm _) (sorted_le _)
  have e2 : sortOf [(⟨0, 2⟩ : Sp), ⟨1, 1⟩] = [⟨0, 2⟩, ⟨1, 1⟩] := sp_two ⟨0, 2⟩ ⟨1, 1⟩ (by decide) _ _ rfl (sorted_perm _) (sorted_le _)
  have g : span_Gaps.f 20 10 [(⟨2, 3⟩ : Sp), ⟨4, 2⟩] = some [(⟨0, 2⟩ : Sp), ⟨6, 4⟩] := by
    unfold span_Gaps.f span_sorted.f
    rw [if_pos (by decide), e1]
    kernel_rfl
  have c : span_Clash.f 20 [(⟨0, 2⟩ : Sp), ⟨1, 1⟩] = some true := by
    unfold span_Clash.f span_sorted.f
    rw [if_pos (by decide), e2]
    kernel_rfl
  refine Ev.congr (fun k => graverlaw02_speaks.f.eq_1 k) ?_
  refine Ev.bind (Ev.of (fun k => span_Gaps.mono _ _ k) g) ?_
  refine Ev.bind (round_ev (n := 5) (a := 4) (by decide) (by decide) (by decide) (by decide)) ?_
  refine ev_pos (by decide) (ev_pos (by decide) (ev_pos (by decide) (ev_pos (by decide) (ev_pos (by decide) (ev_pos (by decide) (ev_pos (by decide) ?_))))))
  exact Ev.bind (Ev.of (fun k => span_Clash.mono _ k) c) (ev_now rfl)
end Go.Proofs.Yteoeohkjomehoaa.Q
