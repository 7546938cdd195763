/- What the union of spans comes to, the bytes that two have in common, and how many bytes spans that rise have: plain facts on the printed functions; no Go, no memory. -/
import Derived.Test.YteoeohkjomehoaaSp02
import Derived.Test.YteoeohkjomehoaaQ2
import Derived.Test.YteoeohkjomehoaaQ5
import Derived.Test.YteoeohkjomehoaaQ6
namespace Go.Proofs.Yteoeohkjomehoaa.Q
open Go.RowKit Go.Proofs.YteoeohkjomehoaaW.PrintWords Go.Proofs.YteoeohkjomehoaaW.PrintMore Go.Proofs.Yteoeohkjomehoaa.Mth Go.Proofs.Yteoeohkjomehoaa.Spn
set_option linter.unusedVariables false
set_option linter.unusedSimpArgs false

/-- A span's numbers are small. -/
def Sm (x : Sp) : Prop := 0 ≤ x.f0 ∧ x.f0 < 256 ∧ 0 ≤ x.f1 ∧ x.f1 < 64
def hasU (x : Sp) (b : Int) : Prop := x.f0 ≤ b ∧ b < x.f0 + x.f1
def covU (l : List Sp) (b : Int) : Prop := ∃ x ∈ l, hasU x b
theorem covU_snoc (l : List Sp) (x : Sp) (b : Int) : covU (l ++ [x]) b ↔ covU l b ∨ hasU x b := by
  unfold covU
  constructor
  · rintro ⟨y, hy, h⟩
    rcases List.mem_append.1 hy with hy | hy
    · exact Or.inl ⟨y, hy, h⟩
    · obtain rfl : y = x := by simpa using hy
      exact Or.inr h
  · rintro (⟨y, hy, h⟩ | h)
    · exact ⟨y, by simp [hy], h⟩
    · exact ⟨x, by simp, h⟩
theorem covU_nil (b : Int) : ¬ covU [] b := fun ⟨_, h, _⟩ => by cases h
/-- Spans that rise, none of which touches the next. -/
def Rise (g : List Sp) : Prop := g.Pairwise (fun x y => x.f0 + x.f1 < y.f0) ∧ ∀ x ∈ g, 0 ≤ x.f0 ∧ 0 < x.f1 ∧ x.f0 + x.f1 < 320
theorem rise_snoc {g : List Sp} {p : Sp} : Rise (g ++ [p]) ↔ Rise g ∧ (∀ q ∈ g, q.f0 + q.f1 < p.f0) ∧ 0 ≤ p.f0 ∧ 0 < p.f1 ∧ p.f0 + p.f1 < 320 := by
  unfold Rise
  rw [List.pairwise_append]
  constructor
  · rintro ⟨⟨h1, _, h3⟩, h4⟩
    exact ⟨⟨h1, fun x hx => h4 x (by simp [hx])⟩, fun q hq => h3 q hq p (by simp), h4 p (by simp)⟩
  · rintro ⟨⟨h1, h2⟩, h3, h4⟩
    refine ⟨⟨h1, by simp, fun q hq y hy => ?_⟩, fun x hx => ?_⟩
    · obtain rfl : y = p := by simpa using hy
      exact h3 q hq
    · rcases List.mem_append.1 hx with hx | hx
      · exact h2 x hx
      · obtain rfl : x = p := by simpa using hx
        exact h4
theorem set_snoc (g : List Sp) (p q : Sp) : (g ++ [p]).set g.length q = g ++ [q] := by
  rw [List.set_append_right _ _ (Nat.le_refl _), Nat.sub_self]
  rfl
theorem snocU (g : List Sp) : g = [] ∨ ∃ g' p, g = g' ++ [p] := by
  rcases List.eq_nil_or_concat g with h | ⟨g', p, h⟩
  · exact Or.inl h
  · exact Or.inr ⟨g', p, by simpa using h⟩
theorem rd_atU (pre : List Sp) (x : Sp) (rest : List Sp) : rd_T29 (pre ++ x :: rest) (pre.length : Int) = x := by
  unfold rd_T29
  simp
theorem rd_lastU (pre : List Sp) (x : Sp) : rd_T29 (pre ++ [x]) (pre.length : Int) = x := rd_atU pre x []
theorem lastI_sm {a n : Int} (h1 : a + n < 1000) : lastI a n = a + n - 1 := by unfold lastI; rw [if_pos (by omega)]
theorem union_loop (A : List Sp) (hA : A.length < 100) (hs : A.Pairwise fun x y => x.f0 ≤ y.f0) (hm : ∀ x ∈ A, Sm x ∧ 0 < x.f1) : ∀ (rest pre out : List Sp), A = pre ++ rest → out.length ≤ pre.length → Rise out → (∀ p ∈ out, ∃ y ∈ pre, p.f0 = y.f0) → (∀ b, covU out b ↔ covU pre b) →
    ∃ u, Ev (fun k => span_Union.l0 k out A (A.length : Int) (pre.length : Int)) u ∧ Rise u ∧ u.length ≤ A.length ∧ ∀ b, covU u b ↔ covU A b := by
  intro rest
  induction rest with
  | nil =>
    intro pre out h hl hr hf hc
    refine ⟨out, Ev.step (span_Union.l0.eq_2 _ _ _ _) (ev_neg (by rw [h]; simp) (ev_now rfl)), hr, by rw [h]; simpa using hl, fun b => ?_⟩
    rw [hc b, h, List.append_nil]
  | cons x rest ih =>
    intro pre out h hl hr hf hc
    have hll : A.length = pre.length + rest.length + 1 := by rw [h]; simp; omega
    obtain ⟨⟨u0, u1, u2, u3⟩, u4⟩ := hm x (by rw [h]; simp)
    have e1 : rd_T29 A (pre.length : Int) = x := by rw [h]; exact rd_atU pre x rest
    have hpre : ∀ y ∈ pre, y.f0 ≤ x.f0 := fun y hy => by
      rw [h] at hs
      exact (List.pairwise_append.1 hs).2.2 y hy x (by simp)
    have ih' : ∀ out', out'.length ≤ out.length + 1 → Rise out' → (∀ p ∈ out', ∃ y ∈ pre ++ [x], p.f0 = y.f0) → (∀ b, covU out' b ↔ covU (pre ++ [x]) b) →
        ∃ u, Ev (fun k => span_Union.l0 k out' A (A.length : Int) (wrap64 ((pre.length : Int) + 1))) u ∧ Rise u ∧ u.length ≤ A.length ∧ ∀ b, covU u b ↔ covU A b := fun out' h1 h2 h3 h4 => by
      rw [wrap64_id (by omega) (by omega)]
      have := ih (pre ++ [x]) out' (by rw [h]; simp) (by simp; omega) h2 h3 h4
      rw [List.length_append] at this
      exact this
    have start : ∀ {r : List Sp}, Ev (fun k => if (wrap64 ((out.length : Int) - 1)) < 0 then (span_Union.j1 k out (wrap64 ((out.length : Int) - 1)) A (A.length : Int) (pre.length : Int) true x.f0 x.f1) else (if x.f0 > 0 then (if 0 ≤ (wrap64 ((out.length : Int) - 1)) then (if (wrap64 ((out.length : Int) - 1)) < (out.length : Int) then ((span_Span_last.f ((rd_T29 out (wrap64 ((out.length : Int) - 1))).f0) ((rd_T29 out (wrap64 ((out.length : Int) - 1))).f1)).bind fun t153 => (span_Union.j1 k out (wrap64 ((out.length : Int) - 1)) A (A.length : Int) (pre.length : Int) (decide (t153 < (IntKind.u64.wrap (x.f0 - 1)))) x.f0 x.f1)) else (none)) else (none)) else (span_Union.j1 k out (wrap64 ((out.length : Int) - 1)) A (A.length : Int) (pre.length : Int) false x.f0 x.f1))) r → Ev (fun k => span_Union.l0 k out A (A.length : Int) (pre.length : Int)) r := fun {r} hh => by
      refine Ev.step (span_Union.l0.eq_2 _ _ _ _) (ev_pos (by omega) (ev_pos (by omega) (ev_pos (by omega) ?_)))
      rw [e1]
      refine ev_const (last_eq u0 (by omega) u4 (by omega)) ?_
      rw [lastI_sm (by omega), wrapu_id (n := x.f0 + x.f1 - 1 - x.f0) (by omega) (by omega), wrapu_id (n := x.f0 + x.f1 - 1 - x.f0 + 1) (by omega) (by omega), show x.f0 + x.f1 - 1 - x.f0 + 1 = x.f1 by omega]
      exact hh
    rcases snocU out with rfl | ⟨g, p, rfl⟩
    · obtain ⟨u, hu, hu'⟩ := ih' [x] (by simp) ⟨by simp, fun y hy => by rw [show y = x by simpa using hy]; omega⟩ (fun p hp => ⟨x, by simp, by rw [show p = x by simpa using hp]⟩) (fun b => by
        rw [covU_snoc, ← hc b, show ([x] : List Sp) = [] ++ [x] from rfl, covU_snoc])
      refine ⟨u, start (ev_pos (by rw [List.length_nil, wrap64_id (by omega) (by omega)]; omega) (Ev.step (span_Union.j1.eq_2 _ _ _ _ _ _ _ _) (ev_pos rfl (ev_pos (by simp) hu)))), hu'⟩
    · obtain ⟨hg, hq, p0, p1, p2⟩ := rise_snoc.1 hr
      have hlo : (g ++ [p]).length = g.length + 1 := by simp
      have ep : rd_T29 (g ++ [p]) (g.length : Int) = p := rd_lastU g p
      have hpx : p.f0 ≤ x.f0 := by
        obtain ⟨y, hy, e⟩ := hf p (by simp)
        have := hpre y hy
        omega
      have ew : wrap64 (((g ++ [p]).length : Int) - 1) = (g.length : Int) := by rw [hlo, wrap64_id (by omega) (by omega)]; omega
      rw [ew] at start
      have tail : ∃ u, (∀ c : Bool, (c = true ↔ p.f0 + p.f1 < x.f0) → Ev (fun k => span_Union.j1 k (g ++ [p]) (g.length : Int) A (A.length : Int) (pre.length : Int) c x.f0 x.f1) u) ∧ Rise u ∧ u.length ≤ A.length ∧ ∀ b, covU u b ↔ covU A b := by
        by_cases c : p.f0 + p.f1 < x.f0
        · obtain ⟨u, hu, hu'⟩ := ih' (g ++ [p] ++ [x]) (by simp) (rise_snoc.2 ⟨hr, fun q hqq => by
            rcases List.mem_append.1 hqq with h1 | h1
            · have := hq q h1; omega
            · obtain rfl : q = p := by simpa using h1
              exact c, u0, u4, by omega⟩) (fun q hqq => by
            rcases List.mem_append.1 hqq with h1 | h1
            · obtain ⟨y, hy, e⟩ := hf q h1
              exact ⟨y, by simp [hy], e⟩
            · obtain rfl : q = x := by simpa using h1
              exact ⟨q, by simp, rfl⟩) (fun b => by rw [covU_snoc, covU_snoc pre, hc b])
          refine ⟨u, fun cc hcc => ?_, hu'⟩
          obtain rfl : cc = true := hcc.2 c
          exact Ev.step (span_Union.j1.eq_2 _ _ _ _ _ _ _ _) (ev_pos rfl (ev_pos (by omega) hu))
        · obtain ⟨e, he⟩ : ∃ e, mx (p.f0 + p.f1 - 1) (x.f0 + x.f1 - 1) = e := ⟨_, rfl⟩
          have he' : e = p.f0 + p.f1 - 1 ∧ x.f0 + x.f1 ≤ p.f0 + p.f1 ∨ e = x.f0 + x.f1 - 1 ∧ p.f0 + p.f1 < x.f0 + x.f1 := by
            rw [← he]; unfold mx
            split
            · exact Or.inr ⟨rfl, by omega⟩
            · exact Or.inl ⟨rfl, by omega⟩
          obtain ⟨u, hu, hu'⟩ := ih' (g ++ [(⟨p.f0, e - p.f0 + 1⟩ : Sp)]) (by simp) (rise_snoc.2 ⟨hg, hq, p0, by show 0 < e - p.f0 + 1; omega, by show p.f0 + (e - p.f0 + 1) < 320; omega⟩) (fun q hqq => by
            rcases List.mem_append.1 hqq with h1 | h1
            · obtain ⟨y, hy, e⟩ := hf q (by simp [h1])
              exact ⟨y, by simp [hy], e⟩
            · obtain rfl : q = ⟨p.f0, e - p.f0 + 1⟩ := by simpa using h1
              obtain ⟨y, hy, e⟩ := hf p (by simp)
              exact ⟨y, by simp [hy], e⟩) (fun b => by
            rw [covU_snoc, covU_snoc pre, ← hc b, covU_snoc]
            unfold hasU
            show _ ∨ (p.f0 ≤ b ∧ b < p.f0 + (e - p.f0 + 1)) ↔ _
            rw [or_assoc]
            refine or_congr Iff.rfl ?_
            omega)
          refine ⟨u, fun cc hcc => ?_, hu'⟩
          obtain rfl : cc = false := by
            cases cc with
            | true => exact absurd (hcc.1 rfl) c
            | false => rfl
          refine Ev.step (span_Union.j1.eq_2 _ _ _ _ _ _ _ _) (ev_neg (by decide) (ev_pos (by omega) (ev_pos (by omega) ?_)))
          rw [ep]
          refine ev_const (last_eq p0 (by omega) p1 (by omega)) (ev_const (last_eq u0 (by omega) u4 (by omega)) ?_)
          rw [lastI_sm (by omega), lastI_sm (by omega), he, wrapu_id (n := e - p.f0) (by omega) (by omega), wrapu_id (n := e - p.f0 + 1) (by omega) (by omega), Int.toNat_natCast, set_snoc]
          exact hu
      obtain ⟨u, hu, hu'⟩ := tail
      refine ⟨u, start (ev_neg (by omega) ?_), hu'⟩
      by_cases c : x.f0 > 0
      · refine ev_pos c (ev_pos (by omega) (ev_pos (by omega) ?_))
        rw [ep]
        refine ev_const (last_eq p0 (by omega) p1 (by omega)) (hu _ ?_)
        rw [lastI_sm (by omega), wrapu_id (n := x.f0 - 1) (by omega) (by omega), decide_eq_true_iff]
        omega
      · exact ev_neg c (hu _ (by constructor <;> intro hh <;> first | cases hh | omega))
theorem union_ev (l : List Sp) (hl : l.length < 100) (hm : ∀ x ∈ l, Sm x) : ∃ u, Ev (fun k => span_Union.f k l) u ∧ Rise u ∧ u.length ≤ l.length ∧ ∀ b, covU u b ↔ covU l b := by
  have hll : (sortOf l).length ≤ l.length := by rw [(sorted_perm l).length_eq]; exact List.length_filter_le _ _
  have hmem : ∀ x, x ∈ sortOf l ↔ x ∈ l ∧ x.f1 ≠ 0 := fun x => by
    rw [(sorted_perm l).mem_iff, List.mem_filter]
    unfold dead
    simp
  obtain ⟨u, hu, h1, h2, h3⟩ := union_loop (sortOf l) (by omega) (sorted_le l) (fun x hx => by
    obtain ⟨h1, h2⟩ := (hmem x).1 hx
    have h3 := hm x h1
    exact ⟨h3, by obtain ⟨_, _, h, _⟩ := h3; omega⟩) (sortOf l) [] [] rfl (Nat.le_refl _) ⟨List.Pairwise.nil, fun x hx => by cases hx⟩ (fun p hp => by cases hp) (fun b => Iff.rfl)
  refine ⟨u, Ev.congr (fun k => span_Union.f.eq_1 k l) (ev_const (show span_sorted.f l = some (sortOf l) from if_pos (by omega)) hu), h1, by omega, fun b => ?_⟩
  rw [h3 b]
  unfold covU
  constructor
  · rintro ⟨x, hx, hb⟩
    exact ⟨x, ((hmem x).1 hx).1, hb⟩
  · rintro ⟨x, hx, hb⟩
    refine ⟨x, (hmem x).2 ⟨hx, fun e => ?_⟩, hb⟩
    unfold hasU at hb
    omega
theorem common_ev {a n b m : Int} (h0 : 0 ≤ a) (h1 : a < 256) (h2 : 0 ≤ n) (h3 : n < 64) (h4 : 0 ≤ b) (h5 : b < 256) (h6 : 0 ≤ m) (h7 : m < 64) :
    Ev (fun k => span_Common.f k a n b m) (if mx a b < mn (a + n) (b + m) then (mx a b, mn (a + n) (b + m) - mx a b, true) else (0, 0, false)) := by
  obtain ⟨F, hF⟩ : ∃ F, mx a b = F := ⟨_, rfl⟩
  obtain ⟨E, hE⟩ : ∃ E, mn (a + n) (b + m) = E := ⟨_, rfl⟩
  have hF' : F = b ∧ a < b ∨ F = a ∧ b ≤ a := by
    rw [← hF]; unfold mx
    split
    · exact Or.inl ⟨rfl, by omega⟩
    · exact Or.inr ⟨rfl, by omega⟩
  have hE' : E = b + m ∧ b + m < a + n ∨ E = a + n ∧ a + n ≤ b + m := by
    rw [← hE]; unfold mn
    split
    · exact Or.inl ⟨rfl, by omega⟩
    · exact Or.inr ⟨rfl, by omega⟩
  rw [hF, hE]
  refine Ev.congr (fun k => span_Common.f.eq_1 k a n b m) ?_
  by_cases c : n = 0
  · refine ev_pos c (Ev.step (span_Common.j0.eq_2 _ _ _ _ _) (ev_pos rfl (ev_now ?_)))
    rw [if_neg (by omega)]
  · refine ev_neg c (Ev.step (span_Common.j0.eq_2 _ _ _ _ _) ?_)
    by_cases c2 : m = 0
    · refine ev_pos (by simp [c2]) (ev_now ?_)
      rw [if_neg (by omega)]
    · refine ev_neg (by simp [c2]) (ev_const (last_eq h0 (by omega) (by omega) (by omega)) (ev_const (last_eq h4 (by omega) (by omega) (by omega)) ?_))
      rw [lastI_sm (by omega), lastI_sm (by omega), hF]
      have e : mn (a + n - 1) (b + m - 1) = E - 1 := by
        rw [← hE]; unfold mn
        split <;> split <;> omega
      rw [e]
      by_cases c3 : F < E
      · rw [if_pos c3]
        refine ev_neg (by omega) (ev_now ?_)
        rw [wrapu_id (n := E - 1 - F) (by omega) (by omega), wrapu_id (n := E - 1 - F + 1) (by omega) (by omega), show E - 1 - F + 1 = E - F by omega]
      · rw [if_neg c3]
        exact ev_pos (by omega) (ev_now rfl)
/-- A span's bytes. -/
def bytesU (x : Sp) : List Int := (List.range x.f1.toNat).map fun i : Nat => x.f0 + (i : Int)
def allU (g : List Sp) : List Int := g.flatMap bytesU
theorem bytesU_length (x : Sp) : (bytesU x).length = x.f1.toNat := by unfold bytesU; simp
theorem mem_bytesU {x : Sp} {b : Int} : b ∈ bytesU x ↔ hasU x b := by
  unfold bytesU hasU
  rw [List.mem_map]
  constructor
  · rintro ⟨i, hi, rfl⟩
    have := List.mem_range.1 hi
    omega
  · rintro ⟨h1, h2⟩
    exact ⟨(b - x.f0).toNat, List.mem_range.2 (by omega), by omega⟩
theorem mem_allU {g : List Sp} {b : Int} : b ∈ allU g ↔ covU g b := by
  unfold allU covU
  rw [List.mem_flatMap]
  exact ⟨fun ⟨x, h1, h2⟩ => ⟨x, h1, mem_bytesU.1 h2⟩, fun ⟨x, h1, h2⟩ => ⟨x, h1, mem_bytesU.2 h2⟩⟩
theorem allU_snoc (g : List Sp) (x : Sp) : allU (g ++ [x]) = allU g ++ bytesU x := by unfold allU; simp
theorem bytesU_nodup (x : Sp) : (bytesU x).Nodup := by
  unfold bytesU
  refine List.pairwise_map.2 (List.Pairwise.imp (fun {a b} h e => h (by omega)) (List.nodup_range (n := x.f1.toNat)))
theorem allU_nodup : ∀ g : List Sp, Rise g → (allU g).Nodup
  | [], _ => List.Pairwise.nil
  | x :: g, h => by
    unfold allU
    rw [List.flatMap_cons, List.nodup_append]
    obtain ⟨h1, h2⟩ := h
    obtain ⟨h3, h4⟩ := List.pairwise_cons.1 h1
    refine ⟨bytesU_nodup x, allU_nodup g ⟨h4, fun y hy => h2 y (by simp [hy])⟩, fun a ha b hb e => ?_⟩
    subst e
    have k1 := mem_bytesU.1 ha
    obtain ⟨y, hy, k2⟩ := mem_allU.1 hb
    have := h3 y hy
    unfold hasU at k1 k2
    omega
theorem nodup_same {l1 l2 : List Int} (h1 : l1.Nodup) (h2 : l2.Nodup) (h : ∀ b, b ∈ l1 ↔ b ∈ l2) : l1.length = l2.length := ((List.perm_ext_iff_of_nodup h1 h2).2 (fun {b} => h b)).length_eq
end Go.Proofs.Yteoeohkjomehoaa.Q
