/- What no span has, and whether two spans clash: the program's way and the document's come to the same: plain facts on the printed functions; no Go, no memory. -/
import Derived.Test.YteoeohkjomehoaaSp02
import Derived.Test.YteoeohkjomehoaaQ2
import Derived.Test.YteoeohkjomehoaaQ9
namespace Go.Proofs.Yteoeohkjomehoaa.Q
open Go.RowKit Go.Proofs.YteoeohkjomehoaaW.PrintWords Go.Proofs.YteoeohkjomehoaaW.PrintMore Go.Proofs.Yteoeohkjomehoaa.Mth Go.Proofs.Yteoeohkjomehoaa.Spn
set_option linter.unusedVariables false
set_option linter.unusedSimpArgs false

def toB (x : Sp) : S30 := ⟨x.f0, x.f1⟩
def has (x : Sp) (b : Int) : Bool := decide (x.f0 ≤ b ∧ b - x.f0 < x.f1)
def cov (l : List Sp) (b : Int) : Bool := l.any fun x => has x b
/-- One more byte that no span has. -/
def push (g : List Sp) (b : Int) : List Sp :=
  match g.getLast? with
  | some p => if p.f0 + p.f1 = b then g.dropLast ++ [⟨p.f0, p.f1 + 1⟩] else g ++ [⟨b, 1⟩]
  | none => [⟨b, 1⟩]
/-- The gaps among the first n bytes. -/
def refL (l : List Sp) : Nat → List Sp
  | 0 => []
  | n + 1 => if cov l n = true then refL l n else push (refL l n) n
theorem push_snoc (g : List Sp) (p : Sp) (b : Int) : push (g ++ [p]) b = if p.f0 + p.f1 = b then g ++ [⟨p.f0, p.f1 + 1⟩] else g ++ [p] ++ [⟨b, 1⟩] := by
  unfold push
  simp
theorem push_nil (b : Int) : push [] b = [⟨b, 1⟩] := rfl
theorem snoc_cases (g : List Sp) : g = [] ∨ ∃ g' p, g = g' ++ [p] := by
  rcases List.eq_nil_or_concat g with h | ⟨g', p, h⟩
  · exact Or.inl h
  · exact Or.inr ⟨g', p, by simpa using h⟩
/-- What the list of gaps is like. -/
theorem refL_ok (l : List Sp) (n : Nat) : (refL l n).length ≤ n ∧ ∀ p ∈ refL l n, 0 ≤ p.f0 ∧ 0 < p.f1 ∧ p.f0 + p.f1 ≤ n := by
  induction n with
  | zero => exact ⟨Nat.le_refl _, fun p hp => by cases hp⟩
  | succ n ih =>
    obtain ⟨h1, h2⟩ := ih
    unfold refL
    split
    · exact ⟨by omega, fun p hp => by have := h2 p hp; omega⟩
    · rcases snoc_cases (refL l n) with h | ⟨g, p, h⟩
      · rw [h, push_nil]
        refine ⟨by simp, fun q hq => ?_⟩
        obtain rfl : q = _ := by simpa using hq
        exact ⟨by simp, by simp, by simp <;> omega⟩
      · rw [h, push_snoc]
        rw [h] at h1 h2
        have hp := h2 p (by simp)
        simp only [List.length_append, List.length_singleton] at h1
        split
        · refine ⟨by simp; omega, fun q hq => ?_⟩
          rcases List.mem_append.1 hq with hq | hq
          · have := h2 q (by simp [hq]); omega
          · obtain rfl : q = _ := by simpa using hq
            exact ⟨by simp; omega, by simp; omega, by simp; omega⟩
        · refine ⟨by simp; omega, fun q hq => ?_⟩
          rcases List.mem_append.1 hq with hq | hq
          · have := h2 q hq; omega
          · obtain rfl : q = _ := by simpa using hq
            exact ⟨by simp, by simp, by simp <;> omega⟩
theorem refL_cov (l : List Sp) (x : Nat) : ∀ d, (∀ b : Nat, x ≤ b → b < x + d → cov l b = true) → refL l (x + d) = refL l x
  | 0, _ => rfl
  | d + 1, h => by
    show (if cov l ((x + d : Nat) : Int) = true then _ else _) = _
    rw [if_pos (h (x + d) (by omega) (by omega))]
    exact refL_cov l x d (fun b h1 h2 => h b h1 (by omega))
theorem refL_gap (l : List Sp) (x : Nat) (hne : ∀ (g : List Sp) (p : Sp), refL l x = g ++ [p] → p.f0 + p.f1 < (x : Int)) : ∀ d, (∀ b : Nat, x ≤ b → b < x + (d + 1) → cov l b = false) → refL l (x + (d + 1)) = refL l x ++ [⟨x, ((d + 1 : Nat) : Int)⟩]
  | 0, h => by
    show (if cov l ((x + 0 : Nat) : Int) = true then _ else _) = _
    rw [if_neg (by rw [h (x + 0) (by omega) (by omega)]; decide)]
    show push (refL l x) ((x + 0 : Nat) : Int) = _
    rcases snoc_cases (refL l x) with e | ⟨g, p, e⟩
    · rw [e, push_nil]; rfl
    · have := hne g p e
      rw [e, push_snoc, if_neg (by omega)]; rfl
  | d + 1, h => by
    have e : refL l (x + (d + 1 + 1)) = if cov l ((x + (d + 1) : Nat) : Int) = true then refL l (x + (d + 1)) else push (refL l (x + (d + 1))) ((x + (d + 1) : Nat) : Int) := rfl
    rw [e, if_neg (by rw [h (x + (d + 1)) (by omega) (by omega)]; decide), refL_gap l x hne d (fun b h1 h2 => h b h1 (by omega)), push_snoc, if_pos (by simp)]
    simp

/-! ### the document's way -/
theorem has_eq {a n b : Int} (h0 : 0 ≤ a) (h1 : 0 ≤ b) (h2 : b < 18446744073709551616) : graverref02_Has.f a n b = some (has ⟨a, n⟩ b) := by
  unfold graverref02_Has.f has
  by_cases c : b ≥ a
  · rw [if_pos c, wrapu_id (by omega) (by omega)]
    congr 1
    simp [c]
  · rw [if_neg c]
    congr 1
    symm
    exact decide_eq_false (fun h => c h.1)
theorem rd_atB (pre : List Sp) (x : Sp) (rest : List Sp) : rd_T30 ((pre ++ x :: rest).map toB) (pre.length : Int) = toB x := by
  unfold rd_T30
  simp
theorem ref_in (l : List Sp) (hl : l.length < 9223372036854775807) (hu : ∀ x ∈ l, Us x) (s : Int) (g : List S30) (b : Nat) (hb : b < 200) (r : List S30) : ∀ (rest pre : List Sp) (c : Bool), l = pre ++ rest →
    Ev (fun k => if (c || rest.any fun x => has x b) = true then (graverref02_Gaps.l0 k s (l.map toB) g (IntKind.u64.wrap ((b : Int) + 1))) else (if (g.length : Int) > 0 then (if 0 ≤ (wrap64 ((g.length : Int) - 1)) then (if (wrap64 ((g.length : Int) - 1)) < (g.length : Int) then (if (IntKind.u64.wrap (((rd_T30 g (wrap64 ((g.length : Int) - 1))).f0) + ((rd_T30 g (wrap64 ((g.length : Int) - 1))).f1))) = (b : Int) then (graverref02_Gaps.l0 k s (l.map toB) (g.set ((wrap64 ((g.length : Int) - 1)) : Int).toNat (⟨(rd_T30 g (wrap64 ((g.length : Int) - 1))).f0, IntKind.u64.wrap (((rd_T30 g (wrap64 ((g.length : Int) - 1))).f1) + 1)⟩ : S30)) (IntKind.u64.wrap ((b : Int) + 1))) else (if g.length < 8796093022208 then (graverref02_Gaps.l0 k s (l.map toB) (g ++ [(⟨(b : Int), 1⟩ : S30)]) (IntKind.u64.wrap ((b : Int) + 1))) else (none))) else (none)) else (none)) else (if g.length < 8796093022208 then (graverref02_Gaps.l0 k s (l.map toB) (g ++ [(⟨(b : Int), 1⟩ : S30)]) (IntKind.u64.wrap ((b : Int) + 1))) else (none)))) r →
    Ev (fun k => graverref02_Gaps.l1 k s (l.map toB) g b c (pre.length : Int)) r := by
  intro rest
  induction rest with
  | nil =>
    intro pre c h hT
    refine Ev.step (graverref02_Gaps.l1.eq_2 _ _ _ _ _ _) (ev_neg (by rw [h]; simp) ?_)
    simpa using hT
  | cons x rest ih =>
    intro pre c h hT
    have hl' : l.length = pre.length + rest.length + 1 := by rw [h]; simp; omega
    have hx := hu x (by rw [h]; simp)
    have e1 : rd_T30 (l.map toB) (pre.length : Int) = toB x := by rw [h]; exact rd_atB pre x rest
    have ih' := fun c' => ih (pre ++ [x]) c' (by rw [h]; simp)
    simp only [List.length_append, List.length_singleton] at ih'
    refine Ev.step (graverref02_Gaps.l1.eq_2 _ _ _ _ _ _) (ev_pos (by rw [List.length_map]; omega) ?_)
    rw [wrap64_id (n := (pre.length : Int) + 1) (by omega) (by omega)]
    cases c with
    | true =>
      refine ev_pos rfl (ih' true ?_)
      simpa using hT
    | false =>
      refine ev_neg (by decide) (ev_pos (by omega) ?_)
      rw [e1]
      refine ev_const (show graverref02_Has.f (toB x).f0 (toB x).f1 (b : Int) = some (has x b) from has_eq hx.1 (by omega) (by omega)) (ih' _ ?_)
      simpa using hT
theorem map_snoc (g : List Sp) (p : Sp) : (g ++ [p]).map toB = g.map toB ++ [toB p] := by simp
theorem ref_loop (l : List Sp) (hl : l.length < 9223372036854775807) (hu : ∀ x ∈ l, Us x) (s : Nat) (hs : s < 200) : ∀ (d b : Nat), b + d = s → Ev (fun k => graverref02_Gaps.l0 k s (l.map toB) ((refL l b).map toB) b) ((refL l s).map toB) := by
  intro d
  induction d with
  | zero =>
    intro b h
    obtain rfl : b = s := by omega
    exact Ev.step (graverref02_Gaps.l0.eq_2 _ _ _ _) (ev_neg (by omega) (ev_now rfl))
  | succ d ih =>
    intro b h
    have ih' := ih (b + 1) (by omega)
    refine Ev.step (graverref02_Gaps.l0.eq_2 _ _ _ _) (ev_pos (by omega) ?_)
    refine ref_in l hl hu s _ b (by omega) _ l [] false rfl ?_
    rw [Bool.false_or, wrapu_id (n := (b : Int) + 1) (by omega) (by omega)]
    have e : refL l (b + 1) = if cov l b = true then refL l b else push (refL l b) b := rfl
    rw [e] at ih'
    obtain ⟨k1, k2⟩ := refL_ok l b
    by_cases c : cov l b = true
    · rw [if_pos c] at ih'
      exact ev_pos c ih'
    · rw [if_neg c] at ih'
      refine ev_neg c ?_
      rcases snoc_cases (refL l b) with e2 | ⟨g, p, e2⟩
      · rw [e2] at ih' ⊢
        exact ev_neg (by simp) (ev_pos (by simp) ih')
      · rw [e2] at ih' k1 k2 ⊢
        have hp := k2 p (by simp)
        simp only [List.length_append, List.length_singleton] at k1
        have hlen : (((g ++ [p]).map toB).length : Int) = (g.length : Int) + 1 := by simp
        rw [hlen, wrap64_id (n := (g.length : Int) + 1 - 1) (by omega) (by omega), show (g.length : Int) + 1 - 1 = (g.length : Int) by omega]
        have e3 : rd_T30 ((g ++ [p]).map toB) (g.length : Int) = toB p := rd_atB g p []
        rw [push_snoc] at ih'
        rw [e3, show (toB p).f0 = p.f0 from rfl, show (toB p).f1 = p.f1 from rfl]
        refine ev_pos (by omega) (ev_pos (by omega) (ev_pos (by omega) ?_))
        rw [wrapu_id (n := p.f0 + p.f1) (by omega) (by omega)]
        by_cases c2 : p.f0 + p.f1 = b
        · refine ev_pos c2 ?_
          rw [if_pos c2] at ih'
          rw [wrapu_id (n := p.f1 + 1) (by omega) (by omega)]
          have e4 : ((g ++ [p]).map toB).set ((g.length : Int)).toNat (⟨p.f0, p.f1 + 1⟩ : S30) = (g ++ [(⟨p.f0, p.f1 + 1⟩ : Sp)]).map toB := by
            rw [map_snoc, map_snoc, Int.toNat_natCast, List.set_append_right _ _ (by simp)]
            simp [toB]
          rw [e4]
          exact ih'
        · refine ev_neg c2 (ev_pos (by simp; omega) ?_)
          rw [if_neg c2] at ih'
          have e4 : (g ++ [p]).map toB ++ [(⟨(b : Int), 1⟩ : S30)] = (g ++ [p] ++ [(⟨(b : Int), 1⟩ : Sp)]).map toB := by simp [toB]
          rw [e4]
          exact ih'
theorem ref_ev (l : List Sp) (hl : l.length < 9223372036854775807) (hu : ∀ x ∈ l, Us x) (s : Nat) (hs : s < 200) : Ev (fun k => graverref02_Gaps.f k s (l.map toB)) ((refL l s).map toB) :=
  Ev.congr (fun k => graverref02_Gaps.f.eq_1 k s (l.map toB)) (ref_loop l hl hu s hs s 0 (by omega))

/-! ### the program's way -/
theorem sorted_mem (l : List Sp) (x : Sp) : x ∈ sortOf l ↔ x ∈ l ∧ dead x = false := by
  rw [(sorted_perm l).mem_iff]
  simp
theorem sorted_us (l : List Sp) (hu : ∀ x ∈ l, Us x) (x : Sp) (hx : x ∈ sortOf l) : Us x ∧ 0 < x.f1 := by
  obtain ⟨h1, h2⟩ := (sorted_mem l x).1 hx
  refine ⟨hu x h1, ?_⟩
  have := hu x h1
  unfold Us at this
  unfold dead at h2
  have : x.f1 ≠ 0 := by simpa using h2
  omega
theorem cov_sorted (l : List Sp) (hu : ∀ x ∈ l, Us x) (b : Int) : cov l b = true ↔ ∃ x ∈ sortOf l, has x b = true := by
  unfold cov
  rw [List.any_eq_true]
  constructor
  · rintro ⟨x, hx, hb⟩
    refine ⟨x, (sorted_mem l x).2 ⟨hx, ?_⟩, hb⟩
    unfold has at hb
    have := of_decide_eq_true hb
    unfold dead
    simp
    omega
  · rintro ⟨x, hx, hb⟩
    exact ⟨x, ((sorted_mem l x).1 hx).1, hb⟩
theorem rd_atA (pre : List Sp) (x : Sp) (rest : List Sp) : rd_T29 (pre ++ x :: rest) (pre.length : Int) = x := by
  unfold rd_T29
  simp
theorem gaps_loop (l : List Sp) (hl : (sortOf l).length < 9223372036854775807) (hu : ∀ x ∈ l, Us x) (s : Nat) (hs : s < 200) : ∀ (rest pre : List Sp) (at_ : Nat), sortOf l = pre ++ rest → at_ ≤ s → (∀ x ∈ pre, ∀ b : Int, (at_ : Int) ≤ b → has x b = false) →
    (∀ (g : List Sp) (p : Sp), refL l at_ = g ++ [p] → p.f0 + p.f1 < (at_ : Int)) → Ev (fun k => span_Gaps.l0 k s (refL l at_) at_ (sortOf l) ((sortOf l).length : Int) (pre.length : Int)) (refL l s) := by
  have fin : ∀ (rest pre : List Sp) (at_ : Nat), sortOf l = pre ++ rest → at_ ≤ s → (∀ x ∈ pre, ∀ b : Int, (at_ : Int) ≤ b → has x b = false) →
      (∀ (g : List Sp) (p : Sp), refL l at_ = g ++ [p] → p.f0 + p.f1 < (at_ : Int)) → (∀ x ∈ rest, (s : Int) ≤ x.f0) → Ev (fun k => if (at_ : Int) < (s : Int) then (if (refL l at_).length < 8796093022208 then (some (refL l at_ ++ [(⟨(at_ : Int), IntKind.u64.wrap ((s : Int) - (at_ : Int))⟩ : Sp)])) else none) else some (refL l at_)) (refL l s) := by
    intro rest pre at_ h hat hpre hne hrest
    have k1 := (refL_ok l at_).1
    by_cases c : at_ < s
    · refine ev_pos (by omega) (ev_pos (by omega) (ev_now ?_))
      rw [wrapu_id (by omega) (by omega)]
      obtain ⟨d, rfl⟩ : ∃ d, s = at_ + (d + 1) := ⟨s - at_ - 1, by omega⟩
      rw [refL_gap l at_ hne d (fun b h1 h2 => ?_)]
      · congr 3
        omega
      · cases hc : cov l b with
        | false => rfl
        | true =>
          obtain ⟨x, hx, hb⟩ := (cov_sorted l hu b).1 hc
          rw [h] at hx
          rcases List.mem_append.1 hx with hx | hx
          · rw [hpre x hx b (by omega)] at hb; exact absurd hb (by decide)
          · have := hrest x hx
            have := of_decide_eq_true hb
            omega
    · refine ev_neg (by omega) (ev_now ?_)
      rw [show at_ = s by omega]
  intro rest
  induction rest with
  | nil =>
    intro pre at_ h hat hpre hne
    refine Ev.step (span_Gaps.l0.eq_2 _ _ _ _ _ _) (ev_neg (by rw [h]; simp) ?_)
    exact fin [] pre at_ h hat hpre hne (fun x hx => by cases hx)
  | cons x rest ih =>
    intro pre at_ h hat hpre hne
    have hll : (sortOf l).length = pre.length + rest.length + 1 := by rw [h]; simp; omega
    obtain ⟨⟨u0, u1, u2, u3⟩, u4⟩ := sorted_us l hu x (by rw [h]; simp)
    have e1 : rd_T29 (sortOf l) (pre.length : Int) = x := by rw [h]; exact rd_atA pre x rest
    have hmin : ∀ y ∈ x :: rest, x.f0 ≤ y.f0 := by
      have := sorted_le l
      rw [h] at this
      have := (List.pairwise_append.1 this).2.1
      intro y hy
      rcases List.mem_cons.1 hy with rfl | hy
      · exact Int.le_refl _
      · exact (List.pairwise_cons.1 this).1 y hy
    refine Ev.step (span_Gaps.l0.eq_2 _ _ _ _ _ _) (ev_pos (by omega) (ev_pos (by omega) (ev_pos (by omega) ?_)))
    rw [e1]
    by_cases c : x.f0 ≥ (s : Int)
    · refine ev_pos c ?_
      exact fin (x :: rest) pre at_ h hat hpre hne (fun y hy => Int.le_trans c (hmin y hy))
    · refine ev_neg c ?_
      -- behind the gap ahead of x, if there is one
      have tail : ∀ p : Nat, at_ ≤ p → x.f0 ≤ (p : Int) → ((p : Int) = x.f0 ∨ p = at_) → p ≤ s → (∀ (g : List Sp) (q : Sp), refL l p = g ++ [q] → q.f0 + q.f1 < (p : Int) ∨ q.f0 + q.f1 ≤ x.f0) → Ev (fun k => span_Gaps.j1 k s (refL l p) at_ (sortOf l) ((sortOf l).length : Int) (pre.length : Int) x.f0 x.f1) (refL l s) := by
        intro p hp1 hp2 hp3 hp4 hp5
        refine Ev.step (span_Gaps.j1.eq_2 _ _ _ _ _ _ _ _) (ev_const (last_eq u0 u1 u4 u3) ?_)
        have hL : lastI x.f0 x.f1 = if x.f0 + x.f1 ≤ 18446744073709551616 then x.f0 + x.f1 - 1 else 18446744073709551615 := rfl
        have hcov : ∀ b : Nat, p ≤ b → (b : Int) ≤ lastI x.f0 x.f1 → cov l b = true := fun b h1 h2 => (cov_sorted l hu b).2 ⟨x, by rw [h]; simp, by
          unfold has; refine decide_eq_true ⟨by omega, ?_⟩
          split at hL <;> omega⟩
        have hx0 : x.f0 ≤ lastI x.f0 x.f1 := by split at hL <;> omega
        rw [wrapu_id (n := (s : Int) - 1) (by omega) (by omega)]
        by_cases c3 : lastI x.f0 x.f1 ≥ (s : Int) - 1
        · refine ev_pos c3 (ev_now ?_)
          obtain ⟨d, rfl⟩ : ∃ d, s = p + d := ⟨s - p, by omega⟩
          exact (refL_cov l p d (fun b h1 h2 => hcov b h1 (by omega))).symm
        · refine ev_neg c3 (ev_const (last_eq u0 u1 u4 u3) ?_)
          rw [wrapu_id (n := lastI x.f0 x.f1 + 1) (by omega) (by omega), wrap64_id (n := (pre.length : Int) + 1) (by omega) (by omega)]
          have hLL : lastI x.f0 x.f1 = x.f0 + x.f1 - 1 := by split at hL <;> omega
          obtain ⟨a2, ha2⟩ : ∃ a2 : Nat, (a2 : Int) = mx (at_ : Int) (lastI x.f0 x.f1 + 1) := ⟨(mx (at_ : Int) (lastI x.f0 x.f1 + 1)).toNat, by unfold mx; split <;> omega⟩
          have hm : (a2 : Int) = (at_ : Int) ∧ lastI x.f0 x.f1 + 1 ≤ (at_ : Int) ∨ (a2 : Int) = lastI x.f0 x.f1 + 1 ∧ (at_ : Int) < lastI x.f0 x.f1 + 1 := by
            rw [ha2]; unfold mx; split
            · exact Or.inr ⟨rfl, by omega⟩
            · exact Or.inl ⟨rfl, by omega⟩
          rw [← ha2]
          have hpa : p ≤ a2 := by rcases hm with ⟨e, _⟩ | ⟨e, _⟩ <;> omega
          have er : refL l p = refL l a2 := by
            obtain ⟨d, rfl⟩ : ∃ d, a2 = p + d := ⟨a2 - p, by omega⟩
            exact (refL_cov l p d (fun b h1 h2 => hcov b h1 (by rcases hm with ⟨e, _⟩ | ⟨e, _⟩ <;> omega))).symm
          rw [er]
          have := ih (pre ++ [x]) a2 (by rw [h]; simp) (by rcases hm with ⟨e, _⟩ | ⟨e, _⟩ <;> omega) (fun y hy b hb => ?_) (fun g q hg => ?_)
          · rw [List.length_append] at this
            exact this
          · rcases List.mem_append.1 hy with hy | hy
            · exact hpre y hy b (by rcases hm with ⟨e, _⟩ | ⟨e, _⟩ <;> omega)
            · obtain rfl : y = x := by simpa using hy
              unfold has
              exact decide_eq_false (fun hh => by rcases hm with ⟨e, _⟩ | ⟨e, _⟩ <;> omega)
          · rw [← er] at hg
            have := hp5 g q hg
            rcases hm with ⟨e, _⟩ | ⟨e, _⟩ <;> omega
      by_cases c2 : x.f0 > (at_ : Int)
      · obtain ⟨p, hp⟩ : ∃ p : Nat, (p : Int) = x.f0 := ⟨x.f0.toNat, by omega⟩
        obtain ⟨d, rfl⟩ : ∃ d, p = at_ + (d + 1) := ⟨p - at_ - 1, by omega⟩
        have k1 := (refL_ok l at_).1
        have hg := refL_gap l at_ hne d (fun b h1 h2 => by
          cases hc : cov l b with
          | false => rfl
          | true =>
            obtain ⟨y, hy, hb⟩ := (cov_sorted l hu b).1 hc
            rw [h] at hy
            rcases List.mem_append.1 hy with hy | hy
            · rw [hpre y hy b (by omega)] at hb; exact absurd hb (by decide)
            · have := hmin y hy
              have := of_decide_eq_true hb
              omega)
        refine ev_pos c2 (ev_pos (by omega) ?_)
        rw [wrapu_id (n := x.f0 - (at_ : Int)) (by omega) (by omega), show x.f0 - (at_ : Int) = ((d + 1 : Nat) : Int) by omega, ← hg]
        refine tail (at_ + (d + 1)) (by omega) (by omega) (Or.inl hp) (by omega) (fun g q hq => ?_)
        rw [hg] at hq
        have := (List.append_inj' hq rfl).2
        obtain rfl : q = _ := by simpa using this.symm
        exact Or.inr (by show (at_ : Int) + ((d + 1 : Nat) : Int) ≤ x.f0; omega)
      · refine ev_neg c2 ?_
        exact tail at_ (Nat.le_refl _) (by omega) (Or.inr rfl) hat (fun g q hq => Or.inl (hne g q hq))
theorem gaps_ev (l : List Sp) (hl : l.length ≤ 8796093022208) (hu : ∀ x ∈ l, Us x) (s : Nat) (hs : s < 200) : Ev (fun k => span_Gaps.f k s l) (refL l s) := by
  have hll : (sortOf l).length ≤ l.length := by rw [(sorted_perm l).length_eq]; exact List.length_filter_le _ _
  refine Ev.congr (fun k => span_Gaps.f.eq_1 k s l) (ev_const (show span_sorted.f l = some (sortOf l) from if_pos hl) ?_)
  exact gaps_loop l (by omega) hu s hs (sortOf l) [] 0 rfl (Nat.zero_le _) (fun x hx => by cases hx) (fun g p hg => by simp [refL] at hg)

/-! ### clashes -/
def ovb (x y : Sp) : Bool := decide (x.f1 > 0) && decide (y.f1 > 0) && (has x y.f0 || has y x.f0)
theorem ovb_symm (x y : Sp) : ovb x y = ovb y x := by
  unfold ovb
  rw [Bool.and_comm (decide (x.f1 > 0)), Bool.or_comm]
def clashFrom : List Sp → List Sp → Bool
  | _, [] => false
  | pre, x :: r => pre.any (fun y => ovb x y) || clashFrom (pre ++ [x]) r
theorem clashFrom_iff : ∀ (r pre : List Sp), clashFrom pre r = false ↔ (∀ x ∈ r, ∀ y ∈ pre, ovb x y = false) ∧ r.Pairwise fun y x => ovb x y = false
  | [], pre => by simp [clashFrom]
  | x :: r, pre => by
    unfold clashFrom
    rw [Bool.or_eq_false_iff, clashFrom_iff r (pre ++ [x]), List.pairwise_cons]
    constructor
    · rintro ⟨h1, h2, h3⟩
      refine ⟨fun a ha y hy => ?_, fun a ha => h2 a ha x (by simp), h3⟩
      rcases List.mem_cons.1 ha with rfl | ha
      · have := List.any_eq_false.1 h1 y hy
        simpa using this
      · exact h2 a ha y (by simp [hy])
    · rintro ⟨h1, h2, h3⟩
      refine ⟨List.any_eq_false.2 fun y hy => by rw [h1 x (by simp) y hy]; decide, fun a ha y hy => ?_, h3⟩
      rcases List.mem_append.1 hy with hy | hy
      · exact h1 a (by simp [ha]) y hy
      · obtain rfl : y = x := by simpa using hy
        exact h2 a ha
theorem clash_sorted (l : List Sp) (hu : ∀ x ∈ l, Us x) : clashFrom [] (sortOf l) = clashFrom [] l := by
  have h1 : ∀ r : List Sp, clashFrom [] r = false ↔ r.Pairwise fun y x => ovb x y = false := fun r => by rw [clashFrom_iff]; simp
  have h2 : (sortOf l).Pairwise (fun y x => ovb x y = false) ↔ l.Pairwise fun y x => ovb x y = false := by
    rw [(sorted_perm l).pairwise_iff (fun {a b} h => by rw [ovb_symm]; exact h), List.pairwise_filter]
    constructor
    · intro h
      refine List.Pairwise.imp_of_mem (fun {a b} ha hb hab => ?_) h
      by_cases da : dead a = false
      · by_cases db : dead b = false
        · exact hab (by simp [da]) (by simp [db])
        · unfold ovb; unfold dead at db
          have : b.f1 = 0 := by simpa using db
          simp [this]
      · unfold ovb; unfold dead at da
        have : a.f1 = 0 := by simpa using da
        simp [this]
    · intro h
      exact h.imp fun {a b} hab _ _ => hab
  cases hb : clashFrom [] l with
  | false => exact (h1 _).2 (h2.2 ((h1 _).1 hb))
  | true =>
    cases ha : clashFrom [] (sortOf l) with
    | true => rfl
    | false =>
      have := (h1 _).2 (h2.1 ((h1 _).1 ha))
      rw [this] at hb; exact hb
theorem clash_loop (l : List Sp) (hl : (sortOf l).length < 9223372036854775807) (hu : ∀ x ∈ l, Us x) : ∀ (rest pre : List Sp) (last : Int), sortOf l = pre ++ rest → (∀ y ∈ pre, lastI y.f0 y.f1 ≤ last) → (pre = [] ∧ last = 0 ∨ ∃ y ∈ pre, lastI y.f0 y.f1 = last) →
    Ev (fun k => span_Clash.l0 k last (sortOf l) ((sortOf l).length : Int) (pre.length : Int)) (clashFrom pre rest) := by
  intro rest
  induction rest with
  | nil =>
    intro pre last h h1 h2
    exact Ev.step (span_Clash.l0.eq_2 _ _ _ _) (ev_neg (by rw [h]; simp) (ev_now rfl))
  | cons x rest ih =>
    intro pre last h h1 h2
    have hll : (sortOf l).length = pre.length + rest.length + 1 := by rw [h]; simp; omega
    obtain ⟨⟨u0, u1, u2, u3⟩, u4⟩ := sorted_us l hu x (by rw [h]; simp)
    have e1 : rd_T29 (sortOf l) (pre.length : Int) = x := by rw [h]; exact rd_atA pre x rest
    have hpre : ∀ y ∈ pre, Us y ∧ 0 < y.f1 ∧ y.f0 ≤ x.f0 := fun y hy => by
      have h3 := sorted_us l hu y (by rw [h]; simp [hy])
      have h4 := sorted_le l
      rw [h] at h4
      exact ⟨h3.1, h3.2, (List.pairwise_append.1 h4).2.2 y hy x (by simp)⟩
    have hLx : lastI x.f0 x.f1 = if x.f0 + x.f1 ≤ 18446744073709551616 then x.f0 + x.f1 - 1 else 18446744073709551615 := rfl
    have step : (∀ y ∈ pre, ovb x y = false) → Ev (fun k => (span_Span_last.f x.f0 x.f1).bind fun t => span_Clash.l0 k (mx last t) (sortOf l) ((sortOf l).length : Int) (wrap64 ((pre.length : Int) + 1))) (clashFrom pre (x :: rest)) := by
      intro hno
      refine ev_const (last_eq u0 u1 u4 u3) ?_
      rw [wrap64_id (n := (pre.length : Int) + 1) (by omega) (by omega)]
      have e2 : clashFrom pre (x :: rest) = clashFrom (pre ++ [x]) rest := by
        unfold clashFrom
        rw [List.any_eq_false.2 fun y hy => by rw [hno y hy]; decide]
        rw [Bool.false_or]
        cases rest <;> rfl
      rw [e2]
      have hmx : mx last (lastI x.f0 x.f1) = if last < lastI x.f0 x.f1 then lastI x.f0 x.f1 else last := rfl
      have := ih (pre ++ [x]) (mx last (lastI x.f0 x.f1)) (by rw [h]; simp) (fun y hy => ?_) (Or.inr ?_)
      · rw [List.length_append] at this
        exact this
      · rcases List.mem_append.1 hy with hy | hy
        · have := h1 y hy
          rw [hmx]; split <;> omega
        · obtain rfl : y = x := by simpa using hy
          rw [hmx]; split <;> omega
      · rw [hmx]
        split
        · exact ⟨x, by simp, rfl⟩
        · rcases h2 with ⟨rfl, rfl⟩ | ⟨y, hy, e⟩
          · exact ⟨x, by simp, by split at hLx <;> omega⟩
          · exact ⟨y, by simp [hy], e⟩
    refine Ev.step (span_Clash.l0.eq_2 _ _ _ _) (ev_pos (by omega) (ev_pos (by omega) (ev_pos (by omega) ?_)))
    rw [e1]
    by_cases c : (pre.length : Int) > 0
    · refine ev_pos c ?_
      by_cases c2 : x.f0 ≤ last
      · refine ev_pos c2 (ev_now ?_)
        rcases h2 with ⟨rfl, rfl⟩ | ⟨y, hy, e⟩
        · simp at c
        · obtain ⟨⟨v0, v1, v2, v3⟩, v4, v5⟩ := hpre y hy
          have hLy : lastI y.f0 y.f1 = if y.f0 + y.f1 ≤ 18446744073709551616 then y.f0 + y.f1 - 1 else 18446744073709551615 := rfl
          unfold clashFrom
          rw [List.any_eq_true.2 ⟨y, hy, ?_⟩]
          · rfl
          · unfold ovb
            have : has y x.f0 = true := by
              unfold has
              exact decide_eq_true ⟨v5, by split at hLy <;> omega⟩
            simp [this, u4, v4]
      · refine ev_neg c2 (step fun y hy => ?_)
        obtain ⟨⟨v0, v1, v2, v3⟩, v4, v5⟩ := hpre y hy
        have hLy : lastI y.f0 y.f1 = if y.f0 + y.f1 ≤ 18446744073709551616 then y.f0 + y.f1 - 1 else 18446744073709551615 := rfl
        have := h1 y hy
        unfold ovb
        have n1 : has y x.f0 = false := by
          unfold has
          exact decide_eq_false (fun hh => by split at hLy <;> omega)
        have n2 : has x y.f0 = false := by
          unfold has
          exact decide_eq_false (fun hh => by split at hLy <;> omega)
        simp [n1, n2]
    · refine ev_neg c (step fun y hy => ?_)
      have : pre = [] := List.eq_nil_of_length_eq_zero (by omega)
      subst this
      cases hy
theorem clash_ev (l : List Sp) (hl : l.length ≤ 8796093022208) (hu : ∀ x ∈ l, Us x) : Ev (fun k => span_Clash.f k l) (clashFrom [] l) := by
  have hll : (sortOf l).length ≤ l.length := by rw [(sorted_perm l).length_eq]; exact List.length_filter_le _ _
  refine Ev.congr (fun k => span_Clash.f.eq_1 k l) (ev_const (show span_sorted.f l = some (sortOf l) from if_pos hl) ?_)
  rw [← clash_sorted l hu]
  exact clash_loop l (by omega) hu (sortOf l) [] 0 rfl (fun y hy => by cases hy) (Or.inl ⟨rfl, rfl⟩)
end Go.Proofs.Yteoeohkjomehoaa.Q
