/- Which bytes some spans have, and which two have both: what the law asks of any spans holds: for every input; no condition. -/
import Derived.Test.YteoeohkjomehoaaSp05
import Derived.Test.YteoeohkjomehoaaQ7
namespace Go.Proofs.Yteoeohkjomehoaa.Pure
open Go.RowKit Go.Proofs.Yteoeohkjomehoaa.Q Go.Proofs.YteoeohkjomehoaaW.PrintWords Go.Proofs.YteoeohkjomehoaaW.PrintLast Go.Proofs.YteoeohkjomehoaaW.PrintMore Go.Proofs.Yteoeohkjomehoaa.Mth Go.Proofs.Yteoeohkjomehoaa.Spn
set_option linter.unusedVariables false
set_option linter.unusedSimpArgs false

theorem and16 (x : Int) (i : Nat) (hi : i ≤ 8) : ∃ n : Nat, n < 2 ^ i ∧ IntKind.u64.wrap (Go.bits .and .u16 x ((2 ^ i - 1 : Nat) : Int)) = n := by
  have e : Go.bits .and .u16 x ((2 ^ i - 1 : Nat) : Int) = IntKind.u16.wrap (((BitVec.ofInt 16 x &&& BitVec.ofInt 16 ((2 ^ i - 1 : Nat) : Int) : BitVec 16).toNat : Nat) : Int) := rfl
  have h2 : 2 ^ i ≤ 2 ^ 8 := Nat.pow_le_pow_right (by decide) hi
  have h3 : 0 < 2 ^ i := Nat.pow_pos (by decide)
  have e2 : (BitVec.ofInt 16 ((2 ^ i - 1 : Nat) : Int)).toNat = 2 ^ i - 1 := by
    rw [BitVec.ofInt_natCast, BitVec.toNat_ofNat]
    exact Nat.mod_eq_of_lt (by omega)
  rw [e, BitVec.toNat_and, e2, Nat.and_two_pow_sub_one_eq_mod]
  have : (BitVec.ofInt 16 x).toNat % 2 ^ i < 2 ^ i := Nat.mod_lt _ h3
  refine ⟨_, this, ?_⟩
  generalize (BitVec.ofInt 16 x).toNat % 2 ^ i = n at this
  have h4 : IntKind.u16.wrap (n : Int) = n := by simp [IntKind.wrap, IntKind.bits, IntKind.signed]; omega
  rw [h4, wrapu_id (by omega) (by omega)]
def mkU (x : S48) : Sp := ⟨IntKind.u64.wrap (Go.bits .and .u16 x.f0 255), IntKind.u64.wrap (Go.bits .and .u16 x.f1 63)⟩
theorem mkU_sm (x : S48) : Sm (mkU x) := by
  obtain ⟨n, hn, e⟩ := and16 x.f0 8 (by decide)
  obtain ⟨m, hm, e'⟩ := and16 x.f1 6 (by decide)
  unfold Sm
  show 0 ≤ IntKind.u64.wrap (Go.bits .and .u16 x.f0 255) ∧ IntKind.u64.wrap (Go.bits .and .u16 x.f0 255) < 256 ∧ 0 ≤ IntKind.u64.wrap (Go.bits .and .u16 x.f1 63) ∧ IntKind.u64.wrap (Go.bits .and .u16 x.f1 63) < 64
  have e1 : IntKind.u64.wrap (Go.bits .and .u16 x.f0 255) = n := e
  have e2 : IntKind.u64.wrap (Go.bits .and .u16 x.f1 63) = m := e'
  rw [e1, e2]
  omega
theorem rd_at48 (pre : List S48) (x : S48) (rest : List S48) : rd_T48 (pre ++ x :: rest) (pre.length : Int) = x := by
  unfold rd_T48
  simp
/-! ### two spans' common bytes -/
theorem pairs_in (a : List Sp) (ha : a.length < 100) (hm : ∀ x ∈ a, Sm x) (x : Sp) (done post : List Sp) (h : a = done ++ x :: post) (r : Bool)
    (hT : Ev (fun k => graverlaw02_SpanUnions.l4 k a (wrap64 ((done.length : Int) + 1))) r) : ∀ (rest pre : List Sp), a = pre ++ rest →
    Ev (fun k => graverlaw02_SpanUnions.l5 k a (done.length : Int) (pre.length : Int)) r := by
  intro rest
  induction rest with
  | nil =>
    intro pre hp
    exact Ev.step (graverlaw02_SpanUnions.l5.eq_2 _ _ _) (ev_neg (by rw [hp]; simp) hT)
  | cons y rest ih =>
    intro pre hp
    have hl : a.length = pre.length + rest.length + 1 := by rw [hp]; simp; omega
    have hl2 : a.length = done.length + post.length + 1 := by rw [h]; simp; omega
    have e1 : rd_T29 a (done.length : Int) = x := by rw [h]; exact rd_atU done x post
    have e2 : rd_T29 a (pre.length : Int) = y := by rw [hp]; exact rd_atU pre y rest
    obtain ⟨x0, x1, x2, x3⟩ := hm x (by rw [h]; simp)
    obtain ⟨y0, y1, y2, y3⟩ := hm y (by rw [hp]; simp)
    have go := ih (pre ++ [y]) (by rw [hp]; simp)
    rw [List.length_append] at go
    refine Ev.step (graverlaw02_SpanUnions.l5.eq_2 _ _ _) (ev_pos (by omega) (ev_pos (by omega) (ev_pos (by omega) (ev_pos (by omega) ?_))))
    rw [e1, e2]
    refine Ev.bind (common_ev x0 x1 x2 x3 y0 y1 y2 y3) ?_
    rw [wrapu_id (n := x.f0 + x.f1) (by omega) (by omega), wrapu_id (n := y.f0 + y.f1) (by omega) (by omega)]
    have hb : 0 ≤ mx x.f0 y.f0 ∧ mn (x.f0 + x.f1) (y.f0 + y.f1) < 1000 := by
      unfold mx mn
      split <;> split <;> omega
    by_cases c : mx x.f0 y.f0 < mn (x.f0 + x.f1) (y.f0 + y.f1)
    · rw [if_pos c]
      refine ev_pos c (ev_pos rfl (ev_pos rfl (ev_pos ?_ ?_)))
      · rw [wrapu_id (by omega) (by omega)]
      · rw [wrap64_id (by omega) (by omega)]
        exact go
    · rw [if_neg c]
      refine ev_neg c (ev_neg (by decide) (ev_neg (by decide) ?_))
      rw [wrap64_id (by omega) (by omega)]
      exact go
theorem pairs_loop (a : List Sp) (ha : a.length < 100) (hm : ∀ x ∈ a, Sm x) : ∀ (rest pre : List Sp), a = pre ++ rest →
    Ev (fun k => graverlaw02_SpanUnions.l4 k a (pre.length : Int)) true := by
  intro rest
  induction rest with
  | nil =>
    intro pre hp
    exact Ev.step (graverlaw02_SpanUnions.l4.eq_2 _ _) (ev_neg (by rw [hp]; simp) (ev_now rfl))
  | cons x rest ih =>
    intro pre hp
    have hl : a.length = pre.length + rest.length + 1 := by rw [hp]; simp; omega
    have go := ih (pre ++ [x]) (by rw [hp]; simp)
    rw [List.length_append] at go
    refine Ev.step (graverlaw02_SpanUnions.l4.eq_2 _ _) (ev_pos (by omega) (pairs_in a ha hm x pre rest hp true ?_ a [] rfl))
    rw [wrap64_id (by omega) (by omega)]
    exact go
/-! ### the union's bytes -/
theorem count_in (a : List Sp) (seen : List Int) (u : List Sp) (hu : u.length < 100) (x : Sp) (pre post : List Sp) (h : u = pre ++ x :: post) (hx : 0 ≤ x.f0 ∧ 0 < x.f1 ∧ x.f0 + x.f1 < 320) (hs : ∀ b, hasU x b → b ∈ seen) (r : Bool) (n : Nat) (hn : n < 100000)
    (hT : Ev (fun k => graverlaw02_SpanUnions.l2 k a seen u ((n + x.f1.toNat : Nat) : Int) (wrap64 ((pre.length : Int) + 1))) r) : ∀ (d i : Nat), ((i + d : Nat) : Int) = x.f1 →
    Ev (fun k => graverlaw02_SpanUnions.l3 k a seen u ((n + i : Nat) : Int) (pre.length : Int) (x.f0 + (i : Int))) r := by
  have hl : u.length = pre.length + post.length + 1 := by rw [h]; simp; omega
  have e1 : rd_T29 u (pre.length : Int) = x := by rw [h]; exact rd_atU pre x post
  intro d
  induction d with
  | zero =>
    intro i hi
    refine Ev.step (graverlaw02_SpanUnions.l3.eq_2 _ _ _ _ _ _) (ev_pos (by omega) (ev_pos (by omega) ?_))
    rw [e1, wrapu_id (n := x.f0 + x.f1) (by omega) (by omega)]
    refine ev_neg (by omega) ?_
    rw [show i = x.f1.toNat by omega]
    exact hT
  | succ d ih =>
    intro i hi
    refine Ev.step (graverlaw02_SpanUnions.l3.eq_2 _ _ _ _ _ _) (ev_pos (by omega) (ev_pos (by omega) ?_))
    rw [e1, wrapu_id (n := x.f0 + x.f1) (by omega) (by omega)]
    refine ev_pos (by omega) (ev_pos ?_ ?_)
    · exact decide_eq_true (hs _ ⟨by omega, by omega⟩)
    · have := ih (i + 1) (by omega)
      rw [wrap64_id (by omega) (by omega), wrapu_id (n := x.f0 + (i : Int) + 1) (by omega) (by omega), show ((n + i : Nat) : Int) + 1 = ((n + (i + 1) : Nat) : Int) by omega, show x.f0 + (i : Int) + 1 = x.f0 + ((i + 1 : Nat) : Int) by omega]
      exact this
theorem count_loop (a : List Sp) (ha : a.length < 100) (hm : ∀ x ∈ a, Sm x) (seen : List Int) (hnd : seen.Nodup) (u : List Sp) (hu : u.length < 100) (hr : Rise u) (hs : ∀ b, b ∈ seen ↔ covU u b) : ∀ (rest pre : List Sp), u = pre ++ rest → (allU pre).length ≤ 320 * pre.length →
    Ev (fun k => graverlaw02_SpanUnions.l2 k a seen u ((allU pre).length : Int) (pre.length : Int)) true := by
  intro rest
  induction rest with
  | nil =>
    intro pre h hc
    refine Ev.step (graverlaw02_SpanUnions.l2.eq_2 _ _ _ _ _) (ev_neg (by rw [h]; simp) (ev_pos ?_ (pairs_loop a ha hm a [] rfl)))
    have : pre = u := by rw [h]; simp
    rw [this, nodup_same (allU_nodup u hr) hnd (fun b => by rw [mem_allU, hs])]
  | cons x rest ih =>
    intro pre h hc
    have hl : u.length = pre.length + rest.length + 1 := by rw [h]; simp; omega
    have e1 : rd_T29 u (pre.length : Int) = x := by rw [h]; exact rd_atU pre x rest
    have hx := hr.2 x (by rw [h]; simp)
    have go := ih (pre ++ [x]) (by rw [h]; simp) (by rw [allU_snoc, List.length_append, bytesU_length, List.length_append, List.length_singleton]; omega)
    rw [allU_snoc, List.length_append, bytesU_length, List.length_append] at go
    have tail : Ev (fun k => graverlaw02_SpanUnions.j4 k a seen u ((allU pre).length : Int) (pre.length : Int) false) true := by
      refine Ev.step (graverlaw02_SpanUnions.j4.eq_2 _ _ _ _ _ _) (ev_neg (by decide) (ev_pos (by omega) (ev_pos (by omega) ?_)))
      rw [e1]
      have := count_in a seen u hu x pre rest h hx (fun b hb => (hs b).2 ⟨x, by rw [h]; simp, hb⟩) true (allU pre).length (by omega) (by
        rw [wrap64_id (by omega) (by omega)]
        exact go) x.f1.toNat 0 (by omega)
      rw [Nat.add_zero, show x.f0 + ((0 : Nat) : Int) = x.f0 by omega] at this
      exact this
    refine Ev.step (graverlaw02_SpanUnions.l2.eq_2 _ _ _ _ _) (ev_pos (by omega) (ev_pos (by omega) ?_))
    rw [e1]
    refine ev_neg (by omega) ?_
    by_cases c : (pre.length : Int) > 0
    · rcases snocU pre with rfl | ⟨g, p, rfl⟩
      · simp at c
      · have hg : (g ++ [p]).length = g.length + 1 := by simp
        have ep : rd_T29 u (g.length : Int) = p := by rw [h, List.append_assoc]; exact rd_atU g p (x :: rest)
        have hp : p.f0 + p.f1 < x.f0 := by
          have := hr.1
          rw [h] at this
          exact (List.pairwise_append.1 this).2.2 p (by simp) x (by simp)
        have hp2 := hr.2 p (by rw [h]; simp)
        have ew : wrap64 (((g ++ [p]).length : Int) - 1) = (g.length : Int) := by rw [hg, wrap64_id (by omega) (by omega)]; omega
        rw [ew, ep]
        refine ev_pos c (ev_pos (by omega) (ev_pos (by omega) ?_))
        rw [wrapu_id (n := p.f0 + p.f1) (by omega) (by omega), decide_eq_false (by omega)]
        exact tail
    · exact ev_neg c tail
/-! ### the spans and their bytes -/
theorem seen_in (L : List S48) (A pre : List Sp) (x : Sp) (hx : Sm x) (i : Int) (r : Bool)
    (hT : ∀ seen' : List Int, seen'.Nodup → (∀ b, b ∈ seen' ↔ covU pre b ∨ hasU x b) → Ev (fun k => graverlaw02_SpanUnions.l0 k L A seen' (wrap64 (i + 1))) r) : ∀ (d c : Nat) (seen : List Int), ((c + d : Nat) : Int) = x.f1 → seen.Nodup → (∀ b, b ∈ seen ↔ covU pre b ∨ (x.f0 ≤ b ∧ b < x.f0 + c)) →
    Ev (fun k => graverlaw02_SpanUnions.l1 k L A seen i (x.f0 + (c : Int)) x.f0 x.f1) r := by
  obtain ⟨x0, x1, x2, x3⟩ := hx
  intro d
  induction d with
  | zero =>
    intro c seen hc hnd hs
    refine Ev.step (graverlaw02_SpanUnions.l1.eq_2 _ _ _ _ _ _ _) ?_
    rw [wrapu_id (n := x.f0 + x.f1) (by omega) (by omega)]
    refine ev_neg (by omega) (hT seen hnd fun b => ?_)
    unfold hasU
    rw [hs b, show x.f1 = (c : Int) by omega]
  | succ d ih =>
    intro c seen hc hnd hs
    refine Ev.step (graverlaw02_SpanUnions.l1.eq_2 _ _ _ _ _ _ _) ?_
    rw [wrapu_id (n := x.f0 + x.f1) (by omega) (by omega)]
    refine ev_pos (by omega) ?_
    rw [wrapu_id (n := x.f0 + (c : Int) + 1) (by omega) (by omega), show x.f0 + (c : Int) + 1 = x.f0 + ((c + 1 : Nat) : Int) by omega]
    refine ih (c + 1) _ (by omega) ?_ (fun b => ?_)
    · unfold mapAdd
      split
      · exact hnd
      · rename_i hh
        exact List.nodup_append.2 ⟨hnd, by simp, fun a ha b hb e => hh (by rw [e, show b = _ by simpa using hb] at ha; exact ha)⟩
    · unfold mapAdd
      split
      · rename_i hh
        rw [hs b]
        have h1 := (hs (x.f0 + (c : Int))).1 hh
        constructor
        · rintro (h | h)
          · exact Or.inl h
          · exact Or.inr (by omega)
        · rintro (h | h)
          · exact Or.inl h
          · by_cases q : b = x.f0 + (c : Int)
            · rw [q]; exact h1
            · exact Or.inr (by omega)
      · rw [List.mem_append, List.mem_singleton, hs b, or_assoc]
        refine or_congr Iff.rfl ?_
        omega
theorem make_loop (L : List S48) (hL : L.length ≤ 35184372088832) : ∀ (rest pre : List S48) (seen : List Int), L = pre ++ rest → pre.length ≤ 8 → seen.Nodup → (∀ b, b ∈ seen ↔ covU (pre.map mkU) b) →
    Ev (fun k => graverlaw02_SpanUnions.l0 k L (pre.map mkU) seen (pre.length : Int)) true := by
  have fin : ∀ (rest pre : List S48) (seen : List Int), L = pre ++ rest → pre.length ≤ 8 → seen.Nodup → (∀ b, b ∈ seen ↔ covU (pre.map mkU) b) → Ev (fun k => graverlaw02_SpanUnions.j1 k L (pre.map mkU) seen (pre.length : Int) false) true := fun rest pre seen h hp hnd hs => by
    have hm : ∀ x ∈ pre.map mkU, Sm x := fun x hx => by
      obtain ⟨y, _, rfl⟩ := List.mem_map.1 hx
      exact mkU_sm y
    have hl : (pre.map mkU).length < 100 := by rw [List.length_map]; omega
    obtain ⟨u, hu, h1, h2, h3⟩ := union_ev (pre.map mkU) hl hm
    refine Ev.step (graverlaw02_SpanUnions.j1.eq_2 _ _ _ _ _) (ev_neg (by decide) (Ev.bind hu ?_))
    exact count_loop (pre.map mkU) hl hm seen hnd u (by omega) h1 (fun b => by rw [hs b, h3 b]) u [] rfl (Nat.zero_le _)
  intro rest
  induction rest with
  | nil =>
    intro pre seen h hp hnd hs
    exact Ev.step (graverlaw02_SpanUnions.l0.eq_2 _ _ _ _) (ev_neg (by rw [h]; simp) (fin [] pre seen h hp hnd hs))
  | cons x rest ih =>
    intro pre seen h hp hnd hs
    have hll : L.length = pre.length + rest.length + 1 := by rw [h]; simp; omega
    have e1 : rd_T48 L (pre.length : Int) = x := by rw [h]; exact rd_at48 pre x rest
    refine Ev.step (graverlaw02_SpanUnions.l0.eq_2 _ _ _ _) (ev_pos (by omega) ?_)
    by_cases c : pre.length < 8
    · rw [decide_eq_true (show (pre.length : Int) < 8 by omega)]
      refine Ev.step (graverlaw02_SpanUnions.j1.eq_2 _ _ _ _ _) (ev_pos rfl (ev_pos (by omega) (ev_pos (by omega) (ev_pos (by rw [List.length_map]; omega) ?_))))
      rw [e1]
      have := seen_in L (pre.map mkU ++ [mkU x]) (pre.map mkU) (mkU x) (mkU_sm x) (pre.length : Int) true (fun seen' h1 h2 => by
        rw [wrap64_id (by omega) (by omega)]
        have := ih (pre ++ [x]) seen' (by rw [h]; simp) (by simp; omega) h1 (fun b => by rw [h2 b, List.map_append, List.map_singleton, covU_snoc])
        rw [List.length_append, List.map_append, List.map_singleton] at this
        exact this) (mkU x).f1.toNat 0 seen (by have := (mkU_sm x).2.2.1; omega) hnd (fun b => by
        rw [hs b]
        constructor
        · exact Or.inl
        · rintro (hh | hh)
          · exact hh
          · omega)
      rw [show (mkU x).f0 + ((0 : Nat) : Int) = (mkU x).f0 by omega] at this
      exact this
    · rw [decide_eq_false (show ¬ (pre.length : Int) < 8 by omega)]
      exact fin (x :: rest) pre seen h hp hnd hs
theorem SpanUnions : graverlaw02_SpanUnions.Pure := by
  intro L hL hw
  refine Ev.rounds (Ev.congr (fun k => graverlaw02_SpanUnions.f.eq_1 k L) ?_)
  refine Ev.bind speaks02 (ev_pos rfl ?_)
  exact make_loop L (by omega) L [] [] rfl (by simp) List.Pairwise.nil (fun b => by
    constructor
    · intro h; cases h
    · intro h; exact absurd h (covU_nil b))
end Go.Proofs.Yteoeohkjomehoaa.Pure
