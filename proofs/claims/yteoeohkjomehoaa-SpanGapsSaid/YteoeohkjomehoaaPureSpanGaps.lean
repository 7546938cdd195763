/- What any spans leave of so many bytes, and whether two of them clash, is what the document says: for every input; no condition. -/
import Derived.Test.YteoeohkjomehoaaSp04
import Derived.Test.YteoeohkjomehoaaQ10
import Derived.Test.YteoeohkjomehoaaQ9
namespace Go.Proofs.Yteoeohkjomehoaa.Pure
open Go.RowKit Go.Proofs.Yteoeohkjomehoaa.Q Go.Proofs.YteoeohkjomehoaaW.PrintWords Go.Proofs.YteoeohkjomehoaaW.PrintLast Go.Proofs.YteoeohkjomehoaaW.PrintMore Go.Proofs.Yteoeohkjomehoaa.Mth Go.Proofs.Yteoeohkjomehoaa.Spn
set_option linter.unusedVariables false
set_option linter.unusedSimpArgs false

theorem and127 (x : Int) : ∃ n : Nat, n < 128 ∧ Go.bits .and .i64 x 127 = n := by
  have e : Go.bits .and .i64 x 127 = IntKind.i64.wrap (((BitVec.ofInt 64 x &&& BitVec.ofInt 64 127 : BitVec 64).toNat : Nat) : Int) := rfl
  rw [e, BitVec.toNat_and, show (BitVec.ofInt 64 127).toNat = 2 ^ 7 - 1 from rfl, Nat.and_two_pow_sub_one_eq_mod]
  have : (BitVec.ofInt 64 x).toNat % 2 ^ 7 < 128 := Nat.mod_lt _ (by decide)
  exact ⟨_, this, by rw [IntKind.wrap_i64]; omega⟩
/-- The first twelve, as spans. -/
def sps (l : List S27) : List Sp := l.map fun x => ⟨x.f0, x.f1⟩
theorem rd_at27 (pre : List S27) (x : S27) (rest : List S27) : rd_T27 (pre ++ x :: rest) (pre.length : Int) = x := by
  unfold rd_T27
  simp
theorem same_loop (l : List Sp) (B : List S30) (g : List Sp) (hg : g.length < 9223372036854775807) (h2 : Ev (fun k => graverlaw02_SpanGaps.l2 k l B false 0) true) : ∀ (rest pre : List Sp), g = pre ++ rest →
    Ev (fun k => graverlaw02_SpanGaps.l1 k l B g (g.map toB) (pre.length : Int)) true := by
  intro rest
  induction rest with
  | nil =>
    intro pre h
    exact Ev.step (graverlaw02_SpanGaps.l1.eq_2 _ _ _ _ _) (ev_neg (by rw [h]; simp) h2)
  | cons x rest ih =>
    intro pre h
    have hl : g.length = pre.length + rest.length + 1 := by rw [h]; simp; omega
    have e1 : rd_T29 g (pre.length : Int) = x := by rw [h]; exact rd_atA pre x rest
    have e2 : rd_T30 (g.map toB) (pre.length : Int) = toB x := by rw [h]; exact rd_atB pre x rest
    refine Ev.step (graverlaw02_SpanGaps.l1.eq_2 _ _ _ _ _) (ev_pos (by omega) (ev_pos (by omega) (ev_pos (by rw [List.length_map]; omega) ?_)))
    rw [e1, e2, wrap64_id (by omega) (by omega)]
    refine ev_pos rfl (ev_pos rfl ?_)
    have := ih (pre ++ [x]) (by rw [h]; simp)
    rw [List.length_append] at this
    exact this
theorem pairs_in (l : List Sp) (hl : l.length < 100) (hu : ∀ x ∈ l, Us x) (a : List Sp) (pre : List Sp) (x : Sp) (post : List Sp) (h : l = pre ++ x :: post) (r : Bool) : ∀ (rest done : List Sp) (c : Bool), pre = done ++ rest →
    Ev (fun k => graverlaw02_SpanGaps.l2 k a (l.map toB) (c || rest.any fun y => ovb x y) (wrap64 ((pre.length : Int) + 1))) r →
    Ev (fun k => graverlaw02_SpanGaps.l3 k a (l.map toB) c (pre.length : Int) (done.length : Int)) r := by
  intro rest
  induction rest with
  | nil =>
    intro done c hd hT
    refine Ev.step (graverlaw02_SpanGaps.l3.eq_2 _ _ _ _ _) (ev_neg (by rw [hd]; simp) ?_)
    simpa using hT
  | cons y rest ih =>
    intro done c hd hT
    have hp : pre.length = done.length + rest.length + 1 := by rw [hd]; simp; omega
    have hll : l.length = pre.length + post.length + 1 := by rw [h]; simp; omega
    have hx := hu x (by rw [h]; simp)
    have hy := hu y (by rw [h, hd]; simp)
    have e1 : rd_T30 (l.map toB) (pre.length : Int) = toB x := by rw [h]; exact rd_atB pre x post
    have e2 : rd_T30 (l.map toB) (done.length : Int) = toB y := by rw [h, hd, List.append_assoc]; exact rd_atB done y (rest ++ x :: post)
    have ih' : ∀ c', c' = (c || ovb x y) → Ev (fun k => graverlaw02_SpanGaps.l3 k a (l.map toB) c' (pre.length : Int) (wrap64 ((done.length : Int) + 1))) r := fun c' hc => by
      rw [wrap64_id (by omega) (by omega)]
      have := ih (done ++ [y]) c' (by rw [hd]; simp) (by rw [hc, Bool.or_assoc]; simpa using hT)
      rw [List.length_append] at this
      exact this
    have o : ovb x y = (decide (x.f1 > 0) && decide (y.f1 > 0) && (has x y.f0 || has y x.f0)) := rfl
    refine Ev.step (graverlaw02_SpanGaps.l3.eq_2 _ _ _ _ _) (ev_pos (by omega) (ev_pos (by omega) (ev_pos (by rw [List.length_map]; omega) ?_)))
    rw [e1, e2]
    by_cases c1 : x.f1 > 0
    · refine ev_pos c1 (ev_pos (by omega) (ev_pos (by rw [List.length_map]; omega) ?_))
      by_cases c2 : y.f1 > 0
      · refine ev_pos c2 (ev_const (show graverref02_Has.f (toB x).f0 (toB x).f1 (toB y).f0 = some (has x y.f0) from has_eq hx.1 hy.1 hy.2.1) ?_)
        rw [decide_eq_true c1, decide_eq_true c2] at o
        cases q : has x y.f0 with
        | true => exact ev_pos rfl (ih' _ (by rw [o, q]; simp))
        | false =>
          refine ev_neg (by decide) (ev_const (show graverref02_Has.f (toB y).f0 (toB y).f1 (toB x).f0 = some (has y x.f0) from has_eq hy.1 hx.1 hx.2.1) ?_)
          cases q2 : has y x.f0 with
          | true => exact ev_pos rfl (ih' _ (by rw [o, q, q2]; simp))
          | false => exact ev_neg (by decide) (ih' _ (by rw [o, q, q2]; simp))
      · exact ev_neg c2 (ih' _ (by rw [o, decide_eq_false c2]; simp))
    · exact ev_neg c1 (ih' _ (by rw [o, decide_eq_false c1]; simp))
theorem pairs_loop (l : List Sp) (hl : l.length < 100) (hu : ∀ x ∈ l, Us x) : ∀ (rest pre : List Sp) (c : Bool), l = pre ++ rest → (c || clashFrom pre rest) = clashFrom [] l →
    Ev (fun k => graverlaw02_SpanGaps.l2 k l (l.map toB) c (pre.length : Int)) true := by
  intro rest
  induction rest with
  | nil =>
    intro pre c h hc
    refine Ev.step (graverlaw02_SpanGaps.l2.eq_2 _ _ _ _) (ev_neg (by rw [h]; simp) (Ev.bind (clash_ev l (by omega) hu) ?_))
    rw [← hc]
    cases c
    · exact ev_neg (by decide) (ev_now rfl)
    · exact ev_pos rfl (ev_now rfl)
  | cons x rest ih =>
    intro pre c h hc
    have hll : l.length = pre.length + rest.length + 1 := by rw [h]; simp; omega
    refine Ev.step (graverlaw02_SpanGaps.l2.eq_2 _ _ _ _) (ev_pos (by rw [List.length_map]; omega) ?_)
    have e : clashFrom pre (x :: rest) = (pre.any (fun y => ovb x y) || clashFrom (pre ++ [x]) rest) := rfl
    refine pairs_in l hl hu l pre x rest h true pre [] c rfl ?_
    rw [wrap64_id (by omega) (by omega)]
    have := ih (pre ++ [x]) (c || pre.any fun y => ovb x y) (by rw [h]; simp) (by rw [← hc, e, Bool.or_assoc])
    rw [List.length_append] at this
    exact this
theorem rest_ev (l : List Sp) (hl : l.length < 100) (hu : ∀ x ∈ l, Us x) (n : Nat) (hn : n < 128) : Ev (fun k => graverlaw02_SpanGaps.j1 k n l (l.map toB)) true := by
  refine Ev.step (graverlaw02_SpanGaps.j1.eq_2 _ _ _) ?_
  rw [wrapu_id (n := (n : Int)) (by omega) (by omega)]
  refine Ev.bind (gaps_ev l (by omega) hu n (by omega)) (Ev.bind (ref_ev l (by omega) hu n (by omega)) (ev_pos (by rw [List.length_map]) ?_))
  have := (refL_ok l n).1
  exact same_loop l (l.map toB) (refL l n) (by omega) (pairs_loop l hl hu l [] false rfl (by simp)) (refL l n) [] rfl
theorem make_loop (n : Nat) (hn : n < 128) (L : List S27) (hL : L.length ≤ 8796093022208) (hw : ∀ x ∈ L, 0 ≤ x.f0 ∧ x.f0 < 18446744073709551616 ∧ 0 ≤ x.f1 ∧ x.f1 < 18446744073709551616) : ∀ (rest pre : List S27), L = pre ++ rest → pre.length ≤ 12 →
    Ev (fun k => graverlaw02_SpanGaps.l0 k n L (sps pre) ((sps pre).map toB) (pre.length : Int)) true := by
  have fin : ∀ (rest pre : List S27), L = pre ++ rest → pre.length ≤ 12 → Ev (fun k => graverlaw02_SpanGaps.j1 k n (sps pre) ((sps pre).map toB)) true := fun rest pre h hp => rest_ev (sps pre) (by simp [sps]; omega) (fun x hx => by
    obtain ⟨y, hy, rfl⟩ := List.mem_map.1 hx
    exact hw y (by rw [h]; simp [hy])) n hn
  intro rest
  induction rest with
  | nil =>
    intro pre h hp
    exact Ev.step (graverlaw02_SpanGaps.l0.eq_2 _ _ _ _ _) (ev_neg (by rw [h]; simp) (fin [] pre h hp))
  | cons x rest ih =>
    intro pre h hp
    have hll : L.length = pre.length + rest.length + 1 := by rw [h]; simp; omega
    have e1 : rd_T27 L (pre.length : Int) = x := by rw [h]; exact rd_at27 pre x rest
    refine Ev.step (graverlaw02_SpanGaps.l0.eq_2 _ _ _ _ _) (ev_pos (by omega) ?_)
    rw [e1]
    by_cases c : pre.length < 12
    · refine ev_pos (by omega) (ev_pos (by omega) (ev_const rfl (ev_pos (by simp [sps]; omega) (ev_const rfl (ev_pos (by simp [sps]; omega) ?_)))))
      rw [wrap64_id (by omega) (by omega)]
      have := ih (pre ++ [x]) (by rw [h]; simp) (by simp; omega)
      rw [List.length_append] at this
      have e2 : sps (pre ++ [x]) = sps pre ++ [(⟨x.f0, x.f1⟩ : Sp)] := by simp [sps]
      rw [e2, map_snoc] at this
      exact this
    · exact ev_neg (by omega) (fin (x :: rest) pre h hp)
theorem SpanGaps : graverlaw02_SpanGaps.Pure := by
  intro a L ha hL hw
  obtain ⟨n, hn, e⟩ := and127 a
  refine Ev.rounds (Ev.congr (fun k => graverlaw02_SpanGaps.f.eq_1 k a L) ?_)
  refine Ev.bind speaks02 (ev_pos rfl ?_)
  rw [e]
  refine make_loop n hn L (by omega) (fun x hx => ?_) L [] rfl (by simp)
  obtain ⟨h1, h2⟩ := hw x hx
  have := wf_u64 h1
  have := wf_u64 h2
  omega
end Go.Proofs.Yteoeohkjomehoaa.Pure
