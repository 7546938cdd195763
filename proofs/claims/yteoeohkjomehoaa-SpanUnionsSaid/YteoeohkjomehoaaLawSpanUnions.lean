/- What Go functions of the program compute, each as a Lean function with the proof that the call returns just that. No condition but those in the statements. -/
import Derived.Test.YteoeohkjomehoaaRows
import Derived.Test.YteoeohkjomehoaaQ7
import Derived.Test.YteoeohkjomehoaaPureSpanUnions
import Derived.Deep.Slices
import Derived.ChangeArms
import Derived.DataReads
import Derived.WalkKit
import Derived.ProofKit
import Derived.OpenShut
import Derived.ShutString
import Derived.ChangeOld
import Derived.Below
import Derived.SizedLaws
import Derived.Test.YteoeohkjomehoaaWSized
namespace Go.Proofs.Yteoeohkjomehoaa.spanUnions
open Go.ChangeShapes Go.WideShapes Go.ChangeAt Go.RowKit
open Go.ChangeMaps (open_string shut_string)
set_option linter.unusedVariables false
theorem own : ownKnob Try.prog.godebug = none := by kernel_rfl
theorem laidOut : laidOutB Try.prog = true := by kernel_rfl
def IsRow (k : IntKind) (w : World) (a : Option Addr) (len cap : Nat) (zs : List Int) : Prop :=
  (a = none ∧ len = 0 ∧ cap = 0 ∧ zs = []) ∨
  ∃ x, a = some x ∧ len ≤ cap ∧ cap ≤ maxLen ∧ zs.length = cap ∧ (∀ i, i < zs.length → w.cell? (x.add i) = some (.int k (zs.getD i 0))) ∧ ∀ n ∈ zs, (Lit.int k n).wf = true
open Go.Deep in
theorem sized_any {H : Type} {enc : TypeId × Value → H} {P : Program} {W : World} {base : Nat} {spare : Nat → Bool} {held : Bool} {t e : TypeId} {a : Option Addr} {len cap : Nat} {d : DataW H} {ps : List MemPlace} {ts : List TypeId} {ds : List (DataW H)} {j : Nat}
    (hsz : (DataW.weightsEach P ts ds).all (· ≤ reachBytes) = true) (ht : ts[j]? = some t) (hd : ds[j]? = some d) (hu : P.underlying t = some (.slice e)) {B : Nat} (hB : P.bytesOf e = B)
    (h : DataW.Trod enc P W base spare held t (.slice a len cap) d ps) : len * B ≤ 140737488351232 := by
  obtain ⟨fuel, hf⟩ := h
  rcases open_slice hu hf with ⟨hcs, _⟩ | ⟨x, l, c, m, n, D, Pl, hcs, _, hl, _, _, hx, _⟩
  · simp [Value.cells] at hcs
    obtain ⟨rfl, rfl, rfl⟩ := hcs
    simp
  · simp [Value.cells] at hcs
    obtain ⟨rfl, rfl, rfl⟩ := hcs
    obtain ⟨hx, _⟩ := Prod.mk.inj hx
    subst hx
    have z := sized_slice hsz ht hd hu
    rw [hB] at z
    simp only [List.length_map, List.length_range] at z
    have hr : reachBytes = 140737488351232 := rfl
    rw [hr] at z
    exact Nat.le_trans (Nat.mul_le_mul_right _ (Nat.le_add_right _ _)) z
set_option maxHeartbeats 2000000 in
set_option maxRecDepth 100000 in
open Go.Deep in
theorem openS45 {H : Type} {enc : TypeId × Value → H} {w : World} {base : Nat} {spare : Nat → Bool} {held : Bool} {a : Option Addr} {len cap : Nat} {d : DataW H} {ps : List MemPlace}
    (h : DataW.Trod enc Try.prog w base spare held 45 (.slice a len cap) d ps) : ∃ l : List Go.Proofs.Yteoeohkjomehoaa.Q.S48, l.length = len ∧ Go.Proofs.YteoeohkjomehoaaW.PrintWords.Kd.C Go.Proofs.Yteoeohkjomehoaa.Q.k48 w a l.length l ∧ l.length ≤ cap ∧ ∀ x ∈ l, (Lit.int .u16 x.f0).wf = true ∧ (Lit.int .u16 x.f1).wf = true := by
  obtain ⟨fuel, hf⟩ := h
  rcases open_slice Try.underlying45 hf with ⟨hcs, _⟩ | ⟨ad, len', cap', m, nn, D, Pl, hcs, _, hl, hm, hmm, hx, hi⟩
  · simp [Value.cells] at hcs
    obtain ⟨rfl, rfl, rfl⟩ := hcs
    exact ⟨[], rfl, Go.Proofs.YteoeohkjomehoaaW.PrintWords.Kd.C_nil _ _, Nat.le_refl _, fun x hx => by cases hx⟩
  · simp [Value.cells] at hcs
    obtain ⟨rfl, rfl, rfl⟩ := hcs
    have hlm : len ≤ m := by rw [hmm]; split <;> omega
    have ke : Try.prog.cellsOf 48 = 2 := by kernel_rfl
    have kf47 : Try.prog.cellsOf 47 = 1 := by kernel_rfl
    have hel : ∀ i, i < len → ∃ x : Go.Proofs.Yteoeohkjomehoaa.Q.S48, ((Lit.int .u16 x.f0).wf = true ∧ (Lit.int .u16 x.f1).wf = true) ∧ w.cell? (ad.add (i * 2 + 0)) = some (.int .u16 x.f0) ∧ w.cell? (ad.add (i * 2 + 1)) = some (.int .u16 x.f1) := by
      intro i hi'
      obtain ⟨cs', hc, ht'⟩ := hi i (by omega)
      rw [ke] at hc
      obtain ⟨_, hcl, hat⟩ := World.cells?_some hc
      obtain ⟨ys, n', _, _, _, hyl, hf⟩ := DataW.trod_array Try.underlying48 ht'
      match cs', hcl with
      | [c0, c1], _ =>
        have g0 : DataW.trod enc Try.prog w base spare held n' 47 (([c0, c1].drop 0).take (Try.prog.cellsOf 47)) = ys[0]? := (by have h_ := hf 0 (by decide); rw [kf47] at h_ ⊢; exact h_)
        rw [kf47] at g0
        have g1 : DataW.trod enc Try.prog w base spare held n' 47 (([c0, c1].drop 1).take (Try.prog.cellsOf 47)) = ys[1]? := (by have h_ := hf 1 (by decide); rw [kf47] at h_ ⊢; exact h_)
        rw [kf47] at g1
        obtain ⟨z0, hz0⟩ : ∃ z, ys[0]? = some z := by cases hy : ys[0]? with | none => (have := List.getElem?_eq_none_iff.mp hy; (try simp at hyl); omega) | some z => exact ⟨z, rfl⟩
        rw [hz0] at g0
        obtain ⟨n0, e0, _, w0⟩ := DataW.trod_int Try.underlying47 g0
        obtain ⟨z1, hz1⟩ : ∃ z, ys[1]? = some z := by cases hy : ys[1]? with | none => (have := List.getElem?_eq_none_iff.mp hy; (try simp at hyl); omega) | some z => exact ⟨z, rfl⟩
        rw [hz1] at g1
        obtain ⟨n1, e1, _, w1⟩ := DataW.trod_int Try.underlying47 g1
        have q0 := (List.cons.inj (show [c0] = _ from e0)).1
        have q1 := (List.cons.inj (show [c1] = _ from e1)).1
        subst q0 q1
        refine ⟨⟨n0, n1⟩, ⟨w0, w1⟩, ?_, ?_⟩
        · have h_ := hat 0 (by decide); rw [Go.Deep.add_add] at h_; exact h_
        · have h_ := hat 1 (by decide); rw [Go.Deep.add_add] at h_; exact h_
    have : Inhabited Go.Proofs.Yteoeohkjomehoaa.Q.S48 := ⟨Go.Proofs.Yteoeohkjomehoaa.Q.z48⟩
    obtain ⟨g, hg⟩ := Go.Deep.choose_lt hel
    refine ⟨(List.range len).map g, by simp, ⟨rfl, by simp; unfold maxLen at hm; omega, fun _ => ⟨ad, rfl, fun j p hj => ?_⟩⟩, by simpa using hl, fun x hx => ?_⟩
    · have hjl : j < len := by have := (List.getElem?_eq_some_iff.mp hj).1; simpa using this
      obtain rfl : g j = p := by simpa [hjl] using hj
      have hh := hg j hjl
      refine ⟨_, rfl, Go.Proofs.Yteoeohkjomehoaa.Q.k48_mk w (g j), fun i u hu => ?_⟩
      rcases i with _ | _ | i
      · obtain rfl := Option.some.inj (show some _ = some u from hu)
        exact hh.2.1
      · obtain rfl := Option.some.inj (show some _ = some u from hu)
        exact hh.2.2
      · simp at hu
    · obtain ⟨i, hi, rfl⟩ := List.mem_map.mp hx
      exact (hg i (List.mem_range.mp hi)).1
set_option maxRecDepth 100000 in
theorem lifted (os : Os) (started : os.Started) (H : Type) (enc : TypeId × Value → H) :
    ReturnsInHanded {} Try.checked os 6 .any (Rows.spanUnionsSpec.pre6 enc Try.prog Try.f6 Rows.spanUnionsRow.domain false) (Rows.spanUnionsSpec.post enc Try.prog Try.f6 false true false false) := by
  refine returnsInHanded_of_change_sized (C := Try.checked) own started (by kernel_rfl) Try.func6
    (ChangeSpec.witness6 (enc := enc) (C := Try.checked) false ⟨#[], #[.slice none 0 0], []⟩ 8 (by kernel_rfl) (by kernel_rfl) (by kernel_rfl) (by kernel_rfl)) ?_
  intro W base args ds gs before hval0 hW hcnd hsz0 _
  have hsz : (DataW.weightsEach Try.prog (Try.f6.params.toList ++ Rows.spanUnionsSpec.plain.varTypes Try.prog) (ds ++ gs)).all (· ≤ reachBytes) = true := hsz0
  have hval : ∀ (j : Nat) t v, Try.f6.params[j]? = some t → args[j]? = some v → Value.okWide Try.prog W .any base t v := hval0
  have hW' := hW
  obtain ⟨p, q, hA0, hV, rfl, hfz, hnd⟩ := hW
  have hA : DataW.TrodAll enc Try.prog W 0 (fun _ => true) true Try.f6.params.toList args.toList ds p := hA0
  rw [Try.params6] at hA hval hsz
  obtain ⟨v0, vs0, d0, ds0, p0, q0, hargs, rfl, rfl, h0, r0⟩ := trodAll_cons hA
  obtain ⟨rfl, rfl, rfl⟩ := trodAll_nil r0
  obtain rfl : args = #[v0] := by cases args; simp_all
  obtain ⟨rfl, rfl⟩ := trodVars_none hV
  obtain ⟨a0, len0, cap0, rfl⟩ := okWide_slice Try.underlying45 (hval 0 45 v0 rfl rfl)
  have k0 := h0
  have lt0 : ∀ x ∈ p0, x.block < W.heap.size := by obtain ⟨m, hm⟩ := k0; exact DataW.trod_lt m _ _ _ hm
  have y0 : len0 * 4 ≤ 140737488351232 := sized_any hsz (j := 0) (t := 45) rfl rfl Try.underlying45 (by kernel_rfl) h0
  obtain ⟨l0, rfl, hr0, hc0, hw0⟩ := openS45 h0
  clear hA0 hval0 hsz0 hsz
  refine (Q.graverlaw02_SpanUnions.walk Pure.SpanUnions a0 cap0 l0 W hr0 hc0 hw0 y0).mono fun e W' ⟨he, bel⟩ => ?_
  subst he
  exact ⟨_, rfl, _, _, _, [], _, [], hW', trodAll_mk1 (shut_bool Try.underlying4 _), (trodAll_cons_mk (Below.trod laidOut (by kernel_rfl) (of_decide_eq_true (by kernel_rfl)) k0 bel lt0) trodAll_mk0), rfl, bel.frame _, fun h => by cases h⟩
theorem over : Rows.spanUnionsRow.holds Try.pinned (OpenSpec.ofChange Rows.spanUnionsSpec) :=
  OpenClaim.holds_of_wide 6 Try.f6 rfl rfl rfl rfl rfl rfl rfl ⟨rfl, rfl, rfl, rfl, rfl⟩ rfl rfl rfl rfl rfl (by kernel_rfl) Try.func6 (by kernel_rfl)
    (of_decide_eq_true (by kernel_rfl)) (by unfold Func.isWrapper; first | (rw [if_pos (by decide +kernel)]; kernel_rfl) | (rw [if_neg (by decide +kernel)]; exact ⟨rfl, rfl⟩))
    (fun os started H enc _ => lifted os started H enc)
theorem proved : Rows.SpanUnionsSaid := over
#print axioms proved
end Go.Proofs.Yteoeohkjomehoaa.spanUnions
namespace Go.Proofs.Yteoeohkjomehoaa
/-- The row, under a short name, for the claim. -/
theorem spanUnions_holds : Rows.SpanUnionsSaid := spanUnions.proved
end Go.Proofs.Yteoeohkjomehoaa
