/- What Go functions of the program compute, each as a Lean function with the proof that the call returns just that. No condition but those in the statements. -/
import Derived.Test.YteoeohkjomehoaaDoorRows
import Derived.Test.YteoeohkjomehoaaDoorCards
import Derived.Test.YteoeohkjomehoaaDoorTie
import Derived.Test.YteoeohkjomehoaaDoorQ24
import Derived.Test.YteoeohkjomehoaaDoorPureTopRecords
import Derived.Deep.Slices
import Derived.ChangeArms
import Derived.DataReads
import Derived.WalkKit
import Derived.ProofKit
import Derived.OpenShut
import Derived.ShutString
import Derived.ChangeOld
import Derived.Below
import Derived.SizedLaws
import Derived.LaidMore
import Derived.Stop.Joined
import Derived.Stop.LaidErr
import Derived.Lib.LaidTab
import Derived.LaidSub
import Derived.SevenTiedAt
import Derived.Test.YteoeohkjomehoaaDoorWSized
namespace Go.Proofs.YteoeohkjomehoaaDoor.topRecords
open Go.ChangeShapes Go.WideShapes Go.ChangeAt Go.RowKit
open Go.ChangeMaps (open_string shut_string)
set_option linter.unusedVariables false
theorem own : ownKnob Tryd.prog.godebug = none := by kernel_rfl
theorem laidOut : laidOutB Tryd.prog = true := by kernel_rfl
def IsRow (k : IntKind) (w : World) (a : Option Addr) (len cap : Nat) (zs : List Int) : Prop :=
  (a = none ∧ len = 0 ∧ cap = 0 ∧ zs = []) ∨
  ∃ x, a = some x ∧ len ≤ cap ∧ cap ≤ maxLen ∧ zs.length = cap ∧ (∀ i, i < zs.length → w.cell? (x.add i) = some (.int k (zs.getD i 0))) ∧ ∀ n ∈ zs, (Lit.int k n).wf = true
open Go.Deep in
theorem sized_any {H : Type} {enc : TypeId × Value → H} {P : Program} {W : World} {base : Nat} {spare : Nat → Bool} {held : Bool} {t e : TypeId} {a : Option Addr} {len cap : Nat} {d : DataW H} {ps : List MemPlace} {ts : List TypeId} {ds : List (DataW H)} {j : Nat}
    (hsz : (DataW.weightsEach P ts ds).all (· ≤ reachBytes) = true) (ht : ts[j]? = some t) (hd : ds[j]? = some d) (hu : P.underlying t = some (.slice e)) {B : Nat} (hB : P.bytesOf e = B)
    (h : DataW.Trod enc P W base spare held t (.slice a len cap) d ps) : len * B ≤ 140737488351232 := by
  obtain ⟨fuel, hf⟩ := h
  rcases open_slice hu hf with ⟨hcs, _⟩ | ⟨x, l, c, m, n, D, Pl, hcs, _, hl, _, _, hx, _⟩
  · simp [Value.cells] at hcs
    obtain ⟨rfl, rfl, rfl⟩ := hcs
    simp
  · simp [Value.cells] at hcs
    obtain ⟨rfl, rfl, rfl⟩ := hcs
    obtain ⟨hx, _⟩ := Prod.mk.inj hx
    subst hx
    have z := sized_slice hsz ht hd hu
    rw [hB] at z
    simp only [List.length_map, List.length_range] at z
    have hr : reachBytes = 140737488351232 := rfl
    rw [hr] at z
    exact Nat.le_trans (Nat.mul_le_mul_right _ (Nat.le_add_right _ _)) z
set_option maxHeartbeats 2000000 in
set_option maxRecDepth 100000 in
open Go.Deep in
theorem openS22 {H : Type} {enc : TypeId × Value → H} {w : World} {base : Nat} {spare : Nat → Bool} {held : Bool} {a : Option Addr} {len cap : Nat} {d : DataW H} {ps : List MemPlace}
    (h : DataW.Trod enc Tryd.prog w base spare held 22 (.slice a len cap) d ps) : ∃ l : List Go.Proofs.YteoeohkjomehoaaDoor.Q.S39, l.length = len ∧ Go.Proofs.YteoeohkjomehoaaDoorW.PrintWords.Kd.C Go.Proofs.YteoeohkjomehoaaDoor.Q.k39 w a l.length l ∧ l.length ≤ cap ∧ ∀ x ∈ l, (Lit.int .u32 x.f0).wf = true ∧ (Lit.int .u32 x.f1).wf = true ∧ (Lit.int .u32 x.f2).wf = true := by
  obtain ⟨fuel, hf⟩ := h
  rcases open_slice Tryd.underlying22 hf with ⟨hcs, _⟩ | ⟨ad, len', cap', m, nn, D, Pl, hcs, _, hl, hm, hmm, hx, hi⟩
  · simp [Value.cells] at hcs
    obtain ⟨rfl, rfl, rfl⟩ := hcs
    exact ⟨[], rfl, Go.Proofs.YteoeohkjomehoaaDoorW.PrintWords.Kd.C_nil _ _, Nat.le_refl _, fun x hx => by cases hx⟩
  · simp [Value.cells] at hcs
    obtain ⟨rfl, rfl, rfl⟩ := hcs
    have hlm : len ≤ m := by rw [hmm]; split <;> omega
    have ke : Tryd.prog.cellsOf 39 = 3 := by kernel_rfl
    have kf38 : Tryd.prog.cellsOf 38 = 1 := by kernel_rfl
    have hel : ∀ i, i < len → ∃ x : Go.Proofs.YteoeohkjomehoaaDoor.Q.S39, ((Lit.int .u32 x.f0).wf = true ∧ (Lit.int .u32 x.f1).wf = true ∧ (Lit.int .u32 x.f2).wf = true) ∧ w.cell? (ad.add (i * 3 + 0)) = some (.int .u32 x.f0) ∧ w.cell? (ad.add (i * 3 + 1)) = some (.int .u32 x.f1) ∧ w.cell? (ad.add (i * 3 + 2)) = some (.int .u32 x.f2) := by
      intro i hi'
      obtain ⟨cs', hc, ht'⟩ := hi i (by omega)
      rw [ke] at hc
      obtain ⟨_, hcl, hat⟩ := World.cells?_some hc
      obtain ⟨ys, n', _, _, _, hyl, hf⟩ := DataW.trod_array Tryd.underlying39 ht'
      match cs', hcl with
      | [c0, c1, c2], _ =>
        have g0 : DataW.trod enc Tryd.prog w base spare held n' 38 (([c0, c1, c2].drop 0).take (Tryd.prog.cellsOf 38)) = ys[0]? := (by have h_ := hf 0 (by decide); rw [kf38] at h_ ⊢; exact h_)
        rw [kf38] at g0
        have g1 : DataW.trod enc Tryd.prog w base spare held n' 38 (([c0, c1, c2].drop 1).take (Tryd.prog.cellsOf 38)) = ys[1]? := (by have h_ := hf 1 (by decide); rw [kf38] at h_ ⊢; exact h_)
        rw [kf38] at g1
        have g2 : DataW.trod enc Tryd.prog w base spare held n' 38 (([c0, c1, c2].drop 2).take (Tryd.prog.cellsOf 38)) = ys[2]? := (by have h_ := hf 2 (by decide); rw [kf38] at h_ ⊢; exact h_)
        rw [kf38] at g2
        obtain ⟨z0, hz0⟩ : ∃ z, ys[0]? = some z := by cases hy : ys[0]? with | none => (have := List.getElem?_eq_none_iff.mp hy; (try simp at hyl); omega) | some z => exact ⟨z, rfl⟩
        rw [hz0] at g0
        obtain ⟨n0, e0, _, w0⟩ := DataW.trod_int Tryd.underlying38 g0
        obtain ⟨z1, hz1⟩ : ∃ z, ys[1]? = some z := by cases hy : ys[1]? with | none => (have := List.getElem?_eq_none_iff.mp hy; (try simp at hyl); omega) | some z => exact ⟨z, rfl⟩
        rw [hz1] at g1
        obtain ⟨n1, e1, _, w1⟩ := DataW.trod_int Tryd.underlying38 g1
        obtain ⟨z2, hz2⟩ : ∃ z, ys[2]? = some z := by cases hy : ys[2]? with | none => (have := List.getElem?_eq_none_iff.mp hy; (try simp at hyl); omega) | some z => exact ⟨z, rfl⟩
        rw [hz2] at g2
        obtain ⟨n2, e2, _, w2⟩ := DataW.trod_int Tryd.underlying38 g2
        have q0 := (List.cons.inj (show [c0] = _ from e0)).1
        have q1 := (List.cons.inj (show [c1] = _ from e1)).1
        have q2 := (List.cons.inj (show [c2] = _ from e2)).1
        subst q0 q1 q2
        refine ⟨⟨n0, n1, n2⟩, ⟨w0, w1, w2⟩, ?_, ?_, ?_⟩
        · have h_ := hat 0 (by decide); rw [Go.Deep.add_add] at h_; exact h_
        · have h_ := hat 1 (by decide); rw [Go.Deep.add_add] at h_; exact h_
        · have h_ := hat 2 (by decide); rw [Go.Deep.add_add] at h_; exact h_
    have : Inhabited Go.Proofs.YteoeohkjomehoaaDoor.Q.S39 := ⟨Go.Proofs.YteoeohkjomehoaaDoor.Q.z39⟩
    obtain ⟨g, hg⟩ := Go.Deep.choose_lt hel
    refine ⟨(List.range len).map g, by simp, ⟨rfl, by simp; unfold maxLen at hm; omega, fun _ => ⟨ad, rfl, fun j p hj => ?_⟩⟩, by simpa using hl, fun x hx => ?_⟩
    · have hjl : j < len := by have := (List.getElem?_eq_some_iff.mp hj).1; simpa using this
      obtain rfl : g j = p := by simpa [hjl] using hj
      have hh := hg j hjl
      refine ⟨_, rfl, Go.Proofs.YteoeohkjomehoaaDoor.Q.k39_mk w (g j), fun i u hu => ?_⟩
      rcases i with _ | _ | _ | i
      · obtain rfl := Option.some.inj (show some _ = some u from hu)
        exact hh.2.1
      · obtain rfl := Option.some.inj (show some _ = some u from hu)
        exact hh.2.2.1
      · obtain rfl := Option.some.inj (show some _ = some u from hu)
        exact hh.2.2.2
      · simp at hu
    · obtain ⟨i, hi, rfl⟩ := List.mem_map.mp hx
      exact (hg i (List.mem_range.mp hi)).1
theorem door_met (os : Os) (args : Array Value) : laidMetH Tryd.prog Rows.topRecordsRow.laid ((World.doorLaid Tryd.prog 400 os).forCall (fun _ _ => 0) ⟨#[], args, []⟩).memory :=
  laidMetH_of_parts3 (fuel := 8) (laidMet_of_run' 8 (by kernel_rfl) (by kernel_rfl)) (by kernel_rfl) (by kernel_rfl)
open Go.Proofs.YteoeohkjomehoaaDoor.Q in
theorem of_laid {w : World} (h0 : laidMetH Tryd.prog Rows.topRecordsRow.laid w) : Laid_ehdr w ∧ Laid_phdr w ∧ Laid_shdr w ∧ Laid_symrec w := by
  rw [MakeChecks.laidMetH_plain _ _ _ (by kernel_rfl)] at h0
  have t0 : Lib.TabIs Tryd.prog w "graver/ehdr.sizes" .i64 tab_ehdr_sizes := Lib.tabIs_of_head (g := 3) (t := 206) (e := 3) (n := 13) (by kernel_rfl) (by kernel_rfl) (by kernel_rfl) (by kernel_rfl) (by kernel_rfl) (by kernel_rfl) h0
  have h1 := laidMet.tail h0
  have t1 : Lib.TabIs Tryd.prog w "graver/phdr.wideSizes" .i64 tab_phdr_wideSizes := Lib.tabIs_of_head (g := 5) (t := 211) (e := 3) (n := 8) (by kernel_rfl) (by kernel_rfl) (by kernel_rfl) (by kernel_rfl) (by kernel_rfl) (by kernel_rfl) h1
  have h2 := laidMet.tail h1
  have t2 : Lib.TabIs Tryd.prog w "graver/phdr.narrowSizes" .i64 tab_phdr_narrowSizes := Lib.tabIs_of_head (g := 6) (t := 211) (e := 3) (n := 8) (by kernel_rfl) (by kernel_rfl) (by kernel_rfl) (by kernel_rfl) (by kernel_rfl) (by kernel_rfl) h2
  have h3 := laidMet.tail h2
  have t3 : Lib.TabIs Tryd.prog w "graver/shdr.sizes" .i64 tab_shdr_sizes := Lib.tabIs_of_head (g := 4) (t := 210) (e := 3) (n := 10) (by kernel_rfl) (by kernel_rfl) (by kernel_rfl) (by kernel_rfl) (by kernel_rfl) (by kernel_rfl) h3
  have h4 := laidMet.tail h3
  have t4 : Lib.TabIs Tryd.prog w "graver/symrec.wideSizes" .i64 tab_symrec_wideSizes := Lib.tabIs_of_head (g := 7) (t := 212) (e := 3) (n := 6) (by kernel_rfl) (by kernel_rfl) (by kernel_rfl) (by kernel_rfl) (by kernel_rfl) (by kernel_rfl) h4
  have h5 := laidMet.tail h4
  have t5 : Lib.TabIs Tryd.prog w "graver/symrec.narrowSizes" .i64 tab_symrec_narrowSizes := Lib.tabIs_of_head (g := 8) (t := 212) (e := 3) (n := 6) (by kernel_rfl) (by kernel_rfl) (by kernel_rfl) (by kernel_rfl) (by kernel_rfl) (by kernel_rfl) h5
  exact ⟨⟨C_of_cells (zs := tab_ehdr_sizes) (fun i hi => t0.cell (by kernel_rfl) i hi) (by decide)⟩, ⟨C_of_cells (zs := tab_phdr_wideSizes) (fun i hi => t1.cell (by kernel_rfl) i hi) (by decide), C_of_cells (zs := tab_phdr_narrowSizes) (fun i hi => t2.cell (by kernel_rfl) i hi) (by decide)⟩, ⟨C_of_cells (zs := tab_shdr_sizes) (fun i hi => t3.cell (by kernel_rfl) i hi) (by decide)⟩, ⟨C_of_cells (zs := tab_symrec_wideSizes) (fun i hi => t4.cell (by kernel_rfl) i hi) (by decide), C_of_cells (zs := tab_symrec_narrowSizes) (fun i hi => t5.cell (by kernel_rfl) i hi) (by decide)⟩⟩
set_option maxRecDepth 100000 in
theorem lifted (os : Os) (started : os.Started) (H : Type) (enc : TypeId × Value → H) :
    ReturnsInHanded {} Tryd.checked os 3 .any (fun w args => (Rows.topRecordsSpec.pre enc Tryd.prog Tryd.f3 [] false w args ∧ laidMetH Tryd.prog Rows.topRecordsRow.laid w) ∧ sizedMet enc Tryd.prog Tryd.f3 (OpenSpec.ofChange Rows.topRecordsSpec) false w args) (Rows.topRecordsSpec.post enc Tryd.prog Tryd.f3 false true false false) := by
  refine returnsInHanded_of_change_and (C := Tryd.checked) (X := fun w _ => laidMetH Tryd.prog Rows.topRecordsRow.laid w) (fun _ _ _ hh h => h.of_heap hh) own started (by kernel_rfl) Tryd.func3
    (ChangeSpec.witness_shaped (enc := enc) (C := Tryd.checked) (os := os) (X := fun w _ => laidMetH Tryd.prog Rows.topRecordsRow.laid w) false (World.doorLaid Tryd.prog 400 os) #[.int .i64 0, .slice none 0 0] 8 rfl (World.shaped_of_RefB (by kernel_rfl) (by kernel_rfl)) (by kernel_rfl) (by kernel_rfl) (by kernel_rfl) (door_met os _)) ?_
  intro W base args ds gs before hval0 hW hcnd hsz0 hL _
  obtain ⟨hlaid_ehdr, hlaid_phdr, hlaid_shdr, hlaid_symrec⟩ := of_laid hL
  have hsz : (DataW.weightsEach Tryd.prog (Tryd.f3.params.toList ++ Rows.topRecordsSpec.plain.varTypes Tryd.prog) (ds ++ gs)).all (· ≤ reachBytes) = true := hsz0
  have hval : ∀ (j : Nat) t v, Tryd.f3.params[j]? = some t → args[j]? = some v → Value.okWide Tryd.prog W .any base t v := hval0
  have hW' := hW
  obtain ⟨p, q, hA0, hV, rfl, hfz, hnd⟩ := hW
  have hA : DataW.TrodAll enc Tryd.prog W 0 (fun _ => true) true Tryd.f3.params.toList args.toList ds p := hA0
  rw [Tryd.params3] at hA hval hsz
  obtain ⟨v0, vs0, d0, ds0, p0, q0, hargs, rfl, rfl, h0, r0⟩ := trodAll_cons hA
  obtain ⟨v1, vs1, d1, ds1, p1, q1, rfl, rfl, rfl, h1, r1⟩ := trodAll_cons r0
  obtain ⟨rfl, rfl, rfl⟩ := trodAll_nil r1
  obtain rfl : args = #[v0, v1] := by cases args; simp_all
  obtain ⟨rfl, rfl⟩ := trodVars_none hV
  obtain ⟨a0, rfl, rfl, rfl, w0⟩ := open_int Tryd.underlying3 (hval 0 3 v0 rfl rfl) h0
  obtain ⟨a1, len1, cap1, rfl⟩ := okWide_slice Tryd.underlying22 (hval 1 22 v1 rfl rfl)
  have k1 := h1
  have lt1 : ∀ x ∈ p1, x.block < W.heap.size := by obtain ⟨m, hm⟩ := k1; exact DataW.trod_lt m _ _ _ hm
  have y1 : len1 * 12 ≤ 140737488351232 := sized_any hsz (j := 1) (t := 22) rfl rfl Tryd.underlying22 (by kernel_rfl) h1
  obtain ⟨l1, rfl, hr1, hc1, hw1⟩ := openS22 h1
  clear hA0 hval0 hsz0 hsz
  refine (Q.gravertop_TopRecords.walk Pure.TopRecords a0 a1 cap1 l1 W hlaid_ehdr hlaid_phdr hlaid_shdr hlaid_symrec w0 hr1 hc1 hw1 y1).mono fun e W' ⟨he, bel⟩ => ?_
  subst he
  exact ⟨_, rfl, _, _, _, [], _, [], hW', trodAll_mk1 (shut_bool Tryd.underlying4 _), (trodAll_cons_mk (shut_int Tryd.underlying3 w0) (trodAll_cons_mk (Below.trod laidOut (by kernel_rfl) (of_decide_eq_true (by kernel_rfl)) k1 bel lt1) trodAll_mk0)), rfl, bel.frame _, fun h => by cases h⟩
theorem over : Rows.topRecordsRow.holds Tryd.pinned (OpenSpec.ofChange Rows.topRecordsSpec) :=
  OpenClaim.holds_of_wide 3 Tryd.f3 rfl rfl rfl rfl rfl rfl rfl ⟨rfl, rfl, rfl, rfl, rfl⟩ rfl rfl rfl rfl rfl (by kernel_rfl) Tryd.func3 (by kernel_rfl)
    (of_decide_eq_true (by kernel_rfl)) (by unfold Func.isWrapper; first | (rw [if_pos (by decide +kernel)]; kernel_rfl) | (rw [if_neg (by decide +kernel)]; exact ⟨rfl, rfl⟩))
    (fun os started H enc _ => lifted os started H enc)
theorem proved : Rows.TopRecordsSaid := over

theorem card_holds : Rows.TopRecordsCardSaid :=
  Claim7.holds_tied_plain_at .later [] [.widerDeep, .widerDeep, .widerDeep, .widerDeep, .widerDeep, .widerDeep] true (true, "f606fde8d4b9d50d63338e4d0c8fd12c3c6d5bf740ff7ae9395a3cbe63446d1a") false
    proved (fun _ h => by cases h) (by kernel_rfl) (fun _ h => by cases h) topRecords_row_tie rfl ⟨rfl, rfl⟩ (by kernel_rfl) rfl
    (fun f fn hf hfn => by
      obtain rfl : f = 3 := Option.some.inj ((show Tryd.prog.funcNamed "graver/gravertop.TopRecords" = some 3 by kernel_rfl).symm.trans hf) |>.symm
      obtain rfl : fn = Tryd.f3 := (Option.some.inj (Tryd.func3.symm.trans hfn)).symm
      exact ⟨by kernel_rfl, fun j t ht => by
        rw [Tryd.params3] at ht
        have hm : t ∈ [3, 22] := by simpa using Array.mem_of_getElem? ht
        have hall : ([3, 22].all fun u => !Tryd.prog.wantsStandIn u) = true := by kernel_rfl
        exact (show Tryd.prog.wantsStandIn t = false by simpa using List.all_eq_true.1 hall t hm)⟩)
    (by kernel_rfl)
#print axioms card_holds
end Go.Proofs.YteoeohkjomehoaaDoor.topRecords
namespace Go.Proofs.YteoeohkjomehoaaDoor
/-- The tied card, under a short name, for the claim. -/
theorem topRecords_holds : Rows.TopRecordsCardSaid := topRecords.card_holds
end Go.Proofs.YteoeohkjomehoaaDoor
