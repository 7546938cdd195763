/- Walks. No condition but those in the statements. -/
import Derived.Test.YtceilmhinkkgfaaDoorQ15
set_option linter.unusedVariables false
set_option linter.unusedSimpArgs false
namespace Go.Proofs.YtceilmhinkkgfaaDoor.Q
open Go.RowKit Go.Proofs.YtceilmhinkkgfaaDoorW.PrintWords Go.Proofs.YtceilmhinkkgfaaDoorW.PrintLast Go.Proofs.YtceilmhinkkgfaaDoorW.PrintMore
attribute [local go_sem] max2_int min2_int max_two min_two max_three min_three max_four min_four

def oR_Bytes.f (s0_0 : Bool) (s0_1 : ByteArray) (s0_2 : Int) (s0_3 : Bool) (a1 : Int) : Option (ByteArray × Bool × ByteArray × Int × Bool) := if s0_3 = true then (some ((⟨#[]⟩ : ByteArray), s0_0, s0_1, s0_2, s0_3)) else (if s0_2 > (IntKind.u64.wrap ((s0_1.size : Int))) then (some ((⟨#[]⟩ : ByteArray), s0_0, s0_1, s0_2, true)) else (if a1 > (IntKind.u64.wrap ((IntKind.u64.wrap ((s0_1.size : Int))) - s0_2)) then (some ((⟨#[]⟩ : ByteArray), s0_0, s0_1, s0_2, true)) else (if 0 ≤ s0_2 then (if s0_2 ≤ (IntKind.u64.wrap (s0_2 + a1)) then (if (IntKind.u64.wrap (s0_2 + a1)) ≤ (s0_1.size : Int) then (some (s0_1.extract (s0_2 : Int).toNat ((IntKind.u64.wrap (s0_2 + a1)) : Int).toNat, s0_0, s0_1, IntKind.u64.wrap (s0_2 + a1), s0_3)) else (none)) else (none)) else (none))))
set_option maxHeartbeats 8000000 in
set_option maxRecDepth 100000 in
theorem oR_Bytes.calls (g : Nat) (s0_0 : Bool) (s0_1 : ByteArray) (s0_2 : Int) (s0_3 : Bool) (a1 : Int) (r1 : ByteArray) (r2 : Bool) (r3 : ByteArray) (r4 : Int) (r5 : Bool) (w0 w : World) (hI : IsS132 w0 w g s0_0 s0_1 s0_2 s0_3) (hB : Below w0.heap.size w0 w) (h : oR_Bytes.f s0_0 s0_1 s0_2 s0_3 a1 = some (r1, r2, r3, r4, r5)) :
 Calls Tryd.prog 68 #[.pointer (some ⟨g, 0, none⟩), .int .u64 a1] w fun e w' => e = .returned (.string r1) ∧ IsS132 w0 w' g r2 r3 r4 r5 ∧ Below w0.heap.size w0 w' ∧ KeepBut w w' g none := by
 have HI0 := aS hI; have HK := aS (KeepBut.refl w g none); have HL := aS hB.size; clear hI; have HW0 := aS hB.size; have HB := aS hB; clear hB; have H : (if s0_3 = true then (some ((⟨#[]⟩ : ByteArray), s0_0, s0_1, s0_2, s0_3)) else (if s0_2 > (IntKind.u64.wrap ((s0_1.size : Int))) then (some ((⟨#[]⟩ : ByteArray), s0_0, s0_1, s0_2, true)) else (if a1 > (IntKind.u64.wrap ((IntKind.u64.wrap ((s0_1.size : Int))) - s0_2)) then (some ((⟨#[]⟩ : ByteArray), s0_0, s0_1, s0_2, true)) else (if 0 ≤ s0_2 then (if s0_2 ≤ (IntKind.u64.wrap (s0_2 + a1)) then (if (IntKind.u64.wrap (s0_2 + a1)) ≤ (s0_1.size : Int) then (some (s0_1.extract (s0_2 : Int).toNat ((IntKind.u64.wrap (s0_2 + a1)) : Int).toNat, s0_0, s0_1, IntKind.u64.wrap (s0_2 + a1), s0_3)) else (none)) else (none)) else (none))))) = some (r1, r2, r3, r4, r5) := h; clear h
 by_cases c3 : s0_3 = true
 ·subst c3
  (have H1 : (some ((⟨#[]⟩ : ByteArray), s0_0, s0_1, s0_2, true)) = some (r1, r2, r3, r4, r5) := by rw [if_pos rfl] at H; exact H); clear H; have H := H1; clear H1; simp only [Option.some.injEq, Prod.mk.injEq] at H; obtain ⟨rfl, rfl, rfl, rfl, rfl⟩ := H; obtain ⟨HGz4, hgz4⟩ := HI0.out; have hcz4_0 := cellS132_0 HGz4; have hcz4_1 := cellS132_1 HGz4; have hcz4_2 := cellS132_2 HGz4; have hcz4_3 := cellS132_3 HGz4; have hfz4_0 := blk_frozen HGz4 0; have hfz4_1 := blk_frozen HGz4 1; have hfz4_2 := blk_frozen HGz4 2; have hfz4_3 := blk_frozen HGz4 3; clear HGz4 hgz4; go_enter Tryd.func68, Tryd.ntmps68; go_wp2
  repeat (go_quiet (fail); try go_wp2)
  (go_ret); exact ⟨er, by repeat (first | (with_reducible first | exact HI0.out | apply IsS132.alloc | apply IsS132.drewN | apply IsS132.drew | apply IsS132.set_0 | apply IsS132.set_1 | apply IsS132.set_2 | apply IsS132.set_3) | exact HI0.out), by repeat (first | (with_reducible first | exact HB.out | apply below_alloc | apply pw_below_drewN | apply below_drew1 | refine below_set ?_ (IsS132.ge HI0.out)) | exact HB.out), by repeat (first | (with_reducible first | exact HK.out | apply KeepBut.set_ | apply keep_drewN | apply keep_drew | apply keep_alloc) | exact HK.out)⟩
 ·replace c3 := Bool.eq_false_iff.mpr c3
  subst c3; (have H1 : (if s0_2 > (IntKind.u64.wrap ((s0_1.size : Int))) then (some ((⟨#[]⟩ : ByteArray), s0_0, s0_1, s0_2, true)) else (if a1 > (IntKind.u64.wrap ((IntKind.u64.wrap ((s0_1.size : Int))) - s0_2)) then (some ((⟨#[]⟩ : ByteArray), s0_0, s0_1, s0_2, true)) else (if 0 ≤ s0_2 then (if s0_2 ≤ (IntKind.u64.wrap (s0_2 + a1)) then (if (IntKind.u64.wrap (s0_2 + a1)) ≤ (s0_1.size : Int) then (some (s0_1.extract (s0_2 : Int).toNat ((IntKind.u64.wrap (s0_2 + a1)) : Int).toNat, s0_0, s0_1, IntKind.u64.wrap (s0_2 + a1), false)) else (none)) else (none)) else (none)))) = some (r1, r2, r3, r4, r5) := by rw [if_neg (show ¬ (false = true) by decide)] at H; exact H); clear H; have H := H1; clear H1
  by_cases c5 : s0_2 > (IntKind.u64.wrap ((s0_1.size : Int)))
  ·rw [if_pos c5] at H
   have c5b0 : decide ((IntKind.u64.wrap ((s0_1.size : Int))) < s0_2) = true := decide_eq_true c5; clear c5; simp only [Option.some.injEq, Prod.mk.injEq] at H; obtain ⟨rfl, rfl, rfl, rfl, rfl⟩ := H; obtain ⟨HGz6, hgz6⟩ := HI0.out; have hcz6_0 := cellS132_0 HGz6; have hcz6_1 := cellS132_1 HGz6; have hcz6_2 := cellS132_2 HGz6; have hcz6_3 := cellS132_3 HGz6; have hfz6_0 := blk_frozen HGz6 0; have hfz6_1 := blk_frozen HGz6 1; have hfz6_2 := blk_frozen HGz6 2; have hfz6_3 := blk_frozen HGz6 3; clear HGz6 hgz6; go_enter Tryd.func68, Tryd.ntmps68; go_wp2
   repeat (go_quiet (fail); try go_wp2)
   (go_ret); exact ⟨er, by repeat (first | (with_reducible first | exact HI0.out | apply IsS132.alloc | apply IsS132.drewN | apply IsS132.drew | apply IsS132.set_0 | apply IsS132.set_1 | apply IsS132.set_2 | apply IsS132.set_3) | exact HI0.out), by repeat (first | (with_reducible first | exact HB.out | apply below_alloc | apply pw_below_drewN | apply below_drew1 | refine below_set ?_ (IsS132.ge HI0.out)) | exact HB.out), by repeat (first | (with_reducible first | exact HK.out | apply KeepBut.set_ | apply keep_drewN | apply keep_drew | apply keep_alloc) | exact HK.out)⟩
  ·rw [if_neg c5] at H
   have c5b0 : decide ((IntKind.u64.wrap ((s0_1.size : Int))) < s0_2) = false := decide_eq_false c5; clear c5
   by_cases c7 : a1 > (IntKind.u64.wrap ((IntKind.u64.wrap ((s0_1.size : Int))) - s0_2))
   ·rw [if_pos c7] at H
    have c7b0 : decide ((IntKind.u64.wrap ((IntKind.u64.wrap ((s0_1.size : Int))) - s0_2)) < a1) = true := decide_eq_true c7; clear c7; simp only [Option.some.injEq, Prod.mk.injEq] at H; obtain ⟨rfl, rfl, rfl, rfl, rfl⟩ := H; obtain ⟨HGz8, hgz8⟩ := HI0.out; have hcz8_0 := cellS132_0 HGz8; have hcz8_1 := cellS132_1 HGz8; have hcz8_2 := cellS132_2 HGz8; have hcz8_3 := cellS132_3 HGz8; have hfz8_0 := blk_frozen HGz8 0; have hfz8_1 := blk_frozen HGz8 1; have hfz8_2 := blk_frozen HGz8 2; have hfz8_3 := blk_frozen HGz8 3; clear HGz8 hgz8; go_enter Tryd.func68, Tryd.ntmps68; go_wp2
    repeat (go_quiet (fail); try go_wp2)
    (go_ret); exact ⟨er, by repeat (first | (with_reducible first | exact HI0.out | apply IsS132.alloc | apply IsS132.drewN | apply IsS132.drew | apply IsS132.set_0 | apply IsS132.set_1 | apply IsS132.set_2 | apply IsS132.set_3) | exact HI0.out), by repeat (first | (with_reducible first | exact HB.out | apply below_alloc | apply pw_below_drewN | apply below_drew1 | refine below_set ?_ (IsS132.ge HI0.out)) | exact HB.out), by repeat (first | (with_reducible first | exact HK.out | apply KeepBut.set_ | apply keep_drewN | apply keep_drew | apply keep_alloc) | exact HK.out)⟩
   ·rw [if_neg c7] at H
    have c7b0 : decide ((IntKind.u64.wrap ((IntKind.u64.wrap ((s0_1.size : Int))) - s0_2)) < a1) = false := decide_eq_false c7; clear c7
    by_cases c9 : 0 ≤ s0_2
    ·rw [if_pos c9] at H
     have c9b0 := eq_true c9; have c9b1 : decide (0 ≤ s0_2) = true := decide_eq_true c9; clear c9
     by_cases c10 : s0_2 ≤ (IntKind.u64.wrap (s0_2 + a1))
     ·rw [if_pos c10] at H
      have c10b0 := eq_true c10; have c10b1 : decide (s0_2 ≤ (IntKind.u64.wrap (s0_2 + a1))) = true := decide_eq_true c10
      by_cases c11 : (IntKind.u64.wrap (s0_2 + a1)) ≤ (s0_1.size : Int)
      ·rw [if_pos c11] at H
       have c11b0 := eq_true c11; have c11b1 : decide ((IntKind.u64.wrap (s0_2 + a1)) ≤ (s0_1.size : Int)) = true := decide_eq_true c11; obtain ⟨sc12, hsc12⟩ : ∃ s_ : ByteArray, (s0_1.extract (s0_2 : Int).toNat ((IntKind.u64.wrap (s0_2 + a1)) : Int).toNat) = s_ := ⟨_, rfl⟩; (replace H : (some (sc12, s0_0, s0_1, IntKind.u64.wrap (s0_2 + a1), false)) = some (r1, r2, r3, r4, r5) := by first | (rw [hsc12] at H; exact H) | (simp only [hsc12] at H ⊢; exact H) | exact H); ((try (have hsc12n := hsc12; simp only [Int.toNat_natCast] at hsc12n))); simp only [Option.some.injEq, Prod.mk.injEq] at H; obtain ⟨rfl, rfl, rfl, rfl, rfl⟩ := H; obtain ⟨HGz13, hgz13⟩ := HI0.out; have hcz13_0 := cellS132_0 HGz13; have hcz13_1 := cellS132_1 HGz13; have hcz13_2 := cellS132_2 HGz13; have hcz13_3 := cellS132_3 HGz13; have hfz13_0 := blk_frozen HGz13 0; have hfz13_1 := blk_frozen HGz13 1; have hfz13_2 := blk_frozen HGz13 2; have hfz13_3 := blk_frozen HGz13 3; clear HGz13 hgz13; go_enter Tryd.func68, Tryd.ntmps68; go_wp2
       repeat (go_quiet (fail); try go_wp2)
       (go_ret); exact ⟨er, by repeat (first | (with_reducible first | exact HI0.out | apply IsS132.alloc | apply IsS132.drewN | apply IsS132.drew | apply IsS132.set_0 | apply IsS132.set_1 | apply IsS132.set_2 | apply IsS132.set_3) | exact HI0.out), by repeat (first | (with_reducible first | exact HB.out | apply below_alloc | apply pw_below_drewN | apply below_drew1 | refine below_set ?_ (IsS132.ge HI0.out)) | exact HB.out), by repeat (first | (with_reducible first | exact HK.out | apply KeepBut.set_ | apply keep_drewN | apply keep_drew | apply keep_alloc) | exact HK.out)⟩
      ·(rw [if_neg c11] at H); exact absurd H (by simp)
     ·(rw [if_neg c10] at H); exact absurd H (by simp)
    ·(rw [if_neg c9] at H); exact absurd H (by simp)
def oR_Bytes_nil.f (a1 : Int) : Option (ByteArray) := some (⟨#[]⟩ : ByteArray)
theorem oR_Bytes_nil.calls (a1 : Int) (r : ByteArray) (w : World) (h : oR_Bytes_nil.f a1 = some r) :
 Calls Tryd.prog 68 #[.pointer none, .int .u64 a1] w fun e w' => e = .returned (.string r) ∧ Below w.heap.size w w' := by
 simp only [oR_Bytes_nil.f, Option.some.injEq] at h; subst h; go_enter Tryd.func68, Tryd.ntmps68; (go_wp2); go_ret
 exact ⟨rfl, Below.refl _ _⟩


def oR_Next.f (k : Nat) (s0_0 : Bool) (s0_1 : ByteArray) (s0_2 : Int) (s0_3 : Bool) (a1 : Int) : Option (Int × Bool × ByteArray × Int × Bool) := if a1 < 1 then (some (0, s0_0, s0_1, s0_2, true)) else (if a1 > 8 then (some (0, s0_0, s0_1, s0_2, true)) else ((oR_Bytes.f s0_0 s0_1 s0_2 s0_3 (IntKind.u64.wrap a1)).bind fun t => ((oO_Get.f k s0_0 t.1).bind fun n => (some (n, s0_0, t.2.2.1, t.2.2.2.1, t.2.2.2.2)))))
theorem oR_Next.mono : ∀ a0 a1 a2 a3 a4 k, LeO (oR_Next.f k a0 a1 a2 a3 a4) (oR_Next.f (k + 1) a0 a1 a2 a3 a4) := by
 intro a0 a1 a2 a3 a4 k; unfold oR_Next.f; exact LeO.ite (LeO.refl _) (LeO.ite (LeO.refl _) (LeO.bind (LeO.refl _) (fun _ => LeO.bind (oO_Get.mono _ _ _) (fun _ => LeO.refl _))))
theorem oR_Next.same {b : Bool} {s : ByteArray} {p : Int} {d : Bool} {n : Int} {t : ByteArray × Bool × ByteArray × Int × Bool} (h : oR_Bytes.f b s p d n = some t) : t.2.1 = b := by
 unfold oR_Bytes.f at h
 repeat' (split at h)
 all_goals first | (injection h with h; rw [← h]) | cases h
def oR_Next.T6 : Bool × List (List Nat × List Nat) := (true, [([], []), ([0], [0]), ([1], [1]), ([2], [2]), ([], []), ([], []), ([5], [5]), ([4, 6], [4, 6]), ([3, 7, 7], [3, 7]), ([8, 8, 0, 1, 2, 3, 4, 5, 6, 7, 8], [8])])
def oR_Next.B6 : List Nat := [0, 1, 3, 7, 0, 0, 32, 112, 255, 511]
theorem oR_Next.tab6 : rtab .any (opsOf Tryd.f48 6) = oR_Next.T6 := by kernel_rfl
theorem oR_Next.bits6 : waitsOk oR_Next.T6.2 oR_Next.B6 = true := by kernel_rfl
set_option maxHeartbeats 4000000 in
set_option maxRecDepth 100000 in
theorem oR_Next.calls (k : Nat) (g : Nat) (s0_0 : Bool) (s0_1 : ByteArray) (s0_2 : Int) (s0_3 : Bool) (a1 : Int) (r1 : Int) (r2 : Bool) (r3 : ByteArray) (r4 : Int) (r5 : Bool) (w0 w : World) (hI : IsS132 w0 w g s0_0 s0_1 s0_2 s0_3) (hB : Below w0.heap.size w0 w) (h : oR_Next.f k s0_0 s0_1 s0_2 s0_3 a1 = some (r1, r2, r3, r4, r5)) :
 Calls Tryd.prog 48 #[.pointer (some ⟨g, 0, none⟩), .int .i64 a1] w fun e w' => e = .returned (.int .u64 r1) ∧ IsS132 w0 w' g r2 r3 r4 r5 ∧ Below w0.heap.size w0 w' ∧ KeepBut w w' g none := by
 have hs := hI; have HI := aS hI; have HB := aS hB; obtain ⟨HGz, hgz⟩ := hs; have hc0 := cellS132_0 HGz; have hc3 := cellS132_3 HGz; have hf3 := blk_frozen HGz 3; clear HGz hgz hI hB; unfold oR_Next.f at h
 have bad : a1 < 1 ∨ a1 > 8 → Calls Tryd.prog 48 #[.pointer (some ⟨g, 0, none⟩), .int .i64 a1] w fun e w' => e = .returned (.int .u64 0) ∧ IsS132 w0 w' g s0_0 s0_1 s0_2 true ∧ Below w0.heap.size w0 w' ∧ KeepBut w w' g none := by
  clear h; intro hbad
  have fin : ∀ W : World, W = w.setCell ⟨g, 3, none⟩ (.bool true) → IsS132 w0 W g s0_0 s0_1 s0_2 true ∧ Below w0.heap.size w0 W ∧ KeepBut w W g none := by
   rintro W rfl; exact ⟨HI.out.set_3 true, below_set HB.out (IsS132.ge HI.out), (KeepBut.refl w g none).set_ _ _⟩
  have Fin := aS fin; clear fin
  by_cases c : a1 < 1
  ·(have cb : decide (a1 < 1) = true := decide_eq_true c); clear hbad c; go_enter Tryd.func48, Tryd.ntmps48; (go_wp2); (go_ret); exact ⟨rfl, Fin.out _ rfl⟩
  ·(have cb : decide (a1 < 1) = false := decide_eq_false c); (have cb2 : decide (8 < a1) = true := decide_eq_true (by omega)); clear hbad c; go_enter Tryd.func48, Tryd.ntmps48; (go_wp2); (go_ret); exact ⟨rfl, Fin.out _ rfl⟩
 have Bad := aS bad; clear bad
 by_cases c1 : a1 < 1
 ·(rw [if_pos c1] at h); simp only [Option.some.injEq, Prod.mk.injEq] at h; obtain ⟨rfl, rfl, rfl, rfl, rfl⟩ := h; exact Bad.out (.inl c1)
 ·rw [if_neg c1] at h
  by_cases c8 : a1 > 8
  ·(rw [if_pos c8] at h); simp only [Option.some.injEq, Prod.mk.injEq] at h; obtain ⟨rfl, rfl, rfl, rfl, rfl⟩ := h; exact Bad.out (.inr c8)
  ·rw [if_neg c8] at h
   clear Bad; obtain ⟨⟨t1, t2, t3, t4, t5⟩, ht, h⟩ := Option.bind_eq_some_iff.mp h; obtain ⟨n, hn, h⟩ := Option.bind_eq_some_iff.mp h; have hsame := oR_Next.same ht; simp only at hsame hn h; simp only [Option.some.injEq, Prod.mk.injEq] at h; obtain ⟨rfl, rfl, rfl, rfl, rfl⟩ := h; replace hsame := hsame.symm; subst hsame; obtain ⟨u, hu⟩ : ∃ u : Int, IntKind.u64.wrap a1 = u := ⟨_, rfl⟩; rw [hu] at ht; have HT := aS ht; have HN := aS hn; have c1b : decide (a1 < 1) = false := decide_eq_false c1; have c8b : decide (8 < a1) = false := decide_eq_false c8; clear ht hn c1 c8 hc3 hf3 hc0; (have HS : Aside0 (∀ (W : World) (q1 : ByteArray) (q2 : Int) (q3 : Bool), IsS132 w0 W g s0_0 q1 q2 q3 → W.cell? ⟨g, 0, none⟩ = some (.bool s0_0)) := ⟨fun W q1 q2 q3 hq => cellS132_0 hq.1⟩); go_enter Tryd.func48, Tryd.ntmps48; (go_wp2); (refine start_ (n := 10) (S := (fun w' => w'.cell? ⟨g, 0, none⟩ = some (.bool s0_0))) (ds := []) #[false, false, false, false, false, false, false, false, false, false] (by kernel_rfl) rfl rfl ((HS.out _ _ _ _ HI.out.drew)) (fun hHeld => ?_); refine with_tabW oR_Next.tab6 oR_Next.bits6 (fun HT_ HW_ => ?_)); have n0_ := aS HI.out.drew; have n1_ := aS (below_drew1 HB.out); have HK := aS (keep_drew (KeepBut.refl w g none)); clear HI HB; have HI := n0_; have HB := n1_; clear n0_ n1_; generalize hW : w.drew = W at HB HI HK hHeld ⊢; clear hW; refine pU 0 16 (bm 10 1) ?_; refine pU 1 17 (bm 10 3) ?_; refine pU 2 18 (bm 10 7) ?_; refine pU 4 20 (bm 10 23) ?_; refine pU 5 21 (bm 10 55) ?_; refine pU 6 22 (bm 10 119) ?_; refine tU 3 19 (bm 10 127) hHeld ?_
   (refine one_ (i := 7) (N := (some 23)) (bm 10 255) rfl rfl (one_of HT_.out (by kernel_rfl)) (by decide) (fun K hK => ?_)); (refine goes_ Tryd.func68 (by kernel_rfl) rfl #[.pointer (some ⟨g, 0, none⟩), .int .u64 u] (by rfl) rfl rfl (by (try simp only [List.map_toArray, List.map_cons, List.map_nil]); first | done | rfl) ?_); (with_reducible refine (oR_Bytes.calls g s0_0 s0_1 s0_2 s0_3 u t1 s0_0 t3 t4 t5 w0 _ HI.out HB.out HT.out).mono ?_); rintro e w2 ⟨rfl, hi, hb, hk⟩; refine ⟨_, rfl, ?_⟩; have n0_ := aS hi; have n1_ := aS hb; have n2_ := aS (HK.out.trans hk (.inl rfl)); clear HI HB HK hi hb hk; have HI := n0_; have HB := n1_; have HK := n2_; clear n0_ n1_ n2_; (refine hK.out _ _ (HS.out _ _ _ _ HI.out) (fun hHeld => ?_)); clear hK K; refine norm_ (a' := ?_) ?_ ?_; rotate_left
   ·(show Act.put _ (some 23) _ = _); simp only [Act.put, List.setIfInBounds_toArray, List.set_cons_zero, List.set_cons_succ, i64_w, i32_w]; rfl
   (refine one_ (i := 8) (N := (some 24)) (bm 10 511) rfl rfl (one_of HT_.out (by kernel_rfl)) (by decide) (fun K hK => ?_)); (refine goes_ Tryd.func67 (by kernel_rfl) rfl #[.agg #[.bool s0_0], .string t1] (by rfl) rfl rfl (by (try simp only [List.map_toArray, List.map_cons, List.map_nil]); first | done | rfl) ?_); (with_reducible refine (oO_Get.calls k s0_0 t1 n _ HN.out).mono ?_); rintro e w3 ⟨rfl, hb⟩; refine ⟨_, rfl, ?_⟩; have n0_ := aS (HI.out.below hb); have n1_ := aS (below_step HB.out hb); have n2_ := aS (HK.out.trans (KeepBut.of_below hb g none) (.inl rfl)); clear HI HB HK hb; have HI := n0_; have HB := n1_; have HK := n2_; clear n0_ n1_ n2_; (refine hK.out _ _ (HS.out _ _ _ _ HI.out) (fun hHeld => ?_)); clear hK K; refine norm_ (a' := ?_) ?_ ?_; rotate_left
   ·(show Act.put _ (some 24) _ = _); simp only [Act.put, List.setIfInBounds_toArray, List.set_cons_zero, List.set_cons_succ, i64_w, i32_w]; rfl
   refine pU 9 4 (bm 10 1023) ?_; (refine done_ (done_of HT_.out (by kernel_rfl)) ?_); (go_wp2); (go_ret); exact ⟨rfl, HI.out, HB.out, HK.out⟩
def oR_Next_nil.f (a1 : Int) : Option (Int) := some 0
theorem oR_Next_nil.calls (a1 : Int) (r : Int) (w : World) (h : oR_Next_nil.f a1 = some r) :
 Calls Tryd.prog 48 #[.pointer none, .int .i64 a1] w fun e w' => e = .returned (.int .u64 r) ∧ Below w.heap.size w w' := by
 simp only [oR_Next_nil.f, Option.some.injEq] at h; subst h; go_enter Tryd.func48, Tryd.ntmps48; (go_wp2); go_ret
 exact ⟨rfl, Below.refl _ _⟩


end Go.Proofs.YtceilmhinkkgfaaDoor.Q
