/- Walks. No condition but those in the statements. -/
import Derived.Test.YtceilmhinkkgfaaDoorQ2
set_option linter.unusedVariables false
set_option linter.unusedSimpArgs false
namespace Go.Proofs.YtceilmhinkkgfaaDoor.Q
open Go.RowKit Go.Proofs.YtceilmhinkkgfaaDoorW.PrintWords Go.Proofs.YtceilmhinkkgfaaDoorW.PrintLast Go.Proofs.YtceilmhinkkgfaaDoorW.PrintMore
attribute [local go_sem] max2_int min2_int max_two min_two max_three min_three max_four min_four

def adS (x y : Int) : Int := (((x.toNat + y.toNat + 0) % 18446744073709551616 : Nat) : Int)
def adC (x y : Int) : Int := (((x.toNat + y.toNat + 0) / 18446744073709551616 : Nat) : Int)
theorem bits_Add64.run (x y : Int) (w : World) : (callFunc 80 #[.int .u64 x, .int .u64 y, .int .u64 0]).run Tryd.prog w = .ok (.value (.tuple #[.int .u64 (adS x y), .int .u64 (adC x y)])) w := by
 (rw [run_callFunc_extern Tryd.func80 (by kernel_rfl) (by kernel_rfl) (by kernel_rfl) (e := add64Entry) (by kernel_rfl)]); rfl
attribute [local go_sem] bits_Add64.run


def span_Add.l0 : Nat → Int → List Int → Int → Int → Option (Int × Bool)
 | 0, _, _, _, _ => none
 | k + 1, x4, x9, x10, x11 => if x11 < x10 then (if 0 ≤ x11 then (if x11 < (x9.length : Int) then (if (adC x4 (rd x9 x11)) = 0 then (span_Add.l0 k (adS x4 (rd x9 x11)) x9 x10 (wrap64 (x11 + 1))) else (some (0, false))) else (none)) else (none)) else (some (x4, true))
def span_Add.f (k : Nat) (l0 : List Int) : Option (Int × Bool) := span_Add.l0 k 0 l0 (l0.length : Int) 0
theorem span_Add.mono_l : ∀ k, (∀ y0 y1 y2 y3, LeO (span_Add.l0 k y0 y1 y2 y3) (span_Add.l0 (k + 1) y0 y1 y2 y3))
 | 0 => fun _ _ _ _ r h => by simp [span_Add.l0] at h
 | k + 1 => by
  have ih0 := span_Add.mono_l k
  ·intro y0 y1 y2 y3
   unfold span_Add.l0
   repeat' first
   | (with_reducible apply ih0)
   | (with_reducible exact LeO.refl _)
   | (with_reducible exact LeO.none _)
   | (with_reducible refine LeO.ite ?_ ?_)
   | (with_reducible refine LeO.bind ?_ (fun _ => ?_))
   | exact ih0 _ _ _ _
   | exact LeO.none _
   | refine LeO.ite ?_ ?_
   | refine LeO.bind ?_ (fun _ => ?_)
theorem span_Add.mono : ∀ a0 k, LeO (span_Add.f k a0) (span_Add.f (k + 1) a0) := by
 intro a0 k; have ih0 := span_Add.mono_l k; unfold span_Add.f
 repeat' first
  | (with_reducible apply ih0)
  | (with_reducible exact LeO.refl _)
  | (with_reducible exact LeO.none _)
  | (with_reducible refine LeO.ite ?_ ?_)
  | (with_reducible refine LeO.bind ?_ (fun _ => ?_))
  | exact ih0 _ _ _ _
  | exact LeO.none _
  | refine LeO.ite ?_ ?_
  | refine LeO.bind ?_ (fun _ => ?_)
set_option maxHeartbeats 8000000 in
set_option maxRecDepth 100000 in
theorem span_Add.calls (k : Nat) (A0 : Option Addr) (c0 : Nat) (l0 : List Int) (r1 : Int) (r2 : Bool) (w : World) (hr0 : Kd.C (Kd.int .u64) w A0 l0.length l0) (hc0 : l0.length ≤ c0) (h : span_Add.f k l0 = some (r1, r2)) :
 Calls Tryd.prog 77 #[.slice A0 l0.length c0] w fun e w' => e = .returned (.tuple #[.int .u64 r1, .bool r2]) ∧ Drawn0 w w' := by
 have HR0 := aS hr0; have HC0 := aS hc0; clear hr0 hc0; have H : (span_Add.l0 k 0 l0 (l0.length : Int) 0) = some (r1, r2) := h; clear h; have H' := aS H; clear H; go_enter Tryd.func77, Tryd.ntmps77; (go_wp2); go_loopg [4, 11] k (fun kq v4 v11 w' => ∃ (x4_1 : Int) (x11_1 : Int), v4 = .int .u64 x4_1 ∧ v11 = .int .i64 x11_1 ∧ Aside0 (span_Add.l0 kq x4_1 l0 (l0.length : Int) x11_1 = some (r1, r2)) ∧ Aside0 (kq ≤ k) ∧ Drawn0 w w')
 case atStart => exact ⟨(0), (0), sr, sr, H', ⟨Nat.le_refl _⟩, by repeat (first | exact Drawn0.refl _ | apply Drawn0.step)⟩
 case round =>
  clear H'; obtain ⟨x4_1, x11_1, rfl, rfl, HA, HK1, ⟨m1, rfl⟩⟩ := hrel
  cases gk with
  | zero => exact absurd HA.out (by simp [span_Add.l0])
  | succ k1 =>
   have H := HA.out; clear HA; simp only [span_Add.l0] at H
   by_cases c2 : x11_1 < (l0.length : Int)
   ·rw [if_pos c2] at H
    have c2b0 : decide (x11_1 < (l0.length : Int)) = true := decide_eq_true c2; clear c2
    by_cases c3 : 0 ≤ x11_1
    ·rw [if_pos c3] at H
     have c3b0 : decide (0 ≤ x11_1) = true := decide_eq_true c3; clear c3
     by_cases c4 : x11_1 < (l0.length : Int)
     ·rw [if_pos c4] at H
      have c4b0 : decide (x11_1 < (l0.length : Int)) = true := decide_eq_true c4; clear c4
      by_cases c5 : (adC x4_1 (rd l0 x11_1)) = 0
      ·rw [if_pos c5] at H
       have c5b0 : ((adC x4_1 (rd l0 x11_1)) == 0) = true := beq_iff_eq.mpr c5; have c5b1 : ((adC x4_1 (rd l0 x11_1)) != 0) = false := bne_eq_false_iff_eq.mpr c5; clear c5; have H' := aS H; clear H; (have p219 : 0 ≤ (x11_1 : Int) := of_decide_eq_true (by first | (with_reducible assumption) | assumption)); (have q219 : x11_1 < (l0.length : Int) := of_decide_eq_true (by first | (with_reducible assumption) | assumption)); obtain ⟨ad219, e219, hx219_0⟩ := Kd.at_int HR0.out x11_1 p219 q219
       cases e219
       replace p219 := eq_true p219; replace q219 := eq_true q219; (go_wp2); go_roundg k1
       case measure => have := HK1.out; omega
       case rel => exact ⟨((adS x4_1 (rd l0 x11_1))), (wrap64 (x11_1 + 1)), sr, sr, H', ⟨by have := HK1.out; omega⟩, by repeat (first | exact Drawn0.refl _ | apply Drawn0.step)⟩
      ·rw [if_neg c5] at H
       have c5b0 : ((adC x4_1 (rd l0 x11_1)) == 0) = false := beq_eq_false_iff_ne.mpr c5; have c5b1 : ((adC x4_1 (rd l0 x11_1)) != 0) = true := bne_iff_ne.mpr c5; simp only [Option.some.injEq, Prod.mk.injEq] at H; obtain ⟨rfl, rfl⟩ := H; (have p219 : 0 ≤ (x11_1 : Int) := of_decide_eq_true (by first | (with_reducible assumption) | assumption)); (have q219 : x11_1 < (l0.length : Int) := of_decide_eq_true (by first | (with_reducible assumption) | assumption)); obtain ⟨ad219, e219, hx219_0⟩ := Kd.at_int HR0.out x11_1 p219 q219
       cases e219
       replace p219 := eq_true p219; replace q219 := eq_true q219; (go_wp2); (go_ret2); exact ⟨by first | rfl | (simp; done) | (simp [*]; done), by repeat (first | exact Drawn0.refl _ | apply Drawn0.step)⟩
     ·(rw [if_neg c4] at H); exact absurd H (by simp)
    ·(rw [if_neg c3] at H); exact absurd H (by simp)
   ·rw [if_neg c2] at H
    have c2b0 : decide (x11_1 < (l0.length : Int)) = false := decide_eq_false c2; clear c2; simp only [Option.some.injEq, Prod.mk.injEq] at H; obtain ⟨rfl, rfl⟩ := H; (go_wp2); go_ret2
    exact ⟨by first | rfl | (simp; done) | (simp [*]; done), by repeat (first | exact Drawn0.refl _ | apply Drawn0.step)⟩

def sp_End.f (k : Nat) (a0_0 : Int) (a0_1 : Int) : Option (Int × Bool) := (span_Add.f k (([a0_0, a0_1] : List Int))).bind fun bt224 => (some (bt224.1, bt224.2))
theorem sp_End.mono : ∀ a0 a1 k, LeO (sp_End.f k a0 a1) (sp_End.f (k + 1) a0 a1) := by
 intro a0 a1 k; unfold sp_End.f
 repeat' first
  | (with_reducible exact span_Add.mono _ _)
  | (with_reducible exact LeO.refl _)
  | (with_reducible exact LeO.none _)
  | (with_reducible refine LeO.ite ?_ ?_)
  | (with_reducible refine LeO.bind ?_ (fun _ => ?_))
  | exact span_Add.mono _ _
  | exact LeO.none _
  | refine LeO.ite ?_ ?_
  | refine LeO.bind ?_ (fun _ => ?_)
set_option maxHeartbeats 8000000 in
set_option maxRecDepth 100000 in
theorem sp_End.calls (k : Nat) (a0_0 : Int) (a0_1 : Int) (r1 : Int) (r2 : Bool) (w : World) (h : sp_End.f k a0_0 a0_1 = some (r1, r2)) :
 Calls Tryd.prog 70 #[.agg #[.int .u64 a0_0, .int .u64 a0_1]] w fun e w' => e = .returned (.tuple #[.int .u64 r1, .bool r2]) ∧ Below w.heap.size w w' := by
 have hu66 := Tryd.underlying66; have HB := aS (Below.refl w.heap.size w); (have H : ((span_Add.f k (([a0_0, a0_1] : List Int))).bind fun bt224 => (some (bt224.1, bt224.2))) = some (r1, r2) := h); clear h; obtain ⟨y221, hy221⟩ : ∃ y_ : List Int, y_ = (([a0_0, a0_1] : List Int)) := ⟨_, rfl⟩; (replace H : ((span_Add.f k y221).bind fun bt224 => (some (bt224.1, bt224.2))) = some (r1, r2) := by first | (rw [hy221]; with_reducible exact H) | (have H2_ := (Option.bind_some _ _).symm.trans H; rw [hy221]; with_reducible exact H2_) | (have H2_ := (Option.bind_some _ _).symm.trans H; with_reducible exact H2_) | with_reducible exact H | (rw [hy221]; exact H) | exact H); have Ny221 := aS hy221; clear hy221; replace H := Option.bind_eq_some_iff.mp H; obtain ⟨⟨t224, t225⟩, A20, H⟩ := H; replace H : (some (t224, t225)) = some (r1, r2) := H; have A2 := aS A20; clear A20; simp only [Option.some.injEq, Prod.mk.injEq] at H; obtain ⟨rfl, rfl⟩ := H; go_enter Tryd.func70, Tryd.ntmps70; go_wp2_with (first | ((with_reducible refine gate_dst (N := 1) rfl ?_); refine bE 1 #[.int .u64 a0_0, .int .u64 a0_1] 66 ?_; intro gb220 hg w3 hbox hb; have BK220 := aS (hbox); have GW220 := aS (bsz hg hbN : w.heap.size ≤ gb220); have GE220 := aS (bsz hg hbN : w.heap.size ≤ gb220); replace HB := aS (below_step hbN hb); clear hb hbox hg; obtain ⟨_, _, _, _⟩ := bc2 BK220.out) | ((with_reducible refine gate_dst (N := 8) rfl ?_); refine Kd.R_lit (Kd.int .u64) _ 29 ?hg (N := 8) ?hd (xs := ([a0_0, a0_1] : List Int)) (inner := [.int .u64 a0_0, .int .u64 a0_1]) (ok := fun _ => True) (okp := fun _ => True) ?hr ?hp (fun _ hk => hk) trivial (Below.refl _ _) (Nat.le_refl _) (by simp) ?_; (case hd => rfl); (case hg => rfl); (case hr => first | (go_simp; done) | (go_simp; rfl)); (case hp => exact (Reps.one (show Kd.M (Kd.int .u64) _ _ _ a0_0 [.int .u64 a0_0] from rfl) (Reps.one (show Kd.M (Kd.int .u64) _ _ _ a0_1 [.int .u64 a0_1] from rfl) (Reps.none _ _)))); intro v222 w5 ho6 hb hg_ hnew_; clear hg_ hnew_; (first | rw [← Ny221.out] at ho6 | (simp only [Int.reduceToNat] at ho6; rw [← Ny221.out] at ho6)); have HO223 := aS (Kd.R_lower ho6 (below_size hbS)); replace BK220 := aS (blk_below (g := gb220) bkN hb); replace HB := aS (below_step hbS hb); clear hb ho6; obtain ⟨Ao7, co7, eo7⟩ := Kd.R_slice HO223.out; subst eo7) | ((with_reducible refine gate_callee (f := 77) rfl ?_); refine gL (some 9) Tryd.func77 #[.slice Ao7 y221.length co7] ?_; (with_reducible refine (span_Add.calls k _ _ y221 t224 t225 _ ?side1 ?side2 A2.out).mono ?_); (case side1 => repeat (first | exact (Kd.R_reads' HO223.out).2.2 | (with_reducible refine Kd.C_alloc ?_ _) | (with_reducible refine Kd.C_drewN ?_ _) | (with_reducible refine Kd.C_drew ?_))); (case side2 => exact (Kd.R_reads' HO223.out).2.1); rintro e w' ⟨rfl, ⟨nd, rfl⟩⟩; refine ⟨_, rfl, ?_⟩))
 go_ret2
 exact ⟨er, hbS⟩

def sp_In.f (k : Nat) (a0_0 : Int) (a0_1 : Int) (a1 : Int) : Option (Bool) := (sp_End.f k a0_0 a0_1).bind fun bt227 => (if bt227.2 = true then (some (decide (bt227.1 ≤ a1))) else (some false))
theorem sp_In.mono : ∀ a0 a1 a2 k, LeO (sp_In.f k a0 a1 a2) (sp_In.f (k + 1) a0 a1 a2) := by
 intro a0 a1 a2 k; unfold sp_In.f
 repeat' first
  | (with_reducible exact sp_End.mono _ _ _)
  | (with_reducible exact LeO.refl _)
  | (with_reducible exact LeO.none _)
  | (with_reducible refine LeO.ite ?_ ?_)
  | (with_reducible refine LeO.bind ?_ (fun _ => ?_))
  | exact sp_End.mono _ _ _
  | exact LeO.none _
  | refine LeO.ite ?_ ?_
  | refine LeO.bind ?_ (fun _ => ?_)
set_option maxHeartbeats 8000000 in
set_option maxRecDepth 100000 in
theorem sp_In.calls (k : Nat) (a0_0 : Int) (a0_1 : Int) (a1 : Int) (r : Bool) (w : World) (h : sp_In.f k a0_0 a0_1 a1 = some r) :
 Calls Tryd.prog 54 #[.agg #[.int .u64 a0_0, .int .u64 a0_1], .int .u64 a1] w fun e w' => e = .returned (.bool r) ∧ Below w.heap.size w w' := by
 have hu66 := Tryd.underlying66; have HB := aS (Below.refl w.heap.size w); (have H : ((sp_End.f k a0_0 a0_1).bind fun bt227 => (if bt227.2 = true then (some (decide (bt227.1 ≤ a1))) else (some false))) = some r := h); clear h; replace H := Option.bind_eq_some_iff.mp H; obtain ⟨⟨t227, t228⟩, A30, H⟩ := H; replace H : (if t228 = true then (some (decide (t227 ≤ a1))) else (some false)) = some r := H; have A3 := aS A30; clear A30
 by_cases c4 : t228 = true
 ·(subst c4); (have H1 : (some (decide (t227 ≤ a1))) = some r := by rw [if_pos rfl] at H; exact H); clear H; have H := H1; clear H1; obtain rfl := Option.some.inj H; go_enter Tryd.func54, Tryd.ntmps54; (go_wp2_with (first | ((with_reducible refine gate_dst (N := 2) rfl ?_); refine bE 2 #[.int .u64 a0_0, .int .u64 a0_1] 66 ?_; intro gb226 hg w5 hbox hb; have BK226 := aS (hbox); have GW226 := aS (bsz hg hbN : w.heap.size ≤ gb226); have GE226 := aS (bsz hg hbN : w.heap.size ≤ gb226); replace HB := aS (below_step hbN hb); clear hb hbox hg; obtain ⟨_, _, _, _⟩ := bc2 BK226.out) | ((with_reducible refine gate_callee (f := 70) rfl ?_); refine gL (some 9) Tryd.func70 #[.agg #[.int .u64 a0_0, .int .u64 a0_1]] ?_; (with_reducible refine (sp_End.calls k a0_0 a0_1 t227 true _ A3.out).mono ?_); rintro e w7 ⟨rfl, hb⟩; refine ⟨_, rfl, ?_⟩; replace BK226 := aS (blk_below (g := gb226) bkN hb); replace HB := aS (below_step hbS hb)))); (go_ret); exact ⟨er, hbS⟩
 ·replace c4 := Bool.eq_false_iff.mpr c4
  subst c4; (have H1 : (some false) = some r := by rw [if_neg (show ¬ (false = true) by decide)] at H; exact H); clear H; have H := H1; clear H1; obtain rfl := Option.some.inj H; go_enter Tryd.func54, Tryd.ntmps54; (go_wp2_with (first | ((with_reducible refine gate_dst (N := 2) rfl ?_); refine bE 2 #[.int .u64 a0_0, .int .u64 a0_1] 66 ?_; intro gb226 hg w8 hbox hb; have BK226 := aS (hbox); have GW226 := aS (bsz hg hbN : w.heap.size ≤ gb226); have GE226 := aS (bsz hg hbN : w.heap.size ≤ gb226); replace HB := aS (below_step hbN hb); clear hb hbox hg; obtain ⟨_, _, _, _⟩ := bc2 BK226.out) | ((with_reducible refine gate_callee (f := 70) rfl ?_); refine gL (some 9) Tryd.func70 #[.agg #[.int .u64 a0_0, .int .u64 a0_1]] ?_; (with_reducible refine (sp_End.calls k a0_0 a0_1 t227 false _ A3.out).mono ?_); rintro e w10 ⟨rfl, hb⟩; refine ⟨_, rfl, ?_⟩; replace BK226 := aS (blk_below (g := gb226) bkN hb); replace HB := aS (below_step hbS hb)))); go_ret
  exact ⟨er, hbS⟩

def sp_Part.f (k : Nat) (a0_0 : Int) (a0_1 : Int) (a1 : ByteArray) : Option (ByteArray × Bool) := (sp_In.f k a0_0 a0_1 (IntKind.u64.wrap ((a1.size : Int)))).bind fun t230 => (if t230 = true then (if 0 ≤ a0_0 then (if a0_0 ≤ (IntKind.u64.wrap (a0_0 + a0_1)) then (if (IntKind.u64.wrap (a0_0 + a0_1)) ≤ (a1.size : Int) then (some (a1.extract (a0_0 : Int).toNat ((IntKind.u64.wrap (a0_0 + a0_1)) : Int).toNat, true)) else (none)) else (none)) else (none)) else (some ((⟨#[]⟩ : ByteArray), false)))
theorem sp_Part.mono : ∀ a0 a1 a2 k, LeO (sp_Part.f k a0 a1 a2) (sp_Part.f (k + 1) a0 a1 a2) := by
 intro a0 a1 a2 k; unfold sp_Part.f
 repeat' first
  | (with_reducible exact sp_In.mono _ _ _ _)
  | (with_reducible exact LeO.refl _)
  | (with_reducible exact LeO.none _)
  | (with_reducible refine LeO.ite ?_ ?_)
  | (with_reducible refine LeO.bind ?_ (fun _ => ?_))
  | exact sp_In.mono _ _ _ _
  | exact LeO.none _
  | refine LeO.ite ?_ ?_
  | refine LeO.bind ?_ (fun _ => ?_)
set_option maxHeartbeats 8000000 in
set_option maxRecDepth 100000 in
theorem sp_Part.calls (k : Nat) (a0_0 : Int) (a0_1 : Int) (a1 : ByteArray) (r1 : ByteArray) (r2 : Bool) (w : World) (h : sp_Part.f k a0_0 a0_1 a1 = some (r1, r2)) :
 Calls Tryd.prog 38 #[.agg #[.int .u64 a0_0, .int .u64 a0_1], .string a1] w fun e w' => e = .returned (.tuple #[.string r1, .bool r2]) ∧ Below w.heap.size w w' := by
 have hu66 := Tryd.underlying66; have HB := aS (Below.refl w.heap.size w); (have H : ((sp_In.f k a0_0 a0_1 (IntKind.u64.wrap ((a1.size : Int)))).bind fun t230 => (if t230 = true then (if 0 ≤ a0_0 then (if a0_0 ≤ (IntKind.u64.wrap (a0_0 + a0_1)) then (if (IntKind.u64.wrap (a0_0 + a0_1)) ≤ (a1.size : Int) then (some (a1.extract (a0_0 : Int).toNat ((IntKind.u64.wrap (a0_0 + a0_1)) : Int).toNat, true)) else (none)) else (none)) else (none)) else (some ((⟨#[]⟩ : ByteArray), false)))) = some (r1, r2) := h); clear h; replace H := Option.bind_eq_some_iff.mp H; obtain ⟨t230, A30, H⟩ := H; replace H : (if t230 = true then (if 0 ≤ a0_0 then (if a0_0 ≤ (IntKind.u64.wrap (a0_0 + a0_1)) then (if (IntKind.u64.wrap (a0_0 + a0_1)) ≤ (a1.size : Int) then (some (a1.extract (a0_0 : Int).toNat ((IntKind.u64.wrap (a0_0 + a0_1)) : Int).toNat, true)) else (none)) else (none)) else (none)) else (some ((⟨#[]⟩ : ByteArray), false))) = some (r1, r2) := H; have A3 := aS A30; clear A30
 by_cases c4 : t230 = true
 ·subst c4
  (have H1 : (if 0 ≤ a0_0 then (if a0_0 ≤ (IntKind.u64.wrap (a0_0 + a0_1)) then (if (IntKind.u64.wrap (a0_0 + a0_1)) ≤ (a1.size : Int) then (some (a1.extract (a0_0 : Int).toNat ((IntKind.u64.wrap (a0_0 + a0_1)) : Int).toNat, true)) else (none)) else (none)) else (none)) = some (r1, r2) := by rw [if_pos rfl] at H; exact H); clear H; have H := H1; clear H1
  by_cases c5 : 0 ≤ a0_0
  ·rw [if_pos c5] at H
   have c5b0 := eq_true c5; have c5b1 : decide (0 ≤ a0_0) = true := decide_eq_true c5; clear c5
   by_cases c6 : a0_0 ≤ (IntKind.u64.wrap (a0_0 + a0_1))
   ·rw [if_pos c6] at H
    have c6b0 := eq_true c6; have c6b1 : decide (a0_0 ≤ (IntKind.u64.wrap (a0_0 + a0_1))) = true := decide_eq_true c6
    by_cases c7 : (IntKind.u64.wrap (a0_0 + a0_1)) ≤ (a1.size : Int)
    ·rw [if_pos c7] at H
     have c7b0 := eq_true c7; have c7b1 : decide ((IntKind.u64.wrap (a0_0 + a0_1)) ≤ (a1.size : Int)) = true := decide_eq_true c7; obtain ⟨sc8, hsc8⟩ : ∃ s_ : ByteArray, (a1.extract (a0_0 : Int).toNat ((IntKind.u64.wrap (a0_0 + a0_1)) : Int).toNat) = s_ := ⟨_, rfl⟩; (replace H : (some (sc8, true)) = some (r1, r2) := by first | (rw [hsc8] at H; exact H) | (simp only [hsc8] at H ⊢; exact H) | exact H); ((try (have hsc8n := hsc8; simp only [Int.toNat_natCast] at hsc8n))); simp only [Option.some.injEq, Prod.mk.injEq] at H; obtain ⟨rfl, rfl⟩ := H; go_enter Tryd.func38, Tryd.ntmps38; go_wp2_with (first | ((with_reducible refine gate_dst (N := 2) rfl ?_); refine bE 2 #[.int .u64 a0_0, .int .u64 a0_1] 66 ?_; intro gb229 hg w9 hbox hb; have BK229 := aS (hbox); have GW229 := aS (bsz hg hbN : w.heap.size ≤ gb229); have GE229 := aS (bsz hg hbN : w.heap.size ≤ gb229); replace HB := aS (below_step hbN hb); clear hb hbox hg; obtain ⟨_, _, _, _⟩ := bc2 BK229.out) | ((with_reducible refine gate_callee (f := 54) rfl ?_); refine gL (some 10) Tryd.func54 #[.agg #[.int .u64 a0_0, .int .u64 a0_1], .int .u64 (IntKind.u64.wrap ((a1.size : Int)))] ?_; (with_reducible refine (sp_In.calls k a0_0 a0_1 (IntKind.u64.wrap ((a1.size : Int))) true _ A3.out).mono ?_); rintro e w11 ⟨rfl, hb⟩; refine ⟨_, rfl, ?_⟩; replace BK229 := aS (blk_below (g := gb229) bkN hb); replace HB := aS (below_step hbS hb); obtain ⟨_, _, _, _⟩ := bc2 BK229.out))
     (go_ret2); exact ⟨er, hbS⟩
    ·(rw [if_neg c7] at H); exact absurd H (by simp)
   ·(rw [if_neg c6] at H); exact absurd H (by simp)
  ·(rw [if_neg c5] at H); exact absurd H (by simp)
 ·replace c4 := Bool.eq_false_iff.mpr c4
  subst c4; (have H1 : (some ((⟨#[]⟩ : ByteArray), false)) = some (r1, r2) := by rw [if_neg (show ¬ (false = true) by decide)] at H; exact H); clear H; have H := H1; clear H1; simp only [Option.some.injEq, Prod.mk.injEq] at H; obtain ⟨rfl, rfl⟩ := H; go_enter Tryd.func38, Tryd.ntmps38; (go_wp2_with (first | ((with_reducible refine gate_dst (N := 2) rfl ?_); refine bE 2 #[.int .u64 a0_0, .int .u64 a0_1] 66 ?_; intro gb229 hg w13 hbox hb; have BK229 := aS (hbox); have GW229 := aS (bsz hg hbN : w.heap.size ≤ gb229); have GE229 := aS (bsz hg hbN : w.heap.size ≤ gb229); replace HB := aS (below_step hbN hb); clear hb hbox hg; obtain ⟨_, _, _, _⟩ := bc2 BK229.out) | ((with_reducible refine gate_callee (f := 54) rfl ?_); refine gL (some 10) Tryd.func54 #[.agg #[.int .u64 a0_0, .int .u64 a0_1], .int .u64 (IntKind.u64.wrap ((a1.size : Int)))] ?_; (with_reducible refine (sp_In.calls k a0_0 a0_1 (IntKind.u64.wrap ((a1.size : Int))) false _ A3.out).mono ?_); rintro e w15 ⟨rfl, hb⟩; refine ⟨_, rfl, ?_⟩; replace BK229 := aS (blk_below (g := gb229) bkN hb); replace HB := aS (below_step hbS hb)))); go_ret2
  exact ⟨er, hbS⟩

def span_Mul.f (a0 : Int) (a1 : Int) : Option (Int × Bool) := (bits_Mul64.f a0 a1).bind fun bt231 => (if bt231.1 = 0 then (some (bt231.2, true)) else (some (0, false)))
set_option maxHeartbeats 8000000 in
set_option maxRecDepth 100000 in
theorem span_Mul.calls (a0 : Int) (a1 : Int) (r1 : Int) (r2 : Bool) (w : World) (h : span_Mul.f a0 a1 = some (r1, r2)) :
 Calls Tryd.prog 69 #[.int .u64 a0, .int .u64 a1] w fun e w' => e = .returned (.tuple #[.int .u64 r1, .bool r2]) ∧ Drawn0 w w' := by
 (have H : ((bits_Mul64.f a0 a1).bind fun bt231 => (if bt231.1 = 0 then (some (bt231.2, true)) else (some (0, false)))) = some (r1, r2) := h); clear h; replace H := Option.bind_eq_some_iff.mp H; obtain ⟨⟨t231, t232⟩, A30, H⟩ := H; replace H : (if t231 = 0 then (some (t232, true)) else (some (0, false))) = some (r1, r2) := H; have A3 := aS A30; clear A30
 by_cases c4 : t231 = 0
 ·(rw [if_pos c4] at H); have c4b0 : (t231 == 0) = true := beq_iff_eq.mpr c4; have c4b1 : (t231 != 0) = false := bne_eq_false_iff_eq.mpr c4; clear c4; simp only [Option.some.injEq, Prod.mk.injEq] at H; obtain ⟨rfl, rfl⟩ := H; go_enter Tryd.func69, Tryd.ntmps69; (go_wp2_with (first | ((with_reducible refine gate_callee (f := 72) rfl ?_); refine gL (some 11) Tryd.func72 #[.int .u64 a0, .int .u64 a1] ?_; (with_reducible refine (bits_Mul64.calls a0 a1 t231 t232 _ A3.out).mono ?_); rintro e w' ⟨rfl, ⟨nd, rfl⟩⟩; refine ⟨_, rfl, ?_⟩))); (go_ret2); exact ⟨by first | rfl | (simp; done) | (simp [*]; done), by repeat (first | exact Drawn0.refl _ | apply Drawn0.step)⟩
 ·rw [if_neg c4] at H
  have c4b0 : (t231 == 0) = false := beq_eq_false_iff_ne.mpr c4; have c4b1 : (t231 != 0) = true := bne_iff_ne.mpr c4; simp only [Option.some.injEq, Prod.mk.injEq] at H; obtain ⟨rfl, rfl⟩ := H; go_enter Tryd.func69, Tryd.ntmps69; (go_wp2_with (first | ((with_reducible refine gate_callee (f := 72) rfl ?_); refine gL (some 11) Tryd.func72 #[.int .u64 a0, .int .u64 a1] ?_; (with_reducible refine (bits_Mul64.calls a0 a1 t231 t232 _ A3.out).mono ?_); rintro e w' ⟨rfl, ⟨nd, rfl⟩⟩; refine ⟨_, rfl, ?_⟩))); go_ret2
  exact ⟨by first | rfl | (simp; done) | (simp [*]; done), by repeat (first | exact Drawn0.refl _ | apply Drawn0.step)⟩

def rwT.f (k : Nat) (a0 : ByteArray) (a1 : Int) (a2 : Int) (a3 : Int) : Option (ByteArray × Bool) := (span_Mul.f a2 (IntKind.u64.wrap (a3))).bind fun bt233 => (if bt233.2 = true then ((sp_Part.f k a1 bt233.1 a0).bind fun bt235 => (some (bt235.1, bt235.2))) else (some ((⟨#[]⟩ : ByteArray), false)))
theorem rwT.mono : ∀ a0 a1 a2 a3 k, LeO (rwT.f k a0 a1 a2 a3) (rwT.f (k + 1) a0 a1 a2 a3) := by
 intro a0 a1 a2 a3 k; unfold rwT.f
 repeat' first
  | (with_reducible exact sp_Part.mono _ _ _ _)
  | (with_reducible exact LeO.refl _)
  | (with_reducible exact LeO.none _)
  | (with_reducible refine LeO.ite ?_ ?_)
  | (with_reducible refine LeO.bind ?_ (fun _ => ?_))
  | exact sp_Part.mono _ _ _ _
  | exact LeO.none _
  | refine LeO.ite ?_ ?_
  | refine LeO.bind ?_ (fun _ => ?_)
set_option maxHeartbeats 8000000 in
set_option maxRecDepth 100000 in
theorem rwT.calls (k : Nat) (a0 : ByteArray) (a1 : Int) (a2 : Int) (a3 : Int) (r1 : ByteArray) (r2 : Bool) (w : World) (h : rwT.f k a0 a1 a2 a3 = some (r1, r2)) :
 Calls Tryd.prog 49 #[.string a0, .int .u64 a1, .int .u64 a2, .int .i64 a3] w fun e w' => e = .returned (.tuple #[.string r1, .bool r2]) ∧ Below w.heap.size w w' := by
 have hu66 := Tryd.underlying66; have HB := aS (Below.refl w.heap.size w); (have H : ((span_Mul.f a2 (IntKind.u64.wrap (a3))).bind fun bt233 => (if bt233.2 = true then ((sp_Part.f k a1 bt233.1 a0).bind fun bt235 => (some (bt235.1, bt235.2))) else (some ((⟨#[]⟩ : ByteArray), false)))) = some (r1, r2) := h); clear h; replace H := Option.bind_eq_some_iff.mp H; obtain ⟨⟨t233, t234⟩, A50, H⟩ := H; (replace H : (if t234 = true then ((sp_Part.f k a1 t233 a0).bind fun bt235 => (some (bt235.1, bt235.2))) else (some ((⟨#[]⟩ : ByteArray), false))) = some (r1, r2) := H); have A5 := aS A50; clear A50
 by_cases c6 : t234 = true
 ·(subst c6); (have H1 : ((sp_Part.f k a1 t233 a0).bind fun bt235 => (some (bt235.1, bt235.2))) = some (r1, r2) := by rw [if_pos rfl] at H; exact H); clear H; have H := H1; clear H1; replace H := Option.bind_eq_some_iff.mp H; obtain ⟨⟨t235, t236⟩, A70, H⟩ := H; replace H : (some (t235, t236)) = some (r1, r2) := H; have A7 := aS A70; clear A70; simp only [Option.some.injEq, Prod.mk.injEq] at H; obtain ⟨rfl, rfl⟩ := H; go_enter Tryd.func49, Tryd.ntmps49; (go_wp2_with (first | ((with_reducible refine gate_callee (f := 69) rfl ?_); refine gL (some 16) Tryd.func69 #[.int .u64 a2, .int .u64 (IntKind.u64.wrap (a3))] ?_; (with_reducible refine (span_Mul.calls a2 (IntKind.u64.wrap (a3)) t233 true _ A5.out).mono ?_); rintro e w' ⟨rfl, ⟨nd, rfl⟩⟩; refine ⟨_, rfl, ?_⟩) | ((with_reducible refine gate_callee (f := 38) rfl ?_); refine gL (some 25) Tryd.func38 #[.agg #[.int .u64 a1, .int .u64 t233], .string a0] ?_; (with_reducible refine (sp_Part.calls k a1 t233 a0 t235 t236 _ A7.out).mono ?_); rintro e w8 ⟨rfl, hb⟩; refine ⟨_, rfl, ?_⟩; replace HB := aS (below_step hbN hb)))); (go_ret2); exact ⟨er, hbS⟩
 ·replace c6 := Bool.eq_false_iff.mpr c6
  subst c6; (have H1 : (some ((⟨#[]⟩ : ByteArray), false)) = some (r1, r2) := by rw [if_neg (show ¬ (false = true) by decide)] at H; exact H); clear H; have H := H1; clear H1; simp only [Option.some.injEq, Prod.mk.injEq] at H; obtain ⟨rfl, rfl⟩ := H; go_enter Tryd.func49, Tryd.ntmps49; (go_wp2_with (first | ((with_reducible refine gate_callee (f := 69) rfl ?_); refine gL (some 16) Tryd.func69 #[.int .u64 a2, .int .u64 (IntKind.u64.wrap (a3))] ?_; (with_reducible refine (span_Mul.calls a2 (IntKind.u64.wrap (a3)) t233 false _ A5.out).mono ?_); rintro e w' ⟨rfl, ⟨nd, rfl⟩⟩; refine ⟨_, rfl, ?_⟩))); go_ret2
  exact ⟨er, hbS⟩

end Go.Proofs.YtceilmhinkkgfaaDoor.Q
