/- What the program's sums, products and parts of spans come to: plain facts on the printed functions; no Go, no memory. -/
import Derived.Test.YteoeohkjomehoaaSp02
import Derived.Test.YteoeohkjomehoaaQ5
import Derived.Test.YteoeohkjomehoaaQ7
namespace Go.Proofs.Yteoeohkjomehoaa.Q
open Go.RowKit Go.Proofs.YteoeohkjomehoaaW.PrintWords Go.Proofs.YteoeohkjomehoaaW.PrintMore Go.Proofs.Yteoeohkjomehoaa.Mth Go.Proofs.Yteoeohkjomehoaa.Spn
set_option linter.unusedVariables false
set_option linter.unusedSimpArgs false

theorem end_ev {a n : Int} (ha : 0 ≤ a) (ha' : a < 18446744073709551616) (hb : 0 ≤ n) (hb' : n < 18446744073709551616) : Ev (fun k => span_Span_End.f k a n) (if a + n < 18446744073709551616 then (a + n, true) else (0, false)) := by
  refine Ev.congr (fun k => span_Span_End.f.eq_1 k a n) ?_
  exact Ev.bind (add2_ev ha ha' hb hb') (ev_now rfl)
theorem in_ev {a n s : Int} (ha : 0 ≤ a) (ha' : a < 18446744073709551616) (hb : 0 ≤ n) (hb' : n < 18446744073709551616) (hs : s < 18446744073709551616) : Ev (fun k => span_Span_In.f k a n s) (decide (a + n ≤ s)) := by
  refine Ev.congr (fun k => span_Span_In.f.eq_1 k a n s) (Ev.bind (end_ev ha ha' hb hb') ?_)
  by_cases c : a + n < 18446744073709551616
  · rw [if_pos c]
    exact ev_pos rfl (ev_now rfl)
  · rw [if_neg c]
    exact ev_neg (by simp) (ev_now (by symm; exact decide_eq_false (by omega)))
theorem part_ev {a n : Int} (t : ByteArray) (ht : t.size ≤ 140737488351232) (ha : 0 ≤ a) (ha' : a < 18446744073709551616) (hb : 0 ≤ n) (hb' : n < 18446744073709551616) :
    Ev (fun k => span_Span_Part.f k a n t) (if a + n ≤ (t.size : Int) then (t.extract a.toNat (a + n).toNat, true) else (⟨#[]⟩, false)) := by
  refine Ev.congr (fun k => span_Span_Part.f.eq_1 k a n t) ?_
  rw [wrapu_id (by omega) (by omega)]
  refine Ev.bind (in_ev ha ha' hb hb' (by omega)) ?_
  by_cases c : a + n ≤ (t.size : Int)
  · rw [if_pos c, wrapu_id (by omega) (by omega)]
    exact ev_pos (decide_eq_true c) (ev_pos ha (ev_pos (by omega) (ev_pos c (ev_now rfl))))
  · rw [if_neg c]
    exact ev_neg (by simpa using c) (ev_now rfl)
theorem refAdd_eq {a b : Int} (ha : 0 ≤ a) (ha' : a < 18446744073709551616) (hb : 0 ≤ b) (hb' : b < 18446744073709551616) : graverref02_Add.f a b = some (if a + b < 18446744073709551616 then (a + b, true) else (0, false)) := by
  unfold graverref02_Add.f
  rw [wrapu_id (n := 18446744073709551615 - a) (by omega) (by omega)]
  by_cases c : a + b < 18446744073709551616
  · rw [if_neg (by omega), if_pos c, wrapu_id (by omega) c]
  · rw [if_pos (by omega), if_neg c]
theorem andMask {a : Int} (ha : 0 ≤ a) (ha' : a < 18446744073709551616) : Go.bits .and .u64 a 4294967295 = a % 4294967296 := by
  have h64 : ∀ n : Int, 0 ≤ n → n < 2 ^ 64 → IntKind.u64.wrap n = n := fun n h0 h1 => wrapu_id h0 (by simpa using h1)
  obtain ⟨n, rfl⟩ := Int.eq_ofNat_of_zero_le ha
  have := (bits_nat .u64 64 (by decide) h64 n 4294967295 (by omega) (by decide)).1
  rw [show ((4294967295 : Nat) : Int) = 4294967295 from rfl] at this
  rw [this, show (4294967295 : Nat) = 2 ^ 32 - 1 by decide, Nat.and_two_pow_sub_one_eq_mod]
  rfl
theorem prod_bd {x y : Int} (h0 : 0 ≤ x) (h1 : x < 4294967296) (h2 : 0 ≤ y) (h3 : y < 4294967296) : 0 ≤ x * y ∧ x * y ≤ 18446744065119617025 := by
  refine ⟨Int.mul_nonneg h0 h2, ?_⟩
  have := Int.mul_le_mul (show x ≤ 4294967295 by omega) (show y ≤ 4294967295 by omega) h2 (by omega)
  simpa using this
theorem mul64_eq {a b : Int} (ha : 0 ≤ a) (ha' : a < 18446744073709551616) (hb : 0 ≤ b) (hb' : b < 18446744073709551616) : bits_Mul64.f a b = some (a * b / 18446744073709551616, a * b % 18446744073709551616) := by
  unfold bits_Mul64.f
  rw [andMask ha ha', andMask hb hb']
  obtain ⟨x1, hx1⟩ : ∃ x, a / 4294967296 = x := ⟨_, rfl⟩
  obtain ⟨x0, hx0⟩ : ∃ x, a % 4294967296 = x := ⟨_, rfl⟩
  obtain ⟨y1, hy1⟩ : ∃ x, b / 4294967296 = x := ⟨_, rfl⟩
  obtain ⟨y0, hy0⟩ : ∃ x, b % 4294967296 = x := ⟨_, rfl⟩
  rw [hx1, hx0, hy1, hy0]
  have e : a * b = x1 * y1 * 18446744073709551616 + (x1 * y0 + x0 * y1) * 4294967296 + x0 * y0 := by
    rw [show a = x1 * 4294967296 + x0 by omega, show b = y1 * 4294967296 + y0 by omega]
    simp only [Int.add_mul, Int.mul_add]
    have e1 : x1 * 4294967296 * (y1 * 4294967296) = x1 * y1 * 18446744073709551616 := by rw [Int.mul_assoc, Int.mul_left_comm 4294967296 y1, show (4294967296 : Int) * 4294967296 = 18446744073709551616 by decide, ← Int.mul_assoc]
    have e2 : x1 * 4294967296 * y0 = x1 * y0 * 4294967296 := by rw [Int.mul_assoc, Int.mul_comm 4294967296, ← Int.mul_assoc]
    have e3 : x0 * (y1 * 4294967296) = x0 * y1 * 4294967296 := by rw [← Int.mul_assoc]
    rw [e1, e2, e3]
    omega
  have q11 := prod_bd (x := x1) (y := y1) (by omega) (by omega) (by omega) (by omega)
  have q10 := prod_bd (x := x1) (y := y0) (by omega) (by omega) (by omega) (by omega)
  have q01 := prod_bd (x := x0) (y := y1) (by omega) (by omega) (by omega) (by omega)
  have q00 := prod_bd (x := x0) (y := y0) (by omega) (by omega) (by omega) (by omega)
  generalize x1 * y1 = p11 at *
  generalize x1 * y0 = p10 at *
  generalize x0 * y1 = p01 at *
  generalize x0 * y0 = p00 at *
  clear hx1 hx0 hy1 hy0
  rw [wrapu_id (n := p11) (by omega) (by omega), wrapu_id (n := p10) (by omega) (by omega), wrapu_id (n := p00) (by omega) (by omega), wrapu_id (n := p01) (by omega) (by omega), wrapu_id (n := p10 + p00 / 4294967296) (by omega) (by omega), andMask (by omega) (by omega), wrapu_id (n := (p10 + p00 / 4294967296) % 4294967296 + p01) (by omega) (by omega)]
  have hw : IntKind.u64.wrap (a * b) = a * b % 18446744073709551616 := by simp [IntKind.wrap, IntKind.bits, IntKind.signed]
  have hlt : a * b < 340282366920938463463374607431768211456 := by omega
  rw [hw, wrapu_id (n := p11 + (p10 + p00 / 4294967296) / 4294967296) (by omega) (by omega), wrapu_id (by omega) (by omega)]
  refine congrArg some (Prod.ext ?_ rfl)
  show p11 + (p10 + p00 / 4294967296) / 4294967296 + ((p10 + p00 / 4294967296) % 4294967296 + p01) / 4294967296 = a * b / 18446744073709551616
  rw [e]
  omega
theorem mul_eq {a b : Int} (ha : 0 ≤ a) (ha' : a < 18446744073709551616) (hb : 0 ≤ b) (hb' : b < 18446744073709551616) : span_Mul.f a b = some (if a * b < 18446744073709551616 then (a * b, true) else (0, false)) := by
  have h0 := Int.mul_nonneg ha hb
  unfold span_Mul.f
  rw [mul64_eq ha ha' hb hb']
  show (if a * b / 18446744073709551616 = 0 then _ else _) = _
  generalize a * b = p at *
  by_cases c : p < 18446744073709551616
  · rw [if_pos (by omega), if_pos c, show p % 18446744073709551616 = p by omega]
  · rw [if_neg (by omega), if_neg c]
end Go.Proofs.Yteoeohkjomehoaa.Q
