/- A binding and a kind in one number, and back: for every input; no condition but the tables of sizes. -/
import Derived.Test.YtjmjebbjfjgbeaaDoorMth
import Derived.Test.YtjmjebbjfjgbeaaDoorQ15
import Derived.Test.YtjmjebbjfjgbeaaDoorQ16
import Derived.Test.YtjmjebbjfjgbeaaDoorQ9
namespace Go.Proofs.YtjmjebbjfjgbeaaDoor.Pure
open Go.RowKit Go.Proofs.YtjmjebbjfjgbeaaDoor.Q Go.Proofs.YtjmjebbjfjgbeaaDoorW.PrintWords Go.Proofs.YtjmjebbjfjgbeaaDoorW.PrintLast Go.Proofs.YtjmjebbjfjgbeaaDoorW.PrintMore Go.Proofs.YtjmjebbjfjgbeaaDoor.Mth
set_option linter.unusedVariables false
set_option linter.unusedSimpArgs false

theorem speaks08 : Ev (fun k => graverlaw08_speaks.f k) true := Ev.of graverlaw08_speaks.mono (k := 40) (by decide +kernel)
theorem h64 : ∀ n : Int, 0 ≤ n → n < 2 ^ 64 → IntKind.u64.wrap n = n := fun n h0 h1 => wrapu_id h0 (by simpa using h1)
theorem and15 (x : Int) (h0 : 0 ≤ x) (h1 : x < 18446744073709551616) : Go.bits .and .u64 x 15 = x % 16 := by
  have := bits_mask .u64 64 (by decide) h64 4 (by omega) x h0 (by simpa using h1)
  simpa using this
theorem or16 (h l : Nat) (hh : h < 16) (hl : l < 16) : Go.bits .or .u64 ((h * 16 : Nat) : Int) (l : Int) = ((h * 16 + l : Nat) : Int) := by
  rw [(bits_nat .u64 64 (by decide) h64 (h * 16) l (by omega) (by omega)).2]
  have := Nat.two_pow_add_eq_or_of_lt (i := 4) hl h
  rw [show h * 16 = 2 ^ 4 * h by omega, ← this]
theorem info_is (a b : Int) (ha : 0 ≤ a ∧ a < 18446744073709551616) (hb : 0 ≤ b ∧ b < 18446744073709551616) : symrec_Info.f a b = some (a % 16 * 16 + b % 16) := by
  unfold symrec_Info.f
  rw [and15 a ha.1 ha.2, and15 b hb.1 hb.2, wrapu_id (by omega) (by omega)]
  obtain ⟨x, hx⟩ := Int.eq_ofNat_of_zero_le (show 0 ≤ a % 16 by omega)
  obtain ⟨y, hy⟩ := Int.eq_ofNat_of_zero_le (show 0 ≤ b % 16 by omega)
  rw [hx, hy]
  have := or16 x y (by omega) (by omega)
  rw [show ((x : Int) * 16) = ((x * 16 : Nat) : Int) by omega, this]
  simp
theorem bind_is (n : Int) (h : 0 ≤ n ∧ n < 18446744073709551616) : symrec_Symbol_Bind.f 0 n 0 0 0 0 = some (n / 16 % 16) := by
  unfold symrec_Symbol_Bind.f
  rw [and15 (n / 16) (by omega) (by omega)]
theorem kind_is (n : Int) (h : 0 ≤ n ∧ n < 18446744073709551616) : symrec_Symbol_Kind.f 0 n 0 0 0 0 = some (n % 16) := by
  unfold symrec_Symbol_Kind.f
  rw [and15 n h.1 h.2]
theorem SymrecInfos : graverlaw08_SymrecInfos.Pure := by
  intro a b n wa wb wn
  have ha := wf_u64 wa
  have hb := wf_u64 wb
  have hn := wf_u64 wn
  refine Ev.rounds (Ev.congr (fun k => graverlaw08_SymrecInfos.f.eq_1 k a b n) ?_)
  refine Ev.bind speaks08 (ev_pos rfl (ev_const (info_is a b ha hb) (ev_pos (by omega) (ev_const (bind_is _ (by omega)) (ev_pos (by rw [and15 a ha.1 ha.2]; omega) (ev_const (kind_is _ (by omega)) (ev_pos (by rw [and15 b hb.1 hb.2]; omega) ?_)))))))
  by_cases h : n > 255
  · exact ev_pos h (Ev.now true)
  · refine ev_neg h (ev_const (bind_is n hn) (ev_const (kind_is n hn) (ev_const (info_is _ _ (by omega) (by omega)) (ev_now ?_))))
    rw [beq_iff_eq]
    omega

end Go.Proofs.YtjmjebbjfjgbeaaDoor.Pure
