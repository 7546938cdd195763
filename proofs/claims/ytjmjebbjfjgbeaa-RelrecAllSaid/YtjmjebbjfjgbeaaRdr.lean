/- What the reader of numbers comes to: plain facts on the printed functions; no Go, no memory. -/
import Derived.Test.YtjmjebbjfjgbeaaFrm
import Derived.Test.YtjmjebbjfjgbeaaQ11
import Derived.Test.YtjmjebbjfjgbeaaQ12
namespace Go.Proofs.Ytjmjebbjfjgbeaa.Q
open Go.RowKit Go.Proofs.YtjmjebbjfjgbeaaW.PrintWords Go.Proofs.YtjmjebbjfjgbeaaW.PrintMore Go.Proofs.Ytjmjebbjfjgbeaa.Mth
set_option linter.unusedVariables false
set_option linter.unusedSimpArgs false

/-- So many bytes from a place on, as a number. -/
def numAt (big : Bool) (l : List UInt8) (at_ n : Nat) : Int := getL big ((l.drop at_).take n)
theorem next_ev (big : Bool) (s : ByteArray) (at_ n : Nat) (h1 : 1 ≤ n) (h8 : n ≤ 8) (h : at_ + n ≤ s.size) (hs : s.size ≤ 140737488351300) : Ev (fun k => order_Reader_Next.f k big s (at_ : Int) false (n : Int)) (numAt big s.data.toList at_ n, big, s, ((at_ + n : Nat) : Int), false) := by
  refine Ev.congr (fun k => order_Reader_Next.f.eq_1 k _ _ _ _ _) ?_
  refine ev_neg (by omega) (ev_neg (by omega) ?_)
  have hb : order_Reader_Bytes.f big s (at_ : Int) false (IntKind.u64.wrap (n : Int)) = some (s.extract at_ (at_ + n), big, s, ((at_ + n : Nat) : Int), false) := by
    unfold order_Reader_Bytes.f
    rw [if_neg (by decide), wrapu_id (n := (n : Int)) (by omega) (by omega), wrapu_id (n := (s.size : Int)) (by omega) (by omega), if_neg (by omega), wrapu_id (n := (s.size : Int) - (at_ : Int)) (by omega) (by omega), if_neg (by omega), if_pos (by omega), wrapu_id (by omega) (by omega), if_pos (by omega), if_pos (by omega)]
    simp only [Int.toNat_natCast]
    rw [show ((at_ : Int) + (n : Int)).toNat = at_ + n by omega]
    rfl
  refine ev_const hb (Ev.bind (get_ev big _) (ev_now ?_))
  have : getS big (s.extract at_ (at_ + n)) = numAt big s.data.toList at_ n := by
    unfold getS numAt
    rw [extract_data, Nat.add_sub_cancel_left]
  rw [this]
theorem numAt_range (big : Bool) (l : List UInt8) (at_ n : Nat) : 0 ≤ numAt big l at_ n ∧ numAt big l at_ n < 18446744073709551616 := getL_range big _
theorem numAt_lt (big : Bool) (l : List UInt8) (at_ n : Nat) (h8 : n ≤ 8) (h : at_ + n ≤ l.length) : numAt big l at_ n < 256 ^ n := by
  have hl : ((l.drop at_).take n).length = n := by rw [List.length_take, List.length_drop]; omega
  have := getL_lt big ((l.drop at_).take n) (by omega)
  rw [hl] at this
  exact this
theorem put_numAt (big : Bool) (l : List UInt8) (at_ n : Nat) (h1 : 1 ≤ n) (h8 : n ≤ 8) (h : at_ + n ≤ l.length) : putL big (numAt big l at_ n) (n : Int) = (l.drop at_).take n := by
  have hl : ((l.drop at_).take n).length = n := by rw [List.length_take, List.length_drop]; omega
  have := putL_getL big ((l.drop at_).take n) (by omega) (by omega)
  rw [hl] at this
  exact this
theorem numAt_app (big : Bool) (pre l rest : List UInt8) (n : Nat) (h : l.length = n) : numAt big (pre ++ (l ++ rest)) pre.length n = getL big l := by
  unfold numAt
  rw [List.drop_left, List.take_left' h]
end Go.Proofs.Ytjmjebbjfjgbeaa.Q
