/- What the program's and the document's numbers in bytes come to: plain facts on the printed functions; no Go, no memory. -/
import Derived.Test.YtjmjebbjfjgbeaaDoorMth
import Derived.Test.YtjmjebbjfjgbeaaDoorQ4
import Derived.Test.YtjmjebbjfjgbeaaDoorQ7
namespace Go.Proofs.YtjmjebbjfjgbeaaDoor.Q
open Go.RowKit Go.Proofs.YtjmjebbjfjgbeaaDoorW.PrintWords Go.Proofs.YtjmjebbjfjgbeaaDoorW.PrintMore Go.Proofs.YtjmjebbjfjgbeaaDoor.Mth
set_option linter.unusedVariables false
set_option linter.unusedSimpArgs false

theorem bnd {α β : Type} {x : Option α} {a : α} (h : x = some a) (f : α → Option β) : x.bind f = f a := by rw [h]; rfl
def leI (n k : Nat) : List Int := (toLE n k).map fun b => (b.toNat : Int)
theorem leI_length (n k : Nat) : (leI n k).length = k := by simp [leI, toLE_length]
theorem leI_snoc (n k : Nat) : leI n (k + 1) = leI n k ++ [((n / 256 ^ k % 256 : Nat) : Int)] := by
  unfold leI
  rw [toLE_snoc, List.map_append]
  simp
theorem str_map (l : List UInt8) : strOfNums (l.map fun b => (b.toNat : Int)) = ⟨l.toArray⟩ := by
  unfold strOfNums
  rw [List.map_map]
  congr 2
  conv => rhs; rw [← List.map_id l]
  apply List.map_congr_left
  intro b _
  simp
def putAt (big : Bool) (n size i : Nat) : List Int := if big = true then List.replicate (size - i) 0 ++ (leI n i).reverse else leI n i ++ List.replicate (size - i) 0
theorem putAt_end (big : Bool) (n size : Nat) : strOfNums (putAt big n size size) = ⟨(ord big (toLE n size)).toArray⟩ := by
  unfold putAt ord
  cases big
  · simp only [Bool.false_eq_true, if_false, Nat.sub_self, List.replicate_zero, List.append_nil]
    exact str_map _
  · simp only [if_true, Nat.sub_self, List.replicate_zero, List.nil_append]
    unfold leI
    rw [← List.map_reverse]
    exact str_map _
theorem putAt_zero (big : Bool) (n size : Nat) : putAt big n size 0 = List.replicate size 0 := by
  unfold putAt
  cases big <;> simp [leI, toLE]
theorem putAt_length (big : Bool) (n size i : Nat) (h : i ≤ size) : (putAt big n size i).length = size := by
  unfold putAt
  cases big <;> simp [leI_length] <;> omega
theorem putAt_step (big : Bool) (n size i : Nat) (h : i < size) :
    (putAt big n size i).set (if big = true then size - 1 - i else i) ((n / 256 ^ i % 256 : Nat) : Int) = putAt big n size (i + 1) := by
  obtain ⟨m, hm⟩ : ∃ m, size - i = m + 1 := ⟨size - i - 1, by omega⟩
  have h1 : size - (i + 1) = m := by omega
  unfold putAt
  cases big
  · simp only [Bool.false_eq_true, if_false]
    rw [List.set_append_right _ _ (by rw [leI_length]; exact Nat.le_refl _), leI_length, Nat.sub_self, hm, h1, leI_snoc, List.replicate_succ, List.set_cons_zero, List.append_assoc]
    rfl
  · simp only [if_true]
    have h2 : size - 1 - i = m := by omega
    rw [hm, h1, h2, List.replicate_succ', List.append_assoc, List.set_append_right _ _ (by simp), List.length_replicate, Nat.sub_self, leI_snoc, List.reverse_append]
    rfl
theorem place_is (big : Bool) (i size : Nat) (hi : i < size) (hs : size ≤ 9223372036854775807) : order_Order_place.f big (i : Int) (size : Int) = some (((if big = true then size - 1 - i else i : Nat)) : Int) := by
  unfold order_Order_place.f
  cases big
  · simp
  · simp only [if_true]
    rw [wrap64_id (n := (size : Int) - 1) (by omega) (by omega), wrap64_id (by omega) (by omega)]
    congr 1
    omega
theorem put_loop (big : Bool) (n size : Nat) (hs : size ≤ 8) : ∀ (d i : Nat), i + d = size → ∀ k, d < k →
    order_Order_Put.l0 k (n : Int) (size : Int) (putAt big n size i) (size : Int) (i : Int) big = some (strOfNums (putAt big n size size)) := by
  intro d
  induction d with
  | zero =>
    intro i hi k hk
    obtain ⟨k, rfl⟩ : ∃ m, k = m + 1 := ⟨k - 1, by omega⟩
    obtain rfl : i = size := by omega
    simp only [order_Order_Put.l0]
    rw [if_neg (by omega)]
  | succ d ih =>
    intro i hi k hk
    obtain ⟨k, rfl⟩ : ∃ m, k = m + 1 := ⟨k - 1, by omega⟩
    have hlt : i < size := by omega
    simp only [order_Order_Put.l0]
    rw [if_pos (by omega), bnd (place_is big i size hlt (by omega))]
    have hw : wrap64 (8 * (i : Int)) = 8 * (i : Int) := wrap64_id (by omega) (by omega)
    have hw1 : wrap64 ((i : Int) + 1) = ((i + 1 : Nat) : Int) := by rw [wrap64_id (by omega) (by omega)]; rfl
    rw [hw, hw1, if_pos (by omega), if_pos (by omega), if_pos (by rw [putAt_length _ _ _ _ (by omega)]; cases big <;> simp <;> omega), Int.toNat_natCast, shr_nat n i (by omega), putAt_step big n size i hlt]
    exact ih (i + 1) (by omega) k (by omega)
theorem put_ev (big : Bool) (n size : Int) (h0 : 0 ≤ n) : Ev (fun k => order_Order_Put.f k big n size) (putS big n size) := by
  refine Ev.of (order_Order_Put.mono _ _ _) (k := 12) ?_
  unfold order_Order_Put.f putS putL
  by_cases h1 : size < 1
  · rw [if_pos h1, if_neg (by omega)]
    rfl
  · rw [if_neg h1]
    by_cases h8 : size > 8
    · rw [if_neg (by omega)]
      simp only [order_Order_Put.j0, decide_eq_true h8, if_true]
    · obtain ⟨s, rfl⟩ := Int.eq_ofNat_of_zero_le (show 0 ≤ size by omega)
      obtain ⟨m, rfl⟩ := Int.eq_ofNat_of_zero_le h0
      rw [if_pos (by omega)]
      simp only [order_Order_Put.j0, decide_eq_false h8, Bool.false_eq_true, if_false]
      rw [if_pos (by omega), Int.toNat_natCast, if_pos (by omega), Option.bind_some, List.length_replicate]
      have := put_loop big m s (by omega) s 0 (by omega) 11 (by omega)
      rw [putAt_zero, putAt_end] at this
      rw [Int.toNat_natCast]
      exact this
theorem leN_one (b : UInt8) : leN [b] = b.toNat := by simp [leN]
/-- The program's Get: the first i bytes' share. -/
theorem take_snoc (l : List UInt8) (i : Nat) (h : i < l.length) : l.take (i + 1) = l.take i ++ [l[i]] := by
  rw [List.take_succ_eq_append_getElem h]
theorem ord_get (big : Bool) (l : List UInt8) (i : Nat) (h : i < l.length) : (ord big l)[i]'(by rw [ord_length]; exact h) = l[if big = true then l.length - 1 - i else i]'(by split <;> omega) := by
  cases big
  · simp [ord]
  · simp [ord, List.getElem_reverse]
theorem get_loop (big : Bool) (s : ByteArray) (hs : s.size ≤ 8) : ∀ (d i : Nat), i + d = s.size → ∀ k, d < k →
    order_Order_Get.l0 k s (leN ((ord big s.data.toList).take i) : Int) (s.size : Int) (i : Int) big = some (leN (ord big s.data.toList) : Int) := by
  have hl : s.data.toList.length = s.size := data_length s
  intro d
  induction d with
  | zero =>
    intro i hi k hk
    obtain ⟨k, rfl⟩ : ∃ m, k = m + 1 := ⟨k - 1, by omega⟩
    simp only [order_Order_Get.l0]
    rw [if_neg (by omega), List.take_of_length_le (by rw [ord_length]; omega)]
  | succ d ih =>
    intro i hi k hk
    obtain ⟨k, rfl⟩ : ∃ m, k = m + 1 := ⟨k - 1, by omega⟩
    have hlt : i < s.data.toList.length := by omega
    simp only [order_Order_Get.l0]
    rw [if_pos (by omega), bnd (place_is big i s.size (by omega) (by omega))]
    have hw : wrap64 (8 * (i : Int)) = 8 * (i : Int) := wrap64_id (by omega) (by omega)
    have hw1 : wrap64 ((i : Int) + 1) = ((i + 1 : Nat) : Int) := by rw [wrap64_id (by omega) (by omega)]; rfl
    have hin : (if big = true then s.size - 1 - i else i) < s.data.toList.length := by split <;> omega
    rw [hw, hw1, if_pos (by omega), if_pos (by omega), if_pos (by omega), bt_eq s _ hin]
    have hb := (s.data.toList[if big = true then s.size - 1 - i else i]'hin).toNat_lt
    rw [wrapu_id (by omega) (by omega), shl_byte _ i (by omega) (by omega)]
    have hto := leN_lt ((ord big s.data.toList).take i)
    have htl : ((ord big s.data.toList).take i).length = i := by rw [List.length_take, ord_length]; omega
    rw [htl] at hto
    have hn := leN_append ((ord big s.data.toList).take i) [s.data.toList[if big = true then s.size - 1 - i else i]'hin]
    have hg := ord_get big s.data.toList i hlt
    simp only [hl] at hg
    rw [← hg, ← take_snoc _ i (by rw [ord_length]; omega), htl] at hn
    rw [hg, leN_one] at hn
    have hlast := leN_lt ((ord big s.data.toList).take (i + 1))
    have htl1 : ((ord big s.data.toList).take (i + 1)).length ≤ 8 := by rw [List.length_take, ord_length]; omega
    have hp := Nat.pow_le_pow_right (show 0 < 256 by omega) htl1
    have h64 : (256 : Nat) ^ 8 = 18446744073709551616 := by decide
    rw [or_add _ _ i hto (by omega), ← hn]
    exact ih (i + 1) (by omega) k (by omega)
theorem get_ev (big : Bool) (s : ByteArray) : Ev (fun k => order_Order_Get.f k big s) (getS big s) := by
  refine Ev.of (order_Order_Get.mono _ _) (k := 12) ?_
  have hl : s.data.toList.length = s.size := data_length s
  unfold order_Order_Get.f getS getL
  by_cases h : (s.size : Int) > 8
  · rw [if_pos h, if_neg (by omega)]
  · rw [if_neg h, if_pos (by omega)]
    have := get_loop big s (by omega) s.size 0 (by omega) 12 (by omega)
    simpa [leN] using this

end Go.Proofs.YtjmjebbjfjgbeaaDoor.Q
