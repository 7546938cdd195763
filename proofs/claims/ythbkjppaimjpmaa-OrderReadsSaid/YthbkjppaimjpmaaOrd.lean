/- What the program's and the document's numbers in bytes come to: plain facts on the printed functions; no Go, no memory. -/
import Derived.Test.YthbkjppaimjpmaaMth
import Derived.Test.YthbkjppaimjpmaaQ1
import Derived.Test.YthbkjppaimjpmaaQ3
import Derived.Test.YthbkjppaimjpmaaQ6
namespace Go.Proofs.Ythbkjppaimjpmaa.Q
open Go.RowKit Go.Proofs.YthbkjppaimjpmaaW.PrintWords Go.Proofs.YthbkjppaimjpmaaW.PrintMore Go.Proofs.Ythbkjppaimjpmaa.Mth
set_option linter.unusedVariables false
set_option linter.unusedSimpArgs false

theorem bnd {α β : Type} {x : Option α} {a : α} (h : x = some a) (f : α → Option β) : x.bind f = f a := by rw [h]; rfl
def leI (n k : Nat) : List Int := (toLE n k).map fun b => (b.toNat : Int)
theorem leI_length (n k : Nat) : (leI n k).length = k := by simp [leI, toLE_length]
theorem leI_snoc (n k : Nat) : leI n (k + 1) = leI n k ++ [((n / 256 ^ k % 256 : Nat) : Int)] := by
  unfold leI
  rw [toLE_snoc, List.map_append]
  simp
theorem str_map (l : List UInt8) : strOfNums (l.map fun b => (b.toNat : Int)) = ⟨l.toArray⟩ := by
  unfold strOfNums
  rw [List.map_map]
  congr 2
  conv => rhs; rw [← List.map_id l]
  apply List.map_congr_left
  intro b _
  simp
def putAt (big : Bool) (n size i : Nat) : List Int := if big = true then List.replicate (size - i) 0 ++ (leI n i).reverse else leI n i ++ List.replicate (size - i) 0
theorem putAt_end (big : Bool) (n size : Nat) : strOfNums (putAt big n size size) = ⟨(ord big (toLE n size)).toArray⟩ := by
  unfold putAt ord
  cases big
  · simp only [Bool.false_eq_true, if_false, Nat.sub_self, List.replicate_zero, List.append_nil]
    exact str_map _
  · simp only [if_true, Nat.sub_self, List.replicate_zero, List.nil_append]
    unfold leI
    rw [← List.map_reverse]
    exact str_map _
theorem putAt_zero (big : Bool) (n size : Nat) : putAt big n size 0 = List.replicate size 0 := by
  unfold putAt
  cases big <;> simp [leI, toLE]
theorem putAt_length (big : Bool) (n size i : Nat) (h : i ≤ size) : (putAt big n size i).length = size := by
  unfold putAt
  cases big <;> simp [leI_length] <;> omega
theorem putAt_step (big : Bool) (n size i : Nat) (h : i < size) :
    (putAt big n size i).set (if big = true then size - 1 - i else i) ((n / 256 ^ i % 256 : Nat) : Int) = putAt big n size (i + 1) := by
  obtain ⟨m, hm⟩ : ∃ m, size - i = m + 1 := ⟨size - i - 1, by omega⟩
  have h1 : size - (i + 1) = m := by omega
  unfold putAt
  cases big
  · simp only [Bool.false_eq_true, if_false]
    rw [List.set_append_right _ _ (by rw [leI_length]; exact Nat.le_refl _), leI_length, Nat.sub_self, hm, h1, leI_snoc, List.replicate_succ, List.set_cons_zero, List.append_assoc]
    rfl
  · simp only [if_true]
    have h2 : size - 1 - i = m := by omega
    rw [hm, h1, h2, List.replicate_succ', List.append_assoc, List.set_append_right _ _ (by simp), List.length_replicate, Nat.sub_self, leI_snoc, List.reverse_append]
    rfl
theorem place_is (big : Bool) (i size : Nat) (hi : i < size) (hs : size ≤ 9223372036854775807) : order_Order_place.f big (i : Int) (size : Int) = some (((if big = true then size - 1 - i else i : Nat)) : Int) := by
  unfold order_Order_place.f
  cases big
  · simp
  · simp only [if_true]
    rw [wrap64_id (n := (size : Int) - 1) (by omega) (by omega), wrap64_id (by omega) (by omega)]
    congr 1
    omega
theorem put_loop (big : Bool) (n size : Nat) (hs : size ≤ 8) : ∀ (d i : Nat), i + d = size → ∀ k, d < k →
    order_Order_Put.l0 k (n : Int) (size : Int) (putAt big n size i) (size : Int) (i : Int) big = some (strOfNums (putAt big n size size)) := by
  intro d
  induction d with
  | zero =>
    intro i hi k hk
    obtain ⟨k, rfl⟩ : ∃ m, k = m + 1 := ⟨k - 1, by omega⟩
    obtain rfl : i = size := by omega
    simp only [order_Order_Put.l0]
    rw [if_neg (by omega)]
  | succ d ih =>
    intro i hi k hk
    obtain ⟨k, rfl⟩ : ∃ m, k = m + 1 := ⟨k - 1, by omega⟩
    have hlt : i < size := by omega
    simp only [order_Order_Put.l0]
    rw [if_pos (by omega), bnd (place_is big i size hlt (by omega))]
    have hw : wrap64 (8 * (i : Int)) = 8 * (i : Int) := wrap64_id (by omega) (by omega)
    have hw1 : wrap64 ((i : Int) + 1) = ((i + 1 : Nat) : Int) := by rw [wrap64_id (by omega) (by omega)]; rfl
    rw [hw, hw1, if_pos (by omega), if_pos (by omega), if_pos (by rw [putAt_length _ _ _ _ (by omega)]; cases big <;> simp <;> omega), Int.toNat_natCast, shr_nat n i (by omega), putAt_step big n size i hlt]
    exact ih (i + 1) (by omega) k (by omega)
theorem put_ev (big : Bool) (n size : Int) (h0 : 0 ≤ n) : Ev (fun k => order_Order_Put.f k big n size) (putS big n size) := by
  refine Ev.of (order_Order_Put.mono _ _ _) (k := 12) ?_
  unfold order_Order_Put.f putS putL
  by_cases h1 : size < 1
  · rw [if_pos h1, if_neg (by omega)]
    rfl
  · rw [if_neg h1]
    by_cases h8 : size > 8
    · rw [if_neg (by omega)]
      simp only [order_Order_Put.j0, decide_eq_true h8, if_true]
    · obtain ⟨s, rfl⟩ := Int.eq_ofNat_of_zero_le (show 0 ≤ size by omega)
      obtain ⟨m, rfl⟩ := Int.eq_ofNat_of_zero_le h0
      rw [if_pos (by omega)]
      simp only [order_Order_Put.j0, decide_eq_false h8, Bool.false_eq_true, if_false]
      rw [if_pos (by omega), Int.toNat_natCast, if_pos (by omega), Option.bind_some, List.length_replicate]
      have := put_loop big m s (by omega) s 0 (by omega) 11 (by omega)
      rw [putAt_zero, putAt_end] at this
      rw [Int.toNat_natCast]
      exact this
theorem leN_one (b : UInt8) : leN [b] = b.toNat := by simp [leN]
/-- The program's Get: the first i bytes' share. -/
theorem take_snoc (l : List UInt8) (i : Nat) (h : i < l.length) : l.take (i + 1) = l.take i ++ [l[i]] := by
  rw [List.take_succ_eq_append_getElem h]
theorem ord_get (big : Bool) (l : List UInt8) (i : Nat) (h : i < l.length) : (ord big l)[i]'(by rw [ord_length]; exact h) = l[if big = true then l.length - 1 - i else i]'(by split <;> omega) := by
  cases big
  · simp [ord]
  · simp [ord, List.getElem_reverse]
theorem get_loop (big : Bool) (s : ByteArray) (hs : s.size ≤ 8) : ∀ (d i : Nat), i + d = s.size → ∀ k, d < k →
    order_Order_Get.l0 k s (leN ((ord big s.data.toList).take i) : Int) (s.size : Int) (i : Int) big = some (leN (ord big s.data.toList) : Int) := by
  have hl : s.data.toList.length = s.size := data_length s
  intro d
  induction d with
  | zero =>
    intro i hi k hk
    obtain ⟨k, rfl⟩ : ∃ m, k = m + 1 := ⟨k - 1, by omega⟩
    simp only [order_Order_Get.l0]
    rw [if_neg (by omega), List.take_of_length_le (by rw [ord_length]; omega)]
  | succ d ih =>
    intro i hi k hk
    obtain ⟨k, rfl⟩ : ∃ m, k = m + 1 := ⟨k - 1, by omega⟩
    have hlt : i < s.data.toList.length := by omega
    simp only [order_Order_Get.l0]
    rw [if_pos (by omega), bnd (place_is big i s.size (by omega) (by omega))]
    have hw : wrap64 (8 * (i : Int)) = 8 * (i : Int) := wrap64_id (by omega) (by omega)
    have hw1 : wrap64 ((i : Int) + 1) = ((i + 1 : Nat) : Int) := by rw [wrap64_id (by omega) (by omega)]; rfl
    have hin : (if big = true then s.size - 1 - i else i) < s.data.toList.length := by split <;> omega
    rw [hw, hw1, if_pos (by omega), if_pos (by omega), if_pos (by omega), bt_eq s _ hin]
    have hb := (s.data.toList[if big = true then s.size - 1 - i else i]'hin).toNat_lt
    rw [wrapu_id (by omega) (by omega), shl_byte _ i (by omega) (by omega)]
    have hto := leN_lt ((ord big s.data.toList).take i)
    have htl : ((ord big s.data.toList).take i).length = i := by rw [List.length_take, ord_length]; omega
    rw [htl] at hto
    have hn := leN_append ((ord big s.data.toList).take i) [s.data.toList[if big = true then s.size - 1 - i else i]'hin]
    have hg := ord_get big s.data.toList i hlt
    simp only [hl] at hg
    rw [← hg, ← take_snoc _ i (by rw [ord_length]; omega), htl] at hn
    rw [hg, leN_one] at hn
    have hlast := leN_lt ((ord big s.data.toList).take (i + 1))
    have htl1 : ((ord big s.data.toList).take (i + 1)).length ≤ 8 := by rw [List.length_take, ord_length]; omega
    have hp := Nat.pow_le_pow_right (show 0 < 256 by omega) htl1
    have h64 : (256 : Nat) ^ 8 = 18446744073709551616 := by decide
    rw [or_add _ _ i hto (by omega), ← hn]
    exact ih (i + 1) (by omega) k (by omega)
theorem get_ev (big : Bool) (s : ByteArray) : Ev (fun k => order_Order_Get.f k big s) (getS big s) := by
  refine Ev.of (order_Order_Get.mono _ _) (k := 12) ?_
  have hl : s.data.toList.length = s.size := data_length s
  unfold order_Order_Get.f getS getL
  by_cases h : (s.size : Int) > 8
  · rw [if_pos h, if_neg (by omega)]
  · rw [if_neg h, if_pos (by omega)]
    have := get_loop big s (by omega) s.size 0 (by omega) 12 (by omega)
    simpa [leN] using this
/-- The document's Put. -/
def refAt (big : Bool) (n i : Nat) : ByteArray := ⟨(ord big (toLE n i)).toArray⟩
theorem refAt_data (big : Bool) (n i : Nat) : (refAt big n i).data.toList = ord big (toLE n i) := rfl
theorem refAt_size (big : Bool) (n i : Nat) : (refAt big n i).size = i := by rw [ba_size, refAt_data, ord_length, toLE_length]
theorem one_byte (x : Nat) (hx : x < 256) : strOfNums [(x : Int)] = ⟨[UInt8.ofNat x].toArray⟩ := by simp [strOfNums]
theorem one_size (b : UInt8) : (⟨[b].toArray⟩ : ByteArray).size = 1 := rfl
theorem refPut_on (big : Bool) (n size : Int) (s : ByteArray) (i : Int) (k : Nat) (hi : i < size) (h8 : size ≤ 8) :
    graverref01_Put.l0 (k + 2) big n size s i = if big = true then (if (strOfNums [Int.tmod n 256 % 256]).size + s.size ≤ 9223372036854775807 then (graverref01_Put.l0 k big (IntKind.u64.wrap (Int.tdiv n 256)) size ((strOfNums [Int.tmod n 256 % 256]) ++ s) (wrap64 (i + 1))) else none) else (if s.size + (strOfNums [Int.tmod n 256 % 256]).size ≤ 9223372036854775807 then (graverref01_Put.l0 k big (IntKind.u64.wrap (Int.tdiv n 256)) size (s ++ (strOfNums [Int.tmod n 256 % 256])) (wrap64 (i + 1))) else none) := by
  rw [graverref01_Put.l0, if_pos hi, decide_eq_true h8, graverref01_Put.j1, if_pos rfl, Option.bind_some]
theorem refPut_off (big : Bool) (n size : Int) (s : ByteArray) (i : Int) (k : Nat) (h : ¬ (i < size ∧ size ≤ 8)) : graverref01_Put.l0 (k + 2) big n size s i = some s := by
  rw [graverref01_Put.l0]
  by_cases hi : i < size
  · rw [if_pos hi, decide_eq_false (by omega), graverref01_Put.j1, if_neg (by decide)]
  · rw [if_neg hi, graverref01_Put.j1, if_neg (by decide)]
theorem tmod_256 (m : Nat) : Int.tmod (m : Int) 256 % 256 = ((m % 256 : Nat) : Int) := by
  rw [Int.tmod_eq_emod_of_nonneg (by omega)]
  omega
theorem tdiv_256 (m : Nat) (h : m < 18446744073709551616) : IntKind.u64.wrap (Int.tdiv (m : Int) 256) = ((m / 256 : Nat) : Int) := by
  rw [Int.tdiv_eq_ediv_of_nonneg (by omega), wrapu_id (by omega) (by omega)]
  omega
theorem refAt_step (big : Bool) (n i : Nat) : (if big = true then strOfNums [((n / 256 ^ i % 256 : Nat) : Int)] ++ refAt big n i else refAt big n i ++ strOfNums [((n / 256 ^ i % 256 : Nat) : Int)]) = refAt big n (i + 1) := by
  rw [one_byte _ (Nat.mod_lt _ (by omega))]
  apply ba_ext
  cases big
  · rw [if_neg (by decide), append_data, refAt_data, refAt_data, mk_list]
    simp only [ord, Bool.false_eq_true, if_false]
    rw [toLE_snoc]
  · rw [if_pos rfl, append_data, refAt_data, refAt_data, mk_list]
    simp only [ord, if_true]
    rw [toLE_snoc, List.reverse_append]
    rfl
theorem refPut_loop (big : Bool) (n : Nat) (hn : n < 18446744073709551616) (size : Int) (h8 : size ≤ 8) : ∀ (d i : Nat), (i : Int) + d = size → ∀ k, 2 * d + 2 ≤ k →
    graverref01_Put.l0 k big ((n / 256 ^ i : Nat) : Int) size (refAt big n i) (i : Int) = some (refAt big n (i + d)) := by
  intro d
  induction d with
  | zero =>
    intro i hi k hk
    obtain ⟨k, rfl⟩ : ∃ m, k = m + 2 := ⟨k - 2, by omega⟩
    rw [refPut_off _ _ _ _ _ _ (by omega)]
    rfl
  | succ d ih =>
    intro i hi k hk
    obtain ⟨k, rfl⟩ : ∃ m, k = m + 2 := ⟨k - 2, by omega⟩
    rw [refPut_on _ _ _ _ _ _ (by omega) h8]
    have hlt : n / 256 ^ i < 18446744073709551616 := Nat.lt_of_le_of_lt (Nat.div_le_self _ _) hn
    have hm := tmod_256 (n / 256 ^ i)
    have hd := tdiv_256 _ hlt
    rw [Nat.div_div_eq_div_mul, ← Nat.pow_succ] at hd
    have hw1 : wrap64 ((i : Int) + 1) = ((i + 1 : Nat) : Int) := by rw [wrap64_id (by omega) (by omega)]; rfl
    have hx : n / 256 ^ i % 256 < 256 := Nat.mod_lt _ (by omega)
    have ih' := ih (i + 1) (by omega) k (by omega)
    rw [show i + 1 + d = i + (d + 1) by omega] at ih'
    rw [hm, hd, hw1]
    have hsz : (strOfNums [((n / 256 ^ i % 256 : Nat) : Int)]).size = 1 := strOfNums_size _
    have hrs := refAt_size big n i
    have hstep := refAt_step big n i
    generalize strOfNums [((n / 256 ^ i % 256 : Nat) : Int)] = b1 at *
    generalize refAt big n i = s0 at *
    have hb1 : b1.size + s0.size ≤ 9223372036854775807 := by clear hlt hn hd hm hw1 hx ih' hstep ih; omega
    have hb2 : s0.size + b1.size ≤ 9223372036854775807 := by rw [Nat.add_comm]; exact hb1
    cases big
    · rw [if_neg (by decide), if_pos hb2]
      rw [if_neg (by decide)] at hstep
      rw [hstep]; exact ih'
    · rw [if_pos rfl, if_pos hb1]
      rw [if_pos rfl] at hstep
      rw [hstep]; exact ih'
theorem refPut_ev (big : Bool) (n size : Int) (h0 : 0 ≤ n) (hn : n < 18446744073709551616) : Ev (fun k => graverref01_Put.f k big n size) (putS big n size) := by
  refine Ev.of (graverref01_Put.mono _ _ _) (k := 24) ?_
  obtain ⟨m, rfl⟩ := Int.eq_ofNat_of_zero_le h0
  unfold graverref01_Put.f putS putL
  by_cases h : 1 ≤ size ∧ size ≤ 8
  · obtain ⟨h1, h8⟩ := h
    obtain ⟨s, rfl⟩ := Int.eq_ofNat_of_zero_le (show 0 ≤ size by omega)
    rw [if_pos ⟨h1, h8⟩, Int.toNat_natCast, Int.toNat_natCast]
    have := refPut_loop big m (by omega) (s : Int) h8 s 0 (by omega) 24 (by omega)
    have e0 : refAt big m 0 = ⟨#[]⟩ := by cases big <;> rfl
    rw [e0, Nat.pow_zero, Nat.div_one, Nat.zero_add] at this
    exact this
  · rw [if_neg h]
    exact refPut_off big _ size _ 0 22 (by omega)
/-- The document's Get. -/
theorem leN_snoc_msb (a : List UInt8) (b : UInt8) : leN (b :: a) = b.toNat + 256 * leN a := rfl
theorem wrap_step (a b : Nat) (h : b + 256 * a < 18446744073709551616) : IntKind.u64.wrap (IntKind.u64.wrap (256 * (a : Int)) + (b : Int)) = ((b + 256 * a : Nat) : Int) := by
  rw [wrapu_id (n := 256 * (a : Int)) (by omega) (by omega), wrapu_id (by omega) (by omega)]
  omega
theorem refGet_loop (big : Bool) (s : ByteArray) (hs : s.size ≤ 8) : ∀ (d i : Nat), i + d = s.size → ∀ k, 2 * d + 2 ≤ k →
    graverref01_Get.l0 k big s (leN ((ord big s.data.toList).drop (s.size - i)) : Int) (i : Int) = some (leN (ord big s.data.toList) : Int) := by
  have hl : s.data.toList.length = s.size := data_length s
  intro d
  induction d with
  | zero =>
    intro i hi k hk
    obtain ⟨k, rfl⟩ : ∃ m, k = m + 2 := ⟨k - 2, by omega⟩
    simp only [graverref01_Get.l0, graverref01_Get.j1]
    rw [if_neg (by omega), show s.size - i = 0 by omega]
    rfl
  | succ d ih =>
    intro i hi k hk
    obtain ⟨k, rfl⟩ : ∃ m, k = m + 2 := ⟨k - 2, by omega⟩
    simp only [graverref01_Get.l0, graverref01_Get.j1]
    rw [if_pos (by omega), decide_eq_true (by omega : (s.size : Int) ≤ 8), if_pos rfl]
    have hw1 : wrap64 ((i : Int) + 1) = ((i + 1 : Nat) : Int) := by rw [wrap64_id (by omega) (by omega)]; rfl
    have hw2 : wrap64 (wrap64 ((s.size : Int) - 1) - (i : Int)) = ((s.size - 1 - i : Nat) : Int) := by rw [wrap64_id (n := (s.size : Int) - 1) (by omega) (by omega), wrap64_id (by omega) (by omega)]; omega
    obtain ⟨m, hm⟩ : ∃ m, s.size - i = m + 1 := ⟨s.size - i - 1, by omega⟩
    have hm1 : s.size - (i + 1) = m := by omega
    have ih' := ih (i + 1) (by omega) k (by omega)
    rw [hm1] at ih'
    have hmo : m < (ord big s.data.toList).length := by rw [ord_length]; omega
    have hdrop := List.drop_eq_getElem_cons hmo
    have hval : leN ((ord big s.data.toList).drop m) = ((ord big s.data.toList)[m]'hmo).toNat + 256 * leN ((ord big s.data.toList).drop (m + 1)) := by rw [hdrop, leN_snoc_msb]
    have hlt := leN_lt ((ord big s.data.toList).drop m)
    have hlen : ((ord big s.data.toList).drop m).length ≤ 8 := by rw [List.length_drop, ord_length]; omega
    have hp := Nat.pow_le_pow_right (show 0 < 256 by omega) hlen
    have h64 : (256 : Nat) ^ 8 = 18446744073709551616 := by decide
    have hg := ord_get big s.data.toList m (by omega)
    simp only [hl] at hg
    cases big
    · have hin : s.size - 1 - i < s.data.toList.length := by omega
      have e : (ord false s.data.toList)[m]'hmo = s.data.toList[s.size - 1 - i]'hin := by rw [hg]; congr 1; simp; omega
      rw [if_neg (by decide), hw2, if_pos (by omega), if_pos (by omega), bt_eq s _ hin, wrapu_id (n := ((s.data.toList[s.size - 1 - i]'hin).toNat : Int)) (by omega) (by have := (s.data.toList[s.size - 1 - i]'hin).toNat_lt; omega), hw1, hm, ← e, wrap_step _ _ (by omega), ← hval]
      exact ih'
    · have hin : i < s.data.toList.length := by omega
      have e : (ord true s.data.toList)[m]'hmo = s.data.toList[i]'hin := by rw [hg]; congr 1; simp; omega
      rw [if_pos rfl, if_pos (by omega), if_pos (by omega), bt_eq s _ hin, wrapu_id (n := ((s.data.toList[i]'hin).toNat : Int)) (by omega) (by have := (s.data.toList[i]'hin).toNat_lt; omega), hw1, hm, ← e, wrap_step _ _ (by omega), ← hval]
      exact ih'
theorem refGet_off (big : Bool) (s : ByteArray) (n i : Int) (k : Nat) (h : ¬ s.size ≤ 8) : graverref01_Get.l0 (k + 2) big s n i = some n := by
  rw [graverref01_Get.l0]
  by_cases hi : i < (s.size : Int)
  · rw [if_pos hi, decide_eq_false (by omega), graverref01_Get.j1, if_neg (by decide)]
  · rw [if_neg hi, graverref01_Get.j1, if_neg (by decide)]
theorem refGet_ev (big : Bool) (s : ByteArray) : Ev (fun k => graverref01_Get.f k big s) (getS big s) := by
  refine Ev.of (graverref01_Get.mono _ _) (k := 24) ?_
  have hl : s.data.toList.length = s.size := data_length s
  unfold graverref01_Get.f getS getL
  by_cases h : s.size ≤ 8
  · rw [if_pos (by omega)]
    have := refGet_loop big s h s.size 0 (by omega) 24 (by omega)
    rw [Nat.sub_zero, List.drop_eq_nil_of_le (by rw [ord_length]; omega)] at this
    exact this
  · rw [if_neg (by omega)]
    exact refGet_off big s 0 0 22 h

end Go.Proofs.Ythbkjppaimjpmaa.Q
