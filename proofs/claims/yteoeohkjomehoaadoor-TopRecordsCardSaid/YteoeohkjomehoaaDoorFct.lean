/- Plain facts on numbers and their bytes, in both orders: no Go, no memory. -/
import Derived.Test.YteoeohkjomehoaaDoorWMore
import Derived.Lib.Strings
import Derived.Test.YteoeohkjomehoaaDoorQ2
import Derived.Test.YteoeohkjomehoaaDoorQ3
import Derived.Test.YteoeohkjomehoaaDoorQ6
import Derived.Test.YteoeohkjomehoaaDoorQ16
import Derived.Test.YteoeohkjomehoaaDoorQ4
import Derived.Test.YteoeohkjomehoaaDoorQ10
import Derived.Test.YteoeohkjomehoaaDoorQ19
import Derived.Test.YteoeohkjomehoaaDoorQ20
import Derived.Test.YteoeohkjomehoaaDoorQ5
import Derived.Test.YteoeohkjomehoaaDoorQ7
import Derived.Test.YteoeohkjomehoaaDoorQ13
import Derived.Test.YteoeohkjomehoaaDoorQ22
import Derived.Test.YteoeohkjomehoaaDoorQ15
import Derived.Test.YteoeohkjomehoaaDoorQ11
import Derived.Test.YteoeohkjomehoaaDoorQ17
import Derived.Test.YteoeohkjomehoaaDoorQ23
import Derived.Lib.Repeat
import Derived.Test.YteoeohkjomehoaaDoorQ18
import Derived.Test.YteoeohkjomehoaaDoorQ8
import Derived.Test.YteoeohkjomehoaaDoorQ9
section
namespace Go.Proofs.YteoeohkjomehoaaDoor.Mth
open Go.RowKit Go.Proofs.YteoeohkjomehoaaDoorW.PrintWords Go.Proofs.YteoeohkjomehoaaDoorW.PrintMore
set_option linter.unusedVariables false
set_option linter.unusedSimpArgs false

/-- A number's lowest bytes, the lowest first. -/
def toLE : Nat → Nat → List UInt8
  | _, 0 => []
  | n, k + 1 => UInt8.ofNat (n % 256) :: toLE (n / 256) k
/-- The number of bytes, the lowest first. -/
def leN : List UInt8 → Nat
  | [] => 0
  | b :: r => b.toNat + 256 * leN r
theorem toLE_length (n k : Nat) : (toLE n k).length = k := by
  induction k generalizing n with
  | zero => rfl
  | succ k ih => simp [toLE, ih]
theorem leN_lt (l : List UInt8) : leN l < 256 ^ l.length := by
  induction l with
  | nil => simp [leN]
  | cons b r ih =>
    have := b.toNat_lt
    simp only [leN, List.length_cons, Nat.pow_succ]
    omega
theorem leN_toLE (n k : Nat) : leN (toLE n k) = n % 256 ^ k := by
  induction k generalizing n with
  | zero => simp [toLE, leN, Nat.mod_one]
  | succ k ih =>
    simp only [toLE, leN, ih]
    rw [Nat.pow_succ, Nat.mul_comm (256 ^ k) 256, Nat.mod_mul]
    have : (UInt8.ofNat (n % 256)).toNat = n % 256 := by simp
    rw [this]
theorem leN_toLE_of_lt {n k : Nat} (h : n < 256 ^ k) : leN (toLE n k) = n := by rw [leN_toLE, Nat.mod_eq_of_lt h]
theorem toLE_leN (l : List UInt8) : toLE (leN l) l.length = l := by
  induction l with
  | nil => rfl
  | cons b r ih =>
    have hb := b.toNat_lt
    simp only [leN, List.length_cons, toLE]
    rw [show (b.toNat + 256 * leN r) % 256 = b.toNat by omega, show (b.toNat + 256 * leN r) / 256 = leN r by omega, ih]
    simp
theorem leN_append (a b : List UInt8) : leN (a ++ b) = leN a + 256 ^ a.length * leN b := by
  induction a with
  | nil => simp [leN]
  | cons x r ih =>
    simp only [List.cons_append, leN, ih, List.length_cons, Nat.pow_succ]
    rw [Nat.mul_add, Nat.add_assoc, ← Nat.mul_assoc, Nat.mul_comm 256 (256 ^ r.length)]
theorem toLE_snoc (n k : Nat) : toLE n (k + 1) = toLE n k ++ [UInt8.ofNat (n / 256 ^ k % 256)] := by
  induction k generalizing n with
  | zero => simp [toLE]
  | succ k ih =>
    rw [toLE, ih, toLE, Nat.div_div_eq_div_mul, Nat.pow_succ, Nat.mul_comm 256 (256 ^ k)]
    rfl
theorem toLE_mod (n k : Nat) : toLE (n % 256 ^ k) k = toLE n k := by
  have h := toLE_leN (toLE n k)
  rw [leN_toLE, toLE_length] at h
  exact h
/-- The order of so many bytes. -/
def ord (big : Bool) (l : List UInt8) : List UInt8 := if big = true then l.reverse else l
theorem ord_length (big : Bool) (l : List UInt8) : (ord big l).length = l.length := by cases big <;> simp [ord]
theorem ord_ord (big : Bool) (l : List UInt8) : ord big (ord big l) = l := by cases big <;> simp [ord]
/-- A number's bytes, as the program and the document have them. -/
def putL (big : Bool) (n size : Int) : List UInt8 := if 1 ≤ size ∧ size ≤ 8 then ord big (toLE n.toNat size.toNat) else []
def putS (big : Bool) (n size : Int) : ByteArray := ⟨(putL big n size).toArray⟩
def getL (big : Bool) (l : List UInt8) : Int := if l.length ≤ 8 then (leN (ord big l) : Int) else 0
def getS (big : Bool) (s : ByteArray) : Int := getL big s.data.toList
theorem putS_list (big : Bool) (n size : Int) : (putS big n size).data.toList = putL big n size := rfl
theorem putL_length (big : Bool) (n size : Int) : (putL big n size).length = if 1 ≤ size ∧ size ≤ 8 then size.toNat else 0 := by
  unfold putL
  split
  · rw [ord_length, toLE_length]
  · rfl
theorem putS_size (big : Bool) (n size : Int) : (putS big n size).size = if 1 ≤ size ∧ size ≤ 8 then size.toNat else 0 := by
  have : (putS big n size).size = (putL big n size).length := by simp [putS, ByteArray.size]
  rw [this, putL_length]
theorem putS_size_le (big : Bool) (n size : Int) : (putS big n size).size ≤ 8 := by rw [putS_size]; split <;> omega
theorem getL_range (big : Bool) (l : List UInt8) : 0 ≤ getL big l ∧ getL big l < 18446744073709551616 := by
  unfold getL
  split
  · rename_i h
    have h1 := leN_lt (ord big l)
    rw [ord_length] at h1
    have h2 : 256 ^ l.length ≤ 256 ^ 8 := Nat.pow_le_pow_right (by omega) h
    have : (256 : Nat) ^ 8 = 18446744073709551616 := by decide
    omega
  · omega
theorem getL_lt (big : Bool) (l : List UInt8) (h : l.length ≤ 8) : getL big l < 256 ^ l.length := by
  unfold getL
  rw [if_pos h]
  have h1 := leN_lt (ord big l)
  rw [ord_length] at h1
  have h2 : ((256 : Int) ^ l.length) = ((256 ^ l.length : Nat) : Int) := by rw [Int.natCast_pow]; rfl
  rw [h2]
  exact Int.ofNat_lt.2 h1
theorem getL_putL (big : Bool) (n size : Int) (h1 : 1 ≤ size) (h8 : size ≤ 8) (h0 : 0 ≤ n) : getL big (putL big n size) = n % 256 ^ size.toNat := by
  unfold getL
  rw [putL_length, if_pos (by rw [if_pos ⟨h1, h8⟩]; omega)]
  unfold putL
  rw [if_pos ⟨h1, h8⟩, ord_ord, leN_toLE]
  obtain ⟨m, rfl⟩ := Int.eq_ofNat_of_zero_le h0
  rw [Int.toNat_natCast, Int.natCast_emod, Int.natCast_pow]
  rfl
theorem getL_putL_fit (big : Bool) (n size : Int) (h1 : 1 ≤ size) (h8 : size ≤ 8) (h0 : 0 ≤ n) (hn : n < 256 ^ size.toNat) : getL big (putL big n size) = n := by
  rw [getL_putL big n size h1 h8 h0, Int.emod_eq_of_lt h0 hn]
theorem putL_getL (big : Bool) (l : List UInt8) (h1 : 1 ≤ l.length) (h8 : l.length ≤ 8) : putL big (getL big l) (l.length : Int) = l := by
  unfold putL getL
  rw [if_pos (by omega), if_pos h8]
  simp only [Int.toNat_natCast]
  have := toLE_leN (ord big l)
  rw [ord_length] at this
  rw [this, ord_ord]
theorem getL_nil (big : Bool) : getL big [] = 0 := by cases big <;> rfl
/-- Bytes of a string as numbers. -/
theorem bt_eq (s : ByteArray) (i : Nat) (h : i < s.data.toList.length) : bt s (i : Int) = ((s.data.toList[i]'h).toNat : Int) := by
  have h' : i < s.size := by rw [← data_length]; exact h
  unfold bt
  rw [dif_pos (by simpa using h')]
  simp
  rfl
theorem strOfNums_cons (x : Int) (xs : List Int) : strOfNums (x :: xs) = ⟨(UInt8.ofNat x.toNat :: (xs.map fun n => UInt8.ofNat n.toNat)).toArray⟩ := rfl
theorem wrap64_id {n : Int} (h0 : -9223372036854775808 ≤ n) (h1 : n < 9223372036854775808) : wrap64 n = n := by unfold wrap64; omega
theorem wrapu_id {n : Int} (h0 : 0 ≤ n) (h1 : n < 18446744073709551616) : IntKind.u64.wrap n = n := by
  simp [IntKind.wrap, IntKind.bits, IntKind.signed]; omega
theorem shr_u64 (n : Int) (i : Nat) (hi : i ≤ 7) : shr .u64 n (8 * (i : Int)) = n / 256 ^ i := by
  unfold shr
  have : min (8 * (i : Int)).toNat IntKind.u64.bits = 8 * i := by simp [IntKind.bits]; omega
  rw [this, Int.pow_mul]
  rfl
theorem shr_nat (n : Nat) (i : Nat) (hi : i ≤ 7) : shr .u64 (n : Int) (8 * (i : Int)) % 256 = ((n / 256 ^ i % 256 : Nat) : Int) := by
  rw [shr_u64 _ _ hi]
  simp
theorem shl_byte (b i : Nat) (hb : b < 256) (hi : i ≤ 7) : shl .u64 (b : Int) (8 * (i : Int)) = ((256 ^ i * b : Nat) : Int) := by
  unfold shl
  have h1 : min (8 * (i : Int)).toNat IntKind.u64.bits = 8 * i := by simp [IntKind.bits]; omega
  rw [h1, Int.pow_mul, wrapu_id]
  · rw [Int.natCast_mul, Int.natCast_pow]; exact Int.mul_comm _ _
  · exact Int.mul_nonneg (by omega) (Int.pow_nonneg (by omega))
  · have h2 : (256 : Nat) ^ i * 256 ≤ 256 ^ 8 := by
      rw [← Nat.pow_succ]; exact Nat.pow_le_pow_right (by omega) (by omega)
    have h3 : (256 : Nat) ^ 8 = 18446744073709551616 := by decide
    have h4 : 256 ^ i * (b + 1) ≤ 256 ^ i * 256 := Nat.mul_le_mul_left _ (by omega)
    have h5 : 256 ^ i * (b + 1) = 256 ^ i * b + 256 ^ i := by rw [Nat.mul_add, Nat.mul_one]
    have h6 : 0 < (256 : Nat) ^ i := Nat.pow_pos (by omega)
    have h7 : 256 ^ i * b < 18446744073709551616 := by omega
    have h8 : (b : Int) * (2 ^ 8) ^ i = ((256 ^ i * b : Nat) : Int) := by
      rw [Int.natCast_mul, Int.natCast_pow]; exact Int.mul_comm _ _
    rw [h8]; omega
theorem or_add (a c i : Nat) (ha : a < 256 ^ i) (hc : 256 ^ i * c + a < 18446744073709551616) : Go.bits .or .u64 (a : Int) ((256 ^ i * c : Nat) : Int) = ((a + 256 ^ i * c : Nat) : Int) := by
  have h64 : ∀ n : Int, 0 ≤ n → n < 2 ^ 64 → IntKind.u64.wrap n = n := fun n h0 h1 => wrapu_id h0 (by simpa using h1)
  rw [(bits_nat .u64 64 (by decide) h64 a (256 ^ i * c) (by omega) (by omega)).2]
  have hp : (256 : Nat) ^ i = 2 ^ (8 * i) := by rw [Nat.pow_mul]
  rw [hp] at ha ⊢
  rw [Nat.or_comm, ← Nat.two_pow_add_eq_or_of_lt ha c, Nat.add_comm]
theorem mn_eq (a b : Int) : mn a b = min a b := by unfold mn; split <;> omega
theorem toList_data (s : ByteArray) : s.toList = s.data.toList := ByteArray.toList_eq s
theorem ba_ext {s t : ByteArray} (h : s.data.toList = t.data.toList) : s = t := by
  cases s; cases t; congr 1; exact Array.toList_inj.mp h
theorem ba_size (s : ByteArray) : s.size = s.data.toList.length := (data_length s).symm
theorem mk_list (l : List UInt8) : (⟨l.toArray⟩ : ByteArray).data.toList = l := rfl
theorem append_data (a b : ByteArray) : (a ++ b).data.toList = a.data.toList ++ b.data.toList := by
  rw [ByteArray.data_append]; simp
theorem extract_data (s : ByteArray) (a b : Nat) : (s.extract a b).data.toList = (s.data.toList.drop a).take (b - a) := by
  rw [← toList_data]; exact Lib.extract_toList s a b
theorem ev_pos {α : Type} {c : Prop} [Decidable c] {a b : Nat → Option α} {r : α} (h : c) (ha : Ev a r) : Ev (fun k => if c then a k else b k) r := by
  simp only [if_pos h]; exact ha
theorem ev_neg {α : Type} {c : Prop} [Decidable c] {a b : Nat → Option α} {r : α} (h : ¬ c) (hb : Ev b r) : Ev (fun k => if c then a k else b k) r := by
  simp only [if_neg h]; exact hb
theorem ev_now {α : Type} {a r : α} (h : a = r) : Ev (fun _ => some a) r := by rw [h]; exact Ev.now r
theorem ev_const {α β : Type} {a : Option α} {x : α} {f : Nat → α → Option β} {r : β} (h : a = some x) (k : Ev (fun n => f n x) r) : Ev (fun n => a.bind (f n)) r := by
  rw [h]; exact k
theorem ev_eq {α : Type} {g : Nat → Option α} {a r : α} (h : Ev g a) (e : a = r) : Ev g r := e ▸ h
theorem wf_u64 {n : Int} (h : (Lit.int .u64 n).wf = true) : 0 ≤ n ∧ n < 18446744073709551616 := by
  simp [Lit.wf, IntKind.min, IntKind.max, IntKind.signed, IntKind.bits] at h
  omega
theorem wf_i64 {n : Int} (h : (Lit.int .i64 n).wf = true) : -9223372036854775808 ≤ n ∧ n < 9223372036854775808 := by
  simp [Lit.wf, IntKind.min, IntKind.max, IntKind.signed, IntKind.bits] at h
  omega
end Go.Proofs.YteoeohkjomehoaaDoor.Mth
end
section
namespace Go.Proofs.YteoeohkjomehoaaDoor.Q
open Go.RowKit Go.Proofs.YteoeohkjomehoaaDoorW.PrintWords Go.Proofs.YteoeohkjomehoaaDoorW.PrintMore Go.Proofs.YteoeohkjomehoaaDoor.Mth
set_option linter.unusedVariables false
set_option linter.unusedSimpArgs false

theorem bnd {α β : Type} {x : Option α} {a : α} (h : x = some a) (f : α → Option β) : x.bind f = f a := by rw [h]; rfl
def leI (n k : Nat) : List Int := (toLE n k).map fun b => (b.toNat : Int)
theorem leI_length (n k : Nat) : (leI n k).length = k := by simp [leI, toLE_length]
theorem leI_snoc (n k : Nat) : leI n (k + 1) = leI n k ++ [((n / 256 ^ k % 256 : Nat) : Int)] := by
  unfold leI
  rw [toLE_snoc, List.map_append]
  simp
theorem str_map (l : List UInt8) : strOfNums (l.map fun b => (b.toNat : Int)) = ⟨l.toArray⟩ := by
  unfold strOfNums
  rw [List.map_map]
  congr 2
  conv => rhs; rw [← List.map_id l]
  apply List.map_congr_left
  intro b _
  simp
def putAt (big : Bool) (n size i : Nat) : List Int := if big = true then List.replicate (size - i) 0 ++ (leI n i).reverse else leI n i ++ List.replicate (size - i) 0
theorem putAt_end (big : Bool) (n size : Nat) : strOfNums (putAt big n size size) = ⟨(ord big (toLE n size)).toArray⟩ := by
  unfold putAt ord
  cases big
  · simp only [Bool.false_eq_true, if_false, Nat.sub_self, List.replicate_zero, List.append_nil]
    exact str_map _
  · simp only [if_true, Nat.sub_self, List.replicate_zero, List.nil_append]
    unfold leI
    rw [← List.map_reverse]
    exact str_map _
theorem putAt_zero (big : Bool) (n size : Nat) : putAt big n size 0 = List.replicate size 0 := by
  unfold putAt
  cases big <;> simp [leI, toLE]
theorem putAt_length (big : Bool) (n size i : Nat) (h : i ≤ size) : (putAt big n size i).length = size := by
  unfold putAt
  cases big <;> simp [leI_length] <;> omega
theorem putAt_step (big : Bool) (n size i : Nat) (h : i < size) :
    (putAt big n size i).set (if big = true then size - 1 - i else i) ((n / 256 ^ i % 256 : Nat) : Int) = putAt big n size (i + 1) := by
  obtain ⟨m, hm⟩ : ∃ m, size - i = m + 1 := ⟨size - i - 1, by omega⟩
  have h1 : size - (i + 1) = m := by omega
  unfold putAt
  cases big
  · simp only [Bool.false_eq_true, if_false]
    rw [List.set_append_right _ _ (by rw [leI_length]; exact Nat.le_refl _), leI_length, Nat.sub_self, hm, h1, leI_snoc, List.replicate_succ, List.set_cons_zero, List.append_assoc]
    rfl
  · simp only [if_true]
    have h2 : size - 1 - i = m := by omega
    rw [hm, h1, h2, List.replicate_succ', List.append_assoc, List.set_append_right _ _ (by simp), List.length_replicate, Nat.sub_self, leI_snoc, List.reverse_append]
    rfl
theorem place_is (big : Bool) (i size : Nat) (hi : i < size) (hs : size ≤ 9223372036854775807) : order_Order_place.f big (i : Int) (size : Int) = some (((if big = true then size - 1 - i else i : Nat)) : Int) := by
  unfold order_Order_place.f
  cases big
  · simp
  · simp only [if_true]
    rw [wrap64_id (n := (size : Int) - 1) (by omega) (by omega), wrap64_id (by omega) (by omega)]
    congr 1
    omega
theorem put_loop (big : Bool) (n size : Nat) (hs : size ≤ 8) : ∀ (d i : Nat), i + d = size → ∀ k, d < k →
    order_Order_Put.l0 k (n : Int) (size : Int) (putAt big n size i) (size : Int) (i : Int) big = some (strOfNums (putAt big n size size)) := by
  intro d
  induction d with
  | zero =>
    intro i hi k hk
    obtain ⟨k, rfl⟩ : ∃ m, k = m + 1 := ⟨k - 1, by omega⟩
    obtain rfl : i = size := by omega
    simp only [order_Order_Put.l0]
    rw [if_neg (by omega)]
  | succ d ih =>
    intro i hi k hk
    obtain ⟨k, rfl⟩ : ∃ m, k = m + 1 := ⟨k - 1, by omega⟩
    have hlt : i < size := by omega
    simp only [order_Order_Put.l0]
    rw [if_pos (by omega), bnd (place_is big i size hlt (by omega))]
    have hw : wrap64 (8 * (i : Int)) = 8 * (i : Int) := wrap64_id (by omega) (by omega)
    have hw1 : wrap64 ((i : Int) + 1) = ((i + 1 : Nat) : Int) := by rw [wrap64_id (by omega) (by omega)]; rfl
    rw [hw, hw1, if_pos (by omega), if_pos (by omega), if_pos (by rw [putAt_length _ _ _ _ (by omega)]; cases big <;> simp <;> omega), Int.toNat_natCast, shr_nat n i (by omega), putAt_step big n size i hlt]
    exact ih (i + 1) (by omega) k (by omega)
theorem put_ev (big : Bool) (n size : Int) (h0 : 0 ≤ n) : Ev (fun k => order_Order_Put.f k big n size) (putS big n size) := by
  refine Ev.of (order_Order_Put.mono _ _ _) (k := 12) ?_
  unfold order_Order_Put.f putS putL
  by_cases h1 : size < 1
  · rw [if_pos h1, if_neg (by omega)]
    rfl
  · rw [if_neg h1]
    by_cases h8 : size > 8
    · rw [if_neg (by omega)]
      simp only [order_Order_Put.j0, decide_eq_true h8, if_true]
    · obtain ⟨s, rfl⟩ := Int.eq_ofNat_of_zero_le (show 0 ≤ size by omega)
      obtain ⟨m, rfl⟩ := Int.eq_ofNat_of_zero_le h0
      rw [if_pos (by omega)]
      simp only [order_Order_Put.j0, decide_eq_false h8, Bool.false_eq_true, if_false]
      rw [if_pos (by omega), Int.toNat_natCast, if_pos (by omega), Option.bind_some, List.length_replicate]
      have := put_loop big m s (by omega) s 0 (by omega) 11 (by omega)
      rw [putAt_zero, putAt_end] at this
      rw [Int.toNat_natCast]
      exact this
theorem leN_one (b : UInt8) : leN [b] = b.toNat := by simp [leN]
/-- The program's Get: the first i bytes' share. -/
theorem take_snoc (l : List UInt8) (i : Nat) (h : i < l.length) : l.take (i + 1) = l.take i ++ [l[i]] := by
  rw [List.take_succ_eq_append_getElem h]
theorem ord_get (big : Bool) (l : List UInt8) (i : Nat) (h : i < l.length) : (ord big l)[i]'(by rw [ord_length]; exact h) = l[if big = true then l.length - 1 - i else i]'(by split <;> omega) := by
  cases big
  · simp [ord]
  · simp [ord, List.getElem_reverse]
theorem get_loop (big : Bool) (s : ByteArray) (hs : s.size ≤ 8) : ∀ (d i : Nat), i + d = s.size → ∀ k, d < k →
    order_Order_Get.l0 k s (leN ((ord big s.data.toList).take i) : Int) (s.size : Int) (i : Int) big = some (leN (ord big s.data.toList) : Int) := by
  have hl : s.data.toList.length = s.size := data_length s
  intro d
  induction d with
  | zero =>
    intro i hi k hk
    obtain ⟨k, rfl⟩ : ∃ m, k = m + 1 := ⟨k - 1, by omega⟩
    simp only [order_Order_Get.l0]
    rw [if_neg (by omega), List.take_of_length_le (by rw [ord_length]; omega)]
  | succ d ih =>
    intro i hi k hk
    obtain ⟨k, rfl⟩ : ∃ m, k = m + 1 := ⟨k - 1, by omega⟩
    have hlt : i < s.data.toList.length := by omega
    simp only [order_Order_Get.l0]
    rw [if_pos (by omega), bnd (place_is big i s.size (by omega) (by omega))]
    have hw : wrap64 (8 * (i : Int)) = 8 * (i : Int) := wrap64_id (by omega) (by omega)
    have hw1 : wrap64 ((i : Int) + 1) = ((i + 1 : Nat) : Int) := by rw [wrap64_id (by omega) (by omega)]; rfl
    have hin : (if big = true then s.size - 1 - i else i) < s.data.toList.length := by split <;> omega
    rw [hw, hw1, if_pos (by omega), if_pos (by omega), if_pos (by omega), bt_eq s _ hin]
    have hb := (s.data.toList[if big = true then s.size - 1 - i else i]'hin).toNat_lt
    rw [wrapu_id (by omega) (by omega), shl_byte _ i (by omega) (by omega)]
    have hto := leN_lt ((ord big s.data.toList).take i)
    have htl : ((ord big s.data.toList).take i).length = i := by rw [List.length_take, ord_length]; omega
    rw [htl] at hto
    have hn := leN_append ((ord big s.data.toList).take i) [s.data.toList[if big = true then s.size - 1 - i else i]'hin]
    have hg := ord_get big s.data.toList i hlt
    simp only [hl] at hg
    rw [← hg, ← take_snoc _ i (by rw [ord_length]; omega), htl] at hn
    rw [hg, leN_one] at hn
    have hlast := leN_lt ((ord big s.data.toList).take (i + 1))
    have htl1 : ((ord big s.data.toList).take (i + 1)).length ≤ 8 := by rw [List.length_take, ord_length]; omega
    have hp := Nat.pow_le_pow_right (show 0 < 256 by omega) htl1
    have h64 : (256 : Nat) ^ 8 = 18446744073709551616 := by decide
    rw [or_add _ _ i hto (by omega), ← hn]
    exact ih (i + 1) (by omega) k (by omega)
theorem get_ev (big : Bool) (s : ByteArray) : Ev (fun k => order_Order_Get.f k big s) (getS big s) := by
  refine Ev.of (order_Order_Get.mono _ _) (k := 12) ?_
  have hl : s.data.toList.length = s.size := data_length s
  unfold order_Order_Get.f getS getL
  by_cases h : (s.size : Int) > 8
  · rw [if_pos h, if_neg (by omega)]
  · rw [if_neg h, if_pos (by omega)]
    have := get_loop big s (by omega) s.size 0 (by omega) 12 (by omega)
    simpa [leN] using this

end Go.Proofs.YteoeohkjomehoaaDoor.Q
end
section
namespace Go.Proofs.YteoeohkjomehoaaDoor.Q
open Go.RowKit Go.Proofs.YteoeohkjomehoaaDoorW.PrintWords Go.Proofs.YteoeohkjomehoaaDoorW.PrintMore Go.Proofs.YteoeohkjomehoaaDoor.Mth
set_option linter.unusedVariables false
set_option linter.unusedSimpArgs false

def word (w : Bool) : Int := if w = true then 8 else 4
def full (w : Bool) (l : List Int) : List Int := l.map fun n => if n = 0 then word w else n
def sumW (s : Int) (l : List Int) : Int := l.foldl (fun s n => wrap64 (s + n)) s
/-- A number that has a place in so many bytes. -/
def okF (x n : Int) : Bool := decide (1 ≤ n) && decide (n ≤ 8) && decide (x < 256 ^ n.toNat)
def flat (big : Bool) (sizes l : List Int) : List UInt8 := (List.zipWith (fun n x => putL big x n) sizes l).flatten
def allF (sizes l : List Int) : Bool := (List.zipWith (fun n x => okF x n) sizes l).all id
def recR (big w : Bool) (sizes l : List Int) : ByteArray × Bool :=
  if sizes.length = l.length then (if allF (full w sizes) l = true then (⟨(flat big (full w sizes) l).toArray⟩, true) else (⟨#[]⟩, false)) else (⟨#[]⟩, false)
theorem full_length (w : Bool) (l : List Int) : (full w l).length = l.length := by simp [full]
theorem rd_at (pre : List Int) (x : Int) (rest : List Int) : rd (pre ++ x :: rest) (pre.length : Int) = x := by
  unfold rd
  simp [List.getD_eq_getElem?_getD]
theorem word_is (b w : Bool) : class_Form_Word.f b w = some (word w) := by
  unfold class_Form_Word.f word
  split <;> rfl
theorem step_at (pre : List Int) (x : Int) (h : pre.length < 9223372036854775807) : wrap64 ((pre.length : Int) + 1) = ((pre ++ [x]).length : Int) := by
  rw [wrap64_id (by omega) (by omega)]
  simp
theorem sizes_loop (b w : Bool) (L : List Int) (hL : L.length < 17592186044416) : ∀ (rest pre : List Int), L = pre ++ rest → ∀ (acc : List Int) (s : Int), acc.length = pre.length →
    Ev (fun k => class_Form_Sizes.l0 k acc s L (L.length : Int) (pre.length : Int) b w) (acc ++ full w rest, sumW s (full w rest)) := by
  intro rest
  induction rest with
  | nil =>
    intro pre h acc s ha
    refine Ev.step (class_Form_Sizes.l0.eq_2 _ _ _ _ _ _ _) (ev_neg (by rw [h]; simp) (ev_now ?_))
    simp [full, sumW]
  | cons x rest ih =>
    intro pre h acc s ha
    have hlen : pre.length < L.length := by rw [h]; simp
    have h' : L = (pre ++ [x]) ++ rest := by rw [h]; simp
    refine Ev.step (class_Form_Sizes.l0.eq_2 _ _ _ _ _ _ _) (ev_pos (by omega) (ev_pos (by omega) (ev_pos (by omega) ?_)))
    have hx : rd L (pre.length : Int) = x := by rw [h]; exact rd_at pre x rest
    rw [hx, step_at pre x (by omega)]
    by_cases h0 : x = 0
    · refine ev_pos h0 (ev_const (word_is b w) (ev_pos (by omega) ?_))
      have := ih (pre ++ [x]) h' (acc ++ [word w]) (wrap64 (s + word w)) (by simp [ha])
      have e : full w (x :: rest) = word w :: full w rest := by simp [full, h0]
      rw [e]
      simpa [sumW] using this
    · refine ev_neg h0 (ev_pos (by omega) ?_)
      have := ih (pre ++ [x]) h' (acc ++ [x]) (wrap64 (s + x)) (by simp [ha])
      have e : full w (x :: rest) = x :: full w rest := by simp [full, h0]
      rw [e]
      simpa [sumW] using this
theorem sizes_ev (b w : Bool) (l : List Int) (hl : l.length < 17592186044416) : Ev (fun k => class_Form_Sizes.f k b w l) (full w l, sumW 0 (full w l)) := by
  refine Ev.congr (fun k => class_Form_Sizes.f.eq_1 k b w l) ?_
  have := sizes_loop b w l hl l [] rfl [] 0 rfl
  simpa using this
theorem pow8 (x : Int) (n : Nat) (h0 : 0 ≤ x) (hx : x < 18446744073709551616) (h : 8 ≤ n) : x < 256 ^ n := by
  have h1 : (256 : Int) ^ 8 ≤ 256 ^ n := by
    have := Nat.pow_le_pow_right (show 0 < 256 by omega) h
    have e : ∀ m : Nat, (256 : Int) ^ m = ((256 ^ m : Nat) : Int) := fun m => by rw [Int.natCast_pow]; rfl
    rw [e, e]; omega
  have h2 : (256 : Int) ^ 8 = 18446744073709551616 := by decide
  omega
theorem shr_zero (x : Int) (n : Nat) (h0 : 0 ≤ x) (hn : n < 8) : (shr .u64 x (8 * (n : Int)) == 0) = decide (x < 256 ^ n) := by
  rw [shr_u64 x n (by omega)]
  have hp : (0 : Int) < 256 ^ n := Int.pow_pos (by omega)
  rw [Bool.eq_iff_iff, beq_iff_eq, decide_eq_true_iff]
  constructor
  · intro h
    have h1 := Int.mul_ediv_add_emod x (256 ^ n)
    have h2 := Int.emod_lt_of_pos x hp
    rw [h, Int.mul_zero] at h1
    omega
  · intro h
    exact Int.ediv_eq_zero_of_lt h0 h
theorem fits_is (x n : Int) (h0 : 0 ≤ x) (hx : x < 18446744073709551616) (hn : 0 ≤ n) : class_fits.f x n = some (decide (x < 256 ^ n.toNat)) := by
  obtain ⟨m, rfl⟩ := Int.eq_ofNat_of_zero_le hn
  unfold class_fits.f
  by_cases h8 : (m : Int) ≥ 8
  · rw [if_pos h8, Int.toNat_natCast, decide_eq_true (pow8 x m h0 hx (by omega))]
  · rw [if_neg h8, wrap64_id (by omega) (by omega), if_pos (by omega), shr_zero x m h0 (by omega), Int.toNat_natCast]
/-- All numbers are whole numbers of 64 bits. -/
def U64 (l : List Int) : Prop := ∀ x ∈ l, 0 ≤ x ∧ x < 18446744073709551616
theorem U64.of_wf {l : List Int} (h : ∀ x ∈ l, (Lit.int .u64 x).wf = true) : U64 l := fun x hx => wf_u64 (h x hx)
theorem U64.take {l : List Int} (h : U64 l) (n : Nat) : U64 (l.take n) := fun x hx => h x (List.mem_of_mem_take hx)
theorem put_app (big : Bool) (s : ByteArray) (x n : Int) : (s ++ putS big x n).data.toList = s.data.toList ++ putL big x n := by
  rw [append_data, putS_list]
theorem fields_loop (big : Bool) (A L : List Int) (hA : A.length < 17592186044416) (hu : U64 L) (hl : A.length = L.length) : ∀ (ra rl pa pl : List Int), A = pa ++ ra → L = pl ++ rl → pa.length = pl.length → ∀ (s : ByteArray), s.size ≤ 8 * pa.length →
    Ev (fun k => order_Order_Fields.l0 k big A L s (pa.length : Int)) ⟨(s.data.toList ++ flat big ra rl).toArray⟩ := by
  intro ra
  induction ra with
  | nil =>
    intro rl pa pl h h2 hp s hs
    have hrl : rl = [] := by
      have e1 := congrArg List.length h
      have e2 := congrArg List.length h2
      simp at e1 e2
      exact List.eq_nil_of_length_eq_zero (by omega)
    refine Ev.step (fun k => order_Order_Fields.l0.eq_2 _ _ _ _ _ _) (ev_neg (by rw [mn_eq, h, h2]; simp; omega) (ev_now ?_))
    apply ba_ext
    rw [mk_list, hrl]
    simp [flat]
  | cons n ra ih =>
    intro rl pa pl h h2 hp s hs
    cases rl with
    | nil =>
      have e1 := congrArg List.length h
      have e2 := congrArg List.length h2
      simp at e1 e2
      omega
    | cons x rl =>
      have hx := hu x (by rw [h2]; simp)
      have hlenA : pa.length < A.length := by rw [h]; simp
      have hlenL : pa.length < L.length := by omega
      refine Ev.step (fun k => order_Order_Fields.l0.eq_2 _ _ _ _ _ _) (ev_pos (by rw [mn_eq]; omega) ?_)
      have e1 : rd A (pa.length : Int) = n := by rw [h]; exact rd_at pa n ra
      have e2 : rd L (pa.length : Int) = x := by rw [hp, h2]; exact rd_at pl x rl
      rw [e1, e2]
      refine Ev.bind (put_ev big x n hx.1) ?_
      have hsz := putS_size_le big x n
      refine ev_pos (by omega) ?_
      have := ih rl (pa ++ [n]) (pl ++ [x]) (by rw [h]; simp) (by rw [h2]; simp) (by simp [hp]) (s ++ putS big x n) (by rw [ByteArray.size_append]; simp; omega)
      have e3 : (((pa ++ [n]).length : Nat) : Int) = (pa.length : Int) + 1 := by simp
      rw [e3, put_app] at this
      have e4 : flat big (n :: ra) (x :: rl) = putL big x n ++ flat big ra rl := by simp [flat]
      rw [e4, ← List.append_assoc]
      exact this
theorem fields_ev (big : Bool) (A L : List Int) (hA : A.length < 17592186044416) (hu : U64 L) (hl : A.length = L.length) : Ev (fun k => order_Order_Fields.f k big A L) ⟨(flat big A L).toArray⟩ := by
  refine Ev.congr (fun k => order_Order_Fields.f.eq_1 k big A L) ?_
  have := fields_loop big A L hA hu hl A L [] [] rfl rfl rfl ⟨#[]⟩ (by simp [ByteArray.size])
  simpa using this
/-- The sizes of a record, none of them 0. -/
def NZ (A : List Int) : Prop := ∀ n ∈ A, n ≠ 0
theorem full_nz (w : Bool) (l : List Int) : NZ (full w l) := by
  intro n hn
  unfold full at hn
  obtain ⟨m, _, rfl⟩ := List.mem_map.1 hn
  split
  · unfold word; split <;> decide
  · assumption
theorem record_loop (big w : Bool) (A L : List Int) (hA : A.length < 17592186044416) (hu : U64 L) (hnz : NZ A) (hl : A.length = L.length) : ∀ (ra rl pa pl : List Int), A = pa ++ ra → L = pl ++ rl → pa.length = pl.length →
    Ev (fun k => class_Form_Record.l0 k L A A (A.length : Int) (pa.length : Int) big w) (if allF ra rl = true then (⟨(flat big A L).toArray⟩, true) else (⟨#[]⟩, false)) := by
  intro ra
  induction ra with
  | nil =>
    intro rl pa pl h h2 hp
    refine Ev.step (fun k => class_Form_Record.l0.eq_2 _ _ _ _ _ _ _ _) (ev_neg (by rw [h]; simp) ?_)
    refine Ev.bind (fields_ev big A L hA hu hl) (ev_now ?_)
    simp [allF]
  | cons n ra ih =>
    intro rl pa pl h h2 hp
    cases rl with
    | nil =>
      have e1 := congrArg List.length h
      have e2 := congrArg List.length h2
      simp at e1 e2
      omega
    | cons x rl =>
      have hx := hu x (by rw [h2]; simp)
      have hn0 := hnz n (by rw [h]; simp)
      have hlenA : pa.length < A.length := by rw [h]; simp
      have e1 : rd A (pa.length : Int) = n := by rw [h]; exact rd_at pa n ra
      have e2 : rd L (pa.length : Int) = x := by rw [hp, h2]; exact rd_at pl x rl
      have e4 : allF (n :: ra) (x :: rl) = (okF x n && allF ra rl) := by simp [allF]
      refine Ev.step (fun k => class_Form_Record.l0.eq_2 _ _ _ _ _ _ _ _) (ev_pos (by omega) (ev_pos (by omega) (ev_pos (by omega) ?_)))
      rw [e1, e4]
      by_cases hneg : n < 0
      · have : okF x n = false := by unfold okF; rw [decide_eq_false (by omega)]; rfl
        rw [this]
        exact ev_pos hneg (ev_now (by simp))
      · refine ev_neg hneg ?_
        by_cases h8 : n > 8
        · have : okF x n = false := by unfold okF; rw [decide_eq_false (show ¬ n ≤ 8 by omega)]; simp
          rw [this]
          exact ev_pos h8 (ev_now (by simp))
        · refine ev_neg h8 (ev_pos (by omega) ?_)
          rw [e2]
          refine ev_const (fits_is x n hx.1 hx.2 (by omega)) ?_
          have hok : okF x n = decide (x < 256 ^ n.toNat) := by
            unfold okF
            rw [decide_eq_true (show 1 ≤ n by omega), decide_eq_true (show n ≤ 8 by omega)]
            simp
          rw [hok]
          by_cases hf : x < 256 ^ n.toNat
          · rw [decide_eq_true hf]
            refine ev_pos rfl ?_
            have := ih rl (pa ++ [n]) (pl ++ [x]) (by rw [h]; simp) (by rw [h2]; simp) (by simp [hp])
            rw [step_at pa n (by omega)]
            simpa using this
          · rw [decide_eq_false hf]
            exact ev_neg (by decide) (ev_now (by simp))
theorem record_ev (big w : Bool) (sizes l : List Int) (hA : sizes.length < 17592186044416) (hu : U64 l) : Ev (fun k => class_Form_Record.f k big w sizes l) (recR big w sizes l) := by
  refine Ev.congr (fun k => class_Form_Record.f.eq_1 k big w sizes l) ?_
  unfold recR
  by_cases hl : sizes.length = l.length
  · rw [if_pos hl]
    refine ev_pos (by omega) (Ev.bind (sizes_ev big w sizes hA) ?_)
    exact record_loop big w (full w sizes) l (by rw [full_length]; exact hA) hu (full_nz w sizes) (by rw [full_length]; exact hl) (full w sizes) l [] [] rfl rfl rfl
  · rw [if_neg hl]
    exact ev_neg (by omega) (Ev.now _)
theorem okF_get (big : Bool) (x n : Int) (h0 : 0 ≤ x) (h1 : 1 ≤ n) (h8 : n ≤ 8) : (getL big (putL big x n) = x) ↔ okF x n = true := by
  rw [getL_putL big x n h1 h8 h0]
  unfold okF
  rw [decide_eq_true h1, decide_eq_true h8]
  simp only [Bool.true_and, decide_eq_true_iff]
  have hp : (0 : Int) < 256 ^ n.toNat := Int.pow_pos (by omega)
  constructor
  · intro h
    have := Int.emod_lt_of_pos x hp
    omega
  · intro h
    exact Int.emod_eq_of_lt h0 h
theorem formFits_loop (b w : Bool) (L : List Int) (hL : L.length < 17592186044416) (hu : U64 L) : ∀ (rest pre : List Int), L = pre ++ rest →
    Ev (fun k => class_Form_Fits.l0 k L (L.length : Int) (pre.length : Int) b w) (rest.all fun x => decide (x < 256 ^ (word w).toNat)) := by
  intro rest
  induction rest with
  | nil =>
    intro pre h
    exact Ev.step (fun k => class_Form_Fits.l0.eq_2 _ _ _ _ _ _) (ev_neg (by rw [h]; simp) (ev_now (by simp)))
  | cons x rest ih =>
    intro pre h
    have hx := hu x (by rw [h]; simp)
    have hlen : pre.length < L.length := by rw [h]; simp
    have e1 : rd L (pre.length : Int) = x := by rw [h]; exact rd_at pre x rest
    refine Ev.step (fun k => class_Form_Fits.l0.eq_2 _ _ _ _ _ _) (ev_pos (by omega) (ev_pos (by omega) (ev_pos (by omega) (ev_const (word_is b w) ?_))))
    rw [e1]
    refine ev_const (fits_is x (word w) hx.1 hx.2 (by unfold word; split <;> decide)) ?_
    rw [List.all_cons]
    by_cases hf : x < 256 ^ (word w).toNat
    · rw [decide_eq_true hf, Bool.true_and]
      refine ev_pos rfl ?_
      have := ih (pre ++ [x]) (by rw [h]; simp)
      rw [step_at pre x (by omega)]
      exact this
    · rw [decide_eq_false hf, Bool.false_and]
      exact ev_neg (by decide) (Ev.now _)
theorem formFits_ev (b w : Bool) (l : List Int) (hl : l.length < 17592186044416) (hu : U64 l) : Ev (fun k => class_Form_Fits.f k b w l) (l.all fun x => decide (x < 256 ^ (word w).toNat)) :=
  Ev.congr (fun k => class_Form_Fits.f.eq_1 k b w l) (formFits_loop b w l hl hu l [] rfl)
theorem flat_length (big : Bool) : ∀ (A L : List Int), allF A L = true → A.length = L.length → (((flat big A L).length : Nat) : Int) = A.sum
  | [], L, _, h => by
    have : L = [] := List.eq_nil_of_length_eq_zero (by simpa using h.symm)
    simp [flat]
  | n :: A, [], _, h => by simp at h
  | n :: A, x :: L, ha, h => by
    have e4 : allF (n :: A) (x :: L) = (okF x n && allF A L) := by simp [allF]
    rw [e4, Bool.and_eq_true] at ha
    have e5 : flat big (n :: A) (x :: L) = putL big x n ++ flat big A L := by simp [flat]
    have hok := ha.1
    unfold okF at hok
    simp only [Bool.and_eq_true, decide_eq_true_iff] at hok
    have hlen := putL_length big x n
    rw [if_pos hok.1] at hlen
    have ih := flat_length big A L ha.2 (by simpa using h)
    rw [e5, List.length_append, List.sum_cons, hlen]
    omega
theorem sumW_is : ∀ (l : List Int) (s : Int), -1000 ≤ s → (∀ x ∈ l, 0 ≤ x ∧ x ≤ 8) → s + 8 * l.length ≤ 9223372036854775000 → sumW s l = s + l.sum
  | [], s, _, _, _ => by simp [sumW]
  | x :: l, s, hs, h, hb => by
    have hx := h x (by simp)
    simp only [List.length_cons] at hb
    have e : sumW s (x :: l) = sumW (wrap64 (s + x)) l := rfl
    rw [e, wrap64_id (by omega) (by omega), sumW_is l (s + x) (by omega) (fun y hy => h y (by simp [hy])) (by omega), List.sum_cons]
    omega
theorem allF_range : ∀ (A L : List Int), allF A L = true → A.length = L.length → ∀ x ∈ A, 0 ≤ x ∧ x ≤ 8
  | [], L, _, _ => by simp
  | n :: A, [], _, h => by simp at h
  | n :: A, x :: L, ha, h => by
    have e4 : allF (n :: A) (x :: L) = (okF x n && allF A L) := by simp [allF]
    rw [e4, Bool.and_eq_true] at ha
    have hok := ha.1
    unfold okF at hok
    simp only [Bool.and_eq_true, decide_eq_true_iff] at hok
    have ih := allF_range A L ha.2 (by simpa using h)
    intro y hy
    rcases List.mem_cons.1 hy with rfl | hy
    · omega
    · exact ih y hy
end Go.Proofs.YteoeohkjomehoaaDoor.Q
end
section
namespace Go.Proofs.YteoeohkjomehoaaDoor.Q
open Go.RowKit Go.Proofs.YteoeohkjomehoaaDoorW.PrintWords Go.Proofs.YteoeohkjomehoaaDoorW.PrintMore Go.Proofs.YteoeohkjomehoaaDoor.Mth
set_option linter.unusedVariables false
set_option linter.unusedSimpArgs false

/-- So many bytes from a place on, as a number. -/
def numAt (big : Bool) (l : List UInt8) (at_ n : Nat) : Int := getL big ((l.drop at_).take n)
theorem next_ev (big : Bool) (s : ByteArray) (at_ n : Nat) (h1 : 1 ≤ n) (h8 : n ≤ 8) (h : at_ + n ≤ s.size) (hs : s.size ≤ 140737488351300) : Ev (fun k => order_Reader_Next.f k big s (at_ : Int) false (n : Int)) (numAt big s.data.toList at_ n, big, s, ((at_ + n : Nat) : Int), false) := by
  refine Ev.congr (fun k => order_Reader_Next.f.eq_1 k _ _ _ _ _) ?_
  refine ev_neg (by omega) (ev_neg (by omega) ?_)
  have hb : order_Reader_Bytes.f big s (at_ : Int) false (IntKind.u64.wrap (n : Int)) = some (s.extract at_ (at_ + n), big, s, ((at_ + n : Nat) : Int), false) := by
    unfold order_Reader_Bytes.f
    rw [if_neg (by decide), wrapu_id (n := (n : Int)) (by omega) (by omega), wrapu_id (n := (s.size : Int)) (by omega) (by omega), if_neg (by omega), wrapu_id (n := (s.size : Int) - (at_ : Int)) (by omega) (by omega), if_neg (by omega), if_pos (by omega), wrapu_id (by omega) (by omega), if_pos (by omega), if_pos (by omega)]
    simp only [Int.toNat_natCast]
    rw [show ((at_ : Int) + (n : Int)).toNat = at_ + n by omega]
    rfl
  refine ev_const hb (Ev.bind (get_ev big _) (ev_now ?_))
  have : getS big (s.extract at_ (at_ + n)) = numAt big s.data.toList at_ n := by
    unfold getS numAt
    rw [extract_data, Nat.add_sub_cancel_left]
  rw [this]
theorem numAt_range (big : Bool) (l : List UInt8) (at_ n : Nat) : 0 ≤ numAt big l at_ n ∧ numAt big l at_ n < 18446744073709551616 := getL_range big _
theorem numAt_lt (big : Bool) (l : List UInt8) (at_ n : Nat) (h8 : n ≤ 8) (h : at_ + n ≤ l.length) : numAt big l at_ n < 256 ^ n := by
  have hl : ((l.drop at_).take n).length = n := by rw [List.length_take, List.length_drop]; omega
  have := getL_lt big ((l.drop at_).take n) (by omega)
  rw [hl] at this
  exact this
theorem put_numAt (big : Bool) (l : List UInt8) (at_ n : Nat) (h1 : 1 ≤ n) (h8 : n ≤ 8) (h : at_ + n ≤ l.length) : putL big (numAt big l at_ n) (n : Int) = (l.drop at_).take n := by
  have hl : ((l.drop at_).take n).length = n := by rw [List.length_take, List.length_drop]; omega
  have := putL_getL big ((l.drop at_).take n) (by omega) (by omega)
  rw [hl] at this
  exact this
theorem numAt_app (big : Bool) (pre l rest : List UInt8) (n : Nat) (h : l.length = n) : numAt big (pre ++ (l ++ rest)) pre.length n = getL big l := by
  unfold numAt
  rw [List.drop_left, List.take_left' h]
end Go.Proofs.YteoeohkjomehoaaDoor.Q
end
section
namespace Go.Proofs.YteoeohkjomehoaaDoor.Q
open Go.RowKit Go.Proofs.YteoeohkjomehoaaDoorW.PrintWords Go.Proofs.YteoeohkjomehoaaDoorW.PrintMore Go.Proofs.YteoeohkjomehoaaDoor.Mth
set_option linter.unusedVariables false
set_option linter.unusedSimpArgs false

/-- Numbers of so many bytes each, one behind the other. -/
def nums (big : Bool) : List Int → List UInt8 → List Int
  | [], _ => []
  | n :: A, l => getL big (l.take n.toNat) :: nums big A (l.drop n.toNat)
theorem nums_length (big : Bool) : ∀ (A : List Int) (l : List UInt8), (nums big A l).length = A.length
  | [], _ => rfl
  | n :: A, l => by rw [nums, List.length_cons, List.length_cons, nums_length big A]
theorem nums_u64 (big : Bool) : ∀ (A : List Int) (l : List UInt8), U64 (nums big A l)
  | [], _ => by intro x hx; simp [nums] at hx
  | n :: A, l => by
    intro x hx
    rw [nums] at hx
    rcases List.mem_cons.1 hx with rfl | hx
    · exact getL_range big _
    · exact nums_u64 big A _ x hx
def In8 (A : List Int) : Prop := ∀ n ∈ A, 1 ≤ n ∧ n ≤ 8
theorem In8.sum_ge {A : List Int} (h : In8 A) : 0 ≤ A.sum := by
  induction A with
  | nil => simp
  | cons n A ih =>
    have := h n (by simp)
    have := ih (fun x hx => h x (by simp [hx]))
    rw [List.sum_cons]
    omega
theorem nums_flat (big : Bool) : ∀ (A L : List Int) (more : List UInt8), In8 A → U64 L → A.length = L.length → allF A L = true → nums big A (flat big A L ++ more) = L
  | [], L, _, _, _, h, _ => by
    have : L = [] := List.eq_nil_of_length_eq_zero (by simpa using h.symm)
    rw [this]; rfl
  | n :: A, [], _, _, _, h, _ => by simp at h
  | n :: A, x :: L, more, h8, hu, h, ha => by
    have e4 : allF (n :: A) (x :: L) = (okF x n && allF A L) := by simp [allF]
    rw [e4, Bool.and_eq_true] at ha
    have e5 : flat big (n :: A) (x :: L) = putL big x n ++ flat big A L := by simp [flat]
    have hn := h8 n (by simp)
    have hx := hu x (by simp)
    have hlen := putL_length big x n
    rw [if_pos hn] at hlen
    have hfit : x < 256 ^ n.toNat := by
      have := ha.1
      unfold okF at this
      simp only [Bool.and_eq_true, decide_eq_true_iff] at this
      exact this.2
    rw [e5, nums, List.append_assoc, ← hlen, List.take_left, List.drop_left, getL_putL_fit big x n hn.1 hn.2 hx.1 hfit]
    rw [nums_flat big A L more (fun y hy => h8 y (by simp [hy])) (fun y hy => hu y (by simp [hy])) (by simpa using h) ha.2]
theorem flat_nums (big : Bool) : ∀ (A : List Int) (l : List UInt8), In8 A → A.sum ≤ (l.length : Int) → allF A (nums big A l) = true ∧ flat big A (nums big A l) = l.take A.sum.toNat
  | [], l, _, _ => ⟨rfl, by simp [flat, nums]⟩
  | n :: A, l, h8, h => by
    have hn := h8 n (by simp)
    have h8' : In8 A := fun y hy => h8 y (by simp [hy])
    have hs := h8'.sum_ge
    rw [List.sum_cons] at h ⊢
    have hlen : (l.take n.toNat).length = n.toNat := by rw [List.length_take]; omega
    have ih := flat_nums big A (l.drop n.toNat) h8' (by rw [List.length_drop]; omega)
    have hp : putL big (getL big (l.take n.toNat)) n = l.take n.toNat := by
      have := putL_getL big (l.take n.toNat) (by omega) (by omega)
      rw [hlen] at this
      rwa [Int.toNat_of_nonneg (by omega)] at this
    constructor
    · have e4 : allF (n :: A) (nums big (n :: A) l) = (okF (getL big (l.take n.toNat)) n && allF A (nums big A (l.drop n.toNat))) := by simp [allF, nums]
      rw [e4, ih.1, Bool.and_true]
      have := getL_lt big (l.take n.toNat) (by omega)
      rw [hlen] at this
      unfold okF
      simp only [Bool.and_eq_true, decide_eq_true_iff]
      exact ⟨hn, this⟩
    · have e5 : flat big (n :: A) (nums big (n :: A) l) = putL big (getL big (l.take n.toNat)) n ++ flat big A (nums big A (l.drop n.toNat)) := by simp [flat, nums]
      rw [e5, hp, ih.2, show (n + A.sum).toNat = n.toNat + A.sum.toNat by omega, List.take_add]
theorem fold_app (s : ByteArray) (n : Nat) : (s.extract 0 n).data.toList = s.data.toList.take n := by
  rw [extract_data]
  simp

end Go.Proofs.YteoeohkjomehoaaDoor.Q
end
section
namespace Go.Proofs.YteoeohkjomehoaaDoor.Q
open Go.RowKit Go.Proofs.YteoeohkjomehoaaDoor.Q Go.Proofs.YteoeohkjomehoaaDoorW.PrintWords Go.Proofs.YteoeohkjomehoaaDoorW.PrintLast Go.Proofs.YteoeohkjomehoaaDoorW.PrintMore Go.Proofs.YteoeohkjomehoaaDoor.Mth
set_option linter.unusedVariables false
set_option linter.unusedSimpArgs false


def ehdr_total (w : Bool) : Int := if w = true then 48 else 36
theorem ehdr_len (w : Bool) : tab_ehdr_sizes.length = 13 := by cases w <;> rfl
theorem ehdr_sumW (w : Bool) : sumW 0 (full w tab_ehdr_sizes) = ehdr_total w := by cases w <;> decide +kernel
theorem ehdr_sum (w : Bool) : (full w tab_ehdr_sizes).sum = ehdr_total w := by cases w <;> decide +kernel
theorem ehdr_in8 (w : Bool) : In8 (full w tab_ehdr_sizes) := by unfold In8; cases w <;> decide +kernel
theorem ehdr_full (w : Bool) : full w (full w tab_ehdr_sizes) = full w tab_ehdr_sizes := by cases w <;> decide +kernel
theorem ehdr_tot (w : Bool) : 0 < ehdr_total w ∧ ehdr_total w ≤ 200 := by cases w <;> decide +kernel
theorem ehdr_shape_ev (b w : Bool) : Ev (fun k => ehdr_Head_shape.f k b w) (full w tab_ehdr_sizes, ehdr_total w) := by
  have h := sizes_ev b w tab_ehdr_sizes (by rw [ehdr_len w]; decide)
  rw [ehdr_sumW] at h
  exact h
theorem ehdr_size_ev (b w : Bool) : Ev (fun k => ehdr_Size.f k b w) (ehdr_total w) := Ev.congr (fun k => ehdr_Size.f.eq_1 k b w) (Ev.bind (ehdr_shape_ev b w) (Ev.now _))
theorem ehdr_valen (w : Bool) (f0 f1 f2 f3 f4 f5 f6 f7 f8 f9 f10 f11 f12 : Int) : (ehdr_Put.vals w f0 f1 f2 f3 f4 f5 f6 f7 f8 f9 f10 f11 f12).length = 13 := by cases w <;> rfl
theorem ehdr_rec (b w : Bool) (f0 f1 f2 f3 f4 f5 f6 f7 f8 f9 f10 f11 f12 : Int) : (recR b w tab_ehdr_sizes (ehdr_Put.vals w f0 f1 f2 f3 f4 f5 f6 f7 f8 f9 f10 f11 f12) = (⟨(flat b (full w tab_ehdr_sizes) (ehdr_Put.vals w f0 f1 f2 f3 f4 f5 f6 f7 f8 f9 f10 f11 f12)).toArray⟩, true) ∧ allF (full w tab_ehdr_sizes) (ehdr_Put.vals w f0 f1 f2 f3 f4 f5 f6 f7 f8 f9 f10 f11 f12) = true) ∨ recR b w tab_ehdr_sizes (ehdr_Put.vals w f0 f1 f2 f3 f4 f5 f6 f7 f8 f9 f10 f11 f12) = (⟨#[]⟩, false) := by
  unfold recR
  rw [if_pos (by rw [ehdr_len w, ehdr_valen])]
  by_cases h : allF (full w tab_ehdr_sizes) (ehdr_Put.vals w f0 f1 f2 f3 f4 f5 f6 f7 f8 f9 f10 f11 f12) = true
  · rw [if_pos h]; exact .inl ⟨rfl, h⟩
  · rw [if_neg h]; exact .inr rfl
theorem ehdr_recfull (b w : Bool) (f0 f1 f2 f3 f4 f5 f6 f7 f8 f9 f10 f11 f12 : Int) : recR b w (full w tab_ehdr_sizes) (ehdr_Put.vals w f0 f1 f2 f3 f4 f5 f6 f7 f8 f9 f10 f11 f12) = recR b w tab_ehdr_sizes (ehdr_Put.vals w f0 f1 f2 f3 f4 f5 f6 f7 f8 f9 f10 f11 f12) := by
  unfold recR
  rw [full_length, ehdr_full]
theorem ehdr_put_ev (b w : Bool) (f0 f1 f2 f3 f4 f5 f6 f7 f8 f9 f10 f11 f12 : Int) (hu : U64 (ehdr_Put.vals w f0 f1 f2 f3 f4 f5 f6 f7 f8 f9 f10 f11 f12)) : Ev (fun k => ehdr_Put.f k b w f0 f1 f2 f3 f4 f5 f6 f7 f8 f9 f10 f11 f12) (recR b w tab_ehdr_sizes (ehdr_Put.vals w f0 f1 f2 f3 f4 f5 f6 f7 f8 f9 f10 f11 f12)) := by
  refine Ev.congr (fun k => ehdr_Put.f.eq_1 k b w f0 f1 f2 f3 f4 f5 f6 f7 f8 f9 f10 f11 f12) (Ev.bind (ehdr_shape_ev b w) ?_)
  rw [← ehdr_recfull]
  exact record_ev b w _ _ (by rw [full_length, ehdr_len w]; decide) hu
def ehdr_setG (p : List Nat) : Nat → List Int → List Int → List Int
  | _, [], m => m
  | i, x :: xs, m => ehdr_setG p (i + 1) xs (m.set (p.getD i 0) x)
theorem ehdr_go_ev (b w : Bool) (s : ByteArray) (hs : s.size ≤ 140737488351300) (A : List Int) (h8 : In8 A) : ∀ (ra pa : List Int), A = pa ++ ra → ∀ (at_ : Nat), (at_ : Int) + ra.sum ≤ s.size → ∀ m : List Int,
    Ev (fun k => ehdr_Read.go k w A ra.length pa.length b s (at_ : Int) false m) (ehdr_setG (ehdr_Read.perm w) pa.length (nums b ra (s.data.toList.drop at_)) m) := by
  intro ra
  induction ra with
  | nil =>
    intro pa h at_ hat m
    exact Ev.congr (fun k => rfl) (Ev.now m)
  | cons n ra ih =>
    intro pa h at_ hat m
    have hn := h8 n (by rw [h]; simp)
    have h8r : In8 ra := fun y hy => h8 y (by rw [h]; simp [hy])
    have hsr := h8r.sum_ge
    rw [List.sum_cons] at hat
    have hlen : pa.length < A.length := by rw [h]; simp
    have e1 : rd A (pa.length : Int) = ((n.toNat : Nat) : Int) := by rw [Int.toNat_of_nonneg (by omega), h]; exact rd_at pa n ra
    have ih1 := ih (pa ++ [n]) (by rw [h]; simp) (at_ + n.toNat) (by omega) (m.set ((ehdr_Read.perm w).getD pa.length 0) (numAt b s.data.toList at_ n.toNat))
    rw [List.length_append, List.length_singleton] at ih1
    refine Ev.congr (fun k => ehdr_Read.go.eq_2 k w A pa.length b s _ false m ra.length) (ev_pos hlen ?_)
    rw [e1]
    refine Ev.bind (next_ev b s at_ n.toNat (by omega) (by omega) (by omega) hs) ?_
    rw [nums, ehdr_setG, List.drop_drop]
    exact ih1
theorem ehdr_read_short (b w : Bool) (s : ByteArray) (h : (s.size : Int) < ehdr_total w) : Ev (fun k => ehdr_Read.f k b w s) (0, 0, 0, 0, 0, 0, 0, 0, 0, 0, 0, 0, 0, false) :=
  Ev.congr (fun k => ehdr_Read.f.eq_1 k b w s) (Ev.bind (ehdr_shape_ev b w) (ev_pos h (Ev.now _)))
theorem ehdr_read_long (b w : Bool) (s : ByteArray) (hs : s.size ≤ 140737488351300) (h : ehdr_total w ≤ (s.size : Int)) : ∃ f0 f1 f2 f3 f4 f5 f6 f7 f8 f9 f10 f11 f12 : Int, Ev (fun k => ehdr_Read.f k b w s) (f0, f1, f2, f3, f4, f5, f6, f7, f8, f9, f10, f11, f12, true) ∧ (ehdr_Put.vals w f0 f1 f2 f3 f4 f5 f6 f7 f8 f9 f10 f11 f12) = nums b (full w tab_ehdr_sizes) s.data.toList := by
  have hg := ehdr_go_ev b w s hs (full w tab_ehdr_sizes) (ehdr_in8 w) (full w tab_ehdr_sizes) [] rfl 0 (by rw [ehdr_sum]; simpa using h) (List.replicate 13 0)
  have hl := nums_length b (full w tab_ehdr_sizes) s.data.toList
  rw [full_length, ehdr_len w] at hl
  rw [List.drop_zero, full_length, ehdr_len w] at hg
  obtain ⟨y0, y1, y2, y3, y4, y5, y6, y7, y8, y9, y10, y11, y12, hy⟩ : ∃ y0 y1 y2 y3 y4 y5 y6 y7 y8 y9 y10 y11 y12, nums b (full w tab_ehdr_sizes) s.data.toList = [y0, y1, y2, y3, y4, y5, y6, y7, y8, y9, y10, y11, y12] := by
    revert hl
    generalize nums b (full w tab_ehdr_sizes) s.data.toList = l
    intro hl
    match l, hl with
    | [y0, y1, y2, y3, y4, y5, y6, y7, y8, y9, y10, y11, y12], _ => exact ⟨_, _, _, _, _, _, _, _, _, _, _, _, _, rfl⟩
  rw [hy] at hg ⊢
  cases w
  · rw [show ehdr_setG (ehdr_Read.perm false) ([] : List Int).length [y0, y1, y2, y3, y4, y5, y6, y7, y8, y9, y10, y11, y12] (List.replicate 13 0) = [y0, y1, y2, y3, y4, y5, y6, y7, y8, y9, y10, y11, y12] from rfl] at hg
    exact ⟨y0, y1, y2, y3, y4, y5, y6, y7, y8, y9, y10, y11, y12, Ev.congr (fun k => ehdr_Read.f.eq_1 k b false s) (Ev.bind (ehdr_shape_ev b false) (ev_neg (by omega) (ev_const (order_Order_Read.f.eq_1 b s 0) (Ev.bind hg (ev_now rfl))))), rfl⟩
  · rw [show ehdr_setG (ehdr_Read.perm true) ([] : List Int).length [y0, y1, y2, y3, y4, y5, y6, y7, y8, y9, y10, y11, y12] (List.replicate 13 0) = [y0, y1, y2, y3, y4, y5, y6, y7, y8, y9, y10, y11, y12] from rfl] at hg
    exact ⟨y0, y1, y2, y3, y4, y5, y6, y7, y8, y9, y10, y11, y12, Ev.congr (fun k => ehdr_Read.f.eq_1 k b true s) (Ev.bind (ehdr_shape_ev b true) (ev_neg (by omega) (ev_const (order_Order_Read.f.eq_1 b s 0) (Ev.bind hg (ev_now rfl))))), rfl⟩
theorem ehdr_inj (w : Bool) (f0 f1 f2 f3 f4 f5 f6 f7 f8 f9 f10 f11 f12 g0 g1 g2 g3 g4 g5 g6 g7 g8 g9 g10 g11 g12 : Int) (h : ehdr_Put.vals w f0 f1 f2 f3 f4 f5 f6 f7 f8 f9 f10 f11 f12 = ehdr_Put.vals w g0 g1 g2 g3 g4 g5 g6 g7 g8 g9 g10 g11 g12) : f0 = g0 ∧ f1 = g1 ∧ f2 = g2 ∧ f3 = g3 ∧ f4 = g4 ∧ f5 = g5 ∧ f6 = g6 ∧ f7 = g7 ∧ f8 = g8 ∧ f9 = g9 ∧ f10 = g10 ∧ f11 = g11 ∧ f12 = g12 := by
  cases w
  all_goals
    simp only [ehdr_Put.vals, List.cons.injEq, if_true, if_false, Bool.false_eq_true] at h
    simp only [h, and_self]

end Go.Proofs.YteoeohkjomehoaaDoor.Q
end
section
namespace Go.Proofs.YteoeohkjomehoaaDoor.Q
open Go.RowKit Go.Proofs.YteoeohkjomehoaaDoor.Q Go.Proofs.YteoeohkjomehoaaDoorW.PrintWords Go.Proofs.YteoeohkjomehoaaDoorW.PrintLast Go.Proofs.YteoeohkjomehoaaDoorW.PrintMore Go.Proofs.YteoeohkjomehoaaDoor.Mth
set_option linter.unusedVariables false
set_option linter.unusedSimpArgs false


def shdr_total (w : Bool) : Int := if w = true then 64 else 40
theorem shdr_len (w : Bool) : tab_shdr_sizes.length = 10 := by cases w <;> rfl
theorem shdr_sumW (w : Bool) : sumW 0 (full w tab_shdr_sizes) = shdr_total w := by cases w <;> decide +kernel
theorem shdr_sum (w : Bool) : (full w tab_shdr_sizes).sum = shdr_total w := by cases w <;> decide +kernel
theorem shdr_in8 (w : Bool) : In8 (full w tab_shdr_sizes) := by unfold In8; cases w <;> decide +kernel
theorem shdr_full (w : Bool) : full w (full w tab_shdr_sizes) = full w tab_shdr_sizes := by cases w <;> decide +kernel
theorem shdr_tot (w : Bool) : 0 < shdr_total w ∧ shdr_total w ≤ 200 := by cases w <;> decide +kernel
theorem shdr_shape_ev (b w : Bool) : Ev (fun k => shdr_Section_shape.f k b w) (full w tab_shdr_sizes, shdr_total w) := by
  have h := sizes_ev b w tab_shdr_sizes (by rw [shdr_len w]; decide)
  rw [shdr_sumW] at h
  exact h
theorem shdr_size_ev (b w : Bool) : Ev (fun k => shdr_Size.f k b w) (shdr_total w) := Ev.congr (fun k => shdr_Size.f.eq_1 k b w) (Ev.bind (shdr_shape_ev b w) (Ev.now _))
theorem shdr_valen (w : Bool) (f0 f1 f2 f3 f4 f5 f6 f7 f8 f9 : Int) : (shdr_Put.vals w f0 f1 f2 f3 f4 f5 f6 f7 f8 f9).length = 10 := by cases w <;> rfl
theorem shdr_rec (b w : Bool) (f0 f1 f2 f3 f4 f5 f6 f7 f8 f9 : Int) : (recR b w tab_shdr_sizes (shdr_Put.vals w f0 f1 f2 f3 f4 f5 f6 f7 f8 f9) = (⟨(flat b (full w tab_shdr_sizes) (shdr_Put.vals w f0 f1 f2 f3 f4 f5 f6 f7 f8 f9)).toArray⟩, true) ∧ allF (full w tab_shdr_sizes) (shdr_Put.vals w f0 f1 f2 f3 f4 f5 f6 f7 f8 f9) = true) ∨ recR b w tab_shdr_sizes (shdr_Put.vals w f0 f1 f2 f3 f4 f5 f6 f7 f8 f9) = (⟨#[]⟩, false) := by
  unfold recR
  rw [if_pos (by rw [shdr_len w, shdr_valen])]
  by_cases h : allF (full w tab_shdr_sizes) (shdr_Put.vals w f0 f1 f2 f3 f4 f5 f6 f7 f8 f9) = true
  · rw [if_pos h]; exact .inl ⟨rfl, h⟩
  · rw [if_neg h]; exact .inr rfl
theorem shdr_recfull (b w : Bool) (f0 f1 f2 f3 f4 f5 f6 f7 f8 f9 : Int) : recR b w (full w tab_shdr_sizes) (shdr_Put.vals w f0 f1 f2 f3 f4 f5 f6 f7 f8 f9) = recR b w tab_shdr_sizes (shdr_Put.vals w f0 f1 f2 f3 f4 f5 f6 f7 f8 f9) := by
  unfold recR
  rw [full_length, shdr_full]
theorem shdr_put_ev (b w : Bool) (f0 f1 f2 f3 f4 f5 f6 f7 f8 f9 : Int) (hu : U64 (shdr_Put.vals w f0 f1 f2 f3 f4 f5 f6 f7 f8 f9)) : Ev (fun k => shdr_Put.f k b w f0 f1 f2 f3 f4 f5 f6 f7 f8 f9) (recR b w tab_shdr_sizes (shdr_Put.vals w f0 f1 f2 f3 f4 f5 f6 f7 f8 f9)) := by
  refine Ev.congr (fun k => shdr_Put.f.eq_1 k b w f0 f1 f2 f3 f4 f5 f6 f7 f8 f9) (Ev.bind (shdr_shape_ev b w) ?_)
  rw [← shdr_recfull]
  exact record_ev b w _ _ (by rw [full_length, shdr_len w]; decide) hu
def shdr_setG (p : List Nat) : Nat → List Int → List Int → List Int
  | _, [], m => m
  | i, x :: xs, m => shdr_setG p (i + 1) xs (m.set (p.getD i 0) x)
theorem shdr_go_ev (b w : Bool) (s : ByteArray) (hs : s.size ≤ 140737488351300) (A : List Int) (h8 : In8 A) : ∀ (ra pa : List Int), A = pa ++ ra → ∀ (at_ : Nat), (at_ : Int) + ra.sum ≤ s.size → ∀ m : List Int,
    Ev (fun k => shdr_Read.go k w A ra.length pa.length b s (at_ : Int) false m) (shdr_setG (shdr_Read.perm w) pa.length (nums b ra (s.data.toList.drop at_)) m) := by
  intro ra
  induction ra with
  | nil =>
    intro pa h at_ hat m
    exact Ev.congr (fun k => rfl) (Ev.now m)
  | cons n ra ih =>
    intro pa h at_ hat m
    have hn := h8 n (by rw [h]; simp)
    have h8r : In8 ra := fun y hy => h8 y (by rw [h]; simp [hy])
    have hsr := h8r.sum_ge
    rw [List.sum_cons] at hat
    have hlen : pa.length < A.length := by rw [h]; simp
    have e1 : rd A (pa.length : Int) = ((n.toNat : Nat) : Int) := by rw [Int.toNat_of_nonneg (by omega), h]; exact rd_at pa n ra
    have ih1 := ih (pa ++ [n]) (by rw [h]; simp) (at_ + n.toNat) (by omega) (m.set ((shdr_Read.perm w).getD pa.length 0) (numAt b s.data.toList at_ n.toNat))
    rw [List.length_append, List.length_singleton] at ih1
    refine Ev.congr (fun k => shdr_Read.go.eq_2 k w A pa.length b s _ false m ra.length) (ev_pos hlen ?_)
    rw [e1]
    refine Ev.bind (next_ev b s at_ n.toNat (by omega) (by omega) (by omega) hs) ?_
    rw [nums, shdr_setG, List.drop_drop]
    exact ih1
theorem shdr_read_short (b w : Bool) (s : ByteArray) (h : (s.size : Int) < shdr_total w) : Ev (fun k => shdr_Read.f k b w s) (0, 0, 0, 0, 0, 0, 0, 0, 0, 0, false) :=
  Ev.congr (fun k => shdr_Read.f.eq_1 k b w s) (Ev.bind (shdr_shape_ev b w) (ev_pos h (Ev.now _)))
theorem shdr_read_long (b w : Bool) (s : ByteArray) (hs : s.size ≤ 140737488351300) (h : shdr_total w ≤ (s.size : Int)) : ∃ f0 f1 f2 f3 f4 f5 f6 f7 f8 f9 : Int, Ev (fun k => shdr_Read.f k b w s) (f0, f1, f2, f3, f4, f5, f6, f7, f8, f9, true) ∧ (shdr_Put.vals w f0 f1 f2 f3 f4 f5 f6 f7 f8 f9) = nums b (full w tab_shdr_sizes) s.data.toList := by
  have hg := shdr_go_ev b w s hs (full w tab_shdr_sizes) (shdr_in8 w) (full w tab_shdr_sizes) [] rfl 0 (by rw [shdr_sum]; simpa using h) (List.replicate 10 0)
  have hl := nums_length b (full w tab_shdr_sizes) s.data.toList
  rw [full_length, shdr_len w] at hl
  rw [List.drop_zero, full_length, shdr_len w] at hg
  obtain ⟨y0, y1, y2, y3, y4, y5, y6, y7, y8, y9, hy⟩ : ∃ y0 y1 y2 y3 y4 y5 y6 y7 y8 y9, nums b (full w tab_shdr_sizes) s.data.toList = [y0, y1, y2, y3, y4, y5, y6, y7, y8, y9] := by
    revert hl
    generalize nums b (full w tab_shdr_sizes) s.data.toList = l
    intro hl
    match l, hl with
    | [y0, y1, y2, y3, y4, y5, y6, y7, y8, y9], _ => exact ⟨_, _, _, _, _, _, _, _, _, _, rfl⟩
  rw [hy] at hg ⊢
  cases w
  · rw [show shdr_setG (shdr_Read.perm false) ([] : List Int).length [y0, y1, y2, y3, y4, y5, y6, y7, y8, y9] (List.replicate 10 0) = [y0, y1, y2, y3, y4, y5, y6, y7, y8, y9] from rfl] at hg
    exact ⟨y0, y1, y2, y3, y4, y5, y6, y7, y8, y9, Ev.congr (fun k => shdr_Read.f.eq_1 k b false s) (Ev.bind (shdr_shape_ev b false) (ev_neg (by omega) (ev_const (order_Order_Read.f.eq_1 b s 0) (Ev.bind hg (ev_now rfl))))), rfl⟩
  · rw [show shdr_setG (shdr_Read.perm true) ([] : List Int).length [y0, y1, y2, y3, y4, y5, y6, y7, y8, y9] (List.replicate 10 0) = [y0, y1, y2, y3, y4, y5, y6, y7, y8, y9] from rfl] at hg
    exact ⟨y0, y1, y2, y3, y4, y5, y6, y7, y8, y9, Ev.congr (fun k => shdr_Read.f.eq_1 k b true s) (Ev.bind (shdr_shape_ev b true) (ev_neg (by omega) (ev_const (order_Order_Read.f.eq_1 b s 0) (Ev.bind hg (ev_now rfl))))), rfl⟩
theorem shdr_inj (w : Bool) (f0 f1 f2 f3 f4 f5 f6 f7 f8 f9 g0 g1 g2 g3 g4 g5 g6 g7 g8 g9 : Int) (h : shdr_Put.vals w f0 f1 f2 f3 f4 f5 f6 f7 f8 f9 = shdr_Put.vals w g0 g1 g2 g3 g4 g5 g6 g7 g8 g9) : f0 = g0 ∧ f1 = g1 ∧ f2 = g2 ∧ f3 = g3 ∧ f4 = g4 ∧ f5 = g5 ∧ f6 = g6 ∧ f7 = g7 ∧ f8 = g8 ∧ f9 = g9 := by
  cases w
  all_goals
    simp only [shdr_Put.vals, List.cons.injEq, if_true, if_false, Bool.false_eq_true] at h
    simp only [h, and_self]

end Go.Proofs.YteoeohkjomehoaaDoor.Q
end
section
namespace Go.Proofs.YteoeohkjomehoaaDoor.Q
open Go.RowKit Go.Proofs.YteoeohkjomehoaaDoor.Q Go.Proofs.YteoeohkjomehoaaDoorW.PrintWords Go.Proofs.YteoeohkjomehoaaDoorW.PrintLast Go.Proofs.YteoeohkjomehoaaDoorW.PrintMore Go.Proofs.YteoeohkjomehoaaDoor.Mth
set_option linter.unusedVariables false
set_option linter.unusedSimpArgs false


def phdr_total (w : Bool) : Int := if w = true then 56 else 32
theorem phdr_len (w : Bool) : (phdr_Segment_shape.tab w).length = 8 := by cases w <;> rfl
theorem phdr_sumW (w : Bool) : sumW 0 (full w (phdr_Segment_shape.tab w)) = phdr_total w := by cases w <;> decide +kernel
theorem phdr_sum (w : Bool) : (full w (phdr_Segment_shape.tab w)).sum = phdr_total w := by cases w <;> decide +kernel
theorem phdr_in8 (w : Bool) : In8 (full w (phdr_Segment_shape.tab w)) := by unfold In8; cases w <;> decide +kernel
theorem phdr_full (w : Bool) : full w (full w (phdr_Segment_shape.tab w)) = full w (phdr_Segment_shape.tab w) := by cases w <;> decide +kernel
theorem phdr_tot (w : Bool) : 0 < phdr_total w ∧ phdr_total w ≤ 200 := by cases w <;> decide +kernel
theorem phdr_shape_ev (b w : Bool) : Ev (fun k => phdr_Segment_shape.f k b w) (full w (phdr_Segment_shape.tab w), phdr_total w) := by
  have h := sizes_ev b w (phdr_Segment_shape.tab w) (by rw [phdr_len w]; decide)
  rw [phdr_sumW] at h
  exact h
theorem phdr_size_ev (b w : Bool) : Ev (fun k => phdr_Size.f k b w) (phdr_total w) := Ev.congr (fun k => phdr_Size.f.eq_1 k b w) (Ev.bind (phdr_shape_ev b w) (Ev.now _))
theorem phdr_valen (w : Bool) (f0 f1 f2 f3 f4 f5 f6 f7 : Int) : (phdr_Put.vals w f0 f1 f2 f3 f4 f5 f6 f7).length = 8 := by cases w <;> rfl
theorem phdr_rec (b w : Bool) (f0 f1 f2 f3 f4 f5 f6 f7 : Int) : (recR b w (phdr_Segment_shape.tab w) (phdr_Put.vals w f0 f1 f2 f3 f4 f5 f6 f7) = (⟨(flat b (full w (phdr_Segment_shape.tab w)) (phdr_Put.vals w f0 f1 f2 f3 f4 f5 f6 f7)).toArray⟩, true) ∧ allF (full w (phdr_Segment_shape.tab w)) (phdr_Put.vals w f0 f1 f2 f3 f4 f5 f6 f7) = true) ∨ recR b w (phdr_Segment_shape.tab w) (phdr_Put.vals w f0 f1 f2 f3 f4 f5 f6 f7) = (⟨#[]⟩, false) := by
  unfold recR
  rw [if_pos (by rw [phdr_len w, phdr_valen])]
  by_cases h : allF (full w (phdr_Segment_shape.tab w)) (phdr_Put.vals w f0 f1 f2 f3 f4 f5 f6 f7) = true
  · rw [if_pos h]; exact .inl ⟨rfl, h⟩
  · rw [if_neg h]; exact .inr rfl
theorem phdr_recfull (b w : Bool) (f0 f1 f2 f3 f4 f5 f6 f7 : Int) : recR b w (full w (phdr_Segment_shape.tab w)) (phdr_Put.vals w f0 f1 f2 f3 f4 f5 f6 f7) = recR b w (phdr_Segment_shape.tab w) (phdr_Put.vals w f0 f1 f2 f3 f4 f5 f6 f7) := by
  unfold recR
  rw [full_length, phdr_full]
theorem phdr_put_ev (b w : Bool) (f0 f1 f2 f3 f4 f5 f6 f7 : Int) (hu : U64 (phdr_Put.vals w f0 f1 f2 f3 f4 f5 f6 f7)) : Ev (fun k => phdr_Put.f k b w f0 f1 f2 f3 f4 f5 f6 f7) (recR b w (phdr_Segment_shape.tab w) (phdr_Put.vals w f0 f1 f2 f3 f4 f5 f6 f7)) := by
  refine Ev.congr (fun k => phdr_Put.f.eq_1 k b w f0 f1 f2 f3 f4 f5 f6 f7) (Ev.bind (phdr_shape_ev b w) ?_)
  rw [← phdr_recfull]
  exact record_ev b w _ _ (by rw [full_length, phdr_len w]; decide) hu
def phdr_setG (p : List Nat) : Nat → List Int → List Int → List Int
  | _, [], m => m
  | i, x :: xs, m => phdr_setG p (i + 1) xs (m.set (p.getD i 0) x)
theorem phdr_go_ev (b w : Bool) (s : ByteArray) (hs : s.size ≤ 140737488351300) (A : List Int) (h8 : In8 A) : ∀ (ra pa : List Int), A = pa ++ ra → ∀ (at_ : Nat), (at_ : Int) + ra.sum ≤ s.size → ∀ m : List Int,
    Ev (fun k => phdr_Read.go k w A ra.length pa.length b s (at_ : Int) false m) (phdr_setG (phdr_Read.perm w) pa.length (nums b ra (s.data.toList.drop at_)) m) := by
  intro ra
  induction ra with
  | nil =>
    intro pa h at_ hat m
    exact Ev.congr (fun k => rfl) (Ev.now m)
  | cons n ra ih =>
    intro pa h at_ hat m
    have hn := h8 n (by rw [h]; simp)
    have h8r : In8 ra := fun y hy => h8 y (by rw [h]; simp [hy])
    have hsr := h8r.sum_ge
    rw [List.sum_cons] at hat
    have hlen : pa.length < A.length := by rw [h]; simp
    have e1 : rd A (pa.length : Int) = ((n.toNat : Nat) : Int) := by rw [Int.toNat_of_nonneg (by omega), h]; exact rd_at pa n ra
    have ih1 := ih (pa ++ [n]) (by rw [h]; simp) (at_ + n.toNat) (by omega) (m.set ((phdr_Read.perm w).getD pa.length 0) (numAt b s.data.toList at_ n.toNat))
    rw [List.length_append, List.length_singleton] at ih1
    refine Ev.congr (fun k => phdr_Read.go.eq_2 k w A pa.length b s _ false m ra.length) (ev_pos hlen ?_)
    rw [e1]
    refine Ev.bind (next_ev b s at_ n.toNat (by omega) (by omega) (by omega) hs) ?_
    rw [nums, phdr_setG, List.drop_drop]
    exact ih1
theorem phdr_read_short (b w : Bool) (s : ByteArray) (h : (s.size : Int) < phdr_total w) : Ev (fun k => phdr_Read.f k b w s) (0, 0, 0, 0, 0, 0, 0, 0, false) :=
  Ev.congr (fun k => phdr_Read.f.eq_1 k b w s) (Ev.bind (phdr_shape_ev b w) (ev_pos h (Ev.now _)))
theorem phdr_read_long (b w : Bool) (s : ByteArray) (hs : s.size ≤ 140737488351300) (h : phdr_total w ≤ (s.size : Int)) : ∃ f0 f1 f2 f3 f4 f5 f6 f7 : Int, Ev (fun k => phdr_Read.f k b w s) (f0, f1, f2, f3, f4, f5, f6, f7, true) ∧ (phdr_Put.vals w f0 f1 f2 f3 f4 f5 f6 f7) = nums b (full w (phdr_Segment_shape.tab w)) s.data.toList := by
  have hg := phdr_go_ev b w s hs (full w (phdr_Segment_shape.tab w)) (phdr_in8 w) (full w (phdr_Segment_shape.tab w)) [] rfl 0 (by rw [phdr_sum]; simpa using h) (List.replicate 8 0)
  have hl := nums_length b (full w (phdr_Segment_shape.tab w)) s.data.toList
  rw [full_length, phdr_len w] at hl
  rw [List.drop_zero, full_length, phdr_len w] at hg
  obtain ⟨y0, y1, y2, y3, y4, y5, y6, y7, hy⟩ : ∃ y0 y1 y2 y3 y4 y5 y6 y7, nums b (full w (phdr_Segment_shape.tab w)) s.data.toList = [y0, y1, y2, y3, y4, y5, y6, y7] := by
    revert hl
    generalize nums b (full w (phdr_Segment_shape.tab w)) s.data.toList = l
    intro hl
    match l, hl with
    | [y0, y1, y2, y3, y4, y5, y6, y7], _ => exact ⟨_, _, _, _, _, _, _, _, rfl⟩
  rw [hy] at hg ⊢
  cases w
  · rw [show phdr_setG (phdr_Read.perm false) ([] : List Int).length [y0, y1, y2, y3, y4, y5, y6, y7] (List.replicate 8 0) = [y0, y6, y1, y2, y3, y4, y5, y7] from rfl] at hg
    exact ⟨y0, y6, y1, y2, y3, y4, y5, y7, Ev.congr (fun k => phdr_Read.f.eq_1 k b false s) (Ev.bind (phdr_shape_ev b false) (ev_neg (by omega) (ev_const (order_Order_Read.f.eq_1 b s 0) (Ev.bind hg (ev_now rfl))))), rfl⟩
  · rw [show phdr_setG (phdr_Read.perm true) ([] : List Int).length [y0, y1, y2, y3, y4, y5, y6, y7] (List.replicate 8 0) = [y0, y1, y2, y3, y4, y5, y6, y7] from rfl] at hg
    exact ⟨y0, y1, y2, y3, y4, y5, y6, y7, Ev.congr (fun k => phdr_Read.f.eq_1 k b true s) (Ev.bind (phdr_shape_ev b true) (ev_neg (by omega) (ev_const (order_Order_Read.f.eq_1 b s 0) (Ev.bind hg (ev_now rfl))))), rfl⟩
theorem phdr_inj (w : Bool) (f0 f1 f2 f3 f4 f5 f6 f7 g0 g1 g2 g3 g4 g5 g6 g7 : Int) (h : phdr_Put.vals w f0 f1 f2 f3 f4 f5 f6 f7 = phdr_Put.vals w g0 g1 g2 g3 g4 g5 g6 g7) : f0 = g0 ∧ f1 = g1 ∧ f2 = g2 ∧ f3 = g3 ∧ f4 = g4 ∧ f5 = g5 ∧ f6 = g6 ∧ f7 = g7 := by
  cases w
  all_goals
    simp only [phdr_Put.vals, List.cons.injEq, if_true, if_false, Bool.false_eq_true] at h
    simp only [h, and_self]

end Go.Proofs.YteoeohkjomehoaaDoor.Q
end
section
namespace Go.Proofs.YteoeohkjomehoaaDoor.Q
open Go.RowKit Go.Proofs.YteoeohkjomehoaaDoor.Q Go.Proofs.YteoeohkjomehoaaDoorW.PrintWords Go.Proofs.YteoeohkjomehoaaDoorW.PrintLast Go.Proofs.YteoeohkjomehoaaDoorW.PrintMore Go.Proofs.YteoeohkjomehoaaDoor.Mth
set_option linter.unusedVariables false
set_option linter.unusedSimpArgs false


def symrec_total (w : Bool) : Int := if w = true then 24 else 16
theorem symrec_len (w : Bool) : (symrec_Symbol_shape.tab w).length = 6 := by cases w <;> rfl
theorem symrec_sumW (w : Bool) : sumW 0 (full w (symrec_Symbol_shape.tab w)) = symrec_total w := by cases w <;> decide +kernel
theorem symrec_sum (w : Bool) : (full w (symrec_Symbol_shape.tab w)).sum = symrec_total w := by cases w <;> decide +kernel
theorem symrec_in8 (w : Bool) : In8 (full w (symrec_Symbol_shape.tab w)) := by unfold In8; cases w <;> decide +kernel
theorem symrec_full (w : Bool) : full w (full w (symrec_Symbol_shape.tab w)) = full w (symrec_Symbol_shape.tab w) := by cases w <;> decide +kernel
theorem symrec_tot (w : Bool) : 0 < symrec_total w ∧ symrec_total w ≤ 200 := by cases w <;> decide +kernel
theorem symrec_shape_ev (b w : Bool) : Ev (fun k => symrec_Symbol_shape.f k b w) (full w (symrec_Symbol_shape.tab w), symrec_total w) := by
  have h := sizes_ev b w (symrec_Symbol_shape.tab w) (by rw [symrec_len w]; decide)
  rw [symrec_sumW] at h
  exact h
theorem symrec_size_ev (b w : Bool) : Ev (fun k => symrec_Size.f k b w) (symrec_total w) := Ev.congr (fun k => symrec_Size.f.eq_1 k b w) (Ev.bind (symrec_shape_ev b w) (Ev.now _))
theorem symrec_valen (w : Bool) (f0 f1 f2 f3 f4 f5 : Int) : (symrec_Put.vals w f0 f1 f2 f3 f4 f5).length = 6 := by cases w <;> rfl
theorem symrec_rec (b w : Bool) (f0 f1 f2 f3 f4 f5 : Int) : (recR b w (symrec_Symbol_shape.tab w) (symrec_Put.vals w f0 f1 f2 f3 f4 f5) = (⟨(flat b (full w (symrec_Symbol_shape.tab w)) (symrec_Put.vals w f0 f1 f2 f3 f4 f5)).toArray⟩, true) ∧ allF (full w (symrec_Symbol_shape.tab w)) (symrec_Put.vals w f0 f1 f2 f3 f4 f5) = true) ∨ recR b w (symrec_Symbol_shape.tab w) (symrec_Put.vals w f0 f1 f2 f3 f4 f5) = (⟨#[]⟩, false) := by
  unfold recR
  rw [if_pos (by rw [symrec_len w, symrec_valen])]
  by_cases h : allF (full w (symrec_Symbol_shape.tab w)) (symrec_Put.vals w f0 f1 f2 f3 f4 f5) = true
  · rw [if_pos h]; exact .inl ⟨rfl, h⟩
  · rw [if_neg h]; exact .inr rfl
theorem symrec_recfull (b w : Bool) (f0 f1 f2 f3 f4 f5 : Int) : recR b w (full w (symrec_Symbol_shape.tab w)) (symrec_Put.vals w f0 f1 f2 f3 f4 f5) = recR b w (symrec_Symbol_shape.tab w) (symrec_Put.vals w f0 f1 f2 f3 f4 f5) := by
  unfold recR
  rw [full_length, symrec_full]
theorem symrec_put_ev (b w : Bool) (f0 f1 f2 f3 f4 f5 : Int) (hu : U64 (symrec_Put.vals w f0 f1 f2 f3 f4 f5)) : Ev (fun k => symrec_Put.f k b w f0 f1 f2 f3 f4 f5) (recR b w (symrec_Symbol_shape.tab w) (symrec_Put.vals w f0 f1 f2 f3 f4 f5)) := by
  refine Ev.congr (fun k => symrec_Put.f.eq_1 k b w f0 f1 f2 f3 f4 f5) (Ev.bind (symrec_shape_ev b w) ?_)
  rw [← symrec_recfull]
  exact record_ev b w _ _ (by rw [full_length, symrec_len w]; decide) hu
def symrec_setG (p : List Nat) : Nat → List Int → List Int → List Int
  | _, [], m => m
  | i, x :: xs, m => symrec_setG p (i + 1) xs (m.set (p.getD i 0) x)
theorem symrec_go_ev (b w : Bool) (s : ByteArray) (hs : s.size ≤ 140737488351300) (A : List Int) (h8 : In8 A) : ∀ (ra pa : List Int), A = pa ++ ra → ∀ (at_ : Nat), (at_ : Int) + ra.sum ≤ s.size → ∀ m : List Int,
    Ev (fun k => symrec_Read.go k w A ra.length pa.length b s (at_ : Int) false m) (symrec_setG (symrec_Read.perm w) pa.length (nums b ra (s.data.toList.drop at_)) m) := by
  intro ra
  induction ra with
  | nil =>
    intro pa h at_ hat m
    exact Ev.congr (fun k => rfl) (Ev.now m)
  | cons n ra ih =>
    intro pa h at_ hat m
    have hn := h8 n (by rw [h]; simp)
    have h8r : In8 ra := fun y hy => h8 y (by rw [h]; simp [hy])
    have hsr := h8r.sum_ge
    rw [List.sum_cons] at hat
    have hlen : pa.length < A.length := by rw [h]; simp
    have e1 : rd A (pa.length : Int) = ((n.toNat : Nat) : Int) := by rw [Int.toNat_of_nonneg (by omega), h]; exact rd_at pa n ra
    have ih1 := ih (pa ++ [n]) (by rw [h]; simp) (at_ + n.toNat) (by omega) (m.set ((symrec_Read.perm w).getD pa.length 0) (numAt b s.data.toList at_ n.toNat))
    rw [List.length_append, List.length_singleton] at ih1
    refine Ev.congr (fun k => symrec_Read.go.eq_2 k w A pa.length b s _ false m ra.length) (ev_pos hlen ?_)
    rw [e1]
    refine Ev.bind (next_ev b s at_ n.toNat (by omega) (by omega) (by omega) hs) ?_
    rw [nums, symrec_setG, List.drop_drop]
    exact ih1
theorem symrec_read_short (b w : Bool) (s : ByteArray) (h : (s.size : Int) < symrec_total w) : Ev (fun k => symrec_Read.f k b w s) (0, 0, 0, 0, 0, 0, false) :=
  Ev.congr (fun k => symrec_Read.f.eq_1 k b w s) (Ev.bind (symrec_shape_ev b w) (ev_pos h (Ev.now _)))
theorem symrec_read_long (b w : Bool) (s : ByteArray) (hs : s.size ≤ 140737488351300) (h : symrec_total w ≤ (s.size : Int)) : ∃ f0 f1 f2 f3 f4 f5 : Int, Ev (fun k => symrec_Read.f k b w s) (f0, f1, f2, f3, f4, f5, true) ∧ (symrec_Put.vals w f0 f1 f2 f3 f4 f5) = nums b (full w (symrec_Symbol_shape.tab w)) s.data.toList := by
  have hg := symrec_go_ev b w s hs (full w (symrec_Symbol_shape.tab w)) (symrec_in8 w) (full w (symrec_Symbol_shape.tab w)) [] rfl 0 (by rw [symrec_sum]; simpa using h) (List.replicate 6 0)
  have hl := nums_length b (full w (symrec_Symbol_shape.tab w)) s.data.toList
  rw [full_length, symrec_len w] at hl
  rw [List.drop_zero, full_length, symrec_len w] at hg
  obtain ⟨y0, y1, y2, y3, y4, y5, hy⟩ : ∃ y0 y1 y2 y3 y4 y5, nums b (full w (symrec_Symbol_shape.tab w)) s.data.toList = [y0, y1, y2, y3, y4, y5] := by
    revert hl
    generalize nums b (full w (symrec_Symbol_shape.tab w)) s.data.toList = l
    intro hl
    match l, hl with
    | [y0, y1, y2, y3, y4, y5], _ => exact ⟨_, _, _, _, _, _, rfl⟩
  rw [hy] at hg ⊢
  cases w
  · rw [show symrec_setG (symrec_Read.perm false) ([] : List Int).length [y0, y1, y2, y3, y4, y5] (List.replicate 6 0) = [y0, y3, y4, y5, y1, y2] from rfl] at hg
    exact ⟨y0, y3, y4, y5, y1, y2, Ev.congr (fun k => symrec_Read.f.eq_1 k b false s) (Ev.bind (symrec_shape_ev b false) (ev_neg (by omega) (ev_const (order_Order_Read.f.eq_1 b s 0) (Ev.bind hg (ev_now rfl))))), rfl⟩
  · rw [show symrec_setG (symrec_Read.perm true) ([] : List Int).length [y0, y1, y2, y3, y4, y5] (List.replicate 6 0) = [y0, y1, y2, y3, y4, y5] from rfl] at hg
    exact ⟨y0, y1, y2, y3, y4, y5, Ev.congr (fun k => symrec_Read.f.eq_1 k b true s) (Ev.bind (symrec_shape_ev b true) (ev_neg (by omega) (ev_const (order_Order_Read.f.eq_1 b s 0) (Ev.bind hg (ev_now rfl))))), rfl⟩
theorem symrec_inj (w : Bool) (f0 f1 f2 f3 f4 f5 g0 g1 g2 g3 g4 g5 : Int) (h : symrec_Put.vals w f0 f1 f2 f3 f4 f5 = symrec_Put.vals w g0 g1 g2 g3 g4 g5) : f0 = g0 ∧ f1 = g1 ∧ f2 = g2 ∧ f3 = g3 ∧ f4 = g4 ∧ f5 = g5 := by
  cases w
  all_goals
    simp only [symrec_Put.vals, List.cons.injEq, if_true, if_false, Bool.false_eq_true] at h
    simp only [h, and_self]

end Go.Proofs.YteoeohkjomehoaaDoor.Q
end
section
namespace Go.Proofs.YteoeohkjomehoaaDoor.Q
open Go.RowKit Go.Proofs.YteoeohkjomehoaaDoorW.PrintWords Go.Proofs.YteoeohkjomehoaaDoorW.PrintLast Go.Proofs.YteoeohkjomehoaaDoorW.PrintMore Go.Proofs.YteoeohkjomehoaaDoor.Mth
set_option linter.unusedVariables false
set_option linter.unusedSimpArgs false

def peOf (w : Bool) : Int := if w = true then 56 else 32
def seOf (w : Bool) : Int := if w = true then 64 else 40
def esOf (w : Bool) : Int := 16 + ehdr_total w
theorem es_is (w : Bool) : IntKind.u64.wrap (16 + (IntKind.u64.wrap (ehdr_total w))) = esOf w := by cases w <;> decide
theorem es_is2 (w : Bool) : IntKind.u64.wrap (wrap64 (16 + ehdr_total w)) = esOf w := by cases w <;> decide +kernel
theorem plain_ev (b w : Bool) : Ev (fun k => ehdr_Plain.f k b w) (0, 0, 1, 0, 0, 0, 0, esOf w, peOf w, 0, seOf w, 0, 0) := by
  refine Ev.congr (fun k => ehdr_Plain.f.eq_1 k b w) ?_
  cases w
  · exact ev_neg (by decide) (Ev.bind (ehdr_size_ev b false) (ev_now (by rw [es_is]; rfl)))
  · exact ev_pos rfl (Ev.bind (ehdr_size_ev b true) (ev_now (by rw [es_is]; rfl)))
def badOf (w : Bool) (o0 o1 x1 x2 x3 : Int) : Bool := decide (x1 ≠ esOf w) || (decide (o0 ≠ 0) && decide (x2 ≠ peOf w)) || (decide (o1 ≠ 0) && decide (x3 ≠ seOf w))
def chkOf (w : Bool) (x0 o0 o1 x1 x2 x3 : Int) : Int := if x0 = 1 then (if badOf w o0 o1 x1 x2 x3 = true then 8 else 0) else 7
theorem check_ev (b w : Bool) (h0 h1 x0 h3 o0 o1 h6 x1 x2 h9 x3 h11 h12 : Int) : Ev (fun k => ehdr_Head_Check.f k h0 h1 x0 h3 o0 o1 h6 x1 x2 h9 x3 h11 h12 b w) (chkOf w x0 o0 o1 x1 x2 x3) := by
  refine Ev.congr (fun k => ehdr_Head_Check.f.eq_1 k _ _ _ _ _ _ _ _ _ _ _ _ _ b w) (Ev.bind (plain_ev b w) ?_)
  unfold chkOf badOf
  by_cases c0 : x0 = 1
  · refine ev_pos c0 ?_
    by_cases c1 : x1 = esOf w
    · refine ev_pos c1 ?_
      by_cases c2 : o0 = 0
      · refine ev_pos c2 ?_
        by_cases c3 : o1 = 0
        · exact ev_pos c3 (ev_now (by simp [c0, c1, c2, c3]))
        · refine ev_neg c3 ?_
          by_cases c4 : x3 = seOf w
          · exact ev_pos c4 (ev_now (by simp [c0, c1, c2, c3, c4]))
          · exact ev_neg c4 (ev_now (by simp [c0, c1, c2, c3, c4]))
      · refine ev_neg c2 ?_
        by_cases c5 : x2 = peOf w
        · refine ev_pos c5 ?_
          by_cases c3 : o1 = 0
          · exact ev_pos c3 (ev_now (by simp [c0, c1, c2, c3, c5]))
          · refine ev_neg c3 ?_
            by_cases c4 : x3 = seOf w
            · exact ev_pos c4 (ev_now (by simp [c0, c1, c2, c3, c4, c5]))
            · exact ev_neg c4 (ev_now (by simp [c0, c1, c2, c3, c4, c5]))
        · exact ev_neg c5 (ev_now (by simp [c0, c1, c2, c5]))
    · exact ev_neg c1 (ev_now (by simp [c0, c1]))
  · exact ev_neg c0 (ev_now (by simp [c0]))
end Go.Proofs.YteoeohkjomehoaaDoor.Q
end
section
namespace Go.Proofs.YteoeohkjomehoaaDoor.Q
open Go.RowKit Go.Proofs.YteoeohkjomehoaaDoorW.PrintWords Go.Proofs.YteoeohkjomehoaaDoorW.PrintMore Go.Proofs.YteoeohkjomehoaaDoor.Mth
set_option linter.unusedVariables false
set_option linter.unusedSimpArgs false

def wordsN (a : Bool) : Nat := if a = true then 3 else 2
def typeP (w : Bool) : Int := if w = true then 4294967296 else 256
def symQ (w : Bool) : Int := if w = true then 4294967296 else 16777216
def goodR (w a : Bool) (off sym ty add : Int) : Bool := decide (off < 256 ^ (word w).toNat) && decide (add < 256 ^ (word w).toNat) && decide (ty < typeP w) && decide (sym < symQ w) && (a || decide (add = 0))
def relR (big w a : Bool) (off sym ty add : Int) : ByteArray × Bool :=
  if goodR w a off sym ty add = true then recR big w (List.replicate (wordsN a) 0) (([off, sym * typeP w + ty, add] : List Int).take (wordsN a)) else (⟨#[]⟩, false)
theorem words_is (a : Bool) : relrec_words.f a = some ((wordsN a : Nat) : Int) := by cases a <;> rfl
theorem relSize_is (b w a : Bool) : relrec_Size.f b w a = some ((wordsN a : Int) * word w) := by
  unfold relrec_Size.f
  rw [words_is, word_is]
  cases a <;> cases w <;> exact congrArg some (wrap64_id (by decide) (by decide))
def u64P (x : Int) : Prop := 0 ≤ x ∧ x < 18446744073709551616
theorem shr_lt (x : Int) (n : Nat) (hn : n ≤ 64) : (shr .u64 x (n : Int) = 0) ↔ (x / 2 ^ n = 0) := by
  unfold shr
  rw [show min ((n : Nat) : Int).toNat (IntKind.u64.bits) = n by simp [IntKind.bits]; omega]
theorem div_zero_iff (x p : Int) (h0 : 0 ≤ x) (hp : 0 < p) : x / p = 0 ↔ x < p := by
  constructor
  · intro h
    have h1 := Int.mul_ediv_add_emod x p
    have h2 := Int.emod_lt_of_pos x hp
    rw [h, Int.mul_zero] at h1
    omega
  · intro h
    exact Int.ediv_eq_zero_of_lt h0 h
theorem good_ev (b w a : Bool) (off sym ty add : Int) (h1 : u64P off) (h2 : u64P sym) (h3 : u64P ty) (h4 : u64P add) : Ev (fun k => relrec_Reloc_Good.f k off sym ty add b w a) (goodR w a off sym ty add) := by
  refine Ev.congr (fun k => relrec_Reloc_Good.f.eq_1 k off sym ty add b w a) ?_
  have hs : relrec_split.f b w = some (if w = true then (32, 32) else (8, 24)) := by unfold relrec_split.f; cases w <;> rfl
  refine ev_const hs ?_
  have hu : U64 [off, add] := by
    intro x hx
    rcases List.mem_cons.1 hx with rfl | hx
    · exact h1
    · rcases List.mem_cons.1 hx with rfl | hx
      · exact h4
      · cases hx
  refine Ev.bind (formFits_ev b w [off, add] (by simp) hu) ?_
  unfold goodR
  have hall : ([off, add].all fun x => decide (x < 256 ^ (word w).toNat)) = (decide (off < 256 ^ (word w).toNat) && decide (add < 256 ^ (word w).toNat)) := by simp
  rw [hall]
  by_cases hf : (decide (off < 256 ^ (word w).toNat) && decide (add < 256 ^ (word w).toNat)) = true
  · rw [hf]
    refine ev_pos rfl ?_
    simp only [Bool.true_and]
    have key : ∀ (n m : Nat), n ≤ 64 → m ≤ 64 → (2 : Int) ^ n = typeP w → (2 : Int) ^ m = symQ w → Ev (fun _ : Nat => if 0 ≤ (n : Int) then (if (shr .u64 ty (n : Int)) = 0 then (if 0 ≤ (m : Int) then (if (shr .u64 sym (m : Int)) = 0 then (if a = true then (some true) else (some (add == 0))) else (some false)) else none) else (some false)) else none) (decide (ty < typeP w) && decide (sym < symQ w) && (a || decide (add = 0))) := by
      intro n m hn hm en em
      have tp : 0 < typeP w := by unfold typeP; split <;> decide
      have sp : 0 < symQ w := by unfold symQ; split <;> decide
      have ht : (shr .u64 ty (n : Int) = 0) ↔ ty < typeP w := by rw [shr_lt ty n hn, en, div_zero_iff _ _ h3.1 tp]
      have hs' : (shr .u64 sym (m : Int) = 0) ↔ sym < symQ w := by rw [shr_lt sym m hm, em, div_zero_iff _ _ h2.1 sp]
      refine ev_pos (by omega) ?_
      by_cases c1 : ty < typeP w
      · refine ev_pos (ht.2 c1) (ev_pos (by omega) ?_)
        rw [decide_eq_true c1]
        by_cases c2 : sym < symQ w
        · refine ev_pos (hs'.2 c2) ?_
          rw [decide_eq_true c2]
          cases a
          · refine ev_neg (by decide) (ev_now ?_)
            rw [Bool.eq_iff_iff]
            simp
          · exact ev_pos rfl (ev_now (by simp))
        · rw [decide_eq_false c2]
          exact ev_neg (fun h => c2 (hs'.1 h)) (ev_now (by simp))
      · rw [decide_eq_false c1]
        exact ev_neg (fun h => c1 (ht.1 h)) (ev_now (by simp))
    cases w
    · exact key 8 24 (by omega) (by omega) (by decide) (by decide)
    · exact key 32 32 (by omega) (by omega) (by decide) (by decide)
  · have hf' : (decide (off < 256 ^ (word w).toNat) && decide (add < 256 ^ (word w).toNat)) = false := Bool.eq_false_iff.2 hf
    rw [hf']
    exact ev_neg (by decide) (ev_now (by simp))
theorem info_is (w : Bool) (sym ty : Int) (n : Nat) (hn : n = 8 ∨ n = 32) (hp : (2 : Int) ^ n = typeP w) (h2 : u64P sym) (h3 : u64P ty) (hs : sym < symQ w) (ht : ty < typeP w) : Go.bits .or .u64 (shl .u64 sym (n : Int)) ty = sym * typeP w + ty := by
  obtain ⟨s, rfl⟩ := Int.eq_ofNat_of_zero_le h2.1
  obtain ⟨t, rfl⟩ := Int.eq_ofNat_of_zero_le h3.1
  have hsp : (s : Int) * typeP w + typeP w ≤ 18446744073709551616 := by
    unfold symQ typeP at *
    cases w <;> simp at * <;> omega
  have hpos : 0 < typeP w := by unfold typeP; split <;> decide
  have hm : 0 ≤ (s : Int) * typeP w := Int.mul_nonneg (by omega) (by omega)
  have hshl : shl .u64 (s : Int) (n : Int) = (s : Int) * typeP w := by
    unfold shl
    rw [show min ((n : Nat) : Int).toNat (IntKind.u64.bits) = n by simp [IntKind.bits]; omega, hp, wrapu_id hm (by omega)]
  rw [hshl]
  have e : (s : Int) * typeP w = ((2 ^ n * s : Nat) : Int) := by
    rw [← hp, Int.natCast_mul, Int.natCast_pow, Int.mul_comm]
    rfl
  rw [e]
  have htn : t < 2 ^ n := by
    have : (t : Int) < ((2 ^ n : Nat) : Int) := by rw [Int.natCast_pow]; exact_mod_cast (hp ▸ ht)
    omega
  have h64 : ∀ n : Int, 0 ≤ n → n < 2 ^ 64 → IntKind.u64.wrap n = n := fun n h0 h1 => wrapu_id h0 (by simpa using h1)
  have hb1 : 2 ^ n * s < 2 ^ 64 := by rw [e] at hsp; omega
  have hb2 : t < 2 ^ 64 := by have := h3.2; omega
  rw [(bits_nat .u64 64 (by decide) h64 (2 ^ n * s) t hb1 hb2).2, ← Nat.two_pow_add_eq_or_of_lt htn s]
  omega
theorem relPut_ev (b w a : Bool) (off sym ty add : Int) (h1 : u64P off) (h2 : u64P sym) (h3 : u64P ty) (h4 : u64P add) : Ev (fun k => relrec_Put.f k b w a off sym ty add) (relR b w a off sym ty add) := by
  refine Ev.congr (fun k => relrec_Put.f.eq_1 k b w a off sym ty add) ?_
  refine Ev.bind (good_ev b w a off sym ty add h1 h2 h3 h4) ?_
  unfold relR
  by_cases hg : goodR w a off sym ty add = true
  · rw [hg, if_pos rfl]
    refine ev_pos rfl ?_
    have hg' := hg
    unfold goodR at hg'
    simp only [Bool.and_eq_true, decide_eq_true_iff] at hg'
    obtain ⟨⟨⟨⟨g1, g2⟩, g3⟩, g4⟩, g5⟩ := hg'
    have hs : relrec_split.f b w = some (if w = true then (32, 32) else (8, 24)) := by unfold relrec_split.f; cases w <;> rfl
    refine ev_const hs ?_
    have hinfo : Go.bits .or .u64 (shl .u64 sym (if w = true then ((32 : Int), (32 : Int)) else (8, 24)).1) ty = sym * typeP w + ty := by
      cases w
      · exact info_is false sym ty 8 (.inl rfl) (by decide) h2 h3 g4 g3
      · exact info_is true sym ty 32 (.inr rfl) (by decide) h2 h3 g4 g3
    refine ev_pos (by cases w <;> decide) ?_
    rw [hinfo]
    refine ev_const (x := [off, sym * typeP w + ty, add]) rfl (ev_const (words_is a) ?_)
    have hn : wordsN a ≤ 3 := by unfold wordsN; split <;> omega
    refine ev_pos (by omega) (ev_pos (by omega) (ev_pos (by simp; omega) ?_))
    rw [Int.toNat_natCast]
    have hb : u64P (sym * typeP w + ty) := by
      refine ⟨Int.add_nonneg (Int.mul_nonneg h2.1 (by unfold typeP; split <;> decide)) h3.1, ?_⟩
      unfold symQ typeP at *
      cases w <;> simp at * <;> omega
    have hu : U64 (([off, sym * typeP w + ty, add] : List Int).take (wordsN a)) := by
      refine U64.take ?_ _
      intro x hx
      rcases List.mem_cons.1 hx with rfl | hx
      · exact h1
      · rcases List.mem_cons.1 hx with rfl | hx
        · exact hb
        · rcases List.mem_cons.1 hx with rfl | hx
          · exact h4
          · cases hx
    exact Ev.bind (record_ev b w _ _ (by simp; omega) hu) (ev_now rfl)
  · have hg' : goodR w a off sym ty add = false := Bool.eq_false_iff.2 hg
    rw [hg']
    exact ev_neg (by decide) (ev_now rfl)
end Go.Proofs.YteoeohkjomehoaaDoor.Q
end
section
namespace Go.Proofs.YteoeohkjomehoaaDoor.Q
open Go.RowKit Go.Proofs.YteoeohkjomehoaaDoorW.PrintWords Go.Proofs.YteoeohkjomehoaaDoorW.PrintMore Go.Proofs.YteoeohkjomehoaaDoor.Mth
set_option linter.unusedVariables false
set_option linter.unusedSimpArgs false

def wordN (w : Bool) : Nat := if w = true then 8 else 4
theorem word_nat (w : Bool) : word w = ((wordN w : Nat) : Int) := by cases w <;> rfl
theorem wordN_le (w : Bool) : 4 ≤ wordN w ∧ wordN w ≤ 8 := by cases w <;> decide
theorem and_mask (w : Bool) (x : Int) (n : Nat) (hn : n = 8 ∨ n = 32) (h : u64P x) : Go.bits .and .u64 x (IntKind.u64.wrap ((shl .u64 1 (n : Int)) - 1)) = x % 2 ^ n := by
  have h64 : ∀ n : Int, 0 ≤ n → n < 2 ^ 64 → IntKind.u64.wrap n = n := fun n h0 h1 => wrapu_id h0 (by simpa using h1)
  have hs : IntKind.u64.wrap ((shl .u64 1 (n : Int)) - 1) = (2 : Int) ^ n - 1 := by
    rcases hn with rfl | rfl <;> decide
  rw [hs]
  exact bits_mask .u64 64 (by decide) h64 n (by omega) x h.1 (by have := h.2; simpa using this)
/-- The numbers that stand in bytes: a relocation, if there are enough. -/
def relOf (big w a : Bool) (l : List UInt8) : Int × Int × Int × Int :=
  (numAt big l 0 (wordN w), numAt big l (wordN w) (wordN w) / typeP w, numAt big l (wordN w) (wordN w) % typeP w, if a = true then numAt big l (2 * wordN w) (wordN w) else 0)
theorem relRead_ev (big w a : Bool) (s : ByteArray) (hs : s.size ≤ 140737488351300) (h : wordsN a * wordN w ≤ s.size) :
    Ev (fun k => relrec_Read.f k big w a s) ((relOf big w a s.data.toList).1, (relOf big w a s.data.toList).2.1, (relOf big w a s.data.toList).2.2.1, (relOf big w a s.data.toList).2.2.2, true) := by
  have hw := wordN_le w
  refine Ev.congr (fun k => relrec_Read.f.eq_1 k big w a s) ?_
  refine ev_const (relSize_is big w a) (ev_neg (by rw [word_nat, ← Int.natCast_mul]; omega) ?_)
  have hsp : relrec_split.f big w = some (if w = true then (32, 32) else (8, 24)) := by unfold relrec_split.f; cases w <;> rfl
  have hrd : order_Order_Read.f big s 0 = some (big, s, 0, false) := rfl
  refine ev_const hsp (ev_const hrd (ev_const (word_is big w) ?_))
  have hwa : wordsN a ≥ 2 := by unfold wordsN; split <;> omega
  have hww : 2 * wordN w ≤ wordsN a * wordN w := Nat.mul_le_mul_right _ hwa
  have n1 := next_ev big s 0 (wordN w) (by omega) (by omega) (by omega) hs
  have n2 := next_ev big s (0 + wordN w) (wordN w) (by omega) (by omega) (by omega) hs
  rw [← word_nat] at n1 n2
  refine Ev.bind n1 (ev_const (word_is big w) (Ev.bind n2 ?_))
  have hr := numAt_range big s.data.toList (0 + wordN w) (wordN w)
  have hshr : shr .u64 (numAt big s.data.toList (0 + wordN w) (wordN w)) (if w = true then ((32 : Int), (32 : Int)) else (8, 24)).1 = numAt big s.data.toList (wordN w) (wordN w) / typeP w := by
    rw [Nat.zero_add]
    cases w <;> rfl
  have hand : Go.bits .and .u64 (numAt big s.data.toList (0 + wordN w) (wordN w)) (IntKind.u64.wrap ((shl .u64 1 (if w = true then ((32 : Int), (32 : Int)) else (8, 24)).1) - 1)) = numAt big s.data.toList (wordN w) (wordN w) % typeP w := by
    rw [Nat.zero_add] at hr ⊢
    cases w
    · exact and_mask false _ 8 (.inl rfl) hr
    · exact and_mask true _ 32 (.inr rfl) hr
  refine ev_pos (by cases w <;> decide) ?_
  rw [hshr, hand]
  cases a
  · refine ev_neg (by decide) (ev_now ?_)
    rfl
  · refine ev_pos rfl (ev_const (word_is big w) ?_)
    have h3 : 3 * wordN w ≤ s.size := h
    have n3 := next_ev big s (0 + wordN w + wordN w) (wordN w) (by omega) (by omega) (by omega) hs
    rw [← word_nat] at n3
    refine Ev.bind n3 (ev_now ?_)
    unfold relOf
    rw [show 0 + wordN w + wordN w = 2 * wordN w by omega]
    rfl
theorem relRead_short (big w a : Bool) (s : ByteArray) (h : ¬ wordsN a * wordN w ≤ s.size) : Ev (fun k => relrec_Read.f k big w a s) (0, 0, 0, 0, false) := by
  refine Ev.congr (fun k => relrec_Read.f.eq_1 k big w a s) ?_
  exact ev_const (relSize_is big w a) (ev_pos (by rw [word_nat, ← Int.natCast_mul]; omega) (Ev.now _))
theorem typeP_pos (w : Bool) : 0 < typeP w := by cases w <;> decide
theorem u64_list2 {a b : Int} (h1 : u64P a) (h2 : u64P b) : U64 [a, b] := by
  intro x hx
  rcases List.mem_cons.1 hx with rfl | hx
  · exact h1
  · rcases List.mem_cons.1 hx with rfl | hx
    · exact h2
    · cases hx
theorem u64_list3 {a b c : Int} (h1 : u64P a) (h2 : u64P b) (h3 : u64P c) : U64 [a, b, c] := by
  intro x hx
  rcases List.mem_cons.1 hx with rfl | hx
  · exact h1
  · exact u64_list2 h2 h3 x hx
end Go.Proofs.YteoeohkjomehoaaDoor.Q
end
section
namespace Go.Proofs.YteoeohkjomehoaaDoor.Q
open Go.RowKit Go.Proofs.YteoeohkjomehoaaDoorW.PrintWords Go.Proofs.YteoeohkjomehoaaDoorW.PrintMore Go.Proofs.YteoeohkjomehoaaDoor.Mth
set_option linter.unusedVariables false
set_option linter.unusedSimpArgs false

theorem full_rep (w : Bool) (n : Nat) : full w (List.replicate n 0) = List.replicate n (word w) := by simp [full]
theorem okF_word (w : Bool) (x : Int) : okF x (word w) = decide (x < 256 ^ (wordN w)) := by
  unfold okF
  cases w <;> simp [word, wordN]
theorem pow_word (w : Bool) : (256 : Int) ^ (wordN w) = if w = true then 18446744073709551616 else 4294967296 := by cases w <;> decide
theorem good_iff (w a : Bool) (off sym ty add : Int) : goodR w a off sym ty add = true ↔ off < 256 ^ wordN w ∧ add < 256 ^ wordN w ∧ ty < typeP w ∧ sym < symQ w ∧ (a = true ∨ add = 0) := by
  unfold goodR
  have : (word w).toNat = wordN w := by cases w <;> rfl
  rw [this]
  simp only [Bool.and_eq_true, Bool.or_eq_true, decide_eq_true_iff, and_assoc]
theorem info_lt (w : Bool) (sym ty : Int) (h2 : u64P sym) (h3 : u64P ty) (hs : sym < symQ w) (ht : ty < typeP w) : sym * typeP w + ty < 256 ^ wordN w := by
  rw [pow_word]
  unfold symQ typeP at *
  have := h2.1
  have := h3.1
  cases w <;> simp at * <;> omega
theorem relR_good (big w a : Bool) (off sym ty add : Int) (h2 : u64P sym) (h3 : u64P ty) (h : goodR w a off sym ty add = true) :
    relR big w a off sym ty add = (⟨((putL big off (wordN w) ++ (putL big (sym * typeP w + ty) (wordN w) ++ (if a = true then putL big add (wordN w) else []))) : List UInt8).toArray⟩, true) := by
  have hg := (good_iff w a off sym ty add).1 h
  have hi := info_lt w sym ty h2 h3 hg.2.2.2.1 hg.2.2.1
  unfold relR
  rw [if_pos h]
  unfold recR
  rw [full_rep]
  cases a
  · have hall : allF (List.replicate (wordsN false) (word w)) (([off, sym * typeP w + ty, add] : List Int).take (wordsN false)) = true := by
      simp [wordsN, allF, okF_word, hg.1, hi]
    rw [hall, if_pos (by simp [wordsN]), if_pos rfl]
    simp [wordsN, flat, word_nat]
  · have hall : allF (List.replicate (wordsN true) (word w)) (([off, sym * typeP w + ty, add] : List Int).take (wordsN true)) = true := by
      simp [wordsN, allF, okF_word, hg.1, hi, hg.2.1]
    rw [hall, if_pos (by simp [wordsN]), if_pos rfl]
    simp [wordsN, flat, word_nat]
theorem relR_ok (big w a : Bool) (off sym ty add : Int) (h2 : u64P sym) (h3 : u64P ty) : (relR big w a off sym ty add).2 = goodR w a off sym ty add := by
  by_cases h : goodR w a off sym ty add = true
  · rw [relR_good big w a off sym ty add h2 h3 h, h]
  · have h' : goodR w a off sym ty add = false := Bool.eq_false_iff.2 h
    unfold relR
    rw [h']
    rfl
theorem putW_len (big w : Bool) (x : Int) : (putL big x (wordN w)).length = wordN w := by
  have := wordN_le w
  rw [putL_length, if_pos (by omega)]
  simp
theorem getW (big w : Bool) (x : Int) (h0 : 0 ≤ x) (h : x < 256 ^ wordN w) : getL big (putL big x (wordN w)) = x := by
  have := wordN_le w
  exact getL_putL_fit big x _ (by omega) (by omega) h0 (by simpa using h)
theorem split_info (w : Bool) (sym ty : Int) (h3 : 0 ≤ ty) (ht : ty < typeP w) : (sym * typeP w + ty) / typeP w = sym ∧ (sym * typeP w + ty) % typeP w = ty := by
  have tp := typeP_pos w
  constructor
  · rw [Int.add_comm, Int.add_mul_ediv_right _ _ (by omega), Int.ediv_eq_zero_of_lt h3 ht]
    omega
  · rw [Int.add_comm, Int.add_mul_emod_self_right, Int.emod_eq_of_lt h3 ht]
theorem relOf_put (big w a : Bool) (off sym ty add : Int) (h1 : u64P off) (h2 : u64P sym) (h3 : u64P ty) (h4 : u64P add) (h : goodR w a off sym ty add = true) (rest : List UInt8) :
    relOf big w a ((putL big off (wordN w) ++ (putL big (sym * typeP w + ty) (wordN w) ++ (if a = true then putL big add (wordN w) else []))) ++ rest) = (off, sym, ty, add) := by
  have hg := (good_iff w a off sym ty add).1 h
  have hi := info_lt w sym ty h2 h3 hg.2.2.2.1 hg.2.2.1
  have hp := typeP_pos w
  have hi0 : 0 ≤ sym * typeP w + ty := Int.add_nonneg (Int.mul_nonneg h2.1 (by omega)) h3.1
  have l1 := putW_len big w off
  have l2 := putW_len big w (sym * typeP w + ty)
  have l3 := putW_len big w add
  have e1 : numAt big ((putL big off (wordN w) ++ (putL big (sym * typeP w + ty) (wordN w) ++ (if a = true then putL big add (wordN w) else []))) ++ rest) 0 (wordN w) = off := by
    have := numAt_app big [] (putL big off (wordN w)) ((putL big (sym * typeP w + ty) (wordN w) ++ (if a = true then putL big add (wordN w) else [])) ++ rest) (wordN w) l1
    rw [List.nil_append, ← List.append_assoc, getW big w off h1.1 hg.1] at this
    exact this
  have e2 : numAt big ((putL big off (wordN w) ++ (putL big (sym * typeP w + ty) (wordN w) ++ (if a = true then putL big add (wordN w) else []))) ++ rest) (wordN w) (wordN w) = sym * typeP w + ty := by
    have := numAt_app big (putL big off (wordN w)) (putL big (sym * typeP w + ty) (wordN w)) ((if a = true then putL big add (wordN w) else []) ++ rest) (wordN w) l2
    rw [l1, getW big w _ hi0 hi] at this
    rw [List.append_assoc, List.append_assoc]
    exact this
  have hs := split_info w sym ty h3.1 hg.2.2.1
  unfold relOf
  rw [e1, e2, hs.1, hs.2]
  cases a
  · have h0 : add = 0 := by simpa using hg.2.2.2.2
    rw [h0]
    rfl
  · rw [if_pos rfl]
    have e3 : numAt big ((putL big off (wordN w) ++ (putL big (sym * typeP w + ty) (wordN w) ++ (if true = true then putL big add (wordN w) else []))) ++ rest) (2 * wordN w) (wordN w) = add := by
      have := numAt_app big (putL big off (wordN w) ++ putL big (sym * typeP w + ty) (wordN w)) (putL big add (wordN w)) rest (wordN w) l3
      rw [List.length_append, l1, l2, getW big w add h4.1 hg.2.1] at this
      rw [if_pos rfl, List.append_assoc, List.append_assoc, Nat.two_mul]
      rw [List.append_assoc] at this
      exact this
    rw [e3]
theorem relOf_good (big w a : Bool) (l : List UInt8) (h : wordsN a * wordN w ≤ l.length) :
    goodR w a (relOf big w a l).1 (relOf big w a l).2.1 (relOf big w a l).2.2.1 (relOf big w a l).2.2.2 = true ∧ u64P (relOf big w a l).1 ∧ u64P (relOf big w a l).2.1 ∧ u64P (relOf big w a l).2.2.1 ∧ u64P (relOf big w a l).2.2.2 ∧
    (putL big (relOf big w a l).1 (wordN w) ++ (putL big ((relOf big w a l).2.1 * typeP w + (relOf big w a l).2.2.1) (wordN w) ++ (if a = true then putL big (relOf big w a l).2.2.2 (wordN w) else []))) = l.take (wordsN a * wordN w) := by
  have hw := wordN_le w
  have hwa : wordsN a ≥ 2 := by unfold wordsN; split <;> omega
  have hww : 2 * wordN w ≤ wordsN a * wordN w := Nat.mul_le_mul_right _ hwa
  have tp := typeP_pos w
  have r1 := numAt_range big l 0 (wordN w)
  have r2 := numAt_range big l (wordN w) (wordN w)
  have r3 := numAt_range big l (2 * wordN w) (wordN w)
  have b1 := numAt_lt big l 0 (wordN w) (by omega) (by omega)
  have b2 := numAt_lt big l (wordN w) (wordN w) (by omega) (by omega)
  have p1 := put_numAt big l 0 (wordN w) (by omega) (by omega) (by omega)
  have p2 := put_numAt big l (wordN w) (wordN w) (by omega) (by omega) (by omega)
  have hq : numAt big l (wordN w) (wordN w) / typeP w < symQ w := by
    rw [pow_word] at b2
    unfold typeP symQ
    cases w <;> simp at * <;> omega
  have hm := Int.emod_lt_of_pos (numAt big l (wordN w) (wordN w)) tp
  have hm0 := Int.emod_nonneg (numAt big l (wordN w) (wordN w)) (show typeP w ≠ 0 by omega)
  have hd0 := Int.ediv_nonneg r2.1 (show 0 ≤ typeP w by omega)
  have hdm := Int.mul_ediv_add_emod (numAt big l (wordN w) (wordN w)) (typeP w)
  have hinfo : numAt big l (wordN w) (wordN w) / typeP w * typeP w + numAt big l (wordN w) (wordN w) % typeP w = numAt big l (wordN w) (wordN w) := by rw [Int.mul_comm]; exact hdm
  have hsq : symQ w ≤ 18446744073709551616 ∧ typeP w ≤ 18446744073709551616 := by unfold symQ typeP; cases w <;> decide
  have t2 : (l.drop 0).take (wordN w) ++ (l.drop (wordN w)).take (wordN w) = l.take (2 * wordN w) := by
    rw [List.drop_zero, Nat.two_mul, List.take_add]
  cases a
  · have hgood : goodR w false (numAt big l 0 (wordN w)) (numAt big l (wordN w) (wordN w) / typeP w) (numAt big l (wordN w) (wordN w) % typeP w) 0 = true :=
      (good_iff _ _ _ _ _ _).2 ⟨b1, by rw [pow_word]; split <;> decide, hm, hq, .inr rfl⟩
    refine ⟨hgood, r1, ⟨hd0, by show numAt big l (wordN w) (wordN w) / typeP w < _; omega⟩, ⟨hm0, by show numAt big l (wordN w) (wordN w) % typeP w < _; omega⟩, (show u64P 0 from ⟨by decide, by decide⟩), ?_⟩
    show putL big (numAt big l 0 (wordN w)) (wordN w) ++ (putL big (numAt big l (wordN w) (wordN w) / typeP w * typeP w + numAt big l (wordN w) (wordN w) % typeP w) (wordN w) ++ []) = _
    rw [hinfo, p1, p2, List.append_nil, t2]
    rfl
  · have h3 : 3 * wordN w ≤ l.length := h
    have b3 := numAt_lt big l (2 * wordN w) (wordN w) (by omega) (by omega)
    have p3 := put_numAt big l (2 * wordN w) (wordN w) (by omega) (by omega) (by omega)
    have hgood : goodR w true (numAt big l 0 (wordN w)) (numAt big l (wordN w) (wordN w) / typeP w) (numAt big l (wordN w) (wordN w) % typeP w) (numAt big l (2 * wordN w) (wordN w)) = true :=
      (good_iff _ _ _ _ _ _).2 ⟨b1, b3, hm, hq, .inl rfl⟩
    refine ⟨hgood, r1, ⟨hd0, by show numAt big l (wordN w) (wordN w) / typeP w < _; omega⟩, ⟨hm0, by show numAt big l (wordN w) (wordN w) % typeP w < _; omega⟩, r3, ?_⟩
    show putL big (numAt big l 0 (wordN w)) (wordN w) ++ (putL big (numAt big l (wordN w) (wordN w) / typeP w * typeP w + numAt big l (wordN w) (wordN w) % typeP w) (wordN w) ++ putL big (numAt big l (2 * wordN w) (wordN w)) (wordN w)) = _
    rw [hinfo, p1, p2, p3, ← List.append_assoc, t2, ← List.take_add]
    congr 1
    show 2 * wordN w + wordN w = 3 * wordN w
    omega
end Go.Proofs.YteoeohkjomehoaaDoor.Q
end
section
namespace Go.Proofs.YteoeohkjomehoaaDoor.Q
open Go.RowKit Go.Proofs.YteoeohkjomehoaaDoorW.PrintWords Go.Proofs.YteoeohkjomehoaaDoorW.PrintMore Go.Proofs.YteoeohkjomehoaaDoor.Mth
set_option linter.unusedVariables false
set_option linter.unusedSimpArgs false

def magicL : List UInt8 := [127, 69, 76, 70]
theorem bt_at9 {s : ByteArray} {l : List UInt8} (h : s.data.toList = l) (i : Nat) (hi : i < l.length) : bt s (i : Int) = ((l[i]'hi).toNat : Int) := by
  subst h
  exact bt_eq s i hi
theorem prefix_is (s : ByteArray) (h : 4 ≤ s.size) : strings_HasPrefix.f s ⟨#[127, 69, 76, 70]⟩ = some (s.data.toList.take 4 == magicL) := by
  unfold strings_HasPrefix.f stringslite_HasPrefix.f
  have e : ((⟨#[127, 69, 76, 70]⟩ : ByteArray).size : Int) = 4 := rfl
  rw [e, if_pos (show (s.size : Int) ≥ 4 by omega), if_pos (by decide), if_pos (by omega), toList_data, extract_data, toList_data, Option.bind_some]
  rfl
/-- The program's answer for first bytes that are there. -/
def readV (x4 x5 x6 x7 x8 : UInt8) (m : List UInt8) (rest : List UInt8) : Bool × Bool × Int × Int × ByteArray × Int :=
  if m = magicL then (if x4 = 1 ∨ x4 = 2 then (if x5 = 1 ∨ x5 = 2 then (if x6 = 1 then (x5 == 2, x4 == 2, (x7.toNat : Int), (x8.toNat : Int), ⟨(rest.take 7).toArray⟩, 0) else (false, false, 0, 0, ⟨#[]⟩, 7)) else (false, false, 0, 0, ⟨#[]⟩, 6)) else (false, false, 0, 0, ⟨#[]⟩, 5)) else (false, false, 0, 0, ⟨#[]⟩, 4)
theorem byte_eq (x : UInt8) (n : Nat) (hn : n < 256) : (((x.toNat : Nat) : Int) = (n : Int)) ↔ x = UInt8.ofNat n := by
  constructor
  · intro h
    have : x.toNat = n := by omega
    rw [← this]
    simp
  · intro h
    rw [h]
    simp
    omega
theorem byte_1 (x : UInt8) : (((x.toNat : Nat) : Int) = 1) ↔ x = 1 := byte_eq x 1 (by omega)
theorem byte_2 (x : UInt8) : (((x.toNat : Nat) : Int) = 2) ↔ x = 2 := byte_eq x 2 (by omega)
theorem one_is (x : UInt8) : class_one.f (x.toNat : Int) = some (x == 2, decide (x = 1 ∨ x = 2)) := by
  have h1 := byte_1 x
  have h2 := byte_2 x
  have e2 : (((x.toNat : Nat) : Int) == 2) = (x == 2) := by
    rw [Bool.eq_iff_iff, beq_iff_eq, beq_iff_eq]
    exact h2
  unfold class_one.f
  rw [e2]
  by_cases c : x = 1
  · rw [if_pos (h1.2 c), decide_eq_true (Or.inl c)]
  · rw [if_neg (fun h => c (h1.1 h))]
    congr 2
    rw [Bool.eq_iff_iff, beq_iff_eq, decide_eq_true_iff]
    constructor
    · intro h; exact .inr h
    · rintro (h | h)
      · exact absurd h c
      · exact h
theorem read_is (s : ByteArray) (x0 x1 x2 x3 x4 x5 x6 x7 x8 : UInt8) (rest : List UInt8) (h : s.data.toList = x0 :: x1 :: x2 :: x3 :: x4 :: x5 :: x6 :: x7 :: x8 :: rest) (hr : 7 ≤ rest.length) :
    class_Read.f s = some (readV x4 x5 x6 x7 x8 [x0, x1, x2, x3] rest) := by
  have hl : s.data.toList.length = s.size := data_length s
  have hsz : 16 ≤ s.size := by rw [← hl, h]; simp; omega
  have b4 : bt s 4 = (x4.toNat : Int) := bt_at9 h 4 (by simp)
  have b5 : bt s 5 = (x5.toNat : Int) := bt_at9 h 5 (by simp)
  have b6 : bt s 6 = (x6.toNat : Int) := bt_at9 h 6 (by simp)
  have b7 : bt s 7 = (x7.toNat : Int) := bt_at9 h 7 (by simp)
  have b8 : bt s 8 = (x8.toNat : Int) := bt_at9 h 8 (by simp)
  have ht : s.data.toList.take 4 = [x0, x1, x2, x3] := by rw [h]; rfl
  have he : s.extract 9 16 = ⟨(rest.take 7).toArray⟩ := by
    apply ba_ext
    rw [extract_data, h]
    rfl
  unfold class_Read.f readV
  rw [if_neg (by omega), if_pos (by omega), b4, bnd (one_is x4), if_pos (by omega), b5, bnd (one_is x5), bnd (prefix_is s (by omega)), ht, b6, b7, b8, he]
  by_cases c0 : [x0, x1, x2, x3] = magicL
  · rw [if_pos (by simpa using c0), if_pos c0]
    by_cases c4 : x4 = 1 ∨ x4 = 2
    · rw [if_pos (by simpa using c4), if_pos c4]
      by_cases c5 : x5 = 1 ∨ x5 = 2
      · rw [if_pos (by simpa using c5), if_pos c5, if_pos (by omega)]
        by_cases c6 : x6 = 1
        · rw [if_pos ((byte_1 x6).2 c6), if_pos c6, if_pos (by omega), if_pos (by omega), if_pos (by omega), if_pos (by omega)]
        · rw [if_neg (fun hh => c6 ((byte_1 x6).1 hh)), if_neg c6]
      · rw [if_neg (by simpa using c5), if_neg c5]
    · rw [if_neg (by simpa using c4), if_neg c4]
  · rw [if_neg (by simpa using c0), if_neg c0]
theorem read_short (s : ByteArray) (h : s.size < 16) : class_Read.f s = some (false, false, 0, 0, ⟨#[]⟩, 3) := by
  unfold class_Read.f
  rw [if_pos (by omega)]
theorem nine (l : List UInt8) (h : 16 ≤ l.length) : ∃ x0 x1 x2 x3 x4 x5 x6 x7 x8 rest, l = x0 :: x1 :: x2 :: x3 :: x4 :: x5 :: x6 :: x7 :: x8 :: rest ∧ 7 ≤ rest.length := by
  match l, h with
  | x0 :: x1 :: x2 :: x3 :: x4 :: x5 :: x6 :: x7 :: x8 :: rest, h => exact ⟨x0, x1, x2, x3, x4, x5, x6, x7, x8, rest, rfl, by simp at h; omega⟩
def twoB (b : Bool) : UInt8 := if b = true then 2 else 1
theorem two_is (b : Bool) : class_two.f b = some ((twoB b).toNat : Int) := by cases b <;> rfl
theorem rep_zero : ∀ n, Lib.repeatL [0] n = List.replicate n 0
  | 0 => rfl
  | n + 1 => by rw [Lib.repeatL, rep_zero n]; rfl
/-- An ident's bytes. -/
def identL (big wide : Bool) (abi ver : UInt8) (pad : List UInt8) : List UInt8 :=
  magicL ++ ([twoB wide, twoB big, 1, abi, ver] ++ (pad.take 7 ++ List.replicate (7 - (pad.take 7).length) 0))
theorem ident_is (big wide : Bool) (abi ver : UInt8) (pad : ByteArray) (hp : pad.size ≤ 140737488351232) : class_Ident_Bytes.f big wide (abi.toNat : Int) (ver.toNat : Int) pad = some ⟨(identL big wide abi ver pad.data.toList).toArray⟩ := by
  have hcut : (pad.extract 0 ((mn (pad.size : Int) 7) : Int).toNat).data.toList = pad.data.toList.take 7 := by
    rw [extract_data, mn_eq, List.drop_zero, Nat.sub_zero]
    have hl : pad.data.toList.length = pad.size := data_length pad
    by_cases h : pad.size ≤ 7
    · rw [List.take_of_length_le (by omega), List.take_of_length_le (by omega)]
    · congr 1
      omega
  unfold class_Ident_Bytes.f
  rw [if_pos (by rw [mn_eq]; omega), if_pos (by rw [mn_eq]; omega), bnd (two_is wide), bnd (two_is big), Option.bind_some]
  generalize pad.extract 0 ((mn (pad.size : Int) 7) : Int).toNat = c at *
  have hcl : c.size ≤ 7 := by rw [ba_size, hcut, List.length_take]; omega
  have hcl2 : c.size = (pad.data.toList.take 7).length := by rw [ba_size, hcut]
  have hstr : (strOfNums [((twoB wide).toNat : Int), ((twoB big).toNat : Int), 1, (abi.toNat : Int), (ver.toNat : Int)]) = ⟨[twoB wide, twoB big, 1, abi, ver].toArray⟩ := by
    simp [strOfNums]
  rw [hstr]
  have z1 : (⟨[twoB wide, twoB big, 1, abi, ver].toArray⟩ : ByteArray).size = 5 := rfl
  have z2 : (⟨#[127, 69, 76, 70]⟩ : ByteArray).size = 4 := rfl
  have hrep : strings_Repeat.f (⟨#[0]⟩ : ByteArray) (wrap64 (7 - (c.size : Int))) = some ⟨(List.replicate (7 - c.size) 0).toArray⟩ := by
    have hw : wrap64 (7 - (c.size : Int)) = ((7 - c.size : Nat) : Int) := by rw [wrap64_id (by omega) (by omega)]; omega
    have z0 : (⟨#[0]⟩ : ByteArray).size = 1 := rfl
    unfold strings_Repeat.f
    rw [hw, if_pos (by omega), if_pos (by omega), Int.toNat_natCast, z0, if_pos (by omega)]
    show some (⟨(Lib.repeatL [0] (7 - c.size)).toArray⟩ : ByteArray) = _
    rw [rep_zero]
  have z3 : (⟨(List.replicate (7 - c.size) 0).toArray⟩ : ByteArray).size = 7 - c.size := by rw [ba_size, mk_list, List.length_replicate]
  rw [z1, if_pos (by omega), if_pos (by rw [ByteArray.size_append, z1, z2]; omega), bnd hrep, if_pos (by rw [ByteArray.size_append, ByteArray.size_append, z1, z2, z3]; omega)]
  congr 1
  apply ba_ext
  rw [append_data, append_data, append_data, mk_list, mk_list, mk_list, hcut, hcl2]
  unfold identL
  simp [magicL]
end Go.Proofs.YteoeohkjomehoaaDoor.Q
end
