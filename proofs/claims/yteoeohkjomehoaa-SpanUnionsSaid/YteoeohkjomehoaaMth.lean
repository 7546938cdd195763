/- Plain facts on numbers and their bytes, in both orders: no Go, no memory. -/
import Derived.Test.YteoeohkjomehoaaWMore
import Derived.Lib.Strings
namespace Go.Proofs.Yteoeohkjomehoaa.Mth
open Go.RowKit Go.Proofs.YteoeohkjomehoaaW.PrintWords Go.Proofs.YteoeohkjomehoaaW.PrintMore
set_option linter.unusedVariables false
set_option linter.unusedSimpArgs false

/-- A number's lowest bytes, the lowest first. -/
def toLE : Nat → Nat → List UInt8
  | _, 0 => []
  | n, k + 1 => UInt8.ofNat (n % 256) :: toLE (n / 256) k
/-- The number of bytes, the lowest first. -/
def leN : List UInt8 → Nat
  | [] => 0
  | b :: r => b.toNat + 256 * leN r
theorem toLE_length (n k : Nat) : (toLE n k).length = k := by
  induction k generalizing n with
  | zero => rfl
  | succ k ih => simp [toLE, ih]
theorem leN_lt (l : List UInt8) : leN l < 256 ^ l.length := by
  induction l with
  | nil => simp [leN]
  | cons b r ih =>
    have := b.toNat_lt
    simp only [leN, List.length_cons, Nat.pow_succ]
    omega
theorem leN_toLE (n k : Nat) : leN (toLE n k) = n % 256 ^ k := by
  induction k generalizing n with
  | zero => simp [toLE, leN, Nat.mod_one]
  | succ k ih =>
    simp only [toLE, leN, ih]
    rw [Nat.pow_succ, Nat.mul_comm (256 ^ k) 256, Nat.mod_mul]
    have : (UInt8.ofNat (n % 256)).toNat = n % 256 := by simp
    rw [this]
theorem leN_toLE_of_lt {n k : Nat} (h : n < 256 ^ k) : leN (toLE n k) = n := by rw [leN_toLE, Nat.mod_eq_of_lt h]
theorem toLE_leN (l : List UInt8) : toLE (leN l) l.length = l := by
  induction l with
  | nil => rfl
  | cons b r ih =>
    have hb := b.toNat_lt
    simp only [leN, List.length_cons, toLE]
    rw [show (b.toNat + 256 * leN r) % 256 = b.toNat by omega, show (b.toNat + 256 * leN r) / 256 = leN r by omega, ih]
    simp
theorem leN_append (a b : List UInt8) : leN (a ++ b) = leN a + 256 ^ a.length * leN b := by
  induction a with
  | nil => simp [leN]
  | cons x r ih =>
    simp only [List.cons_append, leN, ih, List.length_cons, Nat.pow_succ]
    rw [Nat.mul_add, Nat.add_assoc, ← Nat.mul_assoc, Nat.mul_comm 256 (256 ^ r.length)]
theorem toLE_snoc (n k : Nat) : toLE n (k + 1) = toLE n k ++ [UInt8.ofNat (n / 256 ^ k % 256)] := by
  induction k generalizing n with
  | zero => simp [toLE]
  | succ k ih =>
    rw [toLE, ih, toLE, Nat.div_div_eq_div_mul, Nat.pow_succ, Nat.mul_comm 256 (256 ^ k)]
    rfl
theorem toLE_mod (n k : Nat) : toLE (n % 256 ^ k) k = toLE n k := by
  have h := toLE_leN (toLE n k)
  rw [leN_toLE, toLE_length] at h
  exact h
/-- The order of so many bytes. -/
def ord (big : Bool) (l : List UInt8) : List UInt8 := if big = true then l.reverse else l
theorem ord_length (big : Bool) (l : List UInt8) : (ord big l).length = l.length := by cases big <;> simp [ord]
theorem ord_ord (big : Bool) (l : List UInt8) : ord big (ord big l) = l := by cases big <;> simp [ord]
/-- A number's bytes, as the program and the document have them. -/
def putL (big : Bool) (n size : Int) : List UInt8 := if 1 ≤ size ∧ size ≤ 8 then ord big (toLE n.toNat size.toNat) else []
def putS (big : Bool) (n size : Int) : ByteArray := ⟨(putL big n size).toArray⟩
def getL (big : Bool) (l : List UInt8) : Int := if l.length ≤ 8 then (leN (ord big l) : Int) else 0
def getS (big : Bool) (s : ByteArray) : Int := getL big s.data.toList
theorem putS_list (big : Bool) (n size : Int) : (putS big n size).data.toList = putL big n size := rfl
theorem putL_length (big : Bool) (n size : Int) : (putL big n size).length = if 1 ≤ size ∧ size ≤ 8 then size.toNat else 0 := by
  unfold putL
  split
  · rw [ord_length, toLE_length]
  · rfl
theorem putS_size (big : Bool) (n size : Int) : (putS big n size).size = if 1 ≤ size ∧ size ≤ 8 then size.toNat else 0 := by
  have : (putS big n size).size = (putL big n size).length := by simp [putS, ByteArray.size]
  rw [this, putL_length]
theorem putS_size_le (big : Bool) (n size : Int) : (putS big n size).size ≤ 8 := by rw [putS_size]; split <;> omega
theorem getL_range (big : Bool) (l : List UInt8) : 0 ≤ getL big l ∧ getL big l < 18446744073709551616 := by
  unfold getL
  split
  · rename_i h
    have h1 := leN_lt (ord big l)
    rw [ord_length] at h1
    have h2 : 256 ^ l.length ≤ 256 ^ 8 := Nat.pow_le_pow_right (by omega) h
    have : (256 : Nat) ^ 8 = 18446744073709551616 := by decide
    omega
  · omega
theorem getL_lt (big : Bool) (l : List UInt8) (h : l.length ≤ 8) : getL big l < 256 ^ l.length := by
  unfold getL
  rw [if_pos h]
  have h1 := leN_lt (ord big l)
  rw [ord_length] at h1
  have h2 : ((256 : Int) ^ l.length) = ((256 ^ l.length : Nat) : Int) := by rw [Int.natCast_pow]; rfl
  rw [h2]
  exact Int.ofNat_lt.2 h1
theorem getL_putL (big : Bool) (n size : Int) (h1 : 1 ≤ size) (h8 : size ≤ 8) (h0 : 0 ≤ n) : getL big (putL big n size) = n % 256 ^ size.toNat := by
  unfold getL
  rw [putL_length, if_pos (by rw [if_pos ⟨h1, h8⟩]; omega)]
  unfold putL
  rw [if_pos ⟨h1, h8⟩, ord_ord, leN_toLE]
  obtain ⟨m, rfl⟩ := Int.eq_ofNat_of_zero_le h0
  rw [Int.toNat_natCast, Int.natCast_emod, Int.natCast_pow]
  rfl
theorem getL_putL_fit (big : Bool) (n size : Int) (h1 : 1 ≤ size) (h8 : size ≤ 8) (h0 : 0 ≤ n) (hn : n < 256 ^ size.toNat) : getL big (putL big n size) = n := by
  rw [getL_putL big n size h1 h8 h0, Int.emod_eq_of_lt h0 hn]
theorem putL_getL (big : Bool) (l : List UInt8) (h1 : 1 ≤ l.length) (h8 : l.length ≤ 8) : putL big (getL big l) (l.length : Int) = l := by
  unfold putL getL
  rw [if_pos (by omega), if_pos h8]
  simp only [Int.toNat_natCast]
  have := toLE_leN (ord big l)
  rw [ord_length] at this
  rw [this, ord_ord]
theorem getL_nil (big : Bool) : getL big [] = 0 := by cases big <;> rfl
/-- Bytes of a string as numbers. -/
theorem bt_eq (s : ByteArray) (i : Nat) (h : i < s.data.toList.length) : bt s (i : Int) = ((s.data.toList[i]'h).toNat : Int) := by
  have h' : i < s.size := by rw [← data_length]; exact h
  unfold bt
  rw [dif_pos (by simpa using h')]
  simp
  rfl
theorem strOfNums_cons (x : Int) (xs : List Int) : strOfNums (x :: xs) = ⟨(UInt8.ofNat x.toNat :: (xs.map fun n => UInt8.ofNat n.toNat)).toArray⟩ := rfl
theorem wrap64_id {n : Int} (h0 : -9223372036854775808 ≤ n) (h1 : n < 9223372036854775808) : wrap64 n = n := by unfold wrap64; omega
theorem wrapu_id {n : Int} (h0 : 0 ≤ n) (h1 : n < 18446744073709551616) : IntKind.u64.wrap n = n := by
  simp [IntKind.wrap, IntKind.bits, IntKind.signed]; omega
theorem shr_u64 (n : Int) (i : Nat) (hi : i ≤ 7) : shr .u64 n (8 * (i : Int)) = n / 256 ^ i := by
  unfold shr
  have : min (8 * (i : Int)).toNat IntKind.u64.bits = 8 * i := by simp [IntKind.bits]; omega
  rw [this, Int.pow_mul]
  rfl
theorem shr_nat (n : Nat) (i : Nat) (hi : i ≤ 7) : shr .u64 (n : Int) (8 * (i : Int)) % 256 = ((n / 256 ^ i % 256 : Nat) : Int) := by
  rw [shr_u64 _ _ hi]
  simp
theorem shl_byte (b i : Nat) (hb : b < 256) (hi : i ≤ 7) : shl .u64 (b : Int) (8 * (i : Int)) = ((256 ^ i * b : Nat) : Int) := by
  unfold shl
  have h1 : min (8 * (i : Int)).toNat IntKind.u64.bits = 8 * i := by simp [IntKind.bits]; omega
  rw [h1, Int.pow_mul, wrapu_id]
  · rw [Int.natCast_mul, Int.natCast_pow]; exact Int.mul_comm _ _
  · exact Int.mul_nonneg (by omega) (Int.pow_nonneg (by omega))
  · have h2 : (256 : Nat) ^ i * 256 ≤ 256 ^ 8 := by
      rw [← Nat.pow_succ]; exact Nat.pow_le_pow_right (by omega) (by omega)
    have h3 : (256 : Nat) ^ 8 = 18446744073709551616 := by decide
    have h4 : 256 ^ i * (b + 1) ≤ 256 ^ i * 256 := Nat.mul_le_mul_left _ (by omega)
    have h5 : 256 ^ i * (b + 1) = 256 ^ i * b + 256 ^ i := by rw [Nat.mul_add, Nat.mul_one]
    have h6 : 0 < (256 : Nat) ^ i := Nat.pow_pos (by omega)
    have h7 : 256 ^ i * b < 18446744073709551616 := by omega
    have h8 : (b : Int) * (2 ^ 8) ^ i = ((256 ^ i * b : Nat) : Int) := by
      rw [Int.natCast_mul, Int.natCast_pow]; exact Int.mul_comm _ _
    rw [h8]; omega
theorem or_add (a c i : Nat) (ha : a < 256 ^ i) (hc : 256 ^ i * c + a < 18446744073709551616) : Go.bits .or .u64 (a : Int) ((256 ^ i * c : Nat) : Int) = ((a + 256 ^ i * c : Nat) : Int) := by
  have h64 : ∀ n : Int, 0 ≤ n → n < 2 ^ 64 → IntKind.u64.wrap n = n := fun n h0 h1 => wrapu_id h0 (by simpa using h1)
  rw [(bits_nat .u64 64 (by decide) h64 a (256 ^ i * c) (by omega) (by omega)).2]
  have hp : (256 : Nat) ^ i = 2 ^ (8 * i) := by rw [Nat.pow_mul]
  rw [hp] at ha ⊢
  rw [Nat.or_comm, ← Nat.two_pow_add_eq_or_of_lt ha c, Nat.add_comm]
theorem mn_eq (a b : Int) : mn a b = min a b := by unfold mn; split <;> omega
theorem toList_data (s : ByteArray) : s.toList = s.data.toList := ByteArray.toList_eq s
theorem ba_ext {s t : ByteArray} (h : s.data.toList = t.data.toList) : s = t := by
  cases s; cases t; congr 1; exact Array.toList_inj.mp h
theorem ba_size (s : ByteArray) : s.size = s.data.toList.length := (data_length s).symm
theorem mk_list (l : List UInt8) : (⟨l.toArray⟩ : ByteArray).data.toList = l := rfl
theorem append_data (a b : ByteArray) : (a ++ b).data.toList = a.data.toList ++ b.data.toList := by
  rw [ByteArray.data_append]; simp
theorem extract_data (s : ByteArray) (a b : Nat) : (s.extract a b).data.toList = (s.data.toList.drop a).take (b - a) := by
  rw [← toList_data]; exact Lib.extract_toList s a b
theorem ev_pos {α : Type} {c : Prop} [Decidable c] {a b : Nat → Option α} {r : α} (h : c) (ha : Ev a r) : Ev (fun k => if c then a k else b k) r := by
  simp only [if_pos h]; exact ha
theorem ev_neg {α : Type} {c : Prop} [Decidable c] {a b : Nat → Option α} {r : α} (h : ¬ c) (hb : Ev b r) : Ev (fun k => if c then a k else b k) r := by
  simp only [if_neg h]; exact hb
theorem ev_now {α : Type} {a r : α} (h : a = r) : Ev (fun _ => some a) r := by rw [h]; exact Ev.now r
theorem ev_const {α β : Type} {a : Option α} {x : α} {f : Nat → α → Option β} {r : β} (h : a = some x) (k : Ev (fun n => f n x) r) : Ev (fun n => a.bind (f n)) r := by
  rw [h]; exact k
theorem ev_eq {α : Type} {g : Nat → Option α} {a r : α} (h : Ev g a) (e : a = r) : Ev g r := e ▸ h
theorem wf_u64 {n : Int} (h : (Lit.int .u64 n).wf = true) : 0 ≤ n ∧ n < 18446744073709551616 := by
  simp [Lit.wf, IntKind.min, IntKind.max, IntKind.signed, IntKind.bits] at h
  omega
theorem wf_i64 {n : Int} (h : (Lit.int .i64 n).wf = true) : -9223372036854775808 ≤ n ∧ n < 9223372036854775808 := by
  simp [Lit.wf, IntKind.min, IntKind.max, IntKind.signed, IntKind.bits] at h
  omega
end Go.Proofs.Yteoeohkjomehoaa.Mth
