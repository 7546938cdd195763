/- Plain facts on numbers and their bytes, in both orders: no Go, no memory. -/
import Derived.Lib.Strings
import Derived.Test.YtceilmhinkkgfaaDoorQ13
import Derived.Lib.Repeat
import Derived.Test.YtceilmhinkkgfaaDoorQ25
import Derived.Test.YtceilmhinkkgfaaDoorQ31
set_option linter.unusedVariables false
set_option linter.unusedSimpArgs false
section
namespace Go.Proofs.YtceilmhinkkgfaaDoor.Mth
open Go.RowKit Go.Proofs.YtceilmhinkkgfaaDoorW.PrintWords Go.Proofs.YtceilmhinkkgfaaDoorW.PrintMore

def toLE : Nat → Nat → List UInt8
  | _, 0 => []
  | n, k + 1 => UInt8.ofNat (n % 256) :: toLE (n / 256) k
def leN : List UInt8 → Nat
  | [] => 0
  | b :: r => b.toNat + 256 * leN r
theorem leN_lt (l : List UInt8) : leN l < 256 ^ l.length := by
  induction l with
  | nil => simp [leN]
  | cons b r ih =>
    have := b.toNat_lt
    simp only [leN, List.length_cons, Nat.pow_succ]
    omega
theorem leN_append (a b : List UInt8) : leN (a ++ b) = leN a + 256 ^ a.length * leN b := by
  induction a with
  | nil => simp [leN]
  | cons x r ih =>
    simp only [List.cons_append, leN, ih, List.length_cons, Nat.pow_succ]
    rw [Nat.mul_add, Nat.add_assoc, ← Nat.mul_assoc, Nat.mul_comm 256 (256 ^ r.length)]
def ord (big : Bool) (l : List UInt8) : List UInt8 := if big = true then l.reverse else l
theorem ord_length (big : Bool) (l : List UInt8) : (ord big l).length = l.length := by cases big <;> simp [ord]
def putL (big : Bool) (n size : Int) : List UInt8 := if 1 ≤ size ∧ size ≤ 8 then ord big (toLE n.toNat size.toNat) else []
def getL (big : Bool) (l : List UInt8) : Int := if l.length ≤ 8 then (leN (ord big l) : Int) else 0
def getS (big : Bool) (s : ByteArray) : Int := getL big s.data.toList
theorem getL_range (big : Bool) (l : List UInt8) : 0 ≤ getL big l ∧ getL big l < 18446744073709551616 := by
  unfold getL
  split
  · rename_i h
    have h1 := leN_lt (ord big l)
    rw [ord_length] at h1
    have h2 : 256 ^ l.length ≤ 256 ^ 8 := Nat.pow_le_pow_right (by omega) h
    have : (256 : Nat) ^ 8 = 18446744073709551616 := by decide
    omega
  · omega
theorem bt_eq (s : ByteArray) (i : Nat) (h : i < s.data.toList.length) : bt s (i : Int) = ((s.data.toList[i]'h).toNat : Int) := by
  have h' : i < s.size := by rw [← data_length]; exact h
  unfold bt
  rw [dif_pos (by simpa using h')]
  simp
  rfl
theorem wrap64_id {n : Int} (h0 : -9223372036854775808 ≤ n) (h1 : n < 9223372036854775808) : wrap64 n = n := by unfold wrap64; omega
theorem wrapu_id {n : Int} (h0 : 0 ≤ n) (h1 : n < 18446744073709551616) : IntKind.u64.wrap n = n := by
  simp [IntKind.wrap, IntKind.bits, IntKind.signed]; omega
theorem shl_byte (b i : Nat) (hb : b < 256) (hi : i ≤ 7) : shl .u64 (b : Int) (8 * (i : Int)) = ((256 ^ i * b : Nat) : Int) := by
  unfold shl
  have h1 : min (8 * (i : Int)).toNat IntKind.u64.bits = 8 * i := by simp [IntKind.bits]; omega
  rw [h1, Int.pow_mul, wrapu_id]
  · rw [Int.natCast_mul, Int.natCast_pow]; exact Int.mul_comm _ _
  · exact Int.mul_nonneg (by omega) (Int.pow_nonneg (by omega))
  · have h2 : (256 : Nat) ^ i * 256 ≤ 256 ^ 8 := by
      rw [← Nat.pow_succ]; exact Nat.pow_le_pow_right (by omega) (by omega)
    have h3 : (256 : Nat) ^ 8 = 18446744073709551616 := by decide
    have h4 : 256 ^ i * (b + 1) ≤ 256 ^ i * 256 := Nat.mul_le_mul_left _ (by omega)
    have h5 : 256 ^ i * (b + 1) = 256 ^ i * b + 256 ^ i := by rw [Nat.mul_add, Nat.mul_one]
    have h6 : 0 < (256 : Nat) ^ i := Nat.pow_pos (by omega)
    have h7 : 256 ^ i * b < 18446744073709551616 := by omega
    have h8 : (b : Int) * (2 ^ 8) ^ i = ((256 ^ i * b : Nat) : Int) := by
      rw [Int.natCast_mul, Int.natCast_pow]; exact Int.mul_comm _ _
    rw [h8]; omega
theorem or_add (a c i : Nat) (ha : a < 256 ^ i) (hc : 256 ^ i * c + a < 18446744073709551616) : Go.bits .or .u64 (a : Int) ((256 ^ i * c : Nat) : Int) = ((a + 256 ^ i * c : Nat) : Int) := by
  have h64 : ∀ n : Int, 0 ≤ n → n < 2 ^ 64 → IntKind.u64.wrap n = n := fun n h0 h1 => wrapu_id h0 (by simpa using h1)
  rw [(bits_nat .u64 64 (by decide) h64 a (256 ^ i * c) (by omega) (by omega)).2]
  have hp : (256 : Nat) ^ i = 2 ^ (8 * i) := by rw [Nat.pow_mul]
  rw [hp] at ha ⊢
  rw [Nat.or_comm, ← Nat.two_pow_add_eq_or_of_lt ha c, Nat.add_comm]
theorem mn_eq (a b : Int) : mn a b = min a b := by unfold mn; split <;> omega
theorem toList_data (s : ByteArray) : s.toList = s.data.toList := ByteArray.toList_eq s
theorem ba_ext {s t : ByteArray} (h : s.data.toList = t.data.toList) : s = t := by
  cases s; cases t; congr 1; exact Array.toList_inj.mp h
theorem ba_size (s : ByteArray) : s.size = s.data.toList.length := (data_length s).symm
theorem mk_list (l : List UInt8) : (⟨l.toArray⟩ : ByteArray).data.toList = l := rfl
theorem append_data (a b : ByteArray) : (a ++ b).data.toList = a.data.toList ++ b.data.toList := by
  rw [ByteArray.data_append]; simp
theorem extract_data (s : ByteArray) (a b : Nat) : (s.extract a b).data.toList = (s.data.toList.drop a).take (b - a) := by
  rw [← toList_data]; exact Lib.extract_toList s a b
theorem ev_pos {α : Type} {c : Prop} [Decidable c] {a b : Nat → Option α} {r : α} (h : c) (ha : Ev a r) : Ev (fun k => if c then a k else b k) r := by
  simp only [if_pos h]; exact ha
theorem ev_neg {α : Type} {c : Prop} [Decidable c] {a b : Nat → Option α} {r : α} (h : ¬ c) (hb : Ev b r) : Ev (fun k => if c then a k else b k) r := by
  simp only [if_neg h]; exact hb
theorem ev_now {α : Type} {a r : α} (h : a = r) : Ev (fun _ => some a) r := by rw [h]; exact Ev.now r
theorem ev_const {α β : Type} {a : Option α} {x : α} {f : Nat → α → Option β} {r : β} (h : a = some x) (k : Ev (fun n => f n x) r) : Ev (fun n => a.bind (f n)) r := by
  rw [h]; exact k
theorem ev_eq {α : Type} {g : Nat → Option α} {a r : α} (h : Ev g a) (e : a = r) : Ev g r := e ▸ h
end Go.Proofs.YtceilmhinkkgfaaDoor.Mth
end
section
namespace Go.Proofs.YtceilmhinkkgfaaDoor.Q
open Go.RowKit Go.Proofs.YtceilmhinkkgfaaDoorW.PrintWords Go.Proofs.YtceilmhinkkgfaaDoorW.PrintMore Go.Proofs.YtceilmhinkkgfaaDoor.Mth

theorem bnd {α β : Type} {x : Option α} {a : α} (h : x = some a) (f : α → Option β) : x.bind f = f a := by rw [h]; rfl
theorem place_is (big : Bool) (i size : Nat) (hi : i < size) (hs : size ≤ 9223372036854775807) : oO_place.f big (i : Int) (size : Int) = some (((if big = true then size - 1 - i else i : Nat)) : Int) := by
  unfold oO_place.f
  cases big
  · simp
  · simp only [if_true]
    rw [wrap64_id (n := (size : Int) - 1) (by omega) (by omega), wrap64_id (by omega) (by omega)]
    congr 1
    omega
theorem leN_one (b : UInt8) : leN [b] = b.toNat := by simp [leN]
theorem take_snoc (l : List UInt8) (i : Nat) (h : i < l.length) : l.take (i + 1) = l.take i ++ [l[i]] := by
  rw [List.take_succ_eq_append_getElem h]
theorem ord_get (big : Bool) (l : List UInt8) (i : Nat) (h : i < l.length) : (ord big l)[i]'(by rw [ord_length]; exact h) = l[if big = true then l.length - 1 - i else i]'(by split <;> omega) := by
  cases big
  · simp [ord]
  · simp [ord, List.getElem_reverse]
theorem get_loop (big : Bool) (s : ByteArray) (hs : s.size ≤ 8) : ∀ (d i : Nat), i + d = s.size → ∀ k, d < k →
    oO_Get.l0 k s (leN ((ord big s.data.toList).take i) : Int) (s.size : Int) (i : Int) big = some (leN (ord big s.data.toList) : Int) := by
  have hl : s.data.toList.length = s.size := data_length s
  intro d
  induction d with
  | zero =>
    intro i hi k hk
    obtain ⟨k, rfl⟩ : ∃ m, k = m + 1 := ⟨k - 1, by omega⟩
    simp only [oO_Get.l0]
    rw [if_neg (by omega), List.take_of_length_le (by rw [ord_length]; omega)]
  | succ d ih =>
    intro i hi k hk
    obtain ⟨k, rfl⟩ : ∃ m, k = m + 1 := ⟨k - 1, by omega⟩
    have hlt : i < s.data.toList.length := by omega
    simp only [oO_Get.l0]
    rw [if_pos (by omega), bnd (place_is big i s.size (by omega) (by omega))]
    have hw : wrap64 (8 * (i : Int)) = 8 * (i : Int) := wrap64_id (by omega) (by omega)
    have hw1 : wrap64 ((i : Int) + 1) = ((i + 1 : Nat) : Int) := by rw [wrap64_id (by omega) (by omega)]; rfl
    have hin : (if big = true then s.size - 1 - i else i) < s.data.toList.length := by split <;> omega
    rw [hw, hw1, if_pos (by omega), if_pos (by omega), if_pos (by omega), bt_eq s _ hin]
    have hb := (s.data.toList[if big = true then s.size - 1 - i else i]'hin).toNat_lt
    rw [wrapu_id (by omega) (by omega), shl_byte _ i (by omega) (by omega)]
    have hto := leN_lt ((ord big s.data.toList).take i)
    have htl : ((ord big s.data.toList).take i).length = i := by rw [List.length_take, ord_length]; omega
    rw [htl] at hto
    have hn := leN_append ((ord big s.data.toList).take i) [s.data.toList[if big = true then s.size - 1 - i else i]'hin]
    have hg := ord_get big s.data.toList i hlt
    simp only [hl] at hg
    rw [← hg, ← take_snoc _ i (by rw [ord_length]; omega), htl] at hn
    rw [hg, leN_one] at hn
    have hlast := leN_lt ((ord big s.data.toList).take (i + 1))
    have htl1 : ((ord big s.data.toList).take (i + 1)).length ≤ 8 := by rw [List.length_take, ord_length]; omega
    have hp := Nat.pow_le_pow_right (show 0 < 256 by omega) htl1
    have h64 : (256 : Nat) ^ 8 = 18446744073709551616 := by decide
    rw [or_add _ _ i hto (by omega), ← hn]
    exact ih (i + 1) (by omega) k (by omega)
theorem get_ev (big : Bool) (s : ByteArray) : Ev (fun k => oO_Get.f k big s) (getS big s) := by
  refine Ev.of (oO_Get.mono _ _) (k := 12) ?_
  have hl : s.data.toList.length = s.size := data_length s
  unfold oO_Get.f getS getL
  by_cases h : (s.size : Int) > 8
  · rw [if_pos h, if_neg (by omega)]
  · rw [if_neg h, if_pos (by omega)]
    have := get_loop big s (by omega) s.size 0 (by omega) 12 (by omega)
    simpa [leN] using this
theorem leN_snoc_msb (a : List UInt8) (b : UInt8) : leN (b :: a) = b.toNat + 256 * leN a := rfl
theorem wrap_step (a b : Nat) (h : b + 256 * a < 18446744073709551616) : IntKind.u64.wrap (IntKind.u64.wrap (256 * (a : Int)) + (b : Int)) = ((b + 256 * a : Nat) : Int) := by
  rw [wrapu_id (n := 256 * (a : Int)) (by omega) (by omega), wrapu_id (by omega) (by omega)]
  omega
theorem refGet_loop (big : Bool) (s : ByteArray) (hs : s.size ≤ 8) : ∀ (d i : Nat), i + d = s.size → ∀ k, 2 * d + 2 ≤ k →
    g01Get.l0 k big s (leN ((ord big s.data.toList).drop (s.size - i)) : Int) (i : Int) = some (leN (ord big s.data.toList) : Int) := by
  have hl : s.data.toList.length = s.size := data_length s
  intro d
  induction d with
  | zero =>
    intro i hi k hk
    obtain ⟨k, rfl⟩ : ∃ m, k = m + 2 := ⟨k - 2, by omega⟩
    simp only [g01Get.l0, g01Get.j1]
    rw [if_neg (by omega), show s.size - i = 0 by omega]
    rfl
  | succ d ih =>
    intro i hi k hk
    obtain ⟨k, rfl⟩ : ∃ m, k = m + 2 := ⟨k - 2, by omega⟩
    simp only [g01Get.l0, g01Get.j1]
    rw [if_pos (by omega), decide_eq_true (by omega : (s.size : Int) ≤ 8), if_pos rfl]
    have hw1 : wrap64 ((i : Int) + 1) = ((i + 1 : Nat) : Int) := by rw [wrap64_id (by omega) (by omega)]; rfl
    have hw2 : wrap64 (wrap64 ((s.size : Int) - 1) - (i : Int)) = ((s.size - 1 - i : Nat) : Int) := by rw [wrap64_id (n := (s.size : Int) - 1) (by omega) (by omega), wrap64_id (by omega) (by omega)]; omega
    obtain ⟨m, hm⟩ : ∃ m, s.size - i = m + 1 := ⟨s.size - i - 1, by omega⟩
    have hm1 : s.size - (i + 1) = m := by omega
    have ih' := ih (i + 1) (by omega) k (by omega)
    rw [hm1] at ih'
    have hmo : m < (ord big s.data.toList).length := by rw [ord_length]; omega
    have hdrop := List.drop_eq_getElem_cons hmo
    have hval : leN ((ord big s.data.toList).drop m) = ((ord big s.data.toList)[m]'hmo).toNat + 256 * leN ((ord big s.data.toList).drop (m + 1)) := by rw [hdrop, leN_snoc_msb]
    have hlt := leN_lt ((ord big s.data.toList).drop m)
    have hlen : ((ord big s.data.toList).drop m).length ≤ 8 := by rw [List.length_drop, ord_length]; omega
    have hp := Nat.pow_le_pow_right (show 0 < 256 by omega) hlen
    have h64 : (256 : Nat) ^ 8 = 18446744073709551616 := by decide
    have hg := ord_get big s.data.toList m (by omega)
    simp only [hl] at hg
    cases big
    · have hin : s.size - 1 - i < s.data.toList.length := by omega
      have e : (ord false s.data.toList)[m]'hmo = s.data.toList[s.size - 1 - i]'hin := by rw [hg]; congr 1; simp; omega
      rw [if_neg (by decide), hw2, if_pos (by omega), if_pos (by omega), bt_eq s _ hin, wrapu_id (n := ((s.data.toList[s.size - 1 - i]'hin).toNat : Int)) (by omega) (by have := (s.data.toList[s.size - 1 - i]'hin).toNat_lt; omega), hw1, hm, ← e, wrap_step _ _ (by omega), ← hval]
      exact ih'
    · have hin : i < s.data.toList.length := by omega
      have e : (ord true s.data.toList)[m]'hmo = s.data.toList[i]'hin := by rw [hg]; congr 1; simp; omega
      rw [if_pos rfl, if_pos (by omega), if_pos (by omega), bt_eq s _ hin, wrapu_id (n := ((s.data.toList[i]'hin).toNat : Int)) (by omega) (by have := (s.data.toList[i]'hin).toNat_lt; omega), hw1, hm, ← e, wrap_step _ _ (by omega), ← hval]
      exact ih'
theorem refGet_off (big : Bool) (s : ByteArray) (n i : Int) (k : Nat) (h : ¬ s.size ≤ 8) : g01Get.l0 (k + 2) big s n i = some n := by
  rw [g01Get.l0]
  by_cases hi : i < (s.size : Int)
  · rw [if_pos hi, decide_eq_false (by omega), g01Get.j1, if_neg (by decide)]
  · rw [if_neg hi, g01Get.j1, if_neg (by decide)]
theorem refGet_ev (big : Bool) (s : ByteArray) : Ev (fun k => g01Get.f k big s) (getS big s) := by
  refine Ev.of (g01Get.mono _ _) (k := 24) ?_
  have hl : s.data.toList.length = s.size := data_length s
  unfold g01Get.f getS getL
  by_cases h : s.size ≤ 8
  · rw [if_pos (by omega)]
    have := refGet_loop big s h s.size 0 (by omega) 24 (by omega)
    rw [Nat.sub_zero, List.drop_eq_nil_of_le (by rw [ord_length]; omega)] at this
    exact this
  · rw [if_neg (by omega)]
    exact refGet_off big s 0 0 22 h
end Go.Proofs.YtceilmhinkkgfaaDoor.Q
end
section
namespace Go.Proofs.YtceilmhinkkgfaaDoor.Q
open Go.RowKit Go.Proofs.YtceilmhinkkgfaaDoorW.PrintWords Go.Proofs.YtceilmhinkkgfaaDoorW.PrintMore Go.Proofs.YtceilmhinkkgfaaDoor.Mth

def word (w : Bool) : Int := if w = true then 8 else 4
def full (w : Bool) (l : List Int) : List Int := l.map fun n => if n = 0 then word w else n
def sumW (s : Int) (l : List Int) : Int := l.foldl (fun s n => wrap64 (s + n)) s
def flat (big : Bool) (sizes l : List Int) : List UInt8 := (List.zipWith (fun n x => putL big x n) sizes l).flatten
theorem full_length (w : Bool) (l : List Int) : (full w l).length = l.length := by simp [full]
theorem rd_at (pre : List Int) (x : Int) (rest : List Int) : rd (pre ++ x :: rest) (pre.length : Int) = x := by
  unfold rd
  simp [List.getD_eq_getElem?_getD]
theorem word_is (b w : Bool) : cF_Word.f b w = some (word w) := by
  unfold cF_Word.f word
  split <;> rfl
theorem step_at (pre : List Int) (x : Int) (h : pre.length < 9223372036854775807) : wrap64 ((pre.length : Int) + 1) = ((pre ++ [x]).length : Int) := by
  rw [wrap64_id (by omega) (by omega)]
  simp
theorem sizes_loop (b w : Bool) (L : List Int) (hL : L.length < 17592186044416) : ∀ (rest pre : List Int), L = pre ++ rest → ∀ (acc : List Int) (s : Int), acc.length = pre.length →
    Ev (fun k => cF_Sizes.l0 k acc s L (L.length : Int) (pre.length : Int) b w) (acc ++ full w rest, sumW s (full w rest)) := by
  intro rest
  induction rest with
  | nil =>
    intro pre h acc s ha
    refine Ev.step (cF_Sizes.l0.eq_2 _ _ _ _ _ _ _) (ev_neg (by rw [h]; simp) (ev_now ?_))
    simp [full, sumW]
  | cons x rest ih =>
    intro pre h acc s ha
    have hlen : pre.length < L.length := by rw [h]; simp
    have h' : L = (pre ++ [x]) ++ rest := by rw [h]; simp
    refine Ev.step (cF_Sizes.l0.eq_2 _ _ _ _ _ _ _) (ev_pos (by omega) (ev_pos (by omega) (ev_pos (by omega) ?_)))
    have hx : rd L (pre.length : Int) = x := by rw [h]; exact rd_at pre x rest
    rw [hx, step_at pre x (by omega)]
    by_cases h0 : x = 0
    · refine ev_pos h0 (ev_const (word_is b w) (ev_pos (by omega) ?_))
      have := ih (pre ++ [x]) h' (acc ++ [word w]) (wrap64 (s + word w)) (by simp [ha])
      have e : full w (x :: rest) = word w :: full w rest := by simp [full, h0]
      rw [e]
      simpa [sumW] using this
    · refine ev_neg h0 (ev_pos (by omega) ?_)
      have := ih (pre ++ [x]) h' (acc ++ [x]) (wrap64 (s + x)) (by simp [ha])
      have e : full w (x :: rest) = x :: full w rest := by simp [full, h0]
      rw [e]
      simpa [sumW] using this
theorem sizes_ev (b w : Bool) (l : List Int) (hl : l.length < 17592186044416) : Ev (fun k => cF_Sizes.f k b w l) (full w l, sumW 0 (full w l)) := by
  refine Ev.congr (fun k => cF_Sizes.f.eq_1 k b w l) ?_
  have := sizes_loop b w l hl l [] rfl [] 0 rfl
  simpa using this
def U64 (l : List Int) : Prop := ∀ x ∈ l, 0 ≤ x ∧ x < 18446744073709551616
theorem U64.take {l : List Int} (h : U64 l) (n : Nat) : U64 (l.take n) := fun x hx => h x (List.mem_of_mem_take hx)
end Go.Proofs.YtceilmhinkkgfaaDoor.Q
end
section
namespace Go.Proofs.YtceilmhinkkgfaaDoor.Q
open Go.RowKit Go.Proofs.YtceilmhinkkgfaaDoorW.PrintWords Go.Proofs.YtceilmhinkkgfaaDoorW.PrintMore Go.Proofs.YtceilmhinkkgfaaDoor.Mth

def numAt (big : Bool) (l : List UInt8) (at_ n : Nat) : Int := getL big ((l.drop at_).take n)
theorem next_ev (big : Bool) (s : ByteArray) (at_ n : Nat) (h1 : 1 ≤ n) (h8 : n ≤ 8) (h : at_ + n ≤ s.size) (hs : s.size ≤ 140737488351300) : Ev (fun k => oR_Next.f k big s (at_ : Int) false (n : Int)) (numAt big s.data.toList at_ n, big, s, ((at_ + n : Nat) : Int), false) := by
  refine Ev.congr (fun k => oR_Next.f.eq_1 k _ _ _ _ _) ?_
  refine ev_neg (by omega) (ev_neg (by omega) ?_)
  have hb : oR_Bytes.f big s (at_ : Int) false (IntKind.u64.wrap (n : Int)) = some (s.extract at_ (at_ + n), big, s, ((at_ + n : Nat) : Int), false) := by
    unfold oR_Bytes.f
    rw [if_neg (by decide), wrapu_id (n := (n : Int)) (by omega) (by omega), wrapu_id (n := (s.size : Int)) (by omega) (by omega), if_neg (by omega), wrapu_id (n := (s.size : Int) - (at_ : Int)) (by omega) (by omega), if_neg (by omega), if_pos (by omega), wrapu_id (by omega) (by omega), if_pos (by omega), if_pos (by omega)]
    simp only [Int.toNat_natCast]
    rw [show ((at_ : Int) + (n : Int)).toNat = at_ + n by omega]
    rfl
  refine ev_const hb (Ev.bind (get_ev big _) (ev_now ?_))
  have : getS big (s.extract at_ (at_ + n)) = numAt big s.data.toList at_ n := by
    unfold getS numAt
    rw [extract_data, Nat.add_sub_cancel_left]
  rw [this]
theorem numAt_range (big : Bool) (l : List UInt8) (at_ n : Nat) : 0 ≤ numAt big l at_ n ∧ numAt big l at_ n < 18446744073709551616 := getL_range big _
end Go.Proofs.YtceilmhinkkgfaaDoor.Q
end
section
namespace Go.Proofs.YtceilmhinkkgfaaDoor.Q
open Go.RowKit Go.Proofs.YtceilmhinkkgfaaDoorW.PrintWords Go.Proofs.YtceilmhinkkgfaaDoorW.PrintMore Go.Proofs.YtceilmhinkkgfaaDoor.Mth

def nums (big : Bool) : List Int → List UInt8 → List Int
  | [], _ => []
  | n :: A, l => getL big (l.take n.toNat) :: nums big A (l.drop n.toNat)
theorem nums_length (big : Bool) : ∀ (A : List Int) (l : List UInt8), (nums big A l).length = A.length
  | [], _ => rfl
  | n :: A, l => by rw [nums, List.length_cons, List.length_cons, nums_length big A]
def In8 (A : List Int) : Prop := ∀ n ∈ A, 1 ≤ n ∧ n ≤ 8
theorem In8.sum_ge {A : List Int} (h : In8 A) : 0 ≤ A.sum := by
  induction A with
  | nil => simp
  | cons n A ih =>
    have := h n (by simp)
    have := ih (fun x hx => h x (by simp [hx]))
    rw [List.sum_cons]
    omega
end Go.Proofs.YtceilmhinkkgfaaDoor.Q
end
section
namespace Go.Proofs.YtceilmhinkkgfaaDoor.Q
open Go.RowKit Go.Proofs.YtceilmhinkkgfaaDoor.Q Go.Proofs.YtceilmhinkkgfaaDoorW.PrintWords Go.Proofs.YtceilmhinkkgfaaDoorW.PrintLast Go.Proofs.YtceilmhinkkgfaaDoorW.PrintMore Go.Proofs.YtceilmhinkkgfaaDoor.Mth


def ehdr_total (w : Bool) : Int := if w = true then 48 else 36
theorem ehdr_len (w : Bool) : tab_ehdr_sizes.length = 13 := by cases w <;> rfl
theorem ehdr_sumW (w : Bool) : sumW 0 (full w tab_ehdr_sizes) = ehdr_total w := by cases w <;> decide +kernel
theorem ehdr_sum (w : Bool) : (full w tab_ehdr_sizes).sum = ehdr_total w := by cases w <;> decide +kernel
theorem ehdr_in8 (w : Bool) : In8 (full w tab_ehdr_sizes) := by unfold In8; cases w <;> decide +kernel
theorem ehdr_shape_ev (b w : Bool) : Ev (fun k => eH_shape.f k b w) (full w tab_ehdr_sizes, ehdr_total w) := by
  have h := sizes_ev b w tab_ehdr_sizes (by rw [ehdr_len w]; decide)
  rw [ehdr_sumW] at h
  exact h
theorem ehdr_size_ev (b w : Bool) : Ev (fun k => ehdr_Size.f k b w) (ehdr_total w) := Ev.congr (fun k => ehdr_Size.f.eq_1 k b w) (Ev.bind (ehdr_shape_ev b w) (Ev.now _))
def ehdr_setG (p : List Nat) : Nat → List Int → List Int → List Int
  | _, [], m => m
  | i, x :: xs, m => ehdr_setG p (i + 1) xs (m.set (p.getD i 0) x)
theorem ehdr_go_ev (b w : Bool) (s : ByteArray) (hs : s.size ≤ 140737488351300) (A : List Int) (h8 : In8 A) : ∀ (ra pa : List Int), A = pa ++ ra → ∀ (at_ : Nat), (at_ : Int) + ra.sum ≤ s.size → ∀ m : List Int,
    Ev (fun k => ehdr_Read.go k w A ra.length pa.length b s (at_ : Int) false m) (ehdr_setG (ehdr_Read.perm w) pa.length (nums b ra (s.data.toList.drop at_)) m) := by
  intro ra
  induction ra with
  | nil =>
    intro pa h at_ hat m
    exact Ev.congr (fun k => rfl) (Ev.now m)
  | cons n ra ih =>
    intro pa h at_ hat m
    have hn := h8 n (by rw [h]; simp)
    have h8r : In8 ra := fun y hy => h8 y (by rw [h]; simp [hy])
    have hsr := h8r.sum_ge
    rw [List.sum_cons] at hat
    have hlen : pa.length < A.length := by rw [h]; simp
    have e1 : rd A (pa.length : Int) = ((n.toNat : Nat) : Int) := by rw [Int.toNat_of_nonneg (by omega), h]; exact rd_at pa n ra
    have ih1 := ih (pa ++ [n]) (by rw [h]; simp) (at_ + n.toNat) (by omega) (m.set ((ehdr_Read.perm w).getD pa.length 0) (numAt b s.data.toList at_ n.toNat))
    rw [List.length_append, List.length_singleton] at ih1
    refine Ev.congr (fun k => ehdr_Read.go.eq_2 k w A pa.length b s _ false m ra.length) (ev_pos hlen ?_)
    rw [e1]
    refine Ev.bind (next_ev b s at_ n.toNat (by omega) (by omega) (by omega) hs) ?_
    rw [nums, ehdr_setG, List.drop_drop]
    exact ih1
theorem ehdr_read_short (b w : Bool) (s : ByteArray) (h : (s.size : Int) < ehdr_total w) : Ev (fun k => ehdr_Read.f k b w s) (0, 0, 0, 0, 0, 0, 0, 0, 0, 0, 0, 0, 0, false) :=
  Ev.congr (fun k => ehdr_Read.f.eq_1 k b w s) (Ev.bind (ehdr_shape_ev b w) (ev_pos h (Ev.now _)))
theorem ehdr_read_long (b w : Bool) (s : ByteArray) (hs : s.size ≤ 140737488351300) (h : ehdr_total w ≤ (s.size : Int)) : ∃ f0 f1 f2 f3 f4 f5 f6 f7 f8 f9 f10 f11 f12 : Int, Ev (fun k => ehdr_Read.f k b w s) (f0, f1, f2, f3, f4, f5, f6, f7, f8, f9, f10, f11, f12, true) ∧ (ehdr_Put.vals w f0 f1 f2 f3 f4 f5 f6 f7 f8 f9 f10 f11 f12) = nums b (full w tab_ehdr_sizes) s.data.toList := by
  have hg := ehdr_go_ev b w s hs (full w tab_ehdr_sizes) (ehdr_in8 w) (full w tab_ehdr_sizes) [] rfl 0 (by rw [ehdr_sum]; simpa using h) (List.replicate 13 0)
  have hl := nums_length b (full w tab_ehdr_sizes) s.data.toList
  rw [full_length, ehdr_len w] at hl
  rw [List.drop_zero, full_length, ehdr_len w] at hg
  obtain ⟨y0, y1, y2, y3, y4, y5, y6, y7, y8, y9, y10, y11, y12, hy⟩ : ∃ y0 y1 y2 y3 y4 y5 y6 y7 y8 y9 y10 y11 y12, nums b (full w tab_ehdr_sizes) s.data.toList = [y0, y1, y2, y3, y4, y5, y6, y7, y8, y9, y10, y11, y12] := by
    revert hl
    generalize nums b (full w tab_ehdr_sizes) s.data.toList = l
    intro hl
    match l, hl with
    | [y0, y1, y2, y3, y4, y5, y6, y7, y8, y9, y10, y11, y12], _ => exact ⟨_, _, _, _, _, _, _, _, _, _, _, _, _, rfl⟩
  rw [hy] at hg ⊢
  cases w
  · rw [show ehdr_setG (ehdr_Read.perm false) ([] : List Int).length [y0, y1, y2, y3, y4, y5, y6, y7, y8, y9, y10, y11, y12] (List.replicate 13 0) = [y0, y1, y2, y3, y4, y5, y6, y7, y8, y9, y10, y11, y12] from rfl] at hg
    exact ⟨y0, y1, y2, y3, y4, y5, y6, y7, y8, y9, y10, y11, y12, Ev.congr (fun k => ehdr_Read.f.eq_1 k b false s) (Ev.bind (ehdr_shape_ev b false) (ev_neg (by omega) (ev_const (oO_Read.f.eq_1 b s 0) (Ev.bind hg (ev_now rfl))))), rfl⟩
  · rw [show ehdr_setG (ehdr_Read.perm true) ([] : List Int).length [y0, y1, y2, y3, y4, y5, y6, y7, y8, y9, y10, y11, y12] (List.replicate 13 0) = [y0, y1, y2, y3, y4, y5, y6, y7, y8, y9, y10, y11, y12] from rfl] at hg
    exact ⟨y0, y1, y2, y3, y4, y5, y6, y7, y8, y9, y10, y11, y12, Ev.congr (fun k => ehdr_Read.f.eq_1 k b true s) (Ev.bind (ehdr_shape_ev b true) (ev_neg (by omega) (ev_const (oO_Read.f.eq_1 b s 0) (Ev.bind hg (ev_now rfl))))), rfl⟩
end Go.Proofs.YtceilmhinkkgfaaDoor.Q
end
section
namespace Go.Proofs.YtceilmhinkkgfaaDoor.Q
open Go.RowKit Go.Proofs.YtceilmhinkkgfaaDoor.Q Go.Proofs.YtceilmhinkkgfaaDoorW.PrintWords Go.Proofs.YtceilmhinkkgfaaDoorW.PrintLast Go.Proofs.YtceilmhinkkgfaaDoorW.PrintMore Go.Proofs.YtceilmhinkkgfaaDoor.Mth


def shdr_total (w : Bool) : Int := if w = true then 64 else 40
theorem shdr_len (w : Bool) : tab_shdr_sizes.length = 10 := by cases w <;> rfl
theorem shdr_sumW (w : Bool) : sumW 0 (full w tab_shdr_sizes) = shdr_total w := by cases w <;> decide +kernel
theorem shdr_sum (w : Bool) : (full w tab_shdr_sizes).sum = shdr_total w := by cases w <;> decide +kernel
theorem shdr_in8 (w : Bool) : In8 (full w tab_shdr_sizes) := by unfold In8; cases w <;> decide +kernel
theorem shdr_shape_ev (b w : Bool) : Ev (fun k => sS_shape.f k b w) (full w tab_shdr_sizes, shdr_total w) := by
  have h := sizes_ev b w tab_shdr_sizes (by rw [shdr_len w]; decide)
  rw [shdr_sumW] at h
  exact h
theorem shdr_size_ev (b w : Bool) : Ev (fun k => shdr_Size.f k b w) (shdr_total w) := Ev.congr (fun k => shdr_Size.f.eq_1 k b w) (Ev.bind (shdr_shape_ev b w) (Ev.now _))
def shdr_setG (p : List Nat) : Nat → List Int → List Int → List Int
  | _, [], m => m
  | i, x :: xs, m => shdr_setG p (i + 1) xs (m.set (p.getD i 0) x)
theorem shdr_go_ev (b w : Bool) (s : ByteArray) (hs : s.size ≤ 140737488351300) (A : List Int) (h8 : In8 A) : ∀ (ra pa : List Int), A = pa ++ ra → ∀ (at_ : Nat), (at_ : Int) + ra.sum ≤ s.size → ∀ m : List Int,
    Ev (fun k => shdr_Read.go k w A ra.length pa.length b s (at_ : Int) false m) (shdr_setG (shdr_Read.perm w) pa.length (nums b ra (s.data.toList.drop at_)) m) := by
  intro ra
  induction ra with
  | nil =>
    intro pa h at_ hat m
    exact Ev.congr (fun k => rfl) (Ev.now m)
  | cons n ra ih =>
    intro pa h at_ hat m
    have hn := h8 n (by rw [h]; simp)
    have h8r : In8 ra := fun y hy => h8 y (by rw [h]; simp [hy])
    have hsr := h8r.sum_ge
    rw [List.sum_cons] at hat
    have hlen : pa.length < A.length := by rw [h]; simp
    have e1 : rd A (pa.length : Int) = ((n.toNat : Nat) : Int) := by rw [Int.toNat_of_nonneg (by omega), h]; exact rd_at pa n ra
    have ih1 := ih (pa ++ [n]) (by rw [h]; simp) (at_ + n.toNat) (by omega) (m.set ((shdr_Read.perm w).getD pa.length 0) (numAt b s.data.toList at_ n.toNat))
    rw [List.length_append, List.length_singleton] at ih1
    refine Ev.congr (fun k => shdr_Read.go.eq_2 k w A pa.length b s _ false m ra.length) (ev_pos hlen ?_)
    rw [e1]
    refine Ev.bind (next_ev b s at_ n.toNat (by omega) (by omega) (by omega) hs) ?_
    rw [nums, shdr_setG, List.drop_drop]
    exact ih1
theorem shdr_read_long (b w : Bool) (s : ByteArray) (hs : s.size ≤ 140737488351300) (h : shdr_total w ≤ (s.size : Int)) : ∃ f0 f1 f2 f3 f4 f5 f6 f7 f8 f9 : Int, Ev (fun k => shdr_Read.f k b w s) (f0, f1, f2, f3, f4, f5, f6, f7, f8, f9, true) ∧ (shdr_Put.vals w f0 f1 f2 f3 f4 f5 f6 f7 f8 f9) = nums b (full w tab_shdr_sizes) s.data.toList := by
  have hg := shdr_go_ev b w s hs (full w tab_shdr_sizes) (shdr_in8 w) (full w tab_shdr_sizes) [] rfl 0 (by rw [shdr_sum]; simpa using h) (List.replicate 10 0)
  have hl := nums_length b (full w tab_shdr_sizes) s.data.toList
  rw [full_length, shdr_len w] at hl
  rw [List.drop_zero, full_length, shdr_len w] at hg
  obtain ⟨y0, y1, y2, y3, y4, y5, y6, y7, y8, y9, hy⟩ : ∃ y0 y1 y2 y3 y4 y5 y6 y7 y8 y9, nums b (full w tab_shdr_sizes) s.data.toList = [y0, y1, y2, y3, y4, y5, y6, y7, y8, y9] := by
    revert hl
    generalize nums b (full w tab_shdr_sizes) s.data.toList = l
    intro hl
    match l, hl with
    | [y0, y1, y2, y3, y4, y5, y6, y7, y8, y9], _ => exact ⟨_, _, _, _, _, _, _, _, _, _, rfl⟩
  rw [hy] at hg ⊢
  cases w
  · rw [show shdr_setG (shdr_Read.perm false) ([] : List Int).length [y0, y1, y2, y3, y4, y5, y6, y7, y8, y9] (List.replicate 10 0) = [y0, y1, y2, y3, y4, y5, y6, y7, y8, y9] from rfl] at hg
    exact ⟨y0, y1, y2, y3, y4, y5, y6, y7, y8, y9, Ev.congr (fun k => shdr_Read.f.eq_1 k b false s) (Ev.bind (shdr_shape_ev b false) (ev_neg (by omega) (ev_const (oO_Read.f.eq_1 b s 0) (Ev.bind hg (ev_now rfl))))), rfl⟩
  · rw [show shdr_setG (shdr_Read.perm true) ([] : List Int).length [y0, y1, y2, y3, y4, y5, y6, y7, y8, y9] (List.replicate 10 0) = [y0, y1, y2, y3, y4, y5, y6, y7, y8, y9] from rfl] at hg
    exact ⟨y0, y1, y2, y3, y4, y5, y6, y7, y8, y9, Ev.congr (fun k => shdr_Read.f.eq_1 k b true s) (Ev.bind (shdr_shape_ev b true) (ev_neg (by omega) (ev_const (oO_Read.f.eq_1 b s 0) (Ev.bind hg (ev_now rfl))))), rfl⟩
end Go.Proofs.YtceilmhinkkgfaaDoor.Q
end
section
namespace Go.Proofs.YtceilmhinkkgfaaDoor.Q
open Go.RowKit Go.Proofs.YtceilmhinkkgfaaDoor.Q Go.Proofs.YtceilmhinkkgfaaDoorW.PrintWords Go.Proofs.YtceilmhinkkgfaaDoorW.PrintLast Go.Proofs.YtceilmhinkkgfaaDoorW.PrintMore Go.Proofs.YtceilmhinkkgfaaDoor.Mth


def phdr_total (w : Bool) : Int := if w = true then 56 else 32
theorem phdr_len (w : Bool) : (pS_shape.tab w).length = 8 := by cases w <;> rfl
theorem phdr_sumW (w : Bool) : sumW 0 (full w (pS_shape.tab w)) = phdr_total w := by cases w <;> decide +kernel
theorem phdr_sum (w : Bool) : (full w (pS_shape.tab w)).sum = phdr_total w := by cases w <;> decide +kernel
theorem phdr_in8 (w : Bool) : In8 (full w (pS_shape.tab w)) := by unfold In8; cases w <;> decide +kernel
theorem phdr_shape_ev (b w : Bool) : Ev (fun k => pS_shape.f k b w) (full w (pS_shape.tab w), phdr_total w) := by
  have h := sizes_ev b w (pS_shape.tab w) (by rw [phdr_len w]; decide)
  rw [phdr_sumW] at h
  exact h
theorem phdr_size_ev (b w : Bool) : Ev (fun k => phdr_Size.f k b w) (phdr_total w) := Ev.congr (fun k => phdr_Size.f.eq_1 k b w) (Ev.bind (phdr_shape_ev b w) (Ev.now _))
def phdr_setG (p : List Nat) : Nat → List Int → List Int → List Int
  | _, [], m => m
  | i, x :: xs, m => phdr_setG p (i + 1) xs (m.set (p.getD i 0) x)
theorem phdr_go_ev (b w : Bool) (s : ByteArray) (hs : s.size ≤ 140737488351300) (A : List Int) (h8 : In8 A) : ∀ (ra pa : List Int), A = pa ++ ra → ∀ (at_ : Nat), (at_ : Int) + ra.sum ≤ s.size → ∀ m : List Int,
    Ev (fun k => phdr_Read.go k w A ra.length pa.length b s (at_ : Int) false m) (phdr_setG (phdr_Read.perm w) pa.length (nums b ra (s.data.toList.drop at_)) m) := by
  intro ra
  induction ra with
  | nil =>
    intro pa h at_ hat m
    exact Ev.congr (fun k => rfl) (Ev.now m)
  | cons n ra ih =>
    intro pa h at_ hat m
    have hn := h8 n (by rw [h]; simp)
    have h8r : In8 ra := fun y hy => h8 y (by rw [h]; simp [hy])
    have hsr := h8r.sum_ge
    rw [List.sum_cons] at hat
    have hlen : pa.length < A.length := by rw [h]; simp
    have e1 : rd A (pa.length : Int) = ((n.toNat : Nat) : Int) := by rw [Int.toNat_of_nonneg (by omega), h]; exact rd_at pa n ra
    have ih1 := ih (pa ++ [n]) (by rw [h]; simp) (at_ + n.toNat) (by omega) (m.set ((phdr_Read.perm w).getD pa.length 0) (numAt b s.data.toList at_ n.toNat))
    rw [List.length_append, List.length_singleton] at ih1
    refine Ev.congr (fun k => phdr_Read.go.eq_2 k w A pa.length b s _ false m ra.length) (ev_pos hlen ?_)
    rw [e1]
    refine Ev.bind (next_ev b s at_ n.toNat (by omega) (by omega) (by omega) hs) ?_
    rw [nums, phdr_setG, List.drop_drop]
    exact ih1
theorem phdr_read_long (b w : Bool) (s : ByteArray) (hs : s.size ≤ 140737488351300) (h : phdr_total w ≤ (s.size : Int)) : ∃ f0 f1 f2 f3 f4 f5 f6 f7 : Int, Ev (fun k => phdr_Read.f k b w s) (f0, f1, f2, f3, f4, f5, f6, f7, true) ∧ (phdr_Put.vals w f0 f1 f2 f3 f4 f5 f6 f7) = nums b (full w (pS_shape.tab w)) s.data.toList := by
  have hg := phdr_go_ev b w s hs (full w (pS_shape.tab w)) (phdr_in8 w) (full w (pS_shape.tab w)) [] rfl 0 (by rw [phdr_sum]; simpa using h) (List.replicate 8 0)
  have hl := nums_length b (full w (pS_shape.tab w)) s.data.toList
  rw [full_length, phdr_len w] at hl
  rw [List.drop_zero, full_length, phdr_len w] at hg
  obtain ⟨y0, y1, y2, y3, y4, y5, y6, y7, hy⟩ : ∃ y0 y1 y2 y3 y4 y5 y6 y7, nums b (full w (pS_shape.tab w)) s.data.toList = [y0, y1, y2, y3, y4, y5, y6, y7] := by
    revert hl
    generalize nums b (full w (pS_shape.tab w)) s.data.toList = l
    intro hl
    match l, hl with
    | [y0, y1, y2, y3, y4, y5, y6, y7], _ => exact ⟨_, _, _, _, _, _, _, _, rfl⟩
  rw [hy] at hg ⊢
  cases w
  · rw [show phdr_setG (phdr_Read.perm false) ([] : List Int).length [y0, y1, y2, y3, y4, y5, y6, y7] (List.replicate 8 0) = [y0, y6, y1, y2, y3, y4, y5, y7] from rfl] at hg
    exact ⟨y0, y6, y1, y2, y3, y4, y5, y7, Ev.congr (fun k => phdr_Read.f.eq_1 k b false s) (Ev.bind (phdr_shape_ev b false) (ev_neg (by omega) (ev_const (oO_Read.f.eq_1 b s 0) (Ev.bind hg (ev_now rfl))))), rfl⟩
  · rw [show phdr_setG (phdr_Read.perm true) ([] : List Int).length [y0, y1, y2, y3, y4, y5, y6, y7] (List.replicate 8 0) = [y0, y1, y2, y3, y4, y5, y6, y7] from rfl] at hg
    exact ⟨y0, y1, y2, y3, y4, y5, y6, y7, Ev.congr (fun k => phdr_Read.f.eq_1 k b true s) (Ev.bind (phdr_shape_ev b true) (ev_neg (by omega) (ev_const (oO_Read.f.eq_1 b s 0) (Ev.bind hg (ev_now rfl))))), rfl⟩
theorem phdr_inj (w : Bool) (f0 f1 f2 f3 f4 f5 f6 f7 g0 g1 g2 g3 g4 g5 g6 g7 : Int) (h : phdr_Put.vals w f0 f1 f2 f3 f4 f5 f6 f7 = phdr_Put.vals w g0 g1 g2 g3 g4 g5 g6 g7) : f0 = g0 ∧ f1 = g1 ∧ f2 = g2 ∧ f3 = g3 ∧ f4 = g4 ∧ f5 = g5 ∧ f6 = g6 ∧ f7 = g7 := by
  cases w
  all_goals
    simp only [phdr_Put.vals, List.cons.injEq, if_true, if_false, Bool.false_eq_true] at h
    simp only [h, and_self]
end Go.Proofs.YtceilmhinkkgfaaDoor.Q
end
section
namespace Go.Proofs.YtceilmhinkkgfaaDoor.Q
open Go.RowKit Go.Proofs.YtceilmhinkkgfaaDoorW.PrintWords Go.Proofs.YtceilmhinkkgfaaDoorW.PrintLast Go.Proofs.YtceilmhinkkgfaaDoorW.PrintMore Go.Proofs.YtceilmhinkkgfaaDoor.Mth

def peOf (w : Bool) : Int := if w = true then 56 else 32
def seOf (w : Bool) : Int := if w = true then 64 else 40
def esOf (w : Bool) : Int := 16 + ehdr_total w
theorem es_is (w : Bool) : IntKind.u64.wrap (16 + (IntKind.u64.wrap (ehdr_total w))) = esOf w := by cases w <;> decide
theorem plain_ev (b w : Bool) : Ev (fun k => ehdr_Plain.f k b w) (0, 0, 1, 0, 0, 0, 0, esOf w, peOf w, 0, seOf w, 0, 0) := by
  refine Ev.congr (fun k => ehdr_Plain.f.eq_1 k b w) ?_
  cases w
  · exact ev_neg (by decide) (Ev.bind (ehdr_size_ev b false) (ev_now (by rw [es_is]; rfl)))
  · exact ev_pos rfl (Ev.bind (ehdr_size_ev b true) (ev_now (by rw [es_is]; rfl)))
def badOf (w : Bool) (o0 o1 x1 x2 x3 : Int) : Bool := decide (x1 ≠ esOf w) || (decide (o0 ≠ 0) && decide (x2 ≠ peOf w)) || (decide (o1 ≠ 0) && decide (x3 ≠ seOf w))
def chkOf (w : Bool) (x0 o0 o1 x1 x2 x3 : Int) : Int := if x0 = 1 then (if badOf w o0 o1 x1 x2 x3 = true then 8 else 0) else 7
theorem check_ev (b w : Bool) (h0 h1 x0 h3 o0 o1 h6 x1 x2 h9 x3 h11 h12 : Int) : Ev (fun k => eH_Check.f k h0 h1 x0 h3 o0 o1 h6 x1 x2 h9 x3 h11 h12 b w) (chkOf w x0 o0 o1 x1 x2 x3) := by
  refine Ev.congr (fun k => eH_Check.f.eq_1 k _ _ _ _ _ _ _ _ _ _ _ _ _ b w) (Ev.bind (plain_ev b w) ?_)
  unfold chkOf badOf
  by_cases c0 : x0 = 1
  · refine ev_pos c0 ?_
    by_cases c1 : x1 = esOf w
    · refine ev_pos c1 ?_
      by_cases c2 : o0 = 0
      · refine ev_pos c2 ?_
        by_cases c3 : o1 = 0
        · exact ev_pos c3 (ev_now (by simp [c0, c1, c2, c3]))
        · refine ev_neg c3 ?_
          by_cases c4 : x3 = seOf w
          · exact ev_pos c4 (ev_now (by simp [c0, c1, c2, c3, c4]))
          · exact ev_neg c4 (ev_now (by simp [c0, c1, c2, c3, c4]))
      · refine ev_neg c2 ?_
        by_cases c5 : x2 = peOf w
        · refine ev_pos c5 ?_
          by_cases c3 : o1 = 0
          · exact ev_pos c3 (ev_now (by simp [c0, c1, c2, c3, c5]))
          · refine ev_neg c3 ?_
            by_cases c4 : x3 = seOf w
            · exact ev_pos c4 (ev_now (by simp [c0, c1, c2, c3, c4, c5]))
            · exact ev_neg c4 (ev_now (by simp [c0, c1, c2, c3, c4, c5]))
        · exact ev_neg c5 (ev_now (by simp [c0, c1, c2, c5]))
    · exact ev_neg c1 (ev_now (by simp [c0, c1]))
  · exact ev_neg c0 (ev_now (by simp [c0]))
end Go.Proofs.YtceilmhinkkgfaaDoor.Q
end
section
namespace Go.Proofs.YtceilmhinkkgfaaDoor.Q
open Go.RowKit Go.Proofs.YtceilmhinkkgfaaDoorW.PrintWords Go.Proofs.YtceilmhinkkgfaaDoorW.PrintMore Go.Proofs.YtceilmhinkkgfaaDoor.Mth

def magicL : List UInt8 := [127, 69, 76, 70]
theorem bt_at9 {s : ByteArray} {l : List UInt8} (h : s.data.toList = l) (i : Nat) (hi : i < l.length) : bt s (i : Int) = ((l[i]'hi).toNat : Int) := by
  subst h
  exact bt_eq s i hi
theorem prefix_is (s : ByteArray) (h : 4 ≤ s.size) : strings_HasPrefix.f s ⟨#[127, 69, 76, 70]⟩ = some (s.data.toList.take 4 == magicL) := by
  unfold strings_HasPrefix.f sl_HasPrefix.f
  have e : ((⟨#[127, 69, 76, 70]⟩ : ByteArray).size : Int) = 4 := rfl
  rw [e, if_pos (show (s.size : Int) ≥ 4 by omega), if_pos (by decide), if_pos (by omega), toList_data, extract_data, toList_data, Option.bind_some]
  rfl
def readV (x4 x5 x6 x7 x8 : UInt8) (m : List UInt8) (rest : List UInt8) : Bool × Bool × Int × Int × ByteArray × Int :=
  if m = magicL then (if x4 = 1 ∨ x4 = 2 then (if x5 = 1 ∨ x5 = 2 then (if x6 = 1 then (x5 == 2, x4 == 2, (x7.toNat : Int), (x8.toNat : Int), ⟨(rest.take 7).toArray⟩, 0) else (false, false, 0, 0, ⟨#[]⟩, 7)) else (false, false, 0, 0, ⟨#[]⟩, 6)) else (false, false, 0, 0, ⟨#[]⟩, 5)) else (false, false, 0, 0, ⟨#[]⟩, 4)
theorem byte_eq (x : UInt8) (n : Nat) (hn : n < 256) : (((x.toNat : Nat) : Int) = (n : Int)) ↔ x = UInt8.ofNat n := by
  constructor
  · intro h
    have : x.toNat = n := by omega
    rw [← this]
    simp
  · intro h
    rw [h]
    simp
    omega
theorem byte_1 (x : UInt8) : (((x.toNat : Nat) : Int) = 1) ↔ x = 1 := byte_eq x 1 (by omega)
theorem byte_2 (x : UInt8) : (((x.toNat : Nat) : Int) = 2) ↔ x = 2 := byte_eq x 2 (by omega)
theorem one_is (x : UInt8) : class_one.f (x.toNat : Int) = some (x == 2, decide (x = 1 ∨ x = 2)) := by
  have h1 := byte_1 x
  have h2 := byte_2 x
  have e2 : (((x.toNat : Nat) : Int) == 2) = (x == 2) := by
    rw [Bool.eq_iff_iff, beq_iff_eq, beq_iff_eq]
    exact h2
  unfold class_one.f
  rw [e2]
  by_cases c : x = 1
  · rw [if_pos (h1.2 c), decide_eq_true (Or.inl c)]
  · rw [if_neg (fun h => c (h1.1 h))]
    congr 2
    rw [Bool.eq_iff_iff, beq_iff_eq, decide_eq_true_iff]
    constructor
    · intro h; exact .inr h
    · rintro (h | h)
      · exact absurd h c
      · exact h
theorem read_is (s : ByteArray) (x0 x1 x2 x3 x4 x5 x6 x7 x8 : UInt8) (rest : List UInt8) (h : s.data.toList = x0 :: x1 :: x2 :: x3 :: x4 :: x5 :: x6 :: x7 :: x8 :: rest) (hr : 7 ≤ rest.length) :
    class_Read.f s = some (readV x4 x5 x6 x7 x8 [x0, x1, x2, x3] rest) := by
  have hl : s.data.toList.length = s.size := data_length s
  have hsz : 16 ≤ s.size := by rw [← hl, h]; simp; omega
  have b4 : bt s 4 = (x4.toNat : Int) := bt_at9 h 4 (by simp)
  have b5 : bt s 5 = (x5.toNat : Int) := bt_at9 h 5 (by simp)
  have b6 : bt s 6 = (x6.toNat : Int) := bt_at9 h 6 (by simp)
  have b7 : bt s 7 = (x7.toNat : Int) := bt_at9 h 7 (by simp)
  have b8 : bt s 8 = (x8.toNat : Int) := bt_at9 h 8 (by simp)
  have ht : s.data.toList.take 4 = [x0, x1, x2, x3] := by rw [h]; rfl
  have he : s.extract 9 16 = ⟨(rest.take 7).toArray⟩ := by
    apply ba_ext
    rw [extract_data, h]
    rfl
  unfold class_Read.f readV
  rw [if_neg (by omega), if_pos (by omega), b4, bnd (one_is x4), if_pos (by omega), b5, bnd (one_is x5), bnd (prefix_is s (by omega)), ht, b6, b7, b8, he]
  by_cases c0 : [x0, x1, x2, x3] = magicL
  · rw [if_pos (by simpa using c0), if_pos c0]
    by_cases c4 : x4 = 1 ∨ x4 = 2
    · rw [if_pos (by simpa using c4), if_pos c4]
      by_cases c5 : x5 = 1 ∨ x5 = 2
      · rw [if_pos (by simpa using c5), if_pos c5, if_pos (by omega)]
        by_cases c6 : x6 = 1
        · rw [if_pos ((byte_1 x6).2 c6), if_pos c6, if_pos (by omega), if_pos (by omega), if_pos (by omega), if_pos (by omega)]
        · rw [if_neg (fun hh => c6 ((byte_1 x6).1 hh)), if_neg c6]
      · rw [if_neg (by simpa using c5), if_neg c5]
    · rw [if_neg (by simpa using c4), if_neg c4]
  · rw [if_neg (by simpa using c0), if_neg c0]
theorem read_short (s : ByteArray) (h : s.size < 16) : class_Read.f s = some (false, false, 0, 0, ⟨#[]⟩, 3) := by
  unfold class_Read.f
  rw [if_pos (by omega)]
theorem nine (l : List UInt8) (h : 16 ≤ l.length) : ∃ x0 x1 x2 x3 x4 x5 x6 x7 x8 rest, l = x0 :: x1 :: x2 :: x3 :: x4 :: x5 :: x6 :: x7 :: x8 :: rest ∧ 7 ≤ rest.length := by
  match l, h with
  | x0 :: x1 :: x2 :: x3 :: x4 :: x5 :: x6 :: x7 :: x8 :: rest, h => exact ⟨x0, x1, x2, x3, x4, x5, x6, x7, x8, rest, rfl, by simp at h; omega⟩
def twoB (b : Bool) : UInt8 := if b = true then 2 else 1
theorem two_is (b : Bool) : class_two.f b = some ((twoB b).toNat : Int) := by cases b <;> rfl
theorem rep_zero : ∀ n, Lib.repeatL [0] n = List.replicate n 0
  | 0 => rfl
  | n + 1 => by rw [Lib.repeatL, rep_zero n]; rfl
def identL (big wide : Bool) (abi ver : UInt8) (pad : List UInt8) : List UInt8 :=
  magicL ++ ([twoB wide, twoB big, 1, abi, ver] ++ (pad.take 7 ++ List.replicate (7 - (pad.take 7).length) 0))
theorem ident_is (big wide : Bool) (abi ver : UInt8) (pad : ByteArray) (hp : pad.size ≤ 140737488351232) : cI_Bytes.f big wide (abi.toNat : Int) (ver.toNat : Int) pad = some ⟨(identL big wide abi ver pad.data.toList).toArray⟩ := by
  have hcut : (pad.extract 0 ((mn (pad.size : Int) 7) : Int).toNat).data.toList = pad.data.toList.take 7 := by
    rw [extract_data, mn_eq, List.drop_zero, Nat.sub_zero]
    have hl : pad.data.toList.length = pad.size := data_length pad
    by_cases h : pad.size ≤ 7
    · rw [List.take_of_length_le (by omega), List.take_of_length_le (by omega)]
    · congr 1
      omega
  unfold cI_Bytes.f
  rw [if_pos (by rw [mn_eq]; omega), if_pos (by rw [mn_eq]; omega), bnd (two_is wide), bnd (two_is big), Option.bind_some]
  generalize pad.extract 0 ((mn (pad.size : Int) 7) : Int).toNat = c at *
  have hcl : c.size ≤ 7 := by rw [ba_size, hcut, List.length_take]; omega
  have hcl2 : c.size = (pad.data.toList.take 7).length := by rw [ba_size, hcut]
  have hstr : (strOfNums [((twoB wide).toNat : Int), ((twoB big).toNat : Int), 1, (abi.toNat : Int), (ver.toNat : Int)]) = ⟨[twoB wide, twoB big, 1, abi, ver].toArray⟩ := by
    simp [strOfNums]
  rw [hstr]
  have z1 : (⟨[twoB wide, twoB big, 1, abi, ver].toArray⟩ : ByteArray).size = 5 := rfl
  have z2 : (⟨#[127, 69, 76, 70]⟩ : ByteArray).size = 4 := rfl
  have hrep : strings_Repeat.f (⟨#[0]⟩ : ByteArray) (wrap64 (7 - (c.size : Int))) = some ⟨(List.replicate (7 - c.size) 0).toArray⟩ := by
    have hw : wrap64 (7 - (c.size : Int)) = ((7 - c.size : Nat) : Int) := by rw [wrap64_id (by omega) (by omega)]; omega
    have z0 : (⟨#[0]⟩ : ByteArray).size = 1 := rfl
    unfold strings_Repeat.f
    rw [hw, if_pos (by omega), if_pos (by omega), Int.toNat_natCast, z0, if_pos (by omega)]
    show some (⟨(Lib.repeatL [0] (7 - c.size)).toArray⟩ : ByteArray) = _
    rw [rep_zero]
  have z3 : (⟨(List.replicate (7 - c.size) 0).toArray⟩ : ByteArray).size = 7 - c.size := by rw [ba_size, mk_list, List.length_replicate]
  rw [z1, if_pos (by omega), if_pos (by rw [ByteArray.size_append, z1, z2]; omega), bnd hrep, if_pos (by rw [ByteArray.size_append, ByteArray.size_append, z1, z2, z3]; omega)]
  congr 1
  apply ba_ext
  rw [append_data, append_data, append_data, mk_list, mk_list, mk_list, hcut, hcl2]
  unfold identL
  simp [magicL]
end Go.Proofs.YtceilmhinkkgfaaDoor.Q
end
section
namespace Go.Proofs.YtceilmhinkkgfaaDoor.Q
open Go.RowKit Go.Proofs.YtceilmhinkkgfaaDoorW.PrintWords Go.Proofs.YtceilmhinkkgfaaDoorW.PrintLast Go.Proofs.YtceilmhinkkgfaaDoorW.PrintMore Go.Proofs.YtceilmhinkkgfaaDoor.Mth

theorem adS_eq {x y : Int} (hx : 0 ≤ x) (hy : 0 ≤ y) : adS x y = (x + y) % 18446744073709551616 := by unfold adS; omega
theorem adC_eq {x y : Int} (hx : 0 ≤ x) (hy : 0 ≤ y) : adC x y = (x + y) / 18446744073709551616 := by unfold adC; omega
def tot : Int → List Int → Int × Bool
  | s, [] => (s, true)
  | s, x :: r => if s + x < 18446744073709551616 then tot (s + x) r else (0, false)
theorem rd_at2 (pre : List Int) (x : Int) (rest : List Int) : rd (pre ++ x :: rest) (pre.length : Int) = x := by
  unfold rd
  simp
theorem add_loop (A : List Int) (hA : A.length < 9223372036854775807) (hu : ∀ x ∈ A, 0 ≤ x ∧ x < 18446744073709551616) : ∀ (rest pre : List Int) (s : Int), A = pre ++ rest → 0 ≤ s → s < 18446744073709551616 →
    Ev (fun k => span_Add.l0 k s A (A.length : Int) (pre.length : Int)) (tot s rest) := by
  intro rest
  induction rest with
  | nil =>
    intro pre s h h0 h1
    refine Ev.step (span_Add.l0.eq_2 _ _ _ _) (ev_neg (by rw [h]; simp) ?_)
    exact ev_now rfl
  | cons x r ih =>
    intro pre s h h0 h1
    have hx := hu x (by rw [h]; simp)
    have hl : A.length = pre.length + r.length + 1 := by rw [h]; simp; omega
    have e1 : rd A (pre.length : Int) = x := by rw [h]; exact rd_at2 pre x r
    refine Ev.step (span_Add.l0.eq_2 _ _ _ _) (ev_pos (by omega) (ev_pos (by omega) (ev_pos (by omega) ?_)))
    rw [e1]
    unfold tot
    by_cases c : s + x < 18446744073709551616
    · rw [if_pos c]
      refine ev_pos (by rw [adC_eq h0 hx.1]; omega) ?_
      rw [adS_eq h0 hx.1, wrap64_id (by omega) (by omega), show (s + x) % 18446744073709551616 = s + x by omega]
      have := ih (pre ++ [x]) (s + x) (by rw [h]; simp) (by omega) c
      rw [List.length_append] at this
      simpa using this
    · rw [if_neg c]
      exact ev_neg (by rw [adC_eq h0 hx.1]; omega) (ev_now rfl)
theorem add_ev (A : List Int) (hA : A.length < 9223372036854775807) (hu : ∀ x ∈ A, 0 ≤ x ∧ x < 18446744073709551616) : Ev (fun k => span_Add.f k A) (tot 0 A) := by
  refine Ev.congr (fun k => span_Add.f.eq_1 k A) ?_
  have := add_loop A hA hu A [] 0 rfl (by omega) (by omega)
  simpa using this
theorem add2_ev {a b : Int} (ha : 0 ≤ a) (ha' : a < 18446744073709551616) (hb : 0 ≤ b) (hb' : b < 18446744073709551616) : Ev (fun k => span_Add.f k [a, b]) (if a + b < 18446744073709551616 then (a + b, true) else (0, false)) := by
  refine ev_eq (add_ev [a, b] (by simp) (fun x hx => ?_)) ?_
  · simp at hx
    rcases hx with rfl | rfl <;> exact ⟨by assumption, by assumption⟩
  · unfold tot tot tot
    rw [if_pos (by omega), Int.zero_add]
theorem end_ev {a n : Int} (ha : 0 ≤ a) (ha' : a < 18446744073709551616) (hb : 0 ≤ n) (hb' : n < 18446744073709551616) : Ev (fun k => sp_End.f k a n) (if a + n < 18446744073709551616 then (a + n, true) else (0, false)) := by
  refine Ev.congr (fun k => sp_End.f.eq_1 k a n) ?_
  exact Ev.bind (add2_ev ha ha' hb hb') (ev_now rfl)
theorem in_ev {a n s : Int} (ha : 0 ≤ a) (ha' : a < 18446744073709551616) (hb : 0 ≤ n) (hb' : n < 18446744073709551616) (hs : s < 18446744073709551616) : Ev (fun k => sp_In.f k a n s) (decide (a + n ≤ s)) := by
  refine Ev.congr (fun k => sp_In.f.eq_1 k a n s) (Ev.bind (end_ev ha ha' hb hb') ?_)
  by_cases c : a + n < 18446744073709551616
  · rw [if_pos c]
    exact ev_pos rfl (ev_now rfl)
  · rw [if_neg c]
    exact ev_neg (by simp) (ev_now (by symm; exact decide_eq_false (by omega)))
theorem part_ev {a n : Int} (t : ByteArray) (ht : t.size ≤ 140737488351232) (ha : 0 ≤ a) (ha' : a < 18446744073709551616) (hb : 0 ≤ n) (hb' : n < 18446744073709551616) :
    Ev (fun k => sp_Part.f k a n t) (if a + n ≤ (t.size : Int) then (t.extract a.toNat (a + n).toNat, true) else (⟨#[]⟩, false)) := by
  refine Ev.congr (fun k => sp_Part.f.eq_1 k a n t) ?_
  rw [wrapu_id (by omega) (by omega)]
  refine Ev.bind (in_ev ha ha' hb hb' (by omega)) ?_
  by_cases c : a + n ≤ (t.size : Int)
  · rw [if_pos c, wrapu_id (by omega) (by omega)]
    exact ev_pos (decide_eq_true c) (ev_pos ha (ev_pos (by omega) (ev_pos c (ev_now rfl))))
  · rw [if_neg c]
    exact ev_neg (by simpa using c) (ev_now rfl)
theorem andMask {a : Int} (ha : 0 ≤ a) (ha' : a < 18446744073709551616) : Go.bits .and .u64 a 4294967295 = a % 4294967296 := by
  have h64 : ∀ n : Int, 0 ≤ n → n < 2 ^ 64 → IntKind.u64.wrap n = n := fun n h0 h1 => wrapu_id h0 (by simpa using h1)
  obtain ⟨n, rfl⟩ := Int.eq_ofNat_of_zero_le ha
  have := (bits_nat .u64 64 (by decide) h64 n 4294967295 (by omega) (by decide)).1
  rw [show ((4294967295 : Nat) : Int) = 4294967295 from rfl] at this
  rw [this, show (4294967295 : Nat) = 2 ^ 32 - 1 by decide, Nat.and_two_pow_sub_one_eq_mod]
  rfl
theorem prod_bd {x y : Int} (h0 : 0 ≤ x) (h1 : x < 4294967296) (h2 : 0 ≤ y) (h3 : y < 4294967296) : 0 ≤ x * y ∧ x * y ≤ 18446744065119617025 := by
  refine ⟨Int.mul_nonneg h0 h2, ?_⟩
  have := Int.mul_le_mul (show x ≤ 4294967295 by omega) (show y ≤ 4294967295 by omega) h2 (by omega)
  simpa using this
theorem mul64_eq {a b : Int} (ha : 0 ≤ a) (ha' : a < 18446744073709551616) (hb : 0 ≤ b) (hb' : b < 18446744073709551616) : bits_Mul64.f a b = some (a * b / 18446744073709551616, a * b % 18446744073709551616) := by
  unfold bits_Mul64.f
  rw [andMask ha ha', andMask hb hb']
  obtain ⟨x1, hx1⟩ : ∃ x, a / 4294967296 = x := ⟨_, rfl⟩
  obtain ⟨x0, hx0⟩ : ∃ x, a % 4294967296 = x := ⟨_, rfl⟩
  obtain ⟨y1, hy1⟩ : ∃ x, b / 4294967296 = x := ⟨_, rfl⟩
  obtain ⟨y0, hy0⟩ : ∃ x, b % 4294967296 = x := ⟨_, rfl⟩
  rw [hx1, hx0, hy1, hy0]
  have e : a * b = x1 * y1 * 18446744073709551616 + (x1 * y0 + x0 * y1) * 4294967296 + x0 * y0 := by
    rw [show a = x1 * 4294967296 + x0 by omega, show b = y1 * 4294967296 + y0 by omega]
    simp only [Int.add_mul, Int.mul_add]
    have e1 : x1 * 4294967296 * (y1 * 4294967296) = x1 * y1 * 18446744073709551616 := by rw [Int.mul_assoc, Int.mul_left_comm 4294967296 y1, show (4294967296 : Int) * 4294967296 = 18446744073709551616 by decide, ← Int.mul_assoc]
    have e2 : x1 * 4294967296 * y0 = x1 * y0 * 4294967296 := by rw [Int.mul_assoc, Int.mul_comm 4294967296, ← Int.mul_assoc]
    have e3 : x0 * (y1 * 4294967296) = x0 * y1 * 4294967296 := by rw [← Int.mul_assoc]
    rw [e1, e2, e3]
    omega
  have q11 := prod_bd (x := x1) (y := y1) (by omega) (by omega) (by omega) (by omega)
  have q10 := prod_bd (x := x1) (y := y0) (by omega) (by omega) (by omega) (by omega)
  have q01 := prod_bd (x := x0) (y := y1) (by omega) (by omega) (by omega) (by omega)
  have q00 := prod_bd (x := x0) (y := y0) (by omega) (by omega) (by omega) (by omega)
  generalize x1 * y1 = p11 at *
  generalize x1 * y0 = p10 at *
  generalize x0 * y1 = p01 at *
  generalize x0 * y0 = p00 at *
  clear hx1 hx0 hy1 hy0
  rw [wrapu_id (n := p11) (by omega) (by omega), wrapu_id (n := p10) (by omega) (by omega), wrapu_id (n := p00) (by omega) (by omega), wrapu_id (n := p01) (by omega) (by omega), wrapu_id (n := p10 + p00 / 4294967296) (by omega) (by omega), andMask (by omega) (by omega), wrapu_id (n := (p10 + p00 / 4294967296) % 4294967296 + p01) (by omega) (by omega)]
  have hw : IntKind.u64.wrap (a * b) = a * b % 18446744073709551616 := by simp [IntKind.wrap, IntKind.bits, IntKind.signed]
  have hlt : a * b < 340282366920938463463374607431768211456 := by omega
  rw [hw, wrapu_id (n := p11 + (p10 + p00 / 4294967296) / 4294967296) (by omega) (by omega), wrapu_id (by omega) (by omega)]
  refine congrArg some (Prod.ext ?_ rfl)
  show p11 + (p10 + p00 / 4294967296) / 4294967296 + ((p10 + p00 / 4294967296) % 4294967296 + p01) / 4294967296 = a * b / 18446744073709551616
  rw [e]
  omega
theorem mul_eq {a b : Int} (ha : 0 ≤ a) (ha' : a < 18446744073709551616) (hb : 0 ≤ b) (hb' : b < 18446744073709551616) : span_Mul.f a b = some (if a * b < 18446744073709551616 then (a * b, true) else (0, false)) := by
  have h0 := Int.mul_nonneg ha hb
  unfold span_Mul.f
  rw [mul64_eq ha ha' hb hb']
  show (if a * b / 18446744073709551616 = 0 then _ else _) = _
  generalize a * b = p at *
  by_cases c : p < 18446744073709551616
  · rw [if_pos (by omega), if_pos c, show p % 18446744073709551616 = p by omega]
  · rw [if_neg (by omega), if_neg c]
def whyV (x4 x5 x6 : UInt8) (m : List UInt8) : Int := if m = magicL then (if x4 = 1 ∨ x4 = 2 then (if x5 = 1 ∨ x5 = 2 then (if x6 = 1 then 0 else 7) else 6) else 5) else 4
theorem why_ev (s : ByteArray) (x0 x1 x2 x3 x4 x5 x6 x7 x8 : UInt8) (rest : List UInt8) (h : s.data.toList = x0 :: x1 :: x2 :: x3 :: x4 :: x5 :: x6 :: x7 :: x8 :: rest) (hr : 7 ≤ rest.length) :
    Ev (fun k => g04Why.f k s) (whyV x4 x5 x6 [x0, x1, x2, x3]) := by
  have hl : s.data.toList.length = s.size := data_length s
  have hsz : 16 ≤ s.size := by rw [← hl, h]; simp; omega
  have b4 : bt s 4 = (x4.toNat : Int) := bt_at9 h 4 (by simp)
  have b5 : bt s 5 = (x5.toNat : Int) := bt_at9 h 5 (by simp)
  have b6 : bt s 6 = (x6.toNat : Int) := bt_at9 h 6 (by simp)
  have ht : (s.extract 0 4).toList = [x0, x1, x2, x3] := by rw [toList_data, extract_data, h]; rfl
  refine Ev.congr (fun k => g04Why.f.eq_1 k s) ?_
  unfold whyV
  refine ev_neg (by omega) (ev_pos (by omega) (ev_pos (by omega) ?_))
  rw [ht]
  by_cases c0 : [x0, x1, x2, x3] = magicL
  · rw [if_pos c0]
    refine ev_pos c0 (ev_pos (by omega) ?_)
    rw [b4]
    have g5 : Ev (fun k => g04Why.j0 k s false) (if x5 = 1 ∨ x5 = 2 then (if x6 = 1 then 0 else 7) else 6) := by
      refine Ev.step (fun k => g04Why.j0.eq_2 _ _ _) (ev_neg (by decide) (ev_pos (by omega) ?_))
      rw [b5]
      have g6 : Ev (fun k => g04Why.j1 k s false) (if x6 = 1 then 0 else 7) := by
        refine Ev.step (fun k => g04Why.j1.eq_2 _ _ _) (ev_neg (by decide) (ev_pos (by omega) ?_))
        rw [b6]
        by_cases c6 : x6 = 1
        · exact ev_pos ((byte_1 x6).2 c6) (ev_now (by rw [if_pos c6]))
        · exact ev_neg (fun hh => c6 ((byte_1 x6).1 hh)) (ev_now (by rw [if_neg c6]))
      by_cases c5 : x5 = 1
      · refine ev_pos ((byte_1 x5).2 c5) ?_
        rw [if_pos (.inl c5)]
        exact g6
      · refine ev_neg (fun hh => c5 ((byte_1 x5).1 hh)) ?_
        by_cases c52 : x5 = 2
        · rw [show (((x5.toNat : Nat) : Int) != 2) = false from bne_eq_false_iff_eq.2 ((byte_2 x5).2 c52), if_pos (.inr c52)]
          exact g6
        · rw [show (((x5.toNat : Nat) : Int) != 2) = true from bne_iff_ne.2 (fun hh => c52 ((byte_2 x5).1 hh)), if_neg (fun hh => hh.elim c5 c52)]
          exact Ev.step (fun k => g04Why.j1.eq_2 _ _ _) (ev_pos rfl (Ev.now 6))
    by_cases c4 : x4 = 1
    · refine ev_pos ((byte_1 x4).2 c4) ?_
      rw [if_pos (.inl c4)]
      exact g5
    · refine ev_neg (fun hh => c4 ((byte_1 x4).1 hh)) ?_
      by_cases c42 : x4 = 2
      · rw [show (((x4.toNat : Nat) : Int) != 2) = false from bne_eq_false_iff_eq.2 ((byte_2 x4).2 c42), if_pos (.inr c42)]
        exact g5
      · rw [show (((x4.toNat : Nat) : Int) != 2) = true from bne_iff_ne.2 (fun hh => c42 ((byte_2 x4).1 hh)), if_neg (fun hh => hh.elim c4 c42)]
        exact Ev.step (fun k => g04Why.j0.eq_2 _ _ _) (ev_pos rfl (Ev.now 5))
  · rw [if_neg c0]
    exact ev_neg c0 (Ev.now 4)
end Go.Proofs.YtceilmhinkkgfaaDoor.Q
end
section
namespace Go.Proofs.YtceilmhinkkgfaaDoor.Q
open Go.RowKit Go.Proofs.YtceilmhinkkgfaaDoorW.PrintWords Go.Proofs.YtceilmhinkkgfaaDoorW.PrintLast Go.Proofs.YtceilmhinkkgfaaDoorW.PrintMore Go.Proofs.YtceilmhinkkgfaaDoor.Mth

def Wd (w : Bool) : Nat := if w = true then 8 else 4
def ShN (w : Bool) : Nat := if w = true then 64 else 40
def PhN (w : Bool) : Nat := if w = true then 56 else 32
def EhN (w : Bool) : Nat := if w = true then 64 else 52
theorem sh_total (w : Bool) : shdr_total w = (ShN w : Int) := by cases w <;> rfl
theorem ph_total (w : Bool) : phdr_total w = (PhN w : Int) := by cases w <;> rfl
theorem eh_total (w : Bool) : ehdr_total w = (EhN w : Int) - 16 := by cases w <;> rfl
def fo (w : Bool) : Nat → Nat
  | 0 => 0 | 1 => 4 | 2 => 8 | 3 => 8 + Wd w | 4 => 8 + 2 * Wd w | 5 => 8 + 3 * Wd w | 6 => 8 + 4 * Wd w | 7 => 12 + 4 * Wd w | 8 => 16 + 4 * Wd w | _ => 16 + 5 * Wd w
def fs (w : Bool) : Nat → Nat
  | 0 => 4 | 1 => 4 | 6 => 4 | 7 => 4 | _ => Wd w
theorem fo_ok : ∀ (w : Bool) (k : Fin 10), (g11Field.offs (Wd w : Int)).getD k.val 0 = (fo w k.val : Int) ∧ (if (k.val : Int) < 2 then (4 : Int) else if (k.val : Int) = 6 then 4 else if (k.val : Int) = 7 then 4 else (Wd w : Int)) = (fs w k.val : Int) ∧ fo w k.val + fs w k.val ≤ ShN w ∧ 1 ≤ fs w k.val ∧ fs w k.val ≤ 8 := by decide +kernel
theorem num_ev (b : Bool) (s : ByteArray) (at_ n : Nat) (h1 : 1 ≤ n) (h8 : n ≤ 8) (h : at_ + n ≤ s.size) (hs : s.size ≤ 140737488351300) : Ev (fun k => g11Num.f k b s (at_ : Int) (n : Int)) (numAt b s.data.toList at_ n) := by
  refine Ev.congr (fun k => g11Num.f.eq_1 k _ _ _ _) ?_
  rw [wrapu_id (n := (at_ : Int) + (n : Int)) (by omega) (by omega)]
  refine ev_pos (by omega) (ev_pos (by omega) (ev_pos (by omega) (Ev.bind (refGet_ev b _) (ev_now ?_))))
  rw [show ((at_ : Int) + (n : Int)).toNat = at_ + n by omega, Int.toNat_natCast]
  unfold getS numAt
  rw [extract_data, Nat.add_sub_cancel_left]
theorem field_ev (b w : Bool) (s : ByteArray) (at_ i : Nat) (hi : i < 10) (h : at_ + ShN w ≤ s.size) (hs : s.size ≤ 140737488351300) : Ev (fun k => g11Field.f k b (Wd w : Int) s (at_ : Int) (i : Int)) (numAt b s.data.toList (at_ + fo w i) (fs w i)) := by
  obtain ⟨e1, e2, e3, e4, e5⟩ := fo_ok w ⟨i, hi⟩
  refine Ev.congr (fun k => g11Field.f.eq_1 k _ _ _ _ _) ?_
  refine ev_pos (by omega) (ev_pos (by omega) ?_)
  simp only [] at e1 e2 e3 e4 e5
  rw [Int.toNat_natCast, e1, e2, wrapu_id (n := (at_ : Int) + (fo w i : Int)) (by omega) (by omega), show (at_ : Int) + (fo w i : Int) = ((at_ + fo w i : Nat) : Int) by omega]
  exact num_ev b s _ _ e4 e5 (by omega) hs
theorem numAt_take (b : Bool) (l : List UInt8) (m at_ n : Nat) (h : at_ + n ≤ m) : numAt b (l.take m) at_ n = numAt b l at_ n := by
  unfold numAt
  rw [List.drop_take, List.take_take, Nat.min_eq_left (by omega)]
theorem numAt_drop (b : Bool) (l : List UInt8) (a at_ n : Nat) : numAt b (l.drop a) at_ n = numAt b l (a + at_) n := by
  unfold numAt
  rw [List.drop_drop]
theorem numAt_part (b : Bool) (l : List UInt8) (a m at_ n : Nat) (h : at_ + n ≤ m) : numAt b ((l.drop a).take m) at_ n = numAt b l (a + at_) n := by
  rw [numAt_take b _ m at_ n h, numAt_drop]
def shAt (b w : Bool) (l : List UInt8) (at_ : Nat) : S52 := ⟨numAt b l (at_ + fo w 0) (fs w 0), numAt b l (at_ + fo w 1) (fs w 1), numAt b l (at_ + fo w 2) (fs w 2), numAt b l (at_ + fo w 3) (fs w 3), numAt b l (at_ + fo w 4) (fs w 4), numAt b l (at_ + fo w 5) (fs w 5), numAt b l (at_ + fo w 6) (fs w 6), numAt b l (at_ + fo w 7) (fs w 7), numAt b l (at_ + fo w 8) (fs w 8), numAt b l (at_ + fo w 9) (fs w 9)⟩
theorem sh_nums (b w : Bool) (l : List UInt8) : nums b (full w tab_shdr_sizes) l = [numAt b l (fo w 0) (fs w 0), numAt b l (fo w 1) (fs w 1), numAt b l (fo w 2) (fs w 2), numAt b l (fo w 3) (fs w 3), numAt b l (fo w 4) (fs w 4), numAt b l (fo w 5) (fs w 5), numAt b l (fo w 6) (fs w 6), numAt b l (fo w 7) (fs w 7), numAt b l (fo w 8) (fs w 8), numAt b l (fo w 9) (fs w 9)] := by
  cases w
  · rw [show full false tab_shdr_sizes = [4, 4, 4, 4, 4, 4, 4, 4, 4, 4] by decide +kernel]
    simp only [nums, List.drop_drop]
    rfl
  · rw [show full true tab_shdr_sizes = [4, 4, 8, 8, 8, 8, 4, 4, 8, 8] by decide +kernel]
    simp only [nums, List.drop_drop]
    rfl
theorem sh_read (b w : Bool) (s t : ByteArray) (at_ m : Nat) (hm : ShN w ≤ m) (h : at_ + m ≤ s.size) (hs : s.size ≤ 140737488351300) (ht : t.data.toList = (s.data.toList.drop at_).take m) :
    Ev (fun k => shdr_Read.f k b w t) ((shAt b w s.data.toList at_).f0, (shAt b w s.data.toList at_).f1, (shAt b w s.data.toList at_).f2, (shAt b w s.data.toList at_).f3, (shAt b w s.data.toList at_).f4, (shAt b w s.data.toList at_).f5, (shAt b w s.data.toList at_).f6, (shAt b w s.data.toList at_).f7, (shAt b w s.data.toList at_).f8, (shAt b w s.data.toList at_).f9, true) := by
  have hl : s.data.toList.length = s.size := data_length s
  have htl : t.size = m := by rw [← data_length t, ht, List.length_take, List.length_drop]; omega
  obtain ⟨f0, f1, f2, f3, f4, f5, f6, f7, f8, f9, he, hv⟩ := shdr_read_long b w t (by omega) (by rw [sh_total]; omega)
  rw [sh_nums, ht] at hv
  have hf : ∀ i, i < 10 → numAt b ((s.data.toList.drop at_).take m) (fo w i) (fs w i) = numAt b s.data.toList (at_ + fo w i) (fs w i) := fun i hi => numAt_part b _ _ _ _ _ (by have := (fo_ok w ⟨i, hi⟩).2.2.1; simp only [] at this; omega)
  rw [hf 0 (by decide), hf 1 (by decide), hf 2 (by decide), hf 3 (by decide), hf 4 (by decide), hf 5 (by decide), hf 6 (by decide), hf 7 (by decide), hf 8 (by decide), hf 9 (by decide)] at hv
  unfold shdr_Put.vals at hv
  simp only [List.cons.injEq, and_true] at hv
  obtain ⟨rfl, rfl, rfl, rfl, rfl, rfl, rfl, rfl, rfl, rfl⟩ := hv
  exact he
def po (w : Bool) (k : Nat) : Nat := if w = true then [0, 4, 8, 16, 24, 32, 40, 48].getD k 0 else [0, 24, 4, 8, 12, 16, 20, 28].getD k 0
def ps (w : Bool) (k : Nat) : Nat := if k < 2 then 4 else Wd w
theorem po_ok : ∀ (w : Bool) (k : Fin 8), po w k.val + ps w k.val ≤ PhN w ∧ 1 ≤ ps w k.val ∧ ps w k.val ≤ 8 := by decide +kernel
def phAt (b w : Bool) (l : List UInt8) (at_ : Nat) : S75 := ⟨numAt b l (at_ + po w 0) (ps w 0), numAt b l (at_ + po w 1) (ps w 1), numAt b l (at_ + po w 2) (ps w 2), numAt b l (at_ + po w 3) (ps w 3), numAt b l (at_ + po w 4) (ps w 4), numAt b l (at_ + po w 5) (ps w 5), numAt b l (at_ + po w 6) (ps w 6), numAt b l (at_ + po w 7) (ps w 7)⟩
theorem ph_nums (b w : Bool) (l : List UInt8) : nums b (full w (pS_shape.tab w)) l = phdr_Put.vals w (numAt b l (po w 0) (ps w 0)) (numAt b l (po w 1) (ps w 1)) (numAt b l (po w 2) (ps w 2)) (numAt b l (po w 3) (ps w 3)) (numAt b l (po w 4) (ps w 4)) (numAt b l (po w 5) (ps w 5)) (numAt b l (po w 6) (ps w 6)) (numAt b l (po w 7) (ps w 7)) := by
  cases w
  · rw [show full false (pS_shape.tab false) = [4, 4, 4, 4, 4, 4, 4, 4] by decide +kernel]
    simp only [nums, List.drop_drop]
    rfl
  · rw [show full true (pS_shape.tab true) = [4, 4, 8, 8, 8, 8, 8, 8] by decide +kernel]
    simp only [nums, List.drop_drop]
    rfl
theorem ph_read (b w : Bool) (s t : ByteArray) (at_ m : Nat) (hm : PhN w ≤ m) (h : at_ + m ≤ s.size) (hs : s.size ≤ 140737488351300) (ht : t.data.toList = (s.data.toList.drop at_).take m) :
    Ev (fun k => phdr_Read.f k b w t) ((phAt b w s.data.toList at_).f0, (phAt b w s.data.toList at_).f1, (phAt b w s.data.toList at_).f2, (phAt b w s.data.toList at_).f3, (phAt b w s.data.toList at_).f4, (phAt b w s.data.toList at_).f5, (phAt b w s.data.toList at_).f6, (phAt b w s.data.toList at_).f7, true) := by
  have hl : s.data.toList.length = s.size := data_length s
  have htl : t.size = m := by rw [← data_length t, ht, List.length_take, List.length_drop]; omega
  obtain ⟨f0, f1, f2, f3, f4, f5, f6, f7, he, hv⟩ := phdr_read_long b w t (by omega) (by rw [ph_total]; omega)
  rw [ph_nums, ht] at hv
  have hf : ∀ i, i < 8 → numAt b ((s.data.toList.drop at_).take m) (po w i) (ps w i) = numAt b s.data.toList (at_ + po w i) (ps w i) := fun i hi => numAt_part b _ _ _ _ _ (by have := (po_ok w ⟨i, hi⟩).1; simp only [] at this; omega)
  rw [hf 0 (by decide), hf 1 (by decide), hf 2 (by decide), hf 3 (by decide), hf 4 (by decide), hf 5 (by decide), hf 6 (by decide), hf 7 (by decide)] at hv
  obtain ⟨rfl, rfl, rfl, rfl, rfl, rfl, rfl, rfl⟩ := phdr_inj w _ _ _ _ _ _ _ _ _ _ _ _ _ _ _ _ hv
  exact he
def eo (w : Bool) : Nat → Nat
  | 0 => 16 | 1 => 18 | 2 => 20 | 3 => 24 | 4 => 24 + Wd w | 5 => 24 + 2 * Wd w | 6 => 24 + 3 * Wd w | 7 => 28 + 3 * Wd w | 8 => 30 + 3 * Wd w | 9 => 32 + 3 * Wd w | 10 => 34 + 3 * Wd w | 11 => 36 + 3 * Wd w | _ => 38 + 3 * Wd w
def ez (w : Bool) : Nat → Nat
  | 2 => 4 | 3 => Wd w | 4 => Wd w | 5 => Wd w | 6 => 4 | _ => 2
theorem eo_ok : ∀ (w : Bool) (k : Fin 13), 16 ≤ eo w k.val ∧ eo w k.val + ez w k.val ≤ EhN w ∧ 1 ≤ ez w k.val ∧ ez w k.val ≤ 8 := by decide +kernel
def ehN (b w : Bool) (l : List UInt8) (i : Nat) : Int := numAt b l (eo w i) (ez w i)
theorem eh_nums (b w : Bool) (l : List UInt8) : nums b (full w tab_ehdr_sizes) l = [numAt b l (eo w 0 - 16) (ez w 0), numAt b l (eo w 1 - 16) (ez w 1), numAt b l (eo w 2 - 16) (ez w 2), numAt b l (eo w 3 - 16) (ez w 3), numAt b l (eo w 4 - 16) (ez w 4), numAt b l (eo w 5 - 16) (ez w 5), numAt b l (eo w 6 - 16) (ez w 6), numAt b l (eo w 7 - 16) (ez w 7), numAt b l (eo w 8 - 16) (ez w 8), numAt b l (eo w 9 - 16) (ez w 9), numAt b l (eo w 10 - 16) (ez w 10), numAt b l (eo w 11 - 16) (ez w 11), numAt b l (eo w 12 - 16) (ez w 12)] := by
  cases w
  · rw [show full false tab_ehdr_sizes = [2, 2, 4, 4, 4, 4, 4, 2, 2, 2, 2, 2, 2] by decide +kernel]
    simp only [nums, List.drop_drop]
    rfl
  · rw [show full true tab_ehdr_sizes = [2, 2, 4, 8, 8, 8, 4, 2, 2, 2, 2, 2, 2] by decide +kernel]
    simp only [nums, List.drop_drop]
    rfl
theorem eh_read (b w : Bool) (s : ByteArray) (h : EhN w ≤ s.size) (hs : s.size ≤ 140737488351300) :
    Ev (fun k => ehdr_Read.f k b w (s.extract 16 s.size)) (ehN b w s.data.toList 0, ehN b w s.data.toList 1, ehN b w s.data.toList 2, ehN b w s.data.toList 3, ehN b w s.data.toList 4, ehN b w s.data.toList 5, ehN b w s.data.toList 6, ehN b w s.data.toList 7, ehN b w s.data.toList 8, ehN b w s.data.toList 9, ehN b w s.data.toList 10, ehN b w s.data.toList 11, ehN b w s.data.toList 12, true) := by
  have hl : s.data.toList.length = s.size := data_length s
  have hd : (s.extract 16 s.size).data.toList = (s.data.toList.drop 16).take (s.size - 16) := extract_data s 16 s.size
  have hE : 16 ≤ EhN w := by cases w <;> decide
  have htl : (s.extract 16 s.size).size = s.size - 16 := by rw [← data_length, hd, List.length_take, List.length_drop]; omega
  obtain ⟨f0, f1, f2, f3, f4, f5, f6, f7, f8, f9, f10, f11, f12, he, hv⟩ := ehdr_read_long b w (s.extract 16 s.size) (by omega) (by rw [eh_total]; omega)
  rw [eh_nums, hd] at hv
  have hf : ∀ i, i < 13 → numAt b ((s.data.toList.drop 16).take (s.size - 16)) (eo w i - 16) (ez w i) = ehN b w s.data.toList i := fun i hi => by
    have h' := eo_ok w ⟨i, hi⟩
    simp only [] at h'
    rw [numAt_part b _ _ _ _ _ (by omega), show 16 + (eo w i - 16) = eo w i by omega]
    rfl
  rw [hf 0 (by decide), hf 1 (by decide), hf 2 (by decide), hf 3 (by decide), hf 4 (by decide), hf 5 (by decide), hf 6 (by decide), hf 7 (by decide), hf 8 (by decide), hf 9 (by decide), hf 10 (by decide), hf 11 (by decide), hf 12 (by decide)] at hv
  unfold ehdr_Put.vals at hv
  simp only [List.cons.injEq, and_true] at hv
  obtain ⟨rfl, rfl, rfl, rfl, rfl, rfl, rfl, rfl, rfl, rfl, rfl, rfl, rfl⟩ := hv
  exact he
theorem eh_short (b w : Bool) (s : ByteArray) (h : s.size < EhN w) (h16 : 16 ≤ s.size) : Ev (fun k => ehdr_Read.f k b w (s.extract 16 s.size)) (0, 0, 0, 0, 0, 0, 0, 0, 0, 0, 0, 0, 0, false) := by
  refine ehdr_read_short b w _ ?_
  have hl : s.data.toList.length = s.size := data_length s
  have hd : (s.extract 16 s.size).data.toList = (s.data.toList.drop 16).take (s.size - 16) := extract_data s 16 s.size
  have htl : (s.extract 16 s.size).size = s.size - 16 := by rw [← data_length, hd, List.length_take, List.length_drop]; omega
  rw [eh_total]; omega
theorem table_ev (s : ByteArray) (hs : s.size ≤ 140737488351232) (a c : Int) (z : Nat) (ha : 0 ≤ a) (ha' : a < 18446744073709551616) (hc : 0 ≤ c) (hc' : c < 18446744073709551616) (hz : z ≤ 64) :
    Ev (fun k => rwT.f k s a c (z : Int)) (if a + c * (z : Int) ≤ (s.size : Int) then (s.extract a.toNat (a + c * (z : Int)).toNat, true) else (⟨#[]⟩, false)) := by
  refine Ev.congr (fun k => rwT.f.eq_1 k _ _ _ _) ?_
  rw [wrapu_id (n := (z : Int)) (by omega) (by omega)]
  have hm := Int.mul_nonneg hc (show (0 : Int) ≤ (z : Int) by omega)
  refine ev_const (mul_eq hc hc' (by omega) (by omega)) ?_
  generalize c * (z : Int) = p at *
  by_cases q : p < 18446744073709551616
  · rw [if_pos q]
    refine ev_pos rfl (Ev.bind (part_ev s hs ha ha' hm q) (ev_now ?_))
    rfl
  · rw [if_neg q, if_neg (by omega)]
    exact ev_neg (by simp) (ev_now rfl)
theorem there_eq (s : ByteArray) (hs : s.size ≤ 140737488351232) (a n : Int) (ha : 0 ≤ a) (hn : 0 ≤ n) : g11there.f s a n = some (decide (a + n ≤ (s.size : Int))) := by
  unfold g11there.f
  rw [wrapu_id (n := (s.size : Int)) (by omega) (by omega)]
  by_cases c : a ≤ (s.size : Int)
  · rw [if_pos c, wrapu_id (by omega) (by omega)]
    congr 1
    exact decide_eq_decide.2 (by omega)
  · rw [if_neg c]
    congr 1
    symm
    exact decide_eq_false (by omega)
end Go.Proofs.YtceilmhinkkgfaaDoor.Q
end
section
namespace Go.Proofs.YtceilmhinkkgfaaDoor.Q
open Go.RowKit Go.Proofs.YtceilmhinkkgfaaDoorW.PrintWords Go.Proofs.YtceilmhinkkgfaaDoorW.PrintLast Go.Proofs.YtceilmhinkkgfaaDoorW.PrintMore Go.Proofs.YtceilmhinkkgfaaDoor.Mth

def pw (x : Int) : Bool := Go.bits .and .u64 x (IntKind.u64.wrap (x - 1)) == 0
theorem and_nat (a b : Nat) (ha : a < 18446744073709551616) (hb : b < 18446744073709551616) : Go.bits .and .u64 (a : Int) (b : Int) = ((a &&& b : Nat) : Int) := by
  have h64 : ∀ n : Int, 0 ≤ n → n < 2 ^ 64 → IntKind.u64.wrap n = n := fun n h0 h1 => wrapu_id h0 (by simpa using h1)
  exact (bits_nat .u64 64 (by decide) h64 a b (by omega) (by omega)).1
theorem pw_zero : pw 0 = true := by
  unfold pw
  rw [show IntKind.u64.wrap (0 - 1) = ((18446744073709551615 : Nat) : Int) by decide, show (0 : Int) = ((0 : Nat) : Int) from rfl, and_nat 0 _ (by omega) (by omega), Nat.zero_and]
  rfl
theorem pw_pos (n : Nat) (h : 1 ≤ n) (h2 : n < 18446744073709551616) : pw (n : Int) = decide (n &&& (n - 1) = 0) := by
  unfold pw
  rw [wrapu_id (by omega) (by omega), show (n : Int) - 1 = ((n - 1 : Nat) : Int) by omega, and_nat n (n - 1) (by omega) (by omega)]
  by_cases c : n &&& (n - 1) = 0
  · rw [c]; rfl
  · rw [decide_eq_false c]
    exact beq_eq_false_iff_ne.2 (by omega)
theorem and_even (m : Nat) (h : 1 ≤ m) : (2 * m) &&& (2 * m - 1) = 2 * (m &&& (m - 1)) := by
  refine Nat.eq_of_testBit_eq fun i => ?_
  cases i with
  | zero => simp [Nat.testBit_and, Nat.testBit_zero]
  | succ i =>
    rw [Nat.testBit_and, Nat.testBit_succ, Nat.testBit_succ, Nat.testBit_succ, show 2 * m / 2 = m by omega, show (2 * m - 1) / 2 = m - 1 by omega, show 2 * (m &&& (m - 1)) / 2 = m &&& (m - 1) by omega, Nat.testBit_and]
theorem and_odd (m : Nat) (h : 1 ≤ m) : ¬ (2 * m + 1) &&& (2 * m + 1 - 1) = 0 := by
  intro e
  have : m = 0 := Nat.eq_of_testBit_eq fun i => by
    have h : Nat.testBit ((2 * m + 1) &&& (2 * m + 1 - 1)) (i + 1) = Nat.testBit 0 (i + 1) := by rw [e]
    rw [Nat.testBit_and, Nat.testBit_succ, Nat.testBit_succ, show (2 * m + 1) / 2 = m by omega, show (2 * m + 1 - 1) / 2 = m by omega, Bool.and_self, Nat.zero_testBit] at h
    rw [h, Nat.zero_testBit]
  omega
theorem power_ev : ∀ n : Nat, n < 18446744073709551616 → Ev (fun k => g11power.f k (n : Int)) (pw (n : Int)) := by
  intro n
  induction n using Nat.strongRecOn with
  | _ n ih =>
    intro h
    refine Ev.congr (fun k => g11power.f.eq_1 k _) (Ev.step (fun k => g11power.l0.eq_2 ..) ?_)
    by_cases c0 : n = 0
    · subst c0
      exact ev_neg (by decide) (ev_now (by rw [show ((0 : Nat) : Int) = 0 from rfl, pw_zero]; rfl))
    by_cases c1 : n = 1
    · subst c1
      exact ev_neg (by decide) (ev_now (by rw [pw_pos 1 (by omega) (by omega)]; rfl))
    refine ev_pos (by omega) ?_
    rw [Int.tmod_eq_emod_of_nonneg (by omega), Int.tdiv_eq_ediv_of_nonneg (by omega), wrapu_id (n := (n : Int) / 2) (by omega) (by omega), pw_pos n (by omega) h]
    obtain ⟨m, rfl | rfl⟩ : ∃ m, n = 2 * m ∨ n = 2 * m + 1 := ⟨n / 2, by omega⟩
    · refine ev_pos (by omega) ?_
      have := ih m (by omega) (by omega)
      rw [pw_pos m (by omega) (by omega)] at this
      rw [show ((2 * m : Nat) : Int) / 2 = (m : Int) by omega, and_even m (by omega)]
      refine ev_eq (Ev.congr (fun k => (g11power.f.eq_1 k _).symm) this) (decide_eq_decide.2 (by omega))
    · exact ev_neg (by omega) (ev_now (by rw [decide_eq_false (and_odd m (by omega))]; exact decide_eq_false (by omega)))
def secs (b w : Bool) (l : List UInt8) (at_ n : Nat) : List S52 := (List.range n).map fun i => shAt b w l (at_ + i * ShN w)
def segs (b w : Bool) (l : List UInt8) (at_ n : Nat) : List S75 := (List.range n).map fun i => phAt b w l (at_ + i * PhN w)
theorem secs_succ (b w : Bool) (l : List UInt8) (at_ n : Nat) : secs b w l at_ (n + 1) = shAt b w l at_ :: secs b w l (at_ + ShN w) n := by
  unfold secs
  rw [List.range_succ_eq_map, List.map_cons, List.map_map, Nat.zero_mul, Nat.add_zero]
  congr 1
  refine List.map_congr_left fun i _ => ?_
  show shAt b w l (at_ + (i + 1) * ShN w) = _
  rw [Nat.succ_mul]
  congr 1
  omega
theorem segs_succ (b w : Bool) (l : List UInt8) (at_ n : Nat) : segs b w l at_ (n + 1) = phAt b w l at_ :: segs b w l (at_ + PhN w) n := by
  unfold segs
  rw [List.range_succ_eq_map, List.map_cons, List.map_map, Nat.zero_mul, Nat.add_zero]
  congr 1
  refine List.map_congr_left fun i _ => ?_
  show phAt b w l (at_ + (i + 1) * PhN w) = _
  rw [Nat.succ_mul]
  congr 1
  omega
theorem secs_length (b w : Bool) (l : List UInt8) (at_ n : Nat) : (secs b w l at_ n).length = n := by simp [secs]
theorem segs_length (b w : Bool) (l : List UInt8) (at_ n : Nat) : (segs b w l at_ n).length = n := by simp [segs]
theorem ShN_pos (w : Bool) : 40 ≤ ShN w ∧ ShN w ≤ 64 := by cases w <;> decide
theorem PhN_pos (w : Bool) : 32 ≤ PhN w ∧ PhN w ≤ 56 := by cases w <;> decide
theorem secs_loop (b w : Bool) (s : ByteArray) (hs : s.size ≤ 140737488351300) : ∀ (n at_ : Nat) (t : ByteArray) (acc : List S52), at_ + n * ShN w ≤ s.size → t.data.toList = (s.data.toList.drop at_).take (n * ShN w) → acc.length + n < 1759218604441 →
    Ev (fun k => sSc.l0 k t (ShN w : Int) acc b w) (acc ++ secs b w s.data.toList at_ n) := by
  have hl : s.data.toList.length = s.size := data_length s
  have hT := ShN_pos w
  intro n
  induction n with
  | zero =>
    intro at_ t acc h ht ha
    have hz : t.size = 0 := by rw [← data_length t, ht, Nat.zero_mul, List.take_zero]; rfl
    refine Ev.step (fun k => sSc.l0.eq_2 ..) (ev_neg (by omega) (ev_now ?_))
    rw [show secs b w s.data.toList at_ 0 = [] from rfl, List.append_nil]
  | succ n ih =>
    intro at_ t acc h ht ha
    rw [Nat.succ_mul] at h ht
    have hz : t.size = n * ShN w + ShN w := by rw [← data_length t, ht, List.length_take, List.length_drop]; omega
    refine Ev.step (fun k => sSc.l0.eq_2 ..) (ev_pos (by omega) (Ev.bind (sh_read b w s t at_ (n * ShN w + ShN w) (by omega) h hs ht) (ev_pos (by omega) (ev_pos (by omega) (ev_pos (by omega) ?_)))))
    have := ih (at_ + ShN w) (t.extract (ShN w) t.size) (acc ++ [shAt b w s.data.toList at_]) (by omega) (by
      rw [extract_data, ht, List.drop_take, List.drop_drop, List.take_take]
      congr 1
      omega) (by rw [List.length_append, List.length_singleton]; omega)
    rw [secs_succ]
    rw [List.append_assoc, List.singleton_append] at this
    exact this
theorem secs_ev (b w : Bool) (s : ByteArray) (hs : s.size ≤ 140737488351300) (n at_ : Nat) (t : ByteArray) (h : at_ + n * ShN w ≤ s.size) (ht : t.data.toList = (s.data.toList.drop at_).take (n * ShN w)) (hn : n < 1759218604441) :
    Ev (fun k => sSc.f k b w t (ShN w : Int) 0) (secs b w s.data.toList at_ n) :=
  Ev.congr (fun k => sSc.f.eq_1 ..) (by simpa using secs_loop b w s hs n at_ t [] h ht (by simpa using hn))
theorem segs_loop (b w : Bool) (s : ByteArray) (hs : s.size ≤ 140737488351300) : ∀ (n at_ : Nat) (t : ByteArray) (acc : List S75), at_ + n * PhN w ≤ s.size → t.data.toList = (s.data.toList.drop at_).take (n * PhN w) → acc.length + n < 2199023255552 →
    Ev (fun k => pSg.l0 k t (PhN w : Int) acc b w) (acc ++ segs b w s.data.toList at_ n) := by
  have hl : s.data.toList.length = s.size := data_length s
  have hT := PhN_pos w
  intro n
  induction n with
  | zero =>
    intro at_ t acc h ht ha
    have hz : t.size = 0 := by rw [← data_length t, ht, Nat.zero_mul, List.take_zero]; rfl
    refine Ev.step (fun k => pSg.l0.eq_2 ..) (ev_neg (by omega) (ev_now ?_))
    rw [show segs b w s.data.toList at_ 0 = [] from rfl, List.append_nil]
  | succ n ih =>
    intro at_ t acc h ht ha
    rw [Nat.succ_mul] at h ht
    have hz : t.size = n * PhN w + PhN w := by rw [← data_length t, ht, List.length_take, List.length_drop]; omega
    refine Ev.step (fun k => pSg.l0.eq_2 ..) (ev_pos (by omega) (Ev.bind (ph_read b w s t at_ (n * PhN w + PhN w) (by omega) h hs ht) (ev_pos (by omega) (ev_pos (by omega) (ev_pos (by omega) ?_)))))
    have := ih (at_ + PhN w) (t.extract (PhN w) t.size) (acc ++ [phAt b w s.data.toList at_]) (by omega) (by
      rw [extract_data, ht, List.drop_take, List.drop_drop, List.take_take]
      congr 1
      omega) (by rw [List.length_append, List.length_singleton]; omega)
    rw [segs_succ]
    rw [List.append_assoc, List.singleton_append] at this
    exact this
theorem segs_ev (b w : Bool) (s : ByteArray) (hs : s.size ≤ 140737488351300) (n at_ : Nat) (t : ByteArray) (h : at_ + n * PhN w ≤ s.size) (ht : t.data.toList = (s.data.toList.drop at_).take (n * PhN w)) (hn : n < 2199023255552) :
    Ev (fun k => pSg.f k b w t (PhN w : Int) 0) (segs b w s.data.toList at_ n) :=
  Ev.congr (fun k => pSg.f.eq_1 ..) (by simpa using segs_loop b w s hs n at_ t [] h ht (by simpa using hn))
def U1 (x : Int) : Prop := 0 ≤ x ∧ x < 18446744073709551616
theorem U1_at (b : Bool) (l : List UInt8) (at_ n : Nat) : U1 (numAt b l at_ n) := numAt_range b l at_ n
def secBad (N : Nat) : List S52 → Int
  | [] => 0
  | x :: r => if pw x.f8 = true then (if (x.f1 != 0 && x.f1 != 8) = true then (if x.f4 + x.f5 ≤ (N : Int) then secBad N r else 9) else secBad N r) else 13
def segBad (N : Nat) : List S75 → Int
  | [] => 0
  | x :: r => if x.f2 + x.f5 ≤ (N : Int) then segBad N r else 9
def thn (e r : Int) : Int := if e = 0 then r else e
theorem hasData_eq (x : S52) : rwH.f x.f0 x.f1 x.f2 x.f3 x.f4 x.f5 x.f6 x.f7 x.f8 x.f9 = some (x.f1 != 0 && x.f1 != 8) := by
  unfold rwH.f
  by_cases c : x.f1 = 0
  · rw [if_pos c, c]; rfl
  · rw [if_neg c, bne_iff_ne.2 c, Bool.true_and]
theorem rd52_at (pre : List S52) (x : S52) (rest : List S52) : rd_T52 (pre ++ x :: rest) (pre.length : Int) = x := by
  unfold rd_T52
  simp
theorem rd75_at (pre : List S75) (x : S75) (rest : List S75) : rd_T75 (pre ++ x :: rest) (pre.length : Int) = x := by
  unfold rd_T75
  simp
theorem bytes_l1 (N : Nat) (hN : N ≤ 140737488351232) (b w : Bool) (a2 a3 : Int) (a4 : ByteArray) (h0 h1 h2 h3 h4 h5 h6 h7 h8 h9 h10 h11 h12 : Int) (S : List S52) (G : List S75) (nm : Int) (hG : ∀ x ∈ G, U1 x.f2 ∧ U1 x.f5) (hlen : G.length < 9223372036854775807) : ∀ rest pre, G = pre ++ rest →
    Ev (fun k => rwFbytes.l1 k (N : Int) G (G.length : Int) (pre.length : Int) b w a2 a3 a4 h0 h1 h2 h3 h4 h5 h6 h7 h8 h9 h10 h11 h12 S G nm) (segBad N rest, b, w, a2, a3, a4, h0, h1, h2, h3, h4, h5, h6, h7, h8, h9, h10, h11, h12, S, G, nm) := by
  intro rest
  induction rest with
  | nil =>
    intro pre h
    exact Ev.step (fun k => rwFbytes.l1.eq_2 ..) (ev_neg (by rw [h]; simp) (ev_now rfl))
  | cons x r ih =>
    intro pre h
    have hx := hG x (by rw [h]; simp)
    have hl : G.length = pre.length + r.length + 1 := by rw [h]; simp; omega
    have e1 : rd_T75 G (pre.length : Int) = x := by rw [h]; exact rd75_at pre x r
    refine Ev.step (fun k => rwFbytes.l1.eq_2 ..) (ev_pos (by omega) (ev_pos (by omega) (ev_pos (by omega) ?_)))
    rw [e1]
    refine Ev.bind (in_ev hx.1.1 hx.1.2 hx.2.1 hx.2.2 (by omega)) ?_
    unfold segBad
    by_cases c : x.f2 + x.f5 ≤ (N : Int)
    · rw [if_pos c, wrap64_id (by omega) (by omega)]
      have := ih (pre ++ [x]) (by rw [h]; simp)
      rw [List.length_append, List.length_singleton] at this
      exact ev_pos (decide_eq_true c) this
    · rw [if_neg c]
      exact ev_neg (by simpa using c) (ev_now rfl)
theorem bytes_l0 (N : Nat) (hN : N ≤ 140737488351232) (b w : Bool) (a2 a3 : Int) (a4 : ByteArray) (h0 h1 h2 h3 h4 h5 h6 h7 h8 h9 h10 h11 h12 : Int) (S : List S52) (G : List S75) (nm : Int) (hS : ∀ x ∈ S, U1 x.f4 ∧ U1 x.f5) (hG : ∀ x ∈ G, U1 x.f2 ∧ U1 x.f5) (hlenS : S.length < 9223372036854775807) (hlen : G.length < 9223372036854775807) : ∀ rest pre, S = pre ++ rest →
    Ev (fun k => rwFbytes.l0 k (N : Int) S (S.length : Int) (pre.length : Int) b w a2 a3 a4 h0 h1 h2 h3 h4 h5 h6 h7 h8 h9 h10 h11 h12 S G nm) (thn (secBad N rest) (segBad N G), b, w, a2, a3, a4, h0, h1, h2, h3, h4, h5, h6, h7, h8, h9, h10, h11, h12, S, G, nm) := by
  intro rest
  induction rest with
  | nil =>
    intro pre h
    exact Ev.step (fun k => rwFbytes.l0.eq_2 ..) (ev_neg (by rw [h]; simp) (bytes_l1 N hN b w a2 a3 a4 h0 h1 h2 h3 h4 h5 h6 h7 h8 h9 h10 h11 h12 S G nm hG hlen G [] rfl))
  | cons x r ih =>
    intro pre h
    have hx := hS x (by rw [h]; simp)
    have hl : S.length = pre.length + r.length + 1 := by rw [h]; simp; omega
    have e1 : rd_T52 S (pre.length : Int) = x := by rw [h]; exact rd52_at pre x r
    have nxt_ := ih (pre ++ [x]) (by rw [h]; simp)
    rw [List.length_append, List.length_singleton] at nxt_
    refine Ev.step (fun k => rwFbytes.l0.eq_2 ..) (ev_pos (by omega) (ev_pos (by omega) (ev_pos (by omega) ?_)))
    rw [e1, wrap64_id (by omega) (by omega)]
    unfold secBad
    by_cases c : pw x.f8 = true
    · rw [if_pos c]
      refine ev_pos (by simpa [pw] using c) (ev_const (hasData_eq x) ?_)
      by_cases d : (x.f1 != 0 && x.f1 != 8) = true
      · rw [if_pos d]
        refine ev_pos d (Ev.bind (in_ev hx.1.1 hx.1.2 hx.2.1 hx.2.2 (by omega)) ?_)
        by_cases e : x.f4 + x.f5 ≤ (N : Int)
        · rw [if_pos e]
          exact ev_pos (decide_eq_true e) nxt_
        · rw [if_neg e]
          exact ev_neg (by simpa using e) (ev_now rfl)
      · rw [if_neg d]
        exact ev_neg d nxt_
    · rw [if_neg c]
      exact ev_neg (by simpa [pw] using c) (ev_now rfl)
theorem bytes_ev (s : ByteArray) (hs : s.size ≤ 140737488351232) (b w : Bool) (a2 a3 : Int) (a4 : ByteArray) (h0 h1 h2 h3 h4 h5 h6 h7 h8 h9 h10 h11 h12 : Int) (S : List S52) (G : List S75) (nm : Int) (hS : ∀ x ∈ S, U1 x.f4 ∧ U1 x.f5) (hG : ∀ x ∈ G, U1 x.f2 ∧ U1 x.f5) (hlenS : S.length < 9223372036854775807) (hlen : G.length < 9223372036854775807) :
    Ev (fun k => rwFbytes.f k b w a2 a3 a4 h0 h1 h2 h3 h4 h5 h6 h7 h8 h9 h10 h11 h12 S G nm s) (thn (secBad s.size S) (segBad s.size G), b, w, a2, a3, a4, h0, h1, h2, h3, h4, h5, h6, h7, h8, h9, h10, h11, h12, S, G, nm) := by
  refine Ev.congr (fun k => rwFbytes.f.eq_1 ..) ?_
  rw [wrapu_id (n := (s.size : Int)) (by omega) (by omega)]
  exact bytes_l0 s.size hs b w a2 a3 a4 h0 h1 h2 h3 h4 h5 h6 h7 h8 h9 h10 h11 h12 S G nm hS hG hlenS hlen S [] rfl
def secRes (b w : Bool) (s : ByteArray) (so sn sx : Int) : Int × List S52 × Int :=
  if so = 0 then (if sn = 0 then (if sx = 0 then (0, [], 0) else (11, [], 0)) else (10, [], 0))
  else if so + (ShN w : Int) ≤ (s.size : Int) then
    (if (if sn = 0 then (shAt b w s.data.toList so.toNat).f5 else sn) = 0 ∨ 4096 < (if sn = 0 then (shAt b w s.data.toList so.toNat).f5 else sn) then (10, [], 0)
    else if so + (if sn = 0 then (shAt b w s.data.toList so.toNat).f5 else sn) * (ShN w : Int) ≤ (s.size : Int) then
      (if (shAt b w s.data.toList so.toNat).f1 = 0 then
        (if (if sn = 0 then (shAt b w s.data.toList so.toNat).f5 else sn) ≤ (if sx = 65535 then (shAt b w s.data.toList so.toNat).f6 else sx) then (11, [], (if sx = 65535 then (shAt b w s.data.toList so.toNat).f6 else sx))
        else (0, secs b w s.data.toList so.toNat (if sn = 0 then (shAt b w s.data.toList so.toNat).f5 else sn).toNat, (if sx = 65535 then (shAt b w s.data.toList so.toNat).f6 else sx)))
      else (27, [], 0))
    else (9, [], 0))
  else (9, [], 0)
theorem sec_j1 (s : ByteArray) (hs : s.size ≤ 140737488351232) (b w : Bool) (a2 a3 : Int) (a4 : ByteArray) (h0 h1 h2 h3 h4 h5 h6 h7 h8 h9 h10 h11 h12 : Int) (c : Int) (bad : Bool) (hc : U1 c) (hb : bad = false → c ≤ 4096) (ho : U1 h5) (x0 x1 x2 x3 x4 x5 x6 x7 x8 x9 : Int) :
    Ev (fun k => rwFsections.j1 k s (ShN w : Int) c bad b w a2 a3 a4 h0 h1 h2 h3 h4 h5 h6 h7 h8 h9 h10 h11 h12 [] [] 0 h0 h1 h2 h3 h4 h5 h6 h7 h8 h9 h10 h11 h12 x0 x1 x2 x3 x4 x5 x6 x7 x8 x9)
      (if bad = true then (10, b, w, a2, a3, a4, h0, h1, h2, h3, h4, h5, h6, h7, h8, h9, h10, h11, h12, [], [], 0) else if h5 + c * (ShN w : Int) ≤ (s.size : Int) then
        (if x1 = 0 then (if c ≤ (if h12 = 65535 then x6 else h12) then (11, b, w, a2, a3, a4, h0, h1, h2, h3, h4, h5, h6, h7, h8, h9, h10, h11, h12, [], [], (if h12 = 65535 then x6 else h12)) else (0, b, w, a2, a3, a4, h0, h1, h2, h3, h4, h5, h6, h7, h8, h9, h10, h11, h12, secs b w s.data.toList h5.toNat c.toNat, [], (if h12 = 65535 then x6 else h12))) else (27, b, w, a2, a3, a4, h0, h1, h2, h3, h4, h5, h6, h7, h8, h9, h10, h11, h12, [], [], 0))
        else (9, b, w, a2, a3, a4, h0, h1, h2, h3, h4, h5, h6, h7, h8, h9, h10, h11, h12, [], [], 0)) := by
  refine Ev.step (fun k => rwFsections.j1.eq_2 ..) ?_
  cases bad with
  | true => exact ev_pos rfl (ev_now rfl)
  | false =>
    rw [if_neg (by decide)]
    have hT := ShN_pos w
    refine ev_neg (by decide) (Ev.bind (table_ev s hs h5 c (ShN w) ho.1 ho.2 hc.1 hc.2 (by omega)) ?_)
    by_cases q : h5 + c * (ShN w : Int) ≤ (s.size : Int)
    · rw [if_pos q, if_pos q]
      refine ev_pos rfl ?_
      have hread : Ev (fun k => sSc.f k b w (s.extract h5.toNat (h5 + c * (ShN w : Int)).toNat) (ShN w : Int) 0) (secs b w s.data.toList h5.toNat c.toNat) := by
        obtain ⟨o, eo⟩ := Int.eq_ofNat_of_zero_le ho.1
        obtain ⟨m, em⟩ := Int.eq_ofNat_of_zero_le hc.1
        have hm := hb rfl
        subst eo em
        rw [show ((o : Int) + (m : Int) * (ShN w : Int)).toNat = o + m * ShN w by omega, Int.toNat_natCast, Int.toNat_natCast]
        have q' : o + m * ShN w ≤ s.size := by
          rw [← Int.natCast_mul] at q
          omega
        refine secs_ev b w s (by omega) m o _ q' ?_ (by omega)
        rw [extract_data, Nat.add_sub_cancel_left]
      by_cases d : x1 = 0
      · rw [if_pos d]
        refine ev_pos d ?_
        by_cases n : h12 = 65535
        · rw [if_pos n]
          refine ev_pos n ?_
          by_cases g : c ≤ x6
          · rw [if_pos g]
            exact ev_pos g (ev_now rfl)
          · rw [if_neg g]
            exact ev_neg g (Ev.bind hread (ev_now rfl))
        · rw [if_neg n]
          refine ev_neg n ?_
          by_cases g : c ≤ h12
          · rw [if_pos g]
            exact ev_pos g (ev_now rfl)
          · rw [if_neg g]
            exact ev_neg g (Ev.bind hread (ev_now rfl))
      · rw [if_neg d]
        exact ev_neg d (ev_now rfl)
    · rw [if_neg q, if_neg q]
      exact ev_neg (by decide) (ev_now rfl)
theorem sections_ev (s : ByteArray) (hs : s.size ≤ 140737488351232) (b w : Bool) (a2 a3 : Int) (a4 : ByteArray) (h0 h1 h2 h3 h4 h5 h6 h7 h8 h9 h10 h11 h12 : Int) (ho : U1 h5) (hn : U1 h11) (hx : U1 h12) :
    Ev (fun k => rwFsections.f k b w a2 a3 a4 h0 h1 h2 h3 h4 h5 h6 h7 h8 h9 h10 h11 h12 [] [] 0 s) ((secRes b w s h5 h11 h12).1, b, w, a2, a3, a4, h0, h1, h2, h3, h4, h5, h6, h7, h8, h9, h10, h11, h12, (secRes b w s h5 h11 h12).2.1, [], (secRes b w s h5 h11 h12).2.2) := by
  refine Ev.congr (fun k => rwFsections.f.eq_1 ..) ?_
  unfold secRes
  by_cases c : h5 = 0
  · rw [if_pos c]
    refine ev_pos c ?_
    by_cases d : h11 = 0
    · refine ev_pos d ?_
      by_cases e : h12 = 0
      · refine ev_pos e (ev_now ?_)
        rw [if_pos d, if_pos e]
      · refine ev_neg e (ev_now ?_)
        rw [if_pos d, if_neg e]
    · refine ev_neg d (ev_now ?_)
      rw [if_neg d]
  · rw [if_neg c]
    have hT := ShN_pos w
    refine ev_neg c (Ev.bind (shdr_size_ev b w) ?_)
    rw [sh_total]
    refine Ev.bind (table_ev s hs h5 1 (ShN w) ho.1 ho.2 (by decide) (by decide) (by omega)) ?_
    rw [Int.one_mul]
    by_cases q : h5 + (ShN w : Int) ≤ (s.size : Int)
    · rw [if_pos q, if_pos q]
      refine ev_pos rfl ?_
      obtain ⟨o, eo⟩ := Int.eq_ofNat_of_zero_le ho.1
      have hfst : Ev (fun k => shdr_Read.f k b w (s.extract h5.toNat (h5 + (ShN w : Int)).toNat)) _ := sh_read b w s (s.extract h5.toNat (h5 + (ShN w : Int)).toNat) h5.toNat (ShN w) (Nat.le_refl _) (by omega) (by omega) (by rw [extract_data]; congr 1; omega)
      refine Ev.bind hfst ?_
      have hj : ∀ x : Int, U1 x → Ev (fun k => rwFsections.j0 k s (ShN w : Int) x b w a2 a3 a4 h0 h1 h2 h3 h4 h5 h6 h7 h8 h9 h10 h11 h12 [] [] 0 h0 h1 h2 h3 h4 h5 h6 h7 h8 h9 h10 h11 h12 (shAt b w s.data.toList h5.toNat).f0 (shAt b w s.data.toList h5.toNat).f1 (shAt b w s.data.toList h5.toNat).f2 (shAt b w s.data.toList h5.toNat).f3 (shAt b w s.data.toList h5.toNat).f4 (shAt b w s.data.toList h5.toNat).f5 (shAt b w s.data.toList h5.toNat).f6 (shAt b w s.data.toList h5.toNat).f7 (shAt b w s.data.toList h5.toNat).f8 (shAt b w s.data.toList h5.toNat).f9) (if x = 0 ∨ 4096 < x then (10, b, w, a2, a3, a4, h0, h1, h2, h3, h4, h5, h6, h7, h8, h9, h10, h11, h12, [], [], 0) else if h5 + x * (ShN w : Int) ≤ (s.size : Int) then
        (if (shAt b w s.data.toList h5.toNat).f1 = 0 then (if x ≤ (if h12 = 65535 then (shAt b w s.data.toList h5.toNat).f6 else h12) then (11, b, w, a2, a3, a4, h0, h1, h2, h3, h4, h5, h6, h7, h8, h9, h10, h11, h12, [], [], (if h12 = 65535 then (shAt b w s.data.toList h5.toNat).f6 else h12)) else (0, b, w, a2, a3, a4, h0, h1, h2, h3, h4, h5, h6, h7, h8, h9, h10, h11, h12, secs b w s.data.toList h5.toNat x.toNat, [], (if h12 = 65535 then (shAt b w s.data.toList h5.toNat).f6 else h12))) else (27, b, w, a2, a3, a4, h0, h1, h2, h3, h4, h5, h6, h7, h8, h9, h10, h11, h12, [], [], 0))
        else (9, b, w, a2, a3, a4, h0, h1, h2, h3, h4, h5, h6, h7, h8, h9, h10, h11, h12, [], [], 0)) := by
        intro x ux
        refine Ev.step (fun k => rwFsections.j0.eq_2 ..) ?_
        by_cases z : x = 0
        · refine ev_pos z (ev_eq (sec_j1 s hs b w a2 a3 a4 h0 h1 h2 h3 h4 h5 h6 h7 h8 h9 h10 h11 h12 x true ux (by simp) ho _ _ _ _ _ _ _ _ _ _) ?_)
          rw [if_pos rfl, if_pos (.inl z)]
        · refine ev_neg z (ev_eq (sec_j1 s hs b w a2 a3 a4 h0 h1 h2 h3 h4 h5 h6 h7 h8 h9 h10 h11 h12 x (decide (x > 4096)) ux (fun hd => by have := of_decide_eq_false hd; omega) ho _ _ _ _ _ _ _ _ _ _) ?_)
          by_cases y : 4096 < x
          · rw [if_pos (decide_eq_true y), if_pos (.inr y)]
          · rw [if_neg (show ¬ decide (x > 4096) = true by simpa using y), if_neg (show ¬ (x = 0 ∨ 4096 < x) from fun hh => hh.elim z y)]
      have hfin : ∀ x : Int, U1 x → (if x = 0 ∨ 4096 < x then ((10 : Int), b, w, a2, a3, a4, h0, h1, h2, h3, h4, h5, h6, h7, h8, h9, h10, h11, h12, ([] : List S52), ([] : List S75), (0 : Int)) else if h5 + x * (ShN w : Int) ≤ (s.size : Int) then
        (if (shAt b w s.data.toList h5.toNat).f1 = 0 then (if x ≤ (if h12 = 65535 then (shAt b w s.data.toList h5.toNat).f6 else h12) then (11, b, w, a2, a3, a4, h0, h1, h2, h3, h4, h5, h6, h7, h8, h9, h10, h11, h12, [], [], (if h12 = 65535 then (shAt b w s.data.toList h5.toNat).f6 else h12)) else (0, b, w, a2, a3, a4, h0, h1, h2, h3, h4, h5, h6, h7, h8, h9, h10, h11, h12, secs b w s.data.toList h5.toNat x.toNat, [], (if h12 = 65535 then (shAt b w s.data.toList h5.toNat).f6 else h12))) else (27, b, w, a2, a3, a4, h0, h1, h2, h3, h4, h5, h6, h7, h8, h9, h10, h11, h12, [], [], 0))
        else (9, b, w, a2, a3, a4, h0, h1, h2, h3, h4, h5, h6, h7, h8, h9, h10, h11, h12, [], [], 0)) = ((if x = 0 ∨ 4096 < x then ((10 : Int), ([] : List S52), (0 : Int)) else if h5 + x * (ShN w : Int) ≤ (s.size : Int) then (if (shAt b w s.data.toList h5.toNat).f1 = 0 then (if x ≤ (if h12 = 65535 then (shAt b w s.data.toList h5.toNat).f6 else h12) then (11, [], (if h12 = 65535 then (shAt b w s.data.toList h5.toNat).f6 else h12)) else (0, secs b w s.data.toList h5.toNat x.toNat, (if h12 = 65535 then (shAt b w s.data.toList h5.toNat).f6 else h12))) else (27, [], 0)) else (9, [], 0)).1, b, w, a2, a3, a4, h0, h1, h2, h3, h4, h5, h6, h7, h8, h9, h10, h11, h12, (if x = 0 ∨ 4096 < x then ((10 : Int), ([] : List S52), (0 : Int)) else if h5 + x * (ShN w : Int) ≤ (s.size : Int) then (if (shAt b w s.data.toList h5.toNat).f1 = 0 then (if x ≤ (if h12 = 65535 then (shAt b w s.data.toList h5.toNat).f6 else h12) then (11, [], (if h12 = 65535 then (shAt b w s.data.toList h5.toNat).f6 else h12)) else (0, secs b w s.data.toList h5.toNat x.toNat, (if h12 = 65535 then (shAt b w s.data.toList h5.toNat).f6 else h12))) else (27, [], 0)) else (9, [], 0)).2.1, [], (if x = 0 ∨ 4096 < x then ((10 : Int), ([] : List S52), (0 : Int)) else if h5 + x * (ShN w : Int) ≤ (s.size : Int) then (if (shAt b w s.data.toList h5.toNat).f1 = 0 then (if x ≤ (if h12 = 65535 then (shAt b w s.data.toList h5.toNat).f6 else h12) then (11, [], (if h12 = 65535 then (shAt b w s.data.toList h5.toNat).f6 else h12)) else (0, secs b w s.data.toList h5.toNat x.toNat, (if h12 = 65535 then (shAt b w s.data.toList h5.toNat).f6 else h12))) else (27, [], 0)) else (9, [], 0)).2.2) := by
        intro x ux
        generalize (if h12 = 65535 then (shAt b w s.data.toList h5.toNat).f6 else h12) = nm
        repeat' split
        all_goals rfl
      by_cases n : h11 = 0
      · refine ev_pos n (ev_eq (hj _ (U1_at ..)) ?_)
        rw [if_pos n]
        exact hfin _ (U1_at ..)
      · refine ev_neg n (ev_eq (hj h11 hn) ?_)
        rw [if_neg n]
        exact hfin _ hn
    · rw [if_neg q, if_neg q]
      exact ev_neg (by decide) (ev_now rfl)
def segCnt (pn : Int) : List S52 → Int
  | [] => pn
  | x :: _ => if pn = 65535 then x.f7 else pn
def segRes (b w : Bool) (s : ByteArray) (po_ c : Int) : Int × List S75 :=
  if 256 < c ∨ (0 < c ∧ po_ = 0) then (10, [])
  else if po_ + c * (PhN w : Int) ≤ (s.size : Int) then (0, segs b w s.data.toList po_.toNat c.toNat)
  else if 0 < c then (9, []) else (0, [])
theorem seg_j2 (s : ByteArray) (hs : s.size ≤ 140737488351232) (b w : Bool) (a2 a3 : Int) (a4 : ByteArray) (h0 h1 h2 h3 h4 h5 h6 h7 h8 h9 h10 h11 h12 : Int) (S : List S52) (nm c : Int) (hc : U1 c) (hp : U1 h4) (bad : Bool) (hb : bad = decide (256 < c ∨ (0 < c ∧ h4 = 0))) :
    Ev (fun k => rwFsegments.j2 k s c bad b w a2 a3 a4 h0 h1 h2 h3 h4 h5 h6 h7 h8 h9 h10 h11 h12 S [] nm h0 h1 h2 h3 h4 h5 h6 h7 h8 h9 h10 h11 h12) ((segRes b w s h4 c).1, b, w, a2, a3, a4, h0, h1, h2, h3, h4, h5, h6, h7, h8, h9, h10, h11, h12, S, (segRes b w s h4 c).2, nm) := by
  refine Ev.step (fun k => rwFsegments.j2.eq_2 ..) ?_
  unfold segRes
  by_cases g : 256 < c ∨ (0 < c ∧ h4 = 0)
  · rw [if_pos g]
    exact ev_pos (by rw [hb]; exact decide_eq_true g) (ev_now rfl)
  · rw [if_neg g]
    have hT := PhN_pos w
    refine ev_neg (by rw [hb, decide_eq_false g]; decide) (Ev.bind (phdr_size_ev b w) ?_)
    rw [ph_total]
    refine Ev.bind (table_ev s hs h4 c (PhN w) hp.1 hp.2 hc.1 hc.2 (by omega)) ?_
    have hm : c ≤ 256 := by omega
    by_cases q : h4 + c * (PhN w : Int) ≤ (s.size : Int)
    · rw [if_pos q, if_pos q]
      refine ev_pos rfl (Ev.bind (a := segs b w s.data.toList h4.toNat c.toNat) ?_ (ev_now rfl))
      obtain ⟨o, eo⟩ := Int.eq_ofNat_of_zero_le hp.1
      obtain ⟨m, em⟩ := Int.eq_ofNat_of_zero_le hc.1
      subst eo em
      rw [show ((o : Int) + (m : Int) * (PhN w : Int)).toNat = o + m * PhN w by omega, Int.toNat_natCast, Int.toNat_natCast]
      have q' : o + m * PhN w ≤ s.size := by
        rw [← Int.natCast_mul] at q
        omega
      refine segs_ev b w s (by omega) m o _ q' ?_ (by omega)
      rw [extract_data, Nat.add_sub_cancel_left]
    · rw [if_neg q, if_neg q]
      refine ev_neg (by decide) ?_
      by_cases z : 0 < c
      · rw [if_pos z]
        exact ev_pos z (ev_now rfl)
      · rw [if_neg z]
        refine ev_neg z (Ev.bind (a := []) ?_ (ev_now rfl))
        exact segs_ev b w s (by omega) 0 0 ⟨#[]⟩ (by omega) (by rw [Nat.zero_mul, List.take_zero]) (by omega)
theorem segments_ev (s : ByteArray) (hs : s.size ≤ 140737488351232) (b w : Bool) (a2 a3 : Int) (a4 : ByteArray) (h0 h1 h2 h3 h4 h5 h6 h7 h8 h9 h10 h11 h12 : Int) (S : List S52) (nm : Int) (hS : ∀ x ∈ S, U1 x.f7) (hp : U1 h4) (hn : U1 h9) :
    Ev (fun k => rwFsegments.f k b w a2 a3 a4 h0 h1 h2 h3 h4 h5 h6 h7 h8 h9 h10 h11 h12 S [] nm s) ((segRes b w s h4 (segCnt h9 S)).1, b, w, a2, a3, a4, h0, h1, h2, h3, h4, h5, h6, h7, h8, h9, h10, h11, h12, S, (segRes b w s h4 (segCnt h9 S)).2, nm) := by
  refine Ev.congr (fun k => rwFsegments.f.eq_1 ..) ?_
  have hj1 : ∀ c : Int, U1 c → Ev (fun k => rwFsegments.j1 k s c b w a2 a3 a4 h0 h1 h2 h3 h4 h5 h6 h7 h8 h9 h10 h11 h12 S [] nm h0 h1 h2 h3 h4 h5 h6 h7 h8 h9 h10 h11 h12) ((segRes b w s h4 c).1, b, w, a2, a3, a4, h0, h1, h2, h3, h4, h5, h6, h7, h8, h9, h10, h11, h12, S, (segRes b w s h4 c).2, nm) := by
    intro c hc
    refine Ev.step (fun k => rwFsegments.j1.eq_2 ..) ?_
    by_cases g : 256 < c
    · exact ev_pos g (seg_j2 s hs b w a2 a3 a4 h0 h1 h2 h3 h4 h5 h6 h7 h8 h9 h10 h11 h12 S nm c hc hp _ (by symm; exact decide_eq_true (.inl g)))
    · refine ev_neg g ?_
      by_cases z : 0 < c
      · refine ev_pos z (seg_j2 s hs b w a2 a3 a4 h0 h1 h2 h3 h4 h5 h6 h7 h8 h9 h10 h11 h12 S nm c hc hp _ ?_)
        by_cases y : h4 = 0
        · rw [y]; symm; exact decide_eq_true (.inr ⟨z, rfl⟩)
        · rw [beq_eq_false_iff_ne.2 y]; symm; exact decide_eq_false (fun hh => hh.elim g (fun h2 => y h2.2))
      · exact ev_neg z (seg_j2 s hs b w a2 a3 a4 h0 h1 h2 h3 h4 h5 h6 h7 h8 h9 h10 h11 h12 S nm c hc hp _ (by symm; exact decide_eq_false (fun hh => hh.elim g (fun h2 => z h2.1))))
  cases S with
  | nil =>
    by_cases y : h9 = 65535
    · refine ev_pos y (Ev.step (fun k => rwFsegments.j0.eq_2 ..) (ev_neg (by decide) (hj1 h9 hn)))
    · refine ev_neg y (Ev.step (fun k => rwFsegments.j0.eq_2 ..) (ev_neg (by decide) (hj1 h9 hn)))
  | cons x r =>
    by_cases y : h9 = 65535
    · refine ev_pos y (Ev.step (fun k => rwFsegments.j0.eq_2 ..) (ev_pos (by simp) (ev_pos (by simp) ?_)))
      rw [show segCnt h9 (x :: r) = x.f7 from if_pos y]
      exact hj1 x.f7 (hS x (by simp))
    · refine ev_neg y (Ev.step (fun k => rwFsegments.j0.eq_2 ..) (ev_neg (by decide) ?_))
      rw [show segCnt h9 (x :: r) = h9 from if_neg y]
      exact hj1 h9 hn
end Go.Proofs.YtceilmhinkkgfaaDoor.Q
end
section
namespace Go.Proofs.YtceilmhinkkgfaaDoor.Q
open Go.RowKit Go.Proofs.YtceilmhinkkgfaaDoorW.PrintWords Go.Proofs.YtceilmhinkkgfaaDoorW.PrintLast Go.Proofs.YtceilmhinkkgfaaDoorW.PrintMore Go.Proofs.YtceilmhinkkgfaaDoor.Mth

theorem at_eq (a i z : Nat) (h : a + i * z < 18446744073709551616) : IntKind.u64.wrap ((a : Int) + IntKind.u64.wrap ((i : Int) * (z : Int))) = ((a + i * z : Nat) : Int) := by
  rw [← Int.natCast_mul, wrapu_id (n := ((i * z : Nat) : Int)) (by omega) (by omega), wrapu_id (by omega) (by omega)]
  omega
theorem add_eq (a z : Nat) (h : a + z < 18446744073709551616) : IntKind.u64.wrap ((a : Int) + (z : Int)) = ((a + z : Nat) : Int) := by
  rw [wrapu_id (by omega) (by omega)]
  omega
theorem mul_le' (i n z : Nat) (h : i < n) : i * z + z ≤ n * z := by
  rw [← Nat.succ_mul]
  exact Nat.mul_le_mul_right z h
theorem why_l1 (b w : Bool) (s : ByteArray) (hs : s.size ≤ 140737488351232) (p n : Nat) (h : n = 0 ∨ p + n * PhN w ≤ s.size) : ∀ d i, i + d = n →
    Ev (fun k => g11Why.l1 k s b w (PhN w : Int) (p : Int) (n : Int) (i : Int)) (segBad s.size (segs b w s.data.toList (p + i * PhN w) d)) := by
  have hT := PhN_pos w
  intro d
  induction d with
  | zero =>
    intro i hi
    exact Ev.step (fun k => g11Why.l1.eq_2 ..) (ev_neg (by omega) (ev_now rfl))
  | succ d ih =>
    intro i hi
    have hm := mul_le' i n (PhN w) (by omega)
    have hb : p + n * PhN w ≤ s.size := by omega
    have hn : n ≤ n * PhN w := Nat.le_mul_of_pos_right n (by omega)
    have hA : p + i * PhN w + PhN w ≤ s.size := by omega
    have nxt_ := ih (i + 1) (by omega)
    rw [Nat.succ_mul, ← Nat.add_assoc] at nxt_
    refine Ev.step (fun k => g11Why.l1.eq_2 ..) (ev_pos (by omega) ?_)
    rw [at_eq p i (PhN w) (by omega), wrapu_id (n := (i : Int) + 1) (by omega) (by omega), show (i : Int) + 1 = ((i + 1 : Nat) : Int) by omega, segs_succ]
    generalize p + i * PhN w = A at *
    rw [show IntKind.u64.wrap ((A : Int) + 4) = ((A + 4 : Nat) : Int) from add_eq A 4 (by omega), show IntKind.u64.wrap ((A : Int) + 16) = ((A + 16 : Nat) : Int) from add_eq A 16 (by omega), show IntKind.u64.wrap ((A : Int) + 8) = ((A + 8 : Nat) : Int) from add_eq A 8 (by omega), show IntKind.u64.wrap ((A : Int) + 32) = ((A + 32 : Nat) : Int) from add_eq A 32 (by omega)]
    have n1 : Ev (fun k => g11Num.f k b s ((A + 4 : Nat) : Int) 4) (numAt b s.data.toList (A + 4) 4) := num_ev b s (A + 4) 4 (by omega) (by omega) (by omega) (by omega)
    have n2 : Ev (fun k => g11Num.f k b s ((A + 16 : Nat) : Int) 4) (numAt b s.data.toList (A + 16) 4) := num_ev b s (A + 16) 4 (by omega) (by omega) (by omega) (by omega)
    refine Ev.bind n1 (Ev.bind n2 ?_)
    unfold segBad
    have fin : ∀ x y : Int, U1 x → U1 y → Ev (fun k => (g11there.f s x y).bind fun t => if t = true then g11Why.l1 k s b w (PhN w : Int) (p : Int) (n : Int) ((i + 1 : Nat) : Int) else some 9) (if x + y ≤ (s.size : Int) then segBad s.size (segs b w s.data.toList (A + PhN w) d) else 9) := by
      intro x y hx hy
      refine ev_const (there_eq s hs x y hx.1 hy.1) ?_
      by_cases c : x + y ≤ (s.size : Int)
      · rw [if_pos c]
        exact ev_pos (decide_eq_true c) nxt_
      · rw [if_neg c]
        exact ev_neg (by simpa using c) (ev_now rfl)
    cases w with
    | true =>
      have n3 : Ev (fun k => g11Num.f k b s ((A + 8 : Nat) : Int) 8) (numAt b s.data.toList (A + 8) 8) := num_ev b s (A + 8) 8 (by omega) (by omega) (by have : A + 56 ≤ s.size := hA; omega) (by omega)
      have n4 : Ev (fun k => g11Num.f k b s ((A + 32 : Nat) : Int) 8) (numAt b s.data.toList (A + 32) 8) := num_ev b s (A + 32) 8 (by omega) (by omega) (by have : A + 56 ≤ s.size := hA; omega) (by omega)
      exact ev_pos rfl (Ev.bind n3 (Ev.bind n4 (fin _ _ (U1_at ..) (U1_at ..))))
    | false => exact ev_neg (by decide) (fin _ _ (U1_at ..) (U1_at ..))
theorem why_l0 (b w : Bool) (s : ByteArray) (hs : s.size ≤ 140737488351232) (p m : Nat) (hp : m = 0 ∨ p + m * PhN w ≤ s.size) (so n : Nat) (h : n = 0 ∨ so + n * ShN w ≤ s.size) : ∀ d i, i + d = n →
    Ev (fun k => g11Why.l0 k s b w (PhN w : Int) (ShN w : Int) (Wd w : Int) (p : Int) (so : Int) (n : Int) (m : Int) (i : Int)) (thn (secBad s.size (secs b w s.data.toList (so + i * ShN w) d)) (segBad s.size (segs b w s.data.toList p m))) := by
  have hT := ShN_pos w
  intro d
  induction d with
  | zero =>
    intro i hi
    refine Ev.step (fun k => g11Why.l0.eq_2 ..) (ev_neg (by omega) ?_)
    have := why_l1 b w s hs p m hp m 0 (by omega)
    rw [Nat.zero_mul, Nat.add_zero] at this
    exact this
  | succ d ih =>
    intro i hi
    have hm := mul_le' i n (ShN w) (by omega)
    have hb : so + n * ShN w ≤ s.size := by omega
    have hn : n ≤ n * ShN w := Nat.le_mul_of_pos_right n (by omega)
    have nxt_ := ih (i + 1) (by omega)
    rw [Nat.succ_mul, ← Nat.add_assoc] at nxt_
    refine Ev.step (fun k => g11Why.l0.eq_2 ..) (ev_pos (by omega) ?_)
    rw [at_eq so i (ShN w) (by omega), wrapu_id (n := (i : Int) + 1) (by omega) (by omega), show (i : Int) + 1 = ((i + 1 : Nat) : Int) by omega, secs_succ]
    have hA : so + i * ShN w + ShN w ≤ s.size := by omega
    generalize so + i * ShN w = A at *
    have f8 : Ev (fun k => g11Field.f k b (Wd w : Int) s (A : Int) 8) (shAt b w s.data.toList A).f8 := field_ev b w s A 8 (by omega) hA (by omega)
    have f1 : Ev (fun k => g11Field.f k b (Wd w : Int) s (A : Int) 1) (shAt b w s.data.toList A).f1 := field_ev b w s A 1 (by omega) hA (by omega)
    have f4 : Ev (fun k => g11Field.f k b (Wd w : Int) s (A : Int) 4) (shAt b w s.data.toList A).f4 := field_ev b w s A 4 (by omega) hA (by omega)
    have f5 : Ev (fun k => g11Field.f k b (Wd w : Int) s (A : Int) 5) (shAt b w s.data.toList A).f5 := field_ev b w s A 5 (by omega) hA (by omega)
    refine Ev.bind f8 (Ev.bind (a := pw (shAt b w s.data.toList A).f8) ?_ ?_)
    · have u : U1 (shAt b w s.data.toList A).f8 := U1_at ..
      obtain ⟨v, hv⟩ := Int.eq_ofNat_of_zero_le u.1
      rw [hv]
      exact power_ev v (by have := u.2; omega)
    unfold secBad
    by_cases c : pw (shAt b w s.data.toList A).f8 = true
    · rw [if_pos c]
      refine ev_pos c (Ev.bind f1 ?_)
      have u4 : U1 (shAt b w s.data.toList A).f4 := U1_at ..
      have u5 : U1 (shAt b w s.data.toList A).f5 := U1_at ..
      generalize (shAt b w s.data.toList A).f1 = kd at *
      by_cases d0 : kd = 0
      · subst d0
        exact ev_pos rfl nxt_
      · refine ev_neg d0 ?_
        by_cases d8 : kd = 8
        · subst d8
          exact ev_pos rfl nxt_
        · rw [if_pos (show (kd != 0 && kd != 8) = true by rw [bne_iff_ne.2 d0, bne_iff_ne.2 d8]; rfl)]
          refine ev_neg d8 (Ev.bind f4 (Ev.bind f5 (ev_const (there_eq s hs _ _ u4.1 u5.1) ?_)))
          by_cases e : (shAt b w s.data.toList A).f4 + (shAt b w s.data.toList A).f5 ≤ (s.size : Int)
          · rw [if_pos e]
            exact ev_pos (decide_eq_true e) nxt_
          · rw [if_neg e]
            exact ev_neg (by simpa using e) (ev_now rfl)
    · rw [if_neg c]
      exact ev_neg c (ev_now rfl)
def restE (b w : Bool) (s : ByteArray) (p : Int) (c : Int) (S : List S52) : Int := thn (segRes b w s p c).1 (thn (secBad s.size S) (segBad s.size (segRes b w s p c).2))
theorem why_j6 (b w : Bool) (s : ByteArray) (hs : s.size ≤ 140737488351232) (p c : Int) (hp : U1 p) (hc : U1 c) (so n : Nat) (h : n = 0 ∨ so + n * ShN w ≤ s.size) :
    Ev (fun k => g11Why.j6 k s b w (PhN w : Int) (ShN w : Int) (Wd w : Int) p (so : Int) (n : Int) c) (restE b w s p c (secs b w s.data.toList so n)) := by
  have hT := PhN_pos w
  obtain ⟨q, rfl⟩ := Int.eq_ofNat_of_zero_le hp.1
  obtain ⟨m, rfl⟩ := Int.eq_ofNat_of_zero_le hc.1
  have l0 : (m = 0 ∨ q + m * PhN w ≤ s.size) → Ev (fun k => g11Why.l0 k s b w (PhN w : Int) (ShN w : Int) (Wd w : Int) (q : Int) (so : Int) (n : Int) (m : Int) 0) (thn (secBad s.size (secs b w s.data.toList so n)) (segBad s.size (segs b w s.data.toList q m))) := fun hq => by
    have := why_l0 b w s hs q m hq so n h n 0 (by omega)
    rw [Nat.zero_mul, Nat.add_zero] at this
    exact this
  unfold restE segRes
  refine Ev.step (fun k => g11Why.j6.eq_2 ..) ?_
  have j7 : ∀ bad : Bool, bad = decide (256 < (m : Int) ∨ (0 < (m : Int) ∧ (q : Int) = 0)) → Ev (fun k => g11Why.j7 k s b w (PhN w : Int) (ShN w : Int) (Wd w : Int) (q : Int) (so : Int) (n : Int) (m : Int) bad) (thn (if 256 < (m : Int) ∨ (0 < (m : Int) ∧ (q : Int) = 0) then ((10 : Int), ([] : List S75)) else if (q : Int) + (m : Int) * (PhN w : Int) ≤ (s.size : Int) then (0, segs b w s.data.toList (q : Int).toNat (m : Int).toNat) else if 0 < (m : Int) then (9, []) else (0, [])).1 (thn (secBad s.size (secs b w s.data.toList so n)) (segBad s.size (if 256 < (m : Int) ∨ (0 < (m : Int) ∧ (q : Int) = 0) then ((10 : Int), ([] : List S75)) else if (q : Int) + (m : Int) * (PhN w : Int) ≤ (s.size : Int) then (0, segs b w s.data.toList (q : Int).toNat (m : Int).toNat) else if 0 < (m : Int) then (9, []) else (0, [])).2))) := by
    intro bad hb
    refine Ev.step (fun k => g11Why.j7.eq_2 ..) ?_
    by_cases g : 256 < (m : Int) ∨ (0 < (m : Int) ∧ (q : Int) = 0)
    · rw [if_pos g]
      exact ev_pos (by rw [hb]; exact decide_eq_true g) (ev_now rfl)
    · rw [if_neg g]
      refine ev_neg (by rw [hb, decide_eq_false g]; decide) ?_
      have hm : m ≤ 256 := by omega
      have hmp : m * PhN w ≤ 256 * 56 := Nat.mul_le_mul hm hT.2
      by_cases z : 0 < (m : Int)
      · refine ev_pos z ?_
        rw [← Int.natCast_mul, wrapu_id (n := ((m * PhN w : Nat) : Int)) (by omega) (by omega)]
        refine ev_const (there_eq s hs _ _ (by omega) (by omega)) ?_
        by_cases y : (q : Int) + ((m * PhN w : Nat) : Int) ≤ (s.size : Int)
        · rw [if_pos y, decide_eq_true y]
          exact Ev.step (fun k => g11Why.j8.eq_2 ..) (ev_neg (by decide) (l0 (.inr (by omega))))
        · rw [if_neg y, if_pos z, decide_eq_false y]
          exact Ev.step (fun k => g11Why.j8.eq_2 ..) (ev_pos rfl (ev_now rfl))
      · have m0 : m = 0 := by omega
        subst m0
        refine ev_neg z (Ev.step (fun k => g11Why.j8.eq_2 ..) (ev_neg (by decide) (ev_eq (l0 (.inl rfl)) ?_)))
        split <;> rfl
  by_cases g : 256 < (m : Int)
  · exact ev_pos g (j7 true (by symm; exact decide_eq_true (.inl g)))
  · refine ev_neg g ?_
    by_cases z : 0 < (m : Int)
    · refine ev_pos z (j7 _ ?_)
      by_cases y : (q : Int) = 0
      · rw [y]; symm; exact decide_eq_true (.inr ⟨z, rfl⟩)
      · rw [beq_eq_false_iff_ne.2 y]; symm; exact decide_eq_false (fun hh => hh.elim g (fun h2 => y h2.2))
    · exact ev_neg z (j7 false (by symm; exact decide_eq_false (fun hh => hh.elim g (fun h2 => z h2.1))))
theorem why_j4 (b w : Bool) (s : ByteArray) (hs : s.size ≤ 140737488351232) (p : Int) (hp : U1 p) (so n : Nat) (h : n = 0 ∨ so + n * ShN w ≤ s.size) (l0 l1 l2 l3 l4 l5 : Int) (h2 : U1 l2) :
    Ev (fun k => g11Why.j4 k s b w (PhN w : Int) (ShN w : Int) (Wd w : Int) p (so : Int) (n : Int) l0 l1 l2 l3 l4 l5) (restE b w s p (segCnt l2 (secs b w s.data.toList so n)) (secs b w s.data.toList so n)) := by
  have hT := ShN_pos w
  refine Ev.step (fun k => g11Why.j4.eq_2 ..) ?_
  cases n with
  | zero =>
    rw [show segCnt l2 (secs b w s.data.toList so 0) = l2 from rfl]
    have := why_j6 b w s hs p l2 hp h2 so 0 h
    by_cases y : l2 = 65535
    · exact ev_pos y (Ev.step (fun k => g11Why.j5.eq_2 ..) (ev_neg (by decide) this))
    · exact ev_neg y (Ev.step (fun k => g11Why.j5.eq_2 ..) (ev_neg (by decide) this))
  | succ n =>
    have hb : so + (n + 1) * ShN w ≤ s.size := by omega
    have hm : ShN w ≤ (n + 1) * ShN w := Nat.le_mul_of_pos_left _ (by omega)
    by_cases y : l2 = 65535
    · refine ev_pos y (Ev.step (fun k => g11Why.j5.eq_2 ..) (ev_pos (decide_eq_true (by omega)) ?_))
      have f7 : Ev (fun k => g11Field.f k b (Wd w : Int) s (so : Int) 7) (shAt b w s.data.toList so).f7 := field_ev b w s so 7 (by omega) (by omega) (by omega)
      refine Ev.bind f7 ?_
      rw [show segCnt l2 (secs b w s.data.toList so (n + 1)) = (shAt b w s.data.toList so).f7 by rw [secs_succ]; exact if_pos y]
      exact why_j6 b w s hs p _ hp (U1_at ..) so (n + 1) h
    · refine ev_neg y (Ev.step (fun k => g11Why.j5.eq_2 ..) (ev_neg (by decide) ?_))
      rw [show segCnt l2 (secs b w s.data.toList so (n + 1)) = l2 by rw [secs_succ]; exact if_neg y]
      exact why_j6 b w s hs p l2 hp h2 so (n + 1) h
def tabE (b w : Bool) (s : ByteArray) (p so l2 l4 l5 : Int) : Int := thn (secRes b w s so l4 l5).1 (restE b w s p (segCnt l2 (secRes b w s so l4 l5).2.1) (secRes b w s so l4 l5).2.1)
theorem why_j2 (b w : Bool) (s : ByteArray) (hs : s.size ≤ 140737488351232) (p : Int) (hp : U1 p) (so : Nat) (hso : so ≠ 0) (hin : so + ShN w ≤ s.size) (l0 l1 l2 l3 l4 l5 : Int) (h2 : U1 l2) (h4 : U1 l4) (h5 : U1 l5) (c : Int) (hc : c = if l4 = 0 then (shAt b w s.data.toList so).f5 else l4) :
    Ev (fun k => g11Why.j2 k s b w (PhN w : Int) (ShN w : Int) (Wd w : Int) p (so : Int) c l0 l1 l2 l3 l4 l5) (tabE b w s p (so : Int) l2 l4 l5) := by
  have hT := ShN_pos w
  have uc : U1 c := by
    rw [hc]
    split
    · exact U1_at ..
    · exact h4
  unfold tabE secRes
  rw [if_neg (show ¬ (so : Int) = 0 by omega), if_pos (show (so : Int) + (ShN w : Int) ≤ (s.size : Int) by omega), Int.toNat_natCast, ← hc]
  have f1 : Ev (fun k => g11Field.f k b (Wd w : Int) s (so : Int) 1) (shAt b w s.data.toList so).f1 := field_ev b w s so 1 (by omega) hin (by omega)
  have f6 : Ev (fun k => g11Field.f k b (Wd w : Int) s (so : Int) 6) (shAt b w s.data.toList so).f6 := field_ev b w s so 6 (by omega) hin (by omega)
  obtain ⟨m, rfl⟩ := Int.eq_ofNat_of_zero_le uc.1
  refine Ev.step (fun k => g11Why.j2.eq_2 ..) ?_
  by_cases z : (m : Int) = 0
  · rw [if_pos (show (m : Int) = 0 ∨ 4096 < (m : Int) from .inl z)]
    exact ev_pos z (Ev.step (fun k => g11Why.j3.eq_2 ..) (ev_pos rfl (ev_now rfl)))
  · refine ev_neg z (Ev.step (fun k => g11Why.j3.eq_2 ..) ?_)
    by_cases y : 4096 < (m : Int)
    · rw [if_pos (show (m : Int) = 0 ∨ 4096 < (m : Int) from .inr y)]
      exact ev_pos (decide_eq_true y) (ev_now rfl)
    · rw [if_neg (show ¬ ((m : Int) = 0 ∨ 4096 < (m : Int)) from fun hh => hh.elim z y)]
      refine ev_neg (by simpa using y) ?_
      have hmp : m * ShN w ≤ 4096 * 64 := Nat.mul_le_mul (by omega) hT.2
      rw [← Int.natCast_mul, wrapu_id (n := ((m * ShN w : Nat) : Int)) (by omega) (by omega)]
      refine ev_const (there_eq s hs _ _ (by omega) (by omega)) ?_
      by_cases g : (so : Int) + ((m * ShN w : Nat) : Int) ≤ (s.size : Int)
      · rw [if_pos g]
        refine ev_pos (decide_eq_true g) (Ev.bind f1 ?_)
        have j4 := why_j4 b w s hs p hp so m (.inr (by omega)) l0 l1 l2 l3 l4 l5 h2
        by_cases d : (shAt b w s.data.toList so).f1 = 0
        · rw [if_pos d]
          refine ev_pos d ?_
          by_cases n : l5 = 65535
          · rw [if_pos n]
            refine ev_pos n (Ev.bind f6 ?_)
            by_cases e : (m : Int) ≤ (shAt b w s.data.toList so).f6
            · rw [if_pos e]
              exact ev_pos e (ev_now rfl)
            · rw [if_neg e]
              exact ev_neg e j4
          · rw [if_neg n]
            refine ev_neg n ?_
            by_cases e : (m : Int) ≤ l5
            · rw [if_pos e]
              exact ev_pos e (ev_now rfl)
            · rw [if_neg e]
              exact ev_neg e j4
        · rw [if_neg d]
          exact ev_neg d (ev_now rfl)
      · rw [if_neg g]
        exact ev_neg (by simpa using g) (ev_now rfl)
theorem why_j1 (b w : Bool) (s : ByteArray) (hs : s.size ≤ 140737488351232) (p so : Int) (hp : U1 p) (ho : U1 so) (bad : Bool) (l0 l1 l2 l3 l4 l5 : Int) (h2 : U1 l2) (h4 : U1 l4) (h5 : U1 l5) :
    Ev (fun k => g11Why.j1 k s b w (PhN w : Int) (ShN w : Int) (Wd w : Int) p so bad l0 l1 l2 l3 l4 l5) (if bad = true then 8 else tabE b w s p so l2 l4 l5) := by
  have hT := ShN_pos w
  refine Ev.step (fun k => g11Why.j1.eq_2 ..) ?_
  cases bad with
  | true => exact ev_pos rfl (ev_now rfl)
  | false =>
    rw [if_neg (by decide)]
    refine ev_neg (by decide) ?_
    by_cases c : so = 0
    · subst c
      refine ev_pos rfl ?_
      unfold tabE secRes
      rw [if_pos (show (0 : Int) = 0 from rfl)]
      by_cases d : l4 = 0
      · refine ev_pos d ?_
        rw [if_pos d]
        by_cases e : l5 = 0
        · refine ev_pos e ?_
          rw [if_pos e]
          exact why_j4 b w s hs p hp 0 0 (.inl rfl) l0 l1 l2 l3 l4 l5 h2
        · refine ev_neg e (ev_now ?_)
          rw [if_neg e]
          rfl
      · refine ev_neg d (ev_now ?_)
        rw [if_neg d]
        rfl
    · refine ev_neg c ?_
      obtain ⟨o, rfl⟩ := Int.eq_ofNat_of_zero_le ho.1
      refine ev_const (there_eq s hs _ _ (by omega) (by omega)) ?_
      by_cases q : (o : Int) + (ShN w : Int) ≤ (s.size : Int)
      · refine ev_pos (decide_eq_true q) ?_
        by_cases d : l4 = 0
        · have f5 : Ev (fun k => g11Field.f k b (Wd w : Int) s (o : Int) 5) (shAt b w s.data.toList o).f5 := field_ev b w s o 5 (by omega) (by omega) (by omega)
          exact ev_pos d (Ev.bind f5 (why_j2 b w s hs p hp o (by omega) (by omega) l0 l1 l2 l3 l4 l5 h2 h4 h5 _ (by rw [if_pos d])))
        · exact ev_neg d (why_j2 b w s hs p hp o (by omega) (by omega) l0 l1 l2 l3 l4 l5 h2 h4 h5 _ (by rw [if_neg d]))
      · refine ev_neg (by simpa using q) (ev_now ?_)
        unfold tabE secRes
        rw [if_neg c, if_neg q]
        rfl
theorem head_ev (b w : Bool) (s : ByteArray) (h : EhN w ≤ s.size) (hs : s.size ≤ 140737488351300) (hb : (bt s 5 == 2) = b) (hw : (bt s 4 == 2) = w) :
    Ev (fun k => g11Head.f k s) ((Wd w : Int), ehN b w s.data.toList 4, ehN b w s.data.toList 5, ehN b w s.data.toList 7, ehN b w s.data.toList 8, ehN b w s.data.toList 9, ehN b w s.data.toList 10, ehN b w s.data.toList 11, ehN b w s.data.toList 12) := by
  have hE : 52 ≤ EhN w := by cases w <;> decide
  have nm : ∀ a n : Nat, 1 ≤ n → n ≤ 8 → a + n ≤ EhN w → Ev (fun k => g11Num.f k b s (a : Int) (n : Int)) (numAt b s.data.toList a n) := fun a n h1 h8 hh => num_ev b s a n h1 h8 (by omega) hs
  refine Ev.congr (fun k => g11Head.f.eq_1 ..) (ev_pos (by omega) ?_)
  rw [hb]
  cases w with
  | true =>
    refine ev_pos (by simpa using hw) (Ev.congr (fun k => g11Head.g8.eq_1 ..) ?_)
    exact Ev.bind (nm 52 2 (by omega) (by omega) (by decide)) (Ev.bind (nm 54 2 (by omega) (by omega) (by decide)) (Ev.bind (nm 56 2 (by omega) (by omega) (by decide)) (Ev.bind (nm 58 2 (by omega) (by omega) (by decide)) (Ev.bind (nm 60 2 (by omega) (by omega) (by decide)) (Ev.bind (nm 62 2 (by omega) (by omega) (by decide)) (Ev.bind (nm 32 8 (by omega) (by omega) (by decide)) (Ev.bind (nm 40 8 (by omega) (by omega) (by decide)) (ev_now rfl))))))))
  | false =>
    refine ev_neg (by simpa using hw) (Ev.congr (fun k => g11Head.g4.eq_1 ..) ?_)
    exact Ev.bind (nm 40 2 (by omega) (by omega) (by decide)) (Ev.bind (nm 42 2 (by omega) (by omega) (by decide)) (Ev.bind (nm 44 2 (by omega) (by omega) (by decide)) (Ev.bind (nm 46 2 (by omega) (by omega) (by decide)) (Ev.bind (nm 48 2 (by omega) (by omega) (by decide)) (Ev.bind (nm 50 2 (by omega) (by omega) (by decide)) (Ev.bind (nm 28 4 (by omega) (by omega) (by decide)) (Ev.bind (nm 32 4 (by omega) (by omega) (by decide)) (ev_now rfl))))))))
def fileE (b w : Bool) (s : ByteArray) : Int :=
  if s.size < EhN w then 3 else thn (chkOf w (ehN b w s.data.toList 2) (ehN b w s.data.toList 4) (ehN b w s.data.toList 5) (ehN b w s.data.toList 7) (ehN b w s.data.toList 8) (ehN b w s.data.toList 10))
    (tabE b w s (ehN b w s.data.toList 4) (ehN b w s.data.toList 5) (ehN b w s.data.toList 9) (ehN b w s.data.toList 11) (ehN b w s.data.toList 12))
theorem es_Eh (w : Bool) : esOf w = (EhN w : Int) := by cases w <;> rfl
theorem pe_Ph (w : Bool) : peOf w = (PhN w : Int) := by cases w <;> rfl
theorem se_Sh (w : Bool) : seOf w = (ShN w : Int) := by cases w <;> rfl
theorem bne_dec (x y : Int) : (x != y) = decide (x ≠ y) := by
  by_cases h : x = y <;> simp [h]
theorem why_j0 (b w : Bool) (s : ByteArray) (hs : s.size ≤ 140737488351232) (hb : (bt s 5 == 2) = b) (hw : (bt s 4 == 2) = w) :
    Ev (fun k => g11Why.j0 k s b w (EhN w : Int) (PhN w : Int) (ShN w : Int)) (fileE b w s) := by
  refine Ev.step (fun k => g11Why.j0.eq_2 ..) ?_
  unfold fileE
  rw [wrapu_id (n := (s.size : Int)) (by omega) (by omega)]
  by_cases c : s.size < EhN w
  · rw [if_pos c]
    exact ev_pos (by omega) (ev_now rfl)
  · rw [if_neg c]
    refine ev_neg (by omega) (Ev.bind (head_ev b w s (by omega) (by omega) hb hw) ?_)
    have hE : 52 ≤ EhN w := by cases w <;> decide
    have n2 : Ev (fun k => g11Num.f k b s 20 4) (ehN b w s.data.toList 2) := num_ev b s 20 4 (by omega) (by omega) (by omega) (by omega)
    refine Ev.bind n2 ?_
    unfold chkOf
    by_cases v : ehN b w s.data.toList 2 = 1
    · rw [if_pos v]
      refine ev_pos v ?_
      have j1 := fun bad => why_j1 b w s hs (ehN b w s.data.toList 4) (ehN b w s.data.toList 5) (U1_at ..) (U1_at ..) bad (ehN b w s.data.toList 7) (ehN b w s.data.toList 8) (ehN b w s.data.toList 9) (ehN b w s.data.toList 10) (ehN b w s.data.toList 11) (ehN b w s.data.toList 12) (U1_at ..) (U1_at ..) (U1_at ..)
      have fin : ∀ bad : Bool, bad = badOf w (ehN b w s.data.toList 4) (ehN b w s.data.toList 5) (ehN b w s.data.toList 7) (ehN b w s.data.toList 8) (ehN b w s.data.toList 10) →
          Ev (fun k => g11Why.j1 k s b w (PhN w : Int) (ShN w : Int) (Wd w : Int) (ehN b w s.data.toList 4) (ehN b w s.data.toList 5) bad (ehN b w s.data.toList 7) (ehN b w s.data.toList 8) (ehN b w s.data.toList 9) (ehN b w s.data.toList 10) (ehN b w s.data.toList 11) (ehN b w s.data.toList 12)) (thn (if badOf w (ehN b w s.data.toList 4) (ehN b w s.data.toList 5) (ehN b w s.data.toList 7) (ehN b w s.data.toList 8) (ehN b w s.data.toList 10) = true then 8 else 0) (tabE b w s (ehN b w s.data.toList 4) (ehN b w s.data.toList 5) (ehN b w s.data.toList 9) (ehN b w s.data.toList 11) (ehN b w s.data.toList 12))) := by
        intro bad e
        rw [← e]
        refine ev_eq (j1 bad) ?_
        cases bad <;> rfl
      revert fin
      unfold badOf
      rw [es_Eh, pe_Ph, se_Sh]
      generalize ehN b w s.data.toList 4 = o0
      generalize ehN b w s.data.toList 5 = o1
      generalize ehN b w s.data.toList 7 = x1
      generalize ehN b w s.data.toList 8 = x2
      generalize ehN b w s.data.toList 10 = x3
      intro fin
      by_cases e1 : x1 = (EhN w : Int)
      · refine ev_pos e1 ?_
        by_cases p0 : o0 = 0
        · refine ev_pos p0 ?_
          by_cases q0 : o1 = 0
          · exact ev_pos q0 (fin false (by simp [e1, p0, q0]))
          · exact ev_neg q0 (fin _ (by rw [bne_dec]; simp [e1, p0, q0]))
        · refine ev_neg p0 ?_
          by_cases e2 : x2 = (PhN w : Int)
          · refine ev_pos e2 ?_
            by_cases q0 : o1 = 0
            · exact ev_pos q0 (fin false (by simp [e1, e2, p0, q0]))
            · exact ev_neg q0 (fin _ (by rw [bne_dec]; simp [e1, e2, p0, q0]))
          · exact ev_neg e2 (fin true (by simp [e1, e2, p0]))
      · exact ev_neg e1 (fin true (by simp [e1]))
    · rw [if_neg v]
      exact ev_neg v (ev_now rfl)
def fileOk (b w : Bool) (a2 a3 : Int) (a4 : ByteArray) (s : ByteArray) : Bool × Bool × Int × Int × ByteArray × Int × Int × Int × Int × Int × Int × Int × Int × Int × Int × Int × Int × Int × (List S52) × (List S75) × Int × Int :=
  (b, w, a2, a3, a4, ehN b w s.data.toList 0, ehN b w s.data.toList 1, ehN b w s.data.toList 2, ehN b w s.data.toList 3, ehN b w s.data.toList 4, ehN b w s.data.toList 5, ehN b w s.data.toList 6, ehN b w s.data.toList 7, ehN b w s.data.toList 8, ehN b w s.data.toList 9, ehN b w s.data.toList 10, ehN b w s.data.toList 11, ehN b w s.data.toList 12,
    (secRes b w s (ehN b w s.data.toList 5) (ehN b w s.data.toList 11) (ehN b w s.data.toList 12)).2.1,
    (segRes b w s (ehN b w s.data.toList 4) (segCnt (ehN b w s.data.toList 9) (secRes b w s (ehN b w s.data.toList 5) (ehN b w s.data.toList 11) (ehN b w s.data.toList 12)).2.1)).2,
    (secRes b w s (ehN b w s.data.toList 5) (ehN b w s.data.toList 11) (ehN b w s.data.toList 12)).2.2, 0)
theorem secs_u (b w : Bool) (l : List UInt8) (a n : Nat) : ∀ x ∈ secs b w l a n, U1 x.f4 ∧ U1 x.f5 ∧ U1 x.f7 := by
  intro x hx
  unfold secs at hx
  obtain ⟨i, _, rfl⟩ := List.mem_map.1 hx
  exact ⟨U1_at .., U1_at .., U1_at ..⟩
theorem segs_u (b w : Bool) (l : List UInt8) (a n : Nat) : ∀ x ∈ segs b w l a n, U1 x.f2 ∧ U1 x.f5 := by
  intro x hx
  unfold segs at hx
  obtain ⟨i, _, rfl⟩ := List.mem_map.1 hx
  exact ⟨U1_at .., U1_at ..⟩
theorem secRes_is (b w : Bool) (s : ByteArray) (so sn sx : Int) : (secRes b w s so sn sx).2.1 = [] ∨ ∃ n : Nat, n ≤ 4096 ∧ (secRes b w s so sn sx).2.1 = secs b w s.data.toList so.toNat n := by
  unfold secRes
  by_cases c1 : so = 0
  · left
    rw [if_pos c1]
    repeat' split
    all_goals rfl
  rw [if_neg c1]
  by_cases c2 : so + (ShN w : Int) ≤ (s.size : Int)
  · rw [if_pos c2]
    generalize (if sn = 0 then (shAt b w s.data.toList so.toNat).f5 else sn) = c
    generalize (if sx = 65535 then (shAt b w s.data.toList so.toNat).f6 else sx) = nm
    by_cases c3 : c = 0 ∨ 4096 < c
    · rw [if_pos c3]; exact .inl rfl
    · rw [if_neg c3]
      by_cases c4 : so + c * (ShN w : Int) ≤ (s.size : Int)
      · rw [if_pos c4]
        by_cases c5 : (shAt b w s.data.toList so.toNat).f1 = 0
        · rw [if_pos c5]
          by_cases c6 : c ≤ nm
          · rw [if_pos c6]; exact .inl rfl
          · rw [if_neg c6]; exact .inr ⟨c.toNat, by omega, rfl⟩
        · rw [if_neg c5]; exact .inl rfl
      · rw [if_neg c4]; exact .inl rfl
  · rw [if_neg c2]; exact .inl rfl
theorem segRes_is (b w : Bool) (s : ByteArray) (p c : Int) : (segRes b w s p c).2 = [] ∨ ∃ n : Nat, n ≤ 256 ∧ (segRes b w s p c).2 = segs b w s.data.toList p.toNat n := by
  unfold segRes
  by_cases c1 : 256 < c ∨ (0 < c ∧ p = 0)
  · rw [if_pos c1]; exact .inl rfl
  · rw [if_neg c1]
    by_cases c2 : p + c * (PhN w : Int) ≤ (s.size : Int)
    · rw [if_pos c2]; exact .inr ⟨c.toNat, by omega, rfl⟩
    · rw [if_neg c2]
      left
      split <;> rfl
theorem parse_p1 (b w : Bool) (a2 a3 : Int) (a4 : ByteArray) (s : ByteArray) (hs : s.size ≤ 140737488351232) (h : EhN w ≤ s.size) :
    Ev (fun k => rwP.p1 k s (b, w, a2, a3, a4, 0) (ehN b w s.data.toList 0, ehN b w s.data.toList 1, ehN b w s.data.toList 2, ehN b w s.data.toList 3, ehN b w s.data.toList 4, ehN b w s.data.toList 5, ehN b w s.data.toList 6, ehN b w s.data.toList 7, ehN b w s.data.toList 8, ehN b w s.data.toList 9, ehN b w s.data.toList 10, ehN b w s.data.toList 11, ehN b w s.data.toList 12, true))
      (if fileE b w s = 0 then fileOk b w a2 a3 a4 s else rwP.bad (fileE b w s)) := by
  refine Ev.congr (fun k => rwP.p1.eq_1 ..) ?_
  unfold fileOk fileE
  rw [if_neg (show ¬ s.size < EhN w by omega)]
  have hu : ∀ i, U1 (ehN b w s.data.toList i) := fun i => U1_at ..
  refine Ev.bind (check_ev b w _ _ _ _ _ _ _ _ _ _ _ _ _) ?_
  generalize chkOf w (ehN b w s.data.toList 2) (ehN b w s.data.toList 4) (ehN b w s.data.toList 5) (ehN b w s.data.toList 7) (ehN b w s.data.toList 8) (ehN b w s.data.toList 10) = e
  by_cases c : e = 0
  · subst c
    refine ev_pos rfl (Ev.bind (sections_ev s hs b w a2 a3 a4 _ _ _ _ _ _ _ _ _ _ _ _ _ (hu 5) (hu 11) (hu 12)) ?_)
    rw [show ∀ r, thn 0 r = r from fun r => rfl]
    unfold tabE
    have hS := secRes_is b w s (ehN b w s.data.toList 5) (ehN b w s.data.toList 11) (ehN b w s.data.toList 12)
    generalize secRes b w s (ehN b w s.data.toList 5) (ehN b w s.data.toList 11) (ehN b w s.data.toList 12) = R at *
    obtain ⟨e1, S, nm⟩ := R
    simp only [] at hS ⊢
    have uS : ∀ x ∈ S, U1 x.f4 ∧ U1 x.f5 ∧ U1 x.f7 := by
      rcases hS with rfl | ⟨n, _, rfl⟩
      · intro x hx; simp at hx
      · exact secs_u _ _ _ _ _
    have lS : S.length ≤ 4096 := by
      rcases hS with rfl | ⟨n, hn, rfl⟩
      · simp
      · rw [secs_length]; exact hn
    by_cases c1 : e1 = 0
    · subst c1
      refine ev_pos rfl (Ev.congr (fun k => rwP.p2.eq_1 ..) (Ev.bind (segments_ev s hs b w a2 a3 a4 _ _ _ _ _ _ _ _ _ _ _ _ _ S nm (fun x hx => (uS x hx).2.2) (hu 4) (hu 9)) ?_))
      rw [show ∀ r, thn 0 r = r from fun r => rfl]
      unfold restE
      have hG := segRes_is b w s (ehN b w s.data.toList 4) (segCnt (ehN b w s.data.toList 9) S)
      generalize segRes b w s (ehN b w s.data.toList 4) (segCnt (ehN b w s.data.toList 9) S) = R at *
      obtain ⟨e2, G⟩ := R
      simp only [] at hG ⊢
      have uG : ∀ x ∈ G, U1 x.f2 ∧ U1 x.f5 := by
        rcases hG with rfl | ⟨n, _, rfl⟩
        · intro x hx; simp at hx
        · exact segs_u _ _ _ _ _
      have lG : G.length ≤ 256 := by
        rcases hG with rfl | ⟨n, hn, rfl⟩
        · simp
        · rw [segs_length]; exact hn
      by_cases c2 : e2 = 0
      · subst c2
        refine ev_pos rfl (Ev.congr (fun k => rwP.p3.eq_1 ..) (Ev.bind (bytes_ev s hs b w a2 a3 a4 _ _ _ _ _ _ _ _ _ _ _ _ _ S G nm (fun x hx => ⟨(uS x hx).1, (uS x hx).2.1⟩) uG (by omega) (by omega)) ?_))
        rw [show ∀ r, thn 0 r = r from fun r => rfl]
        generalize thn (secBad s.size S) (segBad s.size G) = e3
        by_cases c3 : e3 = 0
        · subst c3
          exact ev_pos rfl (ev_now rfl)
        · refine ev_neg c3 (ev_now ?_)
          rw [if_neg c3]
      · rw [show ∀ r, thn e2 r = e2 from fun r => if_neg c2, if_neg c2]
        exact ev_neg c2 (ev_now rfl)
    · rw [show ∀ r, thn e1 r = e1 from fun r => if_neg c1, if_neg c1]
      exact ev_neg c1 (ev_now rfl)
  · rw [show ∀ r, thn e r = e from fun r => if_neg c, if_neg c]
    exact ev_neg c (ev_now rfl)
theorem parse_why (s : ByteArray) (hs : s.size ≤ 140737488351232) : ∃ (e : Int) (f : Bool × Bool × Int × Int × ByteArray × Int × Int × Int × Int × Int × Int × Int × Int × Int × Int × Int × Int × Int × (List S52) × (List S75) × Int × Int),
    Ev (fun k => rwP.f k s) f ∧ Ev (fun k => g11Why.f k s) e ∧
    (e ≠ 0 → f = rwP.bad e) ∧ (e = 0 → ∃ (b w : Bool) (a2 a3 : Int) (a4 : ByteArray), f = fileOk b w a2 a3 a4 s ∧ (bt s 5 == 2) = b ∧ (bt s 4 == 2) = w ∧ EhN w ≤ s.size ∧ s.size ≤ 1048576 ∧ fileE b w s = 0) := by
  by_cases c : 1048576 < (s.size : Int)
  · exact ⟨2, rwP.bad 2, Ev.congr (fun k => rwP.f.eq_1 ..) (ev_pos c (ev_now rfl)), Ev.congr (fun k => g11Why.f.eq_1 ..) (ev_pos c (ev_now rfl)), fun _ => rfl, fun h => absurd h (by decide)⟩
  by_cases c2 : s.size < 16
  · refine ⟨3, rwP.bad 3, Ev.congr (fun k => rwP.f.eq_1 ..) (ev_neg c (ev_const (read_short s c2) (ev_neg (by decide) (ev_now rfl)))), Ev.congr (fun k => g11Why.f.eq_1 ..) (ev_neg c (Ev.bind (a := 3) (Ev.congr (fun k => g04Why.f.eq_1 ..) (ev_pos (by omega) (ev_now rfl))) (ev_neg (by decide) (ev_now rfl)))), fun _ => rfl, fun h => absurd h (by decide)⟩
  obtain ⟨x0, x1, x2, x3, x4, x5, x6, x7, x8, rest, hl, hr⟩ := nine s.data.toList (by rw [data_length]; omega)
  have hwhy := why_ev s x0 x1 x2 x3 x4 x5 x6 x7 x8 rest hl hr
  have hread := read_is s x0 x1 x2 x3 x4 x5 x6 x7 x8 rest hl hr
  have b4 : bt s 4 = (x4.toNat : Int) := bt_at9 hl 4 (by simp)
  have b5 : bt s 5 = (x5.toNat : Int) := bt_at9 hl 5 (by simp)
  by_cases c3 : whyV x4 x5 x6 [x0, x1, x2, x3] = 0
  · have hw : x4 = 1 ∨ x4 = 2 := by
      unfold whyV at c3
      by_cases d1 : [x0, x1, x2, x3] = magicL
      · rw [if_pos d1] at c3
        by_cases d2 : x4 = 1 ∨ x4 = 2
        · exact d2
        · rw [if_neg d2] at c3; exact absurd c3 (by decide)
      · rw [if_neg d1] at c3; exact absurd c3 (by decide)
    have e5 : (bt s 5 == 2) = (x5 == 2) := by
      rw [b5]
      by_cases d : x5 = 2
      · rw [d]; rfl
      · rw [beq_eq_false_iff_ne.2 d]
        exact beq_eq_false_iff_ne.2 (fun hh => d ((byte_2 x5).1 hh))
    have e4 : (bt s 4 == 2) = (x4 == 2) := by
      rw [b4]
      by_cases d : x4 = 2
      · rw [d]; rfl
      · rw [beq_eq_false_iff_ne.2 d]
        exact beq_eq_false_iff_ne.2 (fun hh => d ((byte_2 x4).1 hh))
    have hrv : ∃ a2 a3 a4, readV x4 x5 x6 x7 x8 [x0, x1, x2, x3] rest = (x5 == 2, x4 == 2, a2, a3, a4, 0) := by
      revert c3
      unfold whyV readV
      repeat' split
      all_goals first | (intro h; exact absurd h (by decide)) | (intro _; exact ⟨_, _, _, rfl⟩)
    obtain ⟨a2, a3, a4, hrv⟩ := hrv
    rw [hrv] at hread
    have wj : Ev (fun k => g11Why.f k s) (fileE (x5 == 2) (x4 == 2) s) := by
      refine Ev.congr (fun k => g11Why.f.eq_1 ..) (ev_neg c (Ev.bind hwhy (ev_pos c3 (ev_pos (by omega) (ev_pos (by omega) ?_)))))
      rw [e5, e4]
      have j0 := why_j0 (x5 == 2) (x4 == 2) s hs e5 e4
      by_cases d : x4 = 2
      · refine ev_pos (by rw [b4, d]; rfl) ?_
        rw [d] at j0 ⊢
        exact j0
      · refine ev_neg (by rw [b4]; exact fun hh => d ((byte_2 x4).1 hh)) ?_
        rw [beq_eq_false_iff_ne.2 d] at j0 ⊢
        exact j0
    have pj : Ev (fun k => rwP.f k s) (if fileE (x5 == 2) (x4 == 2) s = 0 then fileOk (x5 == 2) (x4 == 2) a2 a3 a4 s else rwP.bad (fileE (x5 == 2) (x4 == 2) s)) := by
      refine Ev.congr (fun k => rwP.f.eq_1 ..) (ev_neg c (ev_const hread (ev_pos rfl (ev_pos (by omega) ?_))))
      by_cases d : s.size < EhN (x4 == 2)
      · have e : fileE (x5 == 2) (x4 == 2) s = 3 := if_pos d
        rw [e]
        exact Ev.bind (eh_short (x5 == 2) (x4 == 2) s d (by omega)) (ev_neg (by decide) (ev_now rfl))
      · exact Ev.bind (eh_read (x5 == 2) (x4 == 2) s (by omega) (by omega)) (ev_pos rfl (parse_p1 _ _ a2 a3 a4 s hs (by omega)))
    refine ⟨_, _, pj, wj, fun h => if_neg h, fun h => ⟨_, _, a2, a3, a4, if_pos h, e5, e4, ?_, by omega, h⟩⟩
    by_cases d : s.size < EhN (x4 == 2)
    · have e : fileE (x5 == 2) (x4 == 2) s = 3 := if_pos d
      rw [e] at h
      exact absurd h (by decide)
    · omega
  · have hrv : readV x4 x5 x6 x7 x8 [x0, x1, x2, x3] rest = (false, false, 0, 0, ⟨#[]⟩, whyV x4 x5 x6 [x0, x1, x2, x3]) := by
      revert c3
      unfold whyV readV
      repeat' split
      all_goals first | (intro h; exact absurd rfl h) | (intro _; rfl)
    rw [hrv] at hread
    exact ⟨_, _, Ev.congr (fun k => rwP.f.eq_1 ..) (ev_neg c (ev_const hread (ev_neg c3 (ev_now rfl)))), Ev.congr (fun k => g11Why.f.eq_1 ..) (ev_neg c (Ev.bind hwhy (ev_neg c3 (ev_now rfl)))), fun _ => rfl, fun h => absurd h c3⟩
end Go.Proofs.YtceilmhinkkgfaaDoor.Q
end
