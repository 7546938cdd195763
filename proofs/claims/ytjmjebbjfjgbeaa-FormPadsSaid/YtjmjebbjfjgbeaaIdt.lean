/- What a file's first bytes tell, and their bytes again: plain facts on the printed functions; no Go, no memory. -/
import Derived.Test.YtjmjebbjfjgbeaaFrm
import Derived.Lib.Repeat
import Derived.Test.YtjmjebbjfjgbeaaQ14
import Derived.Test.YtjmjebbjfjgbeaaQ15
import Derived.Test.YtjmjebbjfjgbeaaQ16
import Derived.Test.YtjmjebbjfjgbeaaQ17
namespace Go.Proofs.Ytjmjebbjfjgbeaa.Q
open Go.RowKit Go.Proofs.YtjmjebbjfjgbeaaW.PrintWords Go.Proofs.YtjmjebbjfjgbeaaW.PrintMore Go.Proofs.Ytjmjebbjfjgbeaa.Mth
set_option linter.unusedVariables false
set_option linter.unusedSimpArgs false

def magicL : List UInt8 := [127, 69, 76, 70]
theorem bt_at9 {s : ByteArray} {l : List UInt8} (h : s.data.toList = l) (i : Nat) (hi : i < l.length) : bt s (i : Int) = ((l[i]'hi).toNat : Int) := by
  subst h
  exact bt_eq s i hi
theorem prefix_is (s : ByteArray) (h : 4 ≤ s.size) : strings_HasPrefix.f s ⟨#[127, 69, 76, 70]⟩ = some (s.data.toList.take 4 == magicL) := by
  unfold strings_HasPrefix.f stringslite_HasPrefix.f
  have e : ((⟨#[127, 69, 76, 70]⟩ : ByteArray).size : Int) = 4 := rfl
  rw [e, if_pos (show (s.size : Int) ≥ 4 by omega), if_pos (by decide), if_pos (by omega), toList_data, extract_data, toList_data, Option.bind_some]
  rfl
/-- The program's answer for first bytes that are there. -/
def readV (x4 x5 x6 x7 x8 : UInt8) (m : List UInt8) (rest : List UInt8) : Bool × Bool × Int × Int × ByteArray × Int :=
  if m = magicL then (if x4 = 1 ∨ x4 = 2 then (if x5 = 1 ∨ x5 = 2 then (if x6 = 1 then (x5 == 2, x4 == 2, (x7.toNat : Int), (x8.toNat : Int), ⟨(rest.take 7).toArray⟩, 0) else (false, false, 0, 0, ⟨#[]⟩, 7)) else (false, false, 0, 0, ⟨#[]⟩, 6)) else (false, false, 0, 0, ⟨#[]⟩, 5)) else (false, false, 0, 0, ⟨#[]⟩, 4)
theorem byte_eq (x : UInt8) (n : Nat) (hn : n < 256) : (((x.toNat : Nat) : Int) = (n : Int)) ↔ x = UInt8.ofNat n := by
  constructor
  · intro h
    have : x.toNat = n := by omega
    rw [← this]
    simp
  · intro h
    rw [h]
    simp
    omega
theorem byte_1 (x : UInt8) : (((x.toNat : Nat) : Int) = 1) ↔ x = 1 := byte_eq x 1 (by omega)
theorem byte_2 (x : UInt8) : (((x.toNat : Nat) : Int) = 2) ↔ x = 2 := byte_eq x 2 (by omega)
theorem one_is (x : UInt8) : class_one.f (x.toNat : Int) = some (x == 2, decide (x = 1 ∨ x = 2)) := by
  have h1 := byte_1 x
  have h2 := byte_2 x
  have e2 : (((x.toNat : Nat) : Int) == 2) = (x == 2) := by
    rw [Bool.eq_iff_iff, beq_iff_eq, beq_iff_eq]
    exact h2
  unfold class_one.f
  rw [e2]
  by_cases c : x = 1
  · rw [if_pos (h1.2 c), decide_eq_true (Or.inl c)]
  · rw [if_neg (fun h => c (h1.1 h))]
    congr 2
    rw [Bool.eq_iff_iff, beq_iff_eq, decide_eq_true_iff]
    constructor
    · intro h; exact .inr h
    · rintro (h | h)
      · exact absurd h c
      · exact h
theorem read_is (s : ByteArray) (x0 x1 x2 x3 x4 x5 x6 x7 x8 : UInt8) (rest : List UInt8) (h : s.data.toList = x0 :: x1 :: x2 :: x3 :: x4 :: x5 :: x6 :: x7 :: x8 :: rest) (hr : 7 ≤ rest.length) :
    class_Read.f s = some (readV x4 x5 x6 x7 x8 [x0, x1, x2, x3] rest) := by
  have hl : s.data.toList.length = s.size := data_length s
  have hsz : 16 ≤ s.size := by rw [← hl, h]; simp; omega
  have b4 : bt s 4 = (x4.toNat : Int) := bt_at9 h 4 (by simp)
  have b5 : bt s 5 = (x5.toNat : Int) := bt_at9 h 5 (by simp)
  have b6 : bt s 6 = (x6.toNat : Int) := bt_at9 h 6 (by simp)
  have b7 : bt s 7 = (x7.toNat : Int) := bt_at9 h 7 (by simp)
  have b8 : bt s 8 = (x8.toNat : Int) := bt_at9 h 8 (by simp)
  have ht : s.data.toList.take 4 = [x0, x1, x2, x3] := by rw [h]; rfl
  have he : s.extract 9 16 = ⟨(rest.take 7).toArray⟩ := by
    apply ba_ext
    rw [extract_data, h]
    rfl
  unfold class_Read.f readV
  rw [if_neg (by omega), if_pos (by omega), b4, bnd (one_is x4), if_pos (by omega), b5, bnd (one_is x5), bnd (prefix_is s (by omega)), ht, b6, b7, b8, he]
  by_cases c0 : [x0, x1, x2, x3] = magicL
  · rw [if_pos (by simpa using c0), if_pos c0]
    by_cases c4 : x4 = 1 ∨ x4 = 2
    · rw [if_pos (by simpa using c4), if_pos c4]
      by_cases c5 : x5 = 1 ∨ x5 = 2
      · rw [if_pos (by simpa using c5), if_pos c5, if_pos (by omega)]
        by_cases c6 : x6 = 1
        · rw [if_pos ((byte_1 x6).2 c6), if_pos c6, if_pos (by omega), if_pos (by omega), if_pos (by omega), if_pos (by omega)]
        · rw [if_neg (fun hh => c6 ((byte_1 x6).1 hh)), if_neg c6]
      · rw [if_neg (by simpa using c5), if_neg c5]
    · rw [if_neg (by simpa using c4), if_neg c4]
  · rw [if_neg (by simpa using c0), if_neg c0]
theorem read_short (s : ByteArray) (h : s.size < 16) : class_Read.f s = some (false, false, 0, 0, ⟨#[]⟩, 3) := by
  unfold class_Read.f
  rw [if_pos (by omega)]
theorem nine (l : List UInt8) (h : 16 ≤ l.length) : ∃ x0 x1 x2 x3 x4 x5 x6 x7 x8 rest, l = x0 :: x1 :: x2 :: x3 :: x4 :: x5 :: x6 :: x7 :: x8 :: rest ∧ 7 ≤ rest.length := by
  match l, h with
  | x0 :: x1 :: x2 :: x3 :: x4 :: x5 :: x6 :: x7 :: x8 :: rest, h => exact ⟨x0, x1, x2, x3, x4, x5, x6, x7, x8, rest, rfl, by simp at h; omega⟩
def twoB (b : Bool) : UInt8 := if b = true then 2 else 1
theorem two_is (b : Bool) : class_two.f b = some ((twoB b).toNat : Int) := by cases b <;> rfl
theorem rep_zero : ∀ n, Lib.repeatL [0] n = List.replicate n 0
  | 0 => rfl
  | n + 1 => by rw [Lib.repeatL, rep_zero n]; rfl
/-- An ident's bytes. -/
def identL (big wide : Bool) (abi ver : UInt8) (pad : List UInt8) : List UInt8 :=
  magicL ++ ([twoB wide, twoB big, 1, abi, ver] ++ (pad.take 7 ++ List.replicate (7 - (pad.take 7).length) 0))
theorem ident_is (big wide : Bool) (abi ver : UInt8) (pad : ByteArray) (hp : pad.size ≤ 140737488351232) : class_Ident_Bytes.f big wide (abi.toNat : Int) (ver.toNat : Int) pad = some ⟨(identL big wide abi ver pad.data.toList).toArray⟩ := by
  have hcut : (pad.extract 0 ((mn (pad.size : Int) 7) : Int).toNat).data.toList = pad.data.toList.take 7 := by
    rw [extract_data, mn_eq, List.drop_zero, Nat.sub_zero]
    have hl : pad.data.toList.length = pad.size := data_length pad
    by_cases h : pad.size ≤ 7
    · rw [List.take_of_length_le (by omega), List.take_of_length_le (by omega)]
    · congr 1
      omega
  unfold class_Ident_Bytes.f
  rw [if_pos (by rw [mn_eq]; omega), if_pos (by rw [mn_eq]; omega), bnd (two_is wide), bnd (two_is big), Option.bind_some]
  generalize pad.extract 0 ((mn (pad.size : Int) 7) : Int).toNat = c at *
  have hcl : c.size ≤ 7 := by rw [ba_size, hcut, List.length_take]; omega
  have hcl2 : c.size = (pad.data.toList.take 7).length := by rw [ba_size, hcut]
  have hstr : (strOfNums [((twoB wide).toNat : Int), ((twoB big).toNat : Int), 1, (abi.toNat : Int), (ver.toNat : Int)]) = ⟨[twoB wide, twoB big, 1, abi, ver].toArray⟩ := by
    simp [strOfNums]
  rw [hstr]
  have z1 : (⟨[twoB wide, twoB big, 1, abi, ver].toArray⟩ : ByteArray).size = 5 := rfl
  have z2 : (⟨#[127, 69, 76, 70]⟩ : ByteArray).size = 4 := rfl
  have hrep : strings_Repeat.f (⟨#[0]⟩ : ByteArray) (wrap64 (7 - (c.size : Int))) = some ⟨(List.replicate (7 - c.size) 0).toArray⟩ := by
    have hw : wrap64 (7 - (c.size : Int)) = ((7 - c.size : Nat) : Int) := by rw [wrap64_id (by omega) (by omega)]; omega
    have z0 : (⟨#[0]⟩ : ByteArray).size = 1 := rfl
    unfold strings_Repeat.f
    rw [hw, if_pos (by omega), if_pos (by omega), Int.toNat_natCast, z0, if_pos (by omega)]
    show some (⟨(Lib.repeatL [0] (7 - c.size)).toArray⟩ : ByteArray) = _
    rw [rep_zero]
  have z3 : (⟨(List.replicate (7 - c.size) 0).toArray⟩ : ByteArray).size = 7 - c.size := by rw [ba_size, mk_list, List.length_replicate]
  rw [z1, if_pos (by omega), if_pos (by rw [ByteArray.size_append, z1, z2]; omega), bnd hrep, if_pos (by rw [ByteArray.size_append, ByteArray.size_append, z1, z2, z3]; omega)]
  congr 1
  apply ba_ext
  rw [append_data, append_data, append_data, mk_list, mk_list, mk_list, hcut, hcl2]
  unfold identL
  simp [magicL]
theorem speaks04 : Ev (fun k => graverlaw04_speaks.f k) true := by
  have h := read_is ⟨#[127, 69, 76, 70, 2, 1, 1, 3, 0, 97, 98, 99, 100, 101, 102, 103, 32, 109, 111, 114, 101]⟩ _ _ _ _ _ _ _ _ _ _ rfl (by decide)
  refine Ev.congr (fun k => graverlaw04_speaks.f.eq_1 k) ?_
  refine ev_const h (ev_pos (by decide) (ev_pos (by decide) (ev_neg (by decide) (ev_pos (by decide) (ev_pos (by rw [toList_data]; decide) ?_)))))
  refine ev_const (word_is _ _) (ev_pos (by decide) ?_)
  exact Ev.bind (put_ev _ 1 2 (by decide)) (ev_now (by rw [toList_data]; decide))
end Go.Proofs.Ytjmjebbjfjgbeaa.Q
