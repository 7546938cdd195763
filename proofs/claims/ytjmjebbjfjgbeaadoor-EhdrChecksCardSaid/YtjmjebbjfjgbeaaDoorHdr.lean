/- Records of numbers: numbers read one behind the other, and put again: plain facts; no Go, no memory. -/
import Derived.Test.YtjmjebbjfjgbeaaDoorRdr

namespace Go.Proofs.YtjmjebbjfjgbeaaDoor.Q
open Go.RowKit Go.Proofs.YtjmjebbjfjgbeaaDoorW.PrintWords Go.Proofs.YtjmjebbjfjgbeaaDoorW.PrintMore Go.Proofs.YtjmjebbjfjgbeaaDoor.Mth
set_option linter.unusedVariables false
set_option linter.unusedSimpArgs false

/-- Numbers of so many bytes each, one behind the other. -/
def nums (big : Bool) : List Int → List UInt8 → List Int
  | [], _ => []
  | n :: A, l => getL big (l.take n.toNat) :: nums big A (l.drop n.toNat)
theorem nums_length (big : Bool) : ∀ (A : List Int) (l : List UInt8), (nums big A l).length = A.length
  | [], _ => rfl
  | n :: A, l => by rw [nums, List.length_cons, List.length_cons, nums_length big A]
theorem nums_u64 (big : Bool) : ∀ (A : List Int) (l : List UInt8), U64 (nums big A l)
  | [], _ => by intro x hx; simp [nums] at hx
  | n :: A, l => by
    intro x hx
    rw [nums] at hx
    rcases List.mem_cons.1 hx with rfl | hx
    · exact getL_range big _
    · exact nums_u64 big A _ x hx
def In8 (A : List Int) : Prop := ∀ n ∈ A, 1 ≤ n ∧ n ≤ 8
theorem In8.sum_ge {A : List Int} (h : In8 A) : 0 ≤ A.sum := by
  induction A with
  | nil => simp
  | cons n A ih =>
    have := h n (by simp)
    have := ih (fun x hx => h x (by simp [hx]))
    rw [List.sum_cons]
    omega
theorem nums_flat (big : Bool) : ∀ (A L : List Int) (more : List UInt8), In8 A → U64 L → A.length = L.length → allF A L = true → nums big A (flat big A L ++ more) = L
  | [], L, _, _, _, h, _ => by
    have : L = [] := List.eq_nil_of_length_eq_zero (by simpa using h.symm)
    rw [this]; rfl
  | n :: A, [], _, _, _, h, _ => by simp at h
  | n :: A, x :: L, more, h8, hu, h, ha => by
    have e4 : allF (n :: A) (x :: L) = (okF x n && allF A L) := by simp [allF]
    rw [e4, Bool.and_eq_true] at ha
    have e5 : flat big (n :: A) (x :: L) = putL big x n ++ flat big A L := by simp [flat]
    have hn := h8 n (by simp)
    have hx := hu x (by simp)
    have hlen := putL_length big x n
    rw [if_pos hn] at hlen
    have hfit : x < 256 ^ n.toNat := by
      have := ha.1
      unfold okF at this
      simp only [Bool.and_eq_true, decide_eq_true_iff] at this
      exact this.2
    rw [e5, nums, List.append_assoc, ← hlen, List.take_left, List.drop_left, getL_putL_fit big x n hn.1 hn.2 hx.1 hfit]
    rw [nums_flat big A L more (fun y hy => h8 y (by simp [hy])) (fun y hy => hu y (by simp [hy])) (by simpa using h) ha.2]
theorem flat_nums (big : Bool) : ∀ (A : List Int) (l : List UInt8), In8 A → A.sum ≤ (l.length : Int) → allF A (nums big A l) = true ∧ flat big A (nums big A l) = l.take A.sum.toNat
  | [], l, _, _ => ⟨rfl, by simp [flat, nums]⟩
  | n :: A, l, h8, h => by
    have hn := h8 n (by simp)
    have h8' : In8 A := fun y hy => h8 y (by simp [hy])
    have hs := h8'.sum_ge
    rw [List.sum_cons] at h ⊢
    have hlen : (l.take n.toNat).length = n.toNat := by rw [List.length_take]; omega
    have ih := flat_nums big A (l.drop n.toNat) h8' (by rw [List.length_drop]; omega)
    have hp : putL big (getL big (l.take n.toNat)) n = l.take n.toNat := by
      have := putL_getL big (l.take n.toNat) (by omega) (by omega)
      rw [hlen] at this
      rwa [Int.toNat_of_nonneg (by omega)] at this
    constructor
    · have e4 : allF (n :: A) (nums big (n :: A) l) = (okF (getL big (l.take n.toNat)) n && allF A (nums big A (l.drop n.toNat))) := by simp [allF, nums]
      rw [e4, ih.1, Bool.and_true]
      have := getL_lt big (l.take n.toNat) (by omega)
      rw [hlen] at this
      unfold okF
      simp only [Bool.and_eq_true, decide_eq_true_iff]
      exact ⟨hn, this⟩
    · have e5 : flat big (n :: A) (nums big (n :: A) l) = putL big (getL big (l.take n.toNat)) n ++ flat big A (nums big A (l.drop n.toNat)) := by simp [flat, nums]
      rw [e5, hp, ih.2, show (n + A.sum).toNat = n.toNat + A.sum.toNat by omega, List.take_add]
theorem fold_app (s : ByteArray) (n : Nat) : (s.extract 0 n).data.toList = s.data.toList.take n := by
  rw [extract_data]
  simp

end Go.Proofs.YtjmjebbjfjgbeaaDoor.Q
