/- Any kind's word, any flags' letters; two numbers never have the same: for every input; no condition but the tables. -/
import Derived.Test.YteoeohkjomehoaaDoorWds
import Derived.Test.YteoeohkjomehoaaDoorQ6
import Derived.Test.YteoeohkjomehoaaDoorQ7
import Derived.Test.YteoeohkjomehoaaDoorQ8
import Derived.Test.YteoeohkjomehoaaDoorQ9
namespace Go.Proofs.YteoeohkjomehoaaDoor.Pure
open Go.RowKit Go.Proofs.YteoeohkjomehoaaDoor.Q Go.Proofs.YteoeohkjomehoaaDoorW.PrintWords Go.Proofs.YteoeohkjomehoaaDoorW.PrintLast Go.Proofs.YteoeohkjomehoaaDoorW.PrintMore Go.Proofs.YteoeohkjomehoaaDoor.Mth
set_option linter.unusedVariables false
set_option linter.unusedSimpArgs false

theorem speaks06 : Ev (fun k => graverlaw06_speaks.f k) true := Ev.of graverlaw06_speaks.mono (k := 40) (by decide +kernel)
/-! ### kinds' words -/
def hexW (u : Nat) : List UInt8 := 48 :: 120 :: Fmt.hexDigits u
theorem hexW_inj (a b : Nat) (h : hexW a = hexW b) : a = b := Fmt.hex_inj a b (List.cons.inj (List.cons.inj h).2).2
theorem hex_size (u : Nat) (h : u < 18446744073709551616) : (Fmt.hexDigits u).length ≤ 16 := Fmt.hex_length 15 u (by simpa using h)
theorem hex_eq {a : Int} (h0 : 0 ≤ a) (h1 : a < 18446744073709551616) : shdr_hex.f a = some ⟨(hexW a.toNat).toArray⟩ := by
  unfold shdr_hex.f strconv_FormatUint.f
  rw [if_pos ⟨h0, h1, Or.inr rfl⟩]
  have hs : (⟨(Fmt.fmtOf a 16).toArray⟩ : ByteArray).size = (Fmt.hexDigits a.toNat).length := rfl
  have hl := hex_size a.toNat (by omega)
  show (if 2 + (⟨(Fmt.fmtOf a 16).toArray⟩ : ByteArray).size ≤ 9223372036854775807 then _ else _) = _
  rw [if_pos (by rw [hs]; omega)]
  congr 1
/-- The law's own list of words. -/
def wds : List ByteArray := [(⟨#[78, 85, 76, 76]⟩ : ByteArray), (⟨#[80, 82, 79, 71, 66, 73, 84, 83]⟩ : ByteArray), (⟨#[83, 89, 77, 84, 65, 66]⟩ : ByteArray), (⟨#[83, 84, 82, 84, 65, 66]⟩ : ByteArray), (⟨#[82, 69, 76, 65]⟩ : ByteArray), (⟨#[72, 65, 83, 72]⟩ : ByteArray), (⟨#[68, 89, 78, 65, 77, 73, 67]⟩ : ByteArray), (⟨#[78, 79, 84, 69]⟩ : ByteArray), (⟨#[78, 79, 66, 73, 84, 83]⟩ : ByteArray), (⟨#[82, 69, 76]⟩ : ByteArray), (⟨#[83, 72, 76, 73, 66]⟩ : ByteArray), (⟨#[68, 89, 78, 83, 89, 77]⟩ : ByteArray), (⟨#[48, 120, 99]⟩ : ByteArray), (⟨#[48, 120, 100]⟩ : ByteArray), (⟨#[73, 78, 73, 84, 95, 65, 82, 82, 65, 89]⟩ : ByteArray), (⟨#[70, 73, 78, 73, 95, 65, 82, 82, 65, 89]⟩ : ByteArray), (⟨#[80, 82, 69, 73, 78, 73, 84, 95, 65, 82, 82, 65, 89]⟩ : ByteArray), (⟨#[71, 82, 79, 85, 80]⟩ : ByteArray), (⟨#[83, 89, 77, 84, 65, 66, 95, 83, 72, 78, 68, 88]⟩ : ByteArray)]
abbrev tn := nm wds hexW
theorem hexW12 : hexW 12 = [48, 120, 99] := by unfold hexW; rw [Fmt.hex_small (by decide)]; decide
theorem hexW13 : hexW 13 = [48, 120, 100] := by unfold hexW; rw [Fmt.hex_small (by decide)]; decide
theorem names : Names wds hexW where
  inj := hexW_inj
  no := fun i hi x hx h => by
    have h1 : ∀ i, i < 19 → i ≠ 12 → i ≠ 13 → (wds.getD i ByteArray.empty).data.toList.head? ≠ some 48 := by decide
    have hi' : i < 19 := hi
    have hx' : 19 ≤ x := hx
    by_cases e1 : i = 12
    · subst e1
      have h2 : (wds.getD 12 ByteArray.empty).data.toList = hexW 12 := by rw [hexW12]; decide
      have := hexW_inj _ _ (h2.symm.trans h)
      omega
    · by_cases e2 : i = 13
      · subst e2
        have h2 : (wds.getD 13 ByteArray.empty).data.toList = hexW 13 := by rw [hexW13]; decide
        have := hexW_inj _ _ (h2.symm.trans h)
        omega
      · exact h1 i hi' e1 e2 (by rw [h]; rfl)
  one := by have h : ∀ i, i < 19 → ∀ j, j < 19 → (wds.getD i ByteArray.empty).data.toList = (wds.getD j ByteArray.empty).data.toList → i = j := by decide
            exact fun i j hi hj => h i hi j hj
theorem type_eq {a : Int} (h0 : 0 ≤ a) (h1 : a < 18446744073709551616) : shdr_TypeName.f a = some ⟨(tn a).toArray⟩ := by
  unfold shdr_TypeName.f
  by_cases c : a < 19
  · rw [if_pos c, if_pos h0]
    obtain ⟨i, rfl⟩ := Int.eq_ofNat_of_zero_le h0
    have hi : i < 19 := by omega
    have t1 : ∀ i, i < 19 → i ≠ 12 → i ≠ 13 → (tabS_shdr_names.getD i ByteArray.empty).data.toList ≠ [] ∧ (wds.getD i ByteArray.empty).data.toList = (tabS_shdr_names.getD i ByteArray.empty).data.toList := by decide
    have ew : nm wds hexW (i : Int) = (wds.getD i ByteArray.empty).data.toList := nm_in (by show (i : Int) < ((19 : Nat) : Int); omega)
    show (if (tabS_shdr_names.getD i ByteArray.empty).data.toList = [] then shdr_hex.f (i : Int) else some (tabS_shdr_names.getD i ByteArray.empty)) = some ⟨(nm wds hexW (i : Int)).toArray⟩
    rw [ew]
    by_cases e1 : i = 12
    · subst e1
      rw [if_pos (by decide), hex_eq h0 h1]
      show some (⟨(hexW 12).toArray⟩ : ByteArray) = _
      rw [hexW12]; decide
    · by_cases e2 : i = 13
      · subst e2
        rw [if_pos (by decide), hex_eq h0 h1]
        show some (⟨(hexW 13).toArray⟩ : ByteArray) = _
        rw [hexW13]; decide
      · obtain ⟨q1, q2⟩ := t1 i hi e1 e2
        rw [if_neg q1, q2, mk_same]
  · rw [if_neg c, hex_eq h0 h1]
    show _ = some (⟨(nm wds hexW a).toArray⟩ : ByteArray)
    rw [nm_out (by show ¬ a < ((19 : Nat) : Int); omega)]

/-! ### flags' letters -/
def L (i : Nat) : UInt8 := [87, 65, 88, 32, 77, 83, 73, 76, 79, 71, 84, 67].getD i 0
def ls (n : Nat) : Nat → List UInt8
  | 0 => []
  | i + 1 => ls n i ++ (if n.testBit i = true ∧ i ≠ 3 then [L i] else [])
theorem ls_len (n i : Nat) : (ls n i).length ≤ i := by
  induction i with
  | zero => exact Nat.le_refl _
  | succ i ih => unfold ls; split <;> simp <;> omega
theorem ls_mem (n : Nat) (c : UInt8) : ∀ k, c ∈ ls n k ↔ ∃ i, i < k ∧ n.testBit i = true ∧ i ≠ 3 ∧ c = L i
  | 0 => by simp [ls]
  | k + 1 => by
    unfold ls
    rw [List.mem_append, ls_mem n c k]
    constructor
    · rintro (⟨i, h1, h2⟩ | h)
      · exact ⟨i, by omega, h2⟩
      · split at h
        · rename_i hc
          exact ⟨k, by omega, hc.1, hc.2, by simpa using h⟩
        · cases h
    · rintro ⟨i, h1, h2, h3, h4⟩
      by_cases e : i = k
      · subst e
        right
        rw [if_pos ⟨h2, h3⟩, h4]; simp
      · left
        exact ⟨i, by omega, h2, h3, h4⟩
theorem ls_inj (n m : Nat) (h : ls n 12 = ls m 12) : ∀ i, i < 12 → i ≠ 3 → n.testBit i = m.testBit i := by
  have key : ∀ n m : Nat, ls n 12 = ls m 12 → ∀ i, i < 12 → i ≠ 3 → n.testBit i = true → m.testBit i = true := fun n m h i hi h3 ht => by
    have h1 : L i ∈ ls n 12 := (ls_mem n _ 12).2 ⟨i, hi, ht, h3, rfl⟩
    rw [h] at h1
    obtain ⟨j, g1, g2, g3, g4⟩ := (ls_mem m _ 12).1 h1
    have : ∀ i, i < 12 → ∀ j, j < 12 → L i = L j → i = j := by decide
    rw [this i hi j g1 g4]
    exact g2
  intro i hi h3
  cases h1 : n.testBit i with
  | true => exact (key n m h i hi h3 h1).symm
  | false =>
    cases h2 : m.testBit i with
    | false => rfl
    | true => exact absurd (key m n h.symm i hi h3 h2) (by rw [h1]; decide)
theorem ls_noplus (n : Nat) : ∀ c ∈ ls n 12, c ≠ 43 := fun c hc => by
  obtain ⟨i, hi, _, _, rfl⟩ := (ls_mem n c 12).1 hc
  have : ∀ i, i < 12 → L i ≠ 43 := by decide
  exact this i hi
/-- A number less the bits of another one. -/
def anN (x m : Nat) : Nat := (BitVec.ofNat 64 x &&& ~~~ BitVec.ofNat 64 m).toNat
theorem anN_bit (x m j : Nat) (hx : x < 18446744073709551616) (hm : m < 18446744073709551616) : (anN x m).testBit j = (x.testBit j && !m.testBit j) := by
  unfold anN
  rw [BitVec.testBit_toNat, BitVec.getLsbD_and, BitVec.getLsbD_not, BitVec.getLsbD_ofNat, BitVec.getLsbD_ofNat]
  by_cases hj : j < 64
  · simp [hj]
  · have : x.testBit j = false := Nat.testBit_lt_two_pow (Nat.lt_of_lt_of_le hx (by have := Nat.pow_le_pow_right (n := 2) (by decide) (show 64 ≤ j by omega); simpa using this))
    simp [hj, this]
theorem anN_lt (x m : Nat) : anN x m < 18446744073709551616 := by
  have := (BitVec.ofNat 64 x &&& ~~~ BitVec.ofNat 64 m).isLt
  simpa [anN] using this
theorem andNot_eq (x m : Nat) (hx : x < 18446744073709551616) (hm : m < 18446744073709551616) : Go.bits .andNot .u64 (x : Int) (m : Int) = (anN x m : Int) := by
  have e : Go.bits .andNot .u64 (x : Int) (m : Int) = IntKind.u64.wrap (((BitVec.ofInt 64 (x : Int) &&& ~~~ BitVec.ofInt 64 (m : Int) : BitVec 64).toNat : Nat) : Int) := rfl
  have e1 : ∀ y : Nat, BitVec.ofInt 64 (y : Int) = BitVec.ofNat 64 y := fun y => by simp
  rw [e, e1, e1]
  exact wrapu_id (by omega) (by have := anN_lt x m; unfold anN at this; omega)
def rest (n : Nat) : Nat → Nat
  | 0 => n
  | i + 1 => if n.testBit i = true ∧ i ≠ 3 then anN (rest n i) (2 ^ i) else rest n i
theorem rest_lt (n : Nat) (h : n < 18446744073709551616) (i : Nat) : rest n i < 18446744073709551616 := by
  induction i with
  | zero => exact h
  | succ i ih => unfold rest; split; · exact anN_lt _ _
                 · exact ih
theorem rest_bit (n : Nat) (h : n < 18446744073709551616) (j : Nat) : ∀ i, i ≤ 12 → (rest n i).testBit j = (n.testBit j && !decide (j < i ∧ j ≠ 3))
  | 0, _ => by simp [rest]
  | i + 1, hi => by
    have ih := rest_bit n h j i (by omega)
    unfold rest
    by_cases c : n.testBit i = true ∧ i ≠ 3
    · rw [if_pos c, anN_bit _ _ _ (rest_lt n h i) (Nat.lt_of_lt_of_le (Nat.pow_lt_pow_right (by decide) (show i < 12 by omega)) (by decide)), ih, Nat.testBit_two_pow]
      by_cases e : i = j
      · subst e; simp [c.2]
      · have e2 : (decide (j < i + 1 ∧ j ≠ 3)) = decide (j < i ∧ j ≠ 3) := by
          rw [Bool.eq_iff_iff, decide_eq_true_iff, decide_eq_true_iff]; omega
        rw [e2]; simp [e]
    · rw [if_neg c, ih]
      by_cases e : i = j
      · subst e
        by_cases t : n.testBit i = true
        · have e3 : i = 3 := by
            by_cases q : i = 3
            · exact q
            · exact absurd ⟨t, q⟩ c
          subst e3; simp
        · simp [t]
      · have e2 : (decide (j < i + 1 ∧ j ≠ 3)) = decide (j < i ∧ j ≠ 3) := by
          rw [Bool.eq_iff_iff, decide_eq_true_iff, decide_eq_true_iff]; omega
        rw [e2]
def tail (n : Nat) : List UInt8 := if rest n 12 = 0 then [] else 43 :: hexW (rest n 12)
def flags (n : Nat) : List UInt8 := ls n 12 ++ tail n
theorem split_plus : ∀ (a b s t : List UInt8), (∀ c ∈ a, c ≠ 43) → (∀ c ∈ b, c ≠ 43) → (s = [] ∨ ∃ r, s = 43 :: r) → (t = [] ∨ ∃ r, t = 43 :: r) → a ++ s = b ++ t → a = b ∧ s = t
  | [], [], s, t, _, _, _, _, h => ⟨rfl, h⟩
  | [], y :: b, s, t, _, hb, hs, ht, h => by
    rcases hs with rfl | ⟨r, rfl⟩
    · cases h
    · exact absurd (List.cons.inj h).1.symm (hb y (by simp))
  | x :: a, [], s, t, ha, _, hs, ht, h => by
    rcases ht with rfl | ⟨r, rfl⟩
    · cases h
    · exact absurd (List.cons.inj h).1 (ha x (by simp))
  | x :: a, y :: b, s, t, ha, hb, hs, ht, h => by
    obtain ⟨e1, e2⟩ := List.cons.inj h
    obtain ⟨g1, g2⟩ := split_plus a b s t (fun c hc => ha c (by simp [hc])) (fun c hc => hb c (by simp [hc])) hs ht e2
    exact ⟨by rw [e1, g1], g2⟩
theorem tail_form (n : Nat) : tail n = [] ∨ ∃ r, tail n = 43 :: r := by
  unfold tail
  split
  · exact Or.inl rfl
  · exact Or.inr ⟨_, rfl⟩
theorem flags_inj (n m : Nat) (hn : n < 18446744073709551616) (hm : m < 18446744073709551616) (h : flags n = flags m) : n = m := by
  obtain ⟨h1, h2⟩ := split_plus _ _ _ _ (ls_noplus n) (ls_noplus m) (tail_form n) (tail_form m) h
  have hr : rest n 12 = rest m 12 := by
    unfold tail at h2
    by_cases c : rest n 12 = 0
    · rw [if_pos c] at h2
      by_cases d : rest m 12 = 0
      · rw [c, d]
      · rw [if_neg d] at h2; cases h2
    · rw [if_neg c] at h2
      by_cases d : rest m 12 = 0
      · rw [if_pos d] at h2; cases h2
      · rw [if_neg d] at h2
        exact hexW_inj _ _ (List.cons.inj h2).2
  apply Nat.eq_of_testBit_eq
  intro j
  by_cases c : j < 12 ∧ j ≠ 3
  · exact ls_inj n m h1 j c.1 c.2
  · have e1 := rest_bit n hn j 12 (Nat.le_refl _)
    have e2 := rest_bit m hm j 12 (Nat.le_refl _)
    rw [decide_eq_false c] at e1 e2
    rw [hr] at e1
    simpa using e1.symm.trans e2
theorem rest_zero (n : Nat) (hn : n < 18446744073709551616) : rest n 12 = 0 ↔ n / 4096 = 0 ∧ n / 8 % 2 = 0 := by
  have b3 : n.testBit 3 = decide (n / 8 % 2 = 1) := by rw [Nat.testBit_eq_decide_div_mod_eq]
  constructor
  · intro h
    have hb : ∀ j, ¬ (j < 12 ∧ j ≠ 3) → n.testBit j = false := fun j hj => by
      have := rest_bit n hn j 12 (Nat.le_refl _)
      rw [h, decide_eq_false hj] at this
      simpa using this.symm
    refine ⟨?_, ?_⟩
    · have : n < 2 ^ 12 := Nat.lt_pow_two_of_testBit n (fun j hj => hb j (by omega))
      omega
    · have := hb 3 (by omega)
      rw [b3] at this
      have := of_decide_eq_false this
      omega
  · rintro ⟨h1, h2⟩
    apply Nat.eq_of_testBit_eq
    intro j
    rw [rest_bit n hn j 12 (Nat.le_refl _), Nat.zero_testBit]
    by_cases c : j < 12
    · by_cases e : j = 3
      · subst e; rw [b3, decide_eq_false (by omega)]; rfl
      · simp [c, e]
    · have : n.testBit j = false := Nat.testBit_lt_two_pow (Nat.lt_of_lt_of_le (show n < 2 ^ 12 by omega) (Nat.pow_le_pow_right (by decide) (by omega)))
      rw [this]; rfl
theorem flag_len (n : Nat) (hn : n < 18446744073709551616) : (flags n).length ≤ 12 + 19 := by
  have h1 := ls_len n 12
  have h2 := hex_size (rest n 12) (rest_lt n hn 12)
  unfold flags tail hexW
  split <;> simp <;> omega
theorem letter_at (i : Nat) (hi : i < 12) : ((⟨#[87, 65, 88, 32, 77, 83, 73, 76, 79, 71, 84, 67]⟩ : ByteArray).extract i (i + 1)).data.toList = [L i] := by
  have : ∀ i, i < 12 → ((⟨#[87, 65, 88, 32, 77, 83, 73, 76, 79, 71, 84, 67]⟩ : ByteArray).data.toList.drop i).take (i + 1 - i) = [L i] := by decide
  rw [extract_data]
  exact this i hi
theorem letter_at2 (i : Nat) (hi : i < 12) (h3 : i ≠ 3) : ((⟨#[87, 65, 88, 46, 77, 83, 73, 76, 79, 71, 84, 67]⟩ : ByteArray).extract i (i + 1)).data.toList = [L i] := by
  have : ∀ i, i < 12 → i ≠ 3 → ((⟨#[87, 65, 88, 46, 77, 83, 73, 76, 79, 71, 84, 67]⟩ : ByteArray).data.toList.drop i).take (i + 1 - i) = [L i] := by decide
  rw [extract_data]
  exact this i hi h3
theorem blank_at (i : Nat) (hi : i < 12) : bt (⟨#[87, 65, 88, 32, 77, 83, 73, 76, 79, 71, 84, 67]⟩ : ByteArray) (i : Int) = 32 ↔ i = 3 := by
  have : ∀ i : Nat, i < 12 → (bt (⟨#[87, 65, 88, 32, 77, 83, 73, 76, 79, 71, 84, 67]⟩ : ByteArray) (i : Int) = 32 ↔ i = 3) := by decide +kernel
  exact this i hi
theorem and_bit (n i : Nat) (hn : n < 18446744073709551616) (hi : i < 12) : Go.bits .and .u64 (n : Int) (shl .u64 1 (i : Int)) = 0 ↔ ¬ n.testBit i = true := by
  have h64 : ∀ n : Int, 0 ≤ n → n < 2 ^ 64 → IntKind.u64.wrap n = n := fun n h0 h1 => wrapu_id h0 (by simpa using h1)
  have hp : (2 : Nat) ^ i < 4096 := Nat.lt_of_lt_of_le (Nat.pow_lt_pow_right (by decide) hi) (by decide)
  have e : shl .u64 1 (i : Int) = ((2 ^ i : Nat) : Int) := by
    unfold shl
    rw [show min ((i : Int)).toNat IntKind.u64.bits = i by simp [IntKind.bits]; omega, wrapu_id]
    · rw [Int.one_mul, Int.natCast_pow]; rfl
    · exact Int.mul_nonneg (by decide) (Int.pow_nonneg (by decide))
    · rw [Int.one_mul]
      have : ((2 : Int) ^ i) = ((2 ^ i : Nat) : Int) := by rw [Int.natCast_pow]; rfl
      omega
  rw [e, (bits_nat .u64 64 (by decide) h64 n (2 ^ i) (by omega) (by omega)).1]
  rw [show (((n &&& 2 ^ i : Nat) : Int) = 0) ↔ (n &&& 2 ^ i) = 0 by omega]
  constructor
  · intro h ht
    have := congrArg (fun x => Nat.testBit x i) h
    simp only [Nat.testBit_and, Nat.testBit_two_pow_self, ht, Nat.zero_testBit] at this
    exact absurd this (by decide)
  · intro h
    apply Nat.eq_of_testBit_eq
    intro j
    rw [Nat.testBit_and, Nat.testBit_two_pow, Nat.zero_testBit]
    by_cases q : i = j
    · subst q; simp [h]
    · simp [q]
theorem shl_eq (i : Nat) (hi : i < 12) : shl .u64 1 (i : Int) = ((2 ^ i : Nat) : Int) := by
  have : ∀ i : Nat, i < 12 → shl .u64 1 (i : Int) = ((2 ^ i : Nat) : Int) := by decide +kernel
  exact this i hi
theorem flag_loop (n : Nat) (hn : n < 18446744073709551616) : ∀ (d i : Nat), i + d = 12 → Ev (fun k => shdr_FlagLetters.l0 k (n : Int) ⟨(ls n i).toArray⟩ (rest n i : Int) (i : Int)) ⟨(flags n).toArray⟩ := by
  intro d
  induction d with
  | zero =>
    intro i hi
    obtain rfl : i = 12 := by omega
    refine Ev.step (shdr_FlagLetters.l0.eq_2 _ _ _ _) (ev_neg (by decide) ?_)
    by_cases c : rest n 12 = 0
    · refine ev_pos (by rw [c]; rfl) (ev_now ?_)
      unfold flags tail
      rw [if_pos c, List.append_nil]
    · have hl := rest_lt n hn 12
      have hs := hex_size (rest n 12) hl
      have hll := ls_len n 12
      have e1 : (⟨(hexW (rest n 12)).toArray⟩ : ByteArray).size = (hexW (rest n 12)).length := rfl
      have e2 : (hexW (rest n 12)).length = (Fmt.hexDigits (rest n 12)).length + 2 := rfl
      refine ev_neg (by omega) (ev_const (hex_eq (by omega) (by omega)) ?_)
      rw [show ((rest n 12 : Nat) : Int).toNat = rest n 12 by omega]
      refine ev_pos (by omega) (ev_pos (by rw [ByteArray.size_append, e1]; show (ls n 12).length + (1 + _) ≤ _; omega) (ev_now ?_))
      apply ba_ext
      rw [append_data, append_data]
      unfold flags tail
      rw [if_neg c]
      rfl
  | succ d ih =>
    intro i hi
    have ih' := ih (i + 1) (by omega)
    have hll := ls_len n i
    refine Ev.step (shdr_FlagLetters.l0.eq_2 _ _ _ _) (ev_pos (by omega) (ev_pos (by omega) ?_))
    rw [wrap64_id (n := (i : Int) + 1) (by omega) (by omega)]
    have el : ls n (i + 1) = ls n i ++ (if n.testBit i = true ∧ i ≠ 3 then [L i] else []) := rfl
    have er : rest n (i + 1) = if n.testBit i = true ∧ i ≠ 3 then anN (rest n i) (2 ^ i) else rest n i := rfl
    by_cases t : n.testBit i = true
    · refine ev_neg (fun h => (and_bit n i hn (by omega)).1 h t) ?_
      by_cases e : i = 3
      · rw [if_neg (fun h => h.2 e), List.append_nil] at el
        rw [if_neg (fun h => h.2 e)] at er
        rw [el, er] at ih'
        exact ev_pos ((blank_at i (by omega)).2 e) ih'
      · rw [if_pos ⟨t, e⟩] at el
        rw [if_pos ⟨t, e⟩] at er
        rw [el, er] at ih'
        refine ev_neg (fun h => e ((blank_at i (by omega)).1 h)) (ev_pos (by omega) (ev_pos (by omega) ?_))
        have e3 : ((⟨#[87, 65, 88, 32, 77, 83, 73, 76, 79, 71, 84, 67]⟩ : ByteArray).extract ((i : Int)).toNat ((i : Int) + 1).toNat) = ⟨#[L i]⟩ := by
          apply ba_ext
          rw [show ((i : Int)).toNat = i by omega, show ((i : Int) + 1).toNat = i + 1 by omega]
          exact letter_at i (by omega)
        rw [e3, shl_eq i (by omega), andNot_eq _ _ (rest_lt n hn i) (Nat.lt_of_lt_of_le (Nat.pow_lt_pow_right (by decide) (show i < 12 by omega)) (by decide))]
        refine ev_pos (by show (ls n i).length + 1 ≤ _; omega) ?_
        have e4 : (⟨(ls n i).toArray⟩ : ByteArray) ++ ⟨#[L i]⟩ = ⟨(ls n i ++ [L i]).toArray⟩ := by
          apply ba_ext
          rw [append_data]
        rw [e4]
        exact ih'
    · rw [if_neg (fun h => t h.1), List.append_nil] at el
      rw [if_neg (fun h => t h.1)] at er
      rw [el, er] at ih'
      exact ev_pos ((and_bit n i hn (by omega)).2 t) ih'
theorem flag_ev (n : Nat) (hn : n < 18446744073709551616) : Ev (fun k => shdr_FlagLetters.f k (n : Int)) ⟨(flags n).toArray⟩ :=
  Ev.congr (fun k => shdr_FlagLetters.f.eq_1 k (n : Int)) (flag_loop n hn 12 0 rfl)

/-! ### the law -/
theorem law_end {n m : Nat} (hn : n < 18446744073709551616) (hm : m < 18446744073709551616) : Ev (fun k => graverlaw06_ShdrWords.j2 k (n : Int) (m : Int) ⟨(flags n).toArray⟩ false) true := by
  refine Ev.step (graverlaw06_ShdrWords.j2.eq_2 _ _ _ _) (ev_neg (by decide) (ev_const (type_eq (by omega) (by omega)) (ev_const (type_eq (by omega) (by omega)) ?_)))
  by_cases c : n = m
  · subst c
    exact ev_pos rfl (ev_pos rfl (Ev.bind (flag_ev n hn) (ev_pos rfl (ev_now (by simp)))))
  · refine ev_neg (fun h => ?_) (ev_neg (by omega) (Ev.bind (flag_ev m hm) (ev_neg (fun h => ?_) (ev_now ?_))))
    · rw [mk_toList, mk_toList] at h
      have := (names.same (by omega) (by omega)).1 h
      omega
    · rw [mk_toList, mk_toList] at h
      exact c (flags_inj n m hn hm h)
    · have : ((n : Int) == (m : Int)) = false := beq_eq_false_iff_ne.mpr (by omega)
      rw [this]; rfl
theorem shr_bit (n i : Nat) (hn : n < 18446744073709551616) (hi : i < 12) : Go.bits .and .u64 (shr .u64 (n : Int) (i : Int)) 1 = 1 ↔ n.testBit i = true := by
  have h64 : ∀ n : Int, 0 ≤ n → n < 2 ^ 64 → IntKind.u64.wrap n = n := fun n h0 h1 => wrapu_id h0 (by simpa using h1)
  have e : shr .u64 (n : Int) (i : Int) = ((n / 2 ^ i : Nat) : Int) := by
    unfold shr
    rw [show min ((i : Int)).toNat IntKind.u64.bits = i by simp [IntKind.bits]; omega]
    rw [Int.natCast_ediv, Int.natCast_pow]; rfl
  have hq : n / 2 ^ i < 18446744073709551616 := Nat.lt_of_le_of_lt (Nat.div_le_self _ _) hn
  have := (bits_nat .u64 64 (by decide) h64 (n / 2 ^ i) 1 (by omega) (by decide)).1
  rw [show ((1 : Nat) : Int) = 1 from rfl] at this
  rw [e, this, Nat.and_one_is_mod, Nat.testBit_eq_decide_div_mod_eq, decide_eq_true_iff]
  omega
theorem bit3 (n : Nat) (hn : n < 18446744073709551616) : (Go.bits .and .u64 ((n : Int) / 8) 1 == 1) = decide (n / 8 % 2 = 1) := by
  have h64 : ∀ n : Int, 0 ≤ n → n < 2 ^ 64 → IntKind.u64.wrap n = n := fun n h0 h1 => wrapu_id h0 (by simpa using h1)
  have := (bits_nat .u64 64 (by decide) h64 (n / 8) 1 (by omega) (by decide)).1
  rw [show ((1 : Nat) : Int) = 1 from rfl, show ((n / 8 : Nat) : Int) = (n : Int) / 8 by omega] at this
  rw [this, Nat.and_one_is_mod, Bool.eq_iff_iff, beq_iff_eq, decide_eq_true_iff]
  omega
theorem law_loop {n m : Nat} (hn : n < 18446744073709551616) (hm : m < 18446744073709551616) : ∀ (d i : Nat), i + d = 12 → Ev (fun k => graverlaw06_ShdrWords.l0 k (n : Int) (m : Int) (⟨#[87, 65, 88, 46, 77, 83, 73, 76, 79, 71, 84, 67]⟩ : ByteArray) ⟨(ls n i).toArray⟩ (i : Int)) true := by
  intro d
  induction d with
  | zero =>
    intro i hi
    obtain rfl : i = 12 := by omega
    have J := law_end hn hm
    have s1 : (⟨(flags n).toArray⟩ : ByteArray).size = (flags n).length := rfl
    have s2 : (⟨(ls n 12).toArray⟩ : ByteArray).size = (ls n 12).length := rfl
    have s3 : (flags n).length = (ls n 12).length + (tail n).length := by unfold flags; simp
    refine Ev.step (graverlaw06_ShdrWords.l0.eq_2 _ _ _ _ _) (ev_neg (by decide) (Ev.bind (flag_ev n hn) ?_))
    refine ev_neg (by rw [s1, s2]; omega) (ev_pos (by omega) (ev_pos (by rw [s1, s2]; omega) (ev_pos ?_ ?_)))
    · rw [toList_data, extract_data, mk_toList, s2]
      show ((flags n).drop 0).take ((((ls n 12).length : Nat) : Int).toNat - 0) = _
      unfold flags
      simp
    · have hz := rest_zero n hn
      have ht : 0 < (tail n).length ↔ ¬ rest n 12 = 0 := by
        unfold tail
        split
        · rename_i q; exact ⟨fun h => absurd h (by simp), fun h => absurd q h⟩
        · rename_i q; exact ⟨fun _ => q, fun _ => by simp⟩
      rw [bit3 n hn]
      by_cases c : (n : Int) / 4096 > 0
      · refine ev_pos c ?_
        rw [decide_eq_true (by rw [s1, s2]; have := ht.2 (fun h => by have := (hz.1 h).1; omega); omega)]
        exact J
      · refine ev_neg c ?_
        by_cases c2 : ((⟨(flags n).toArray⟩ : ByteArray).size : Int) > ((⟨(ls n 12).toArray⟩ : ByteArray).size : Int)
        · refine ev_pos c2 ?_
          rw [s1, s2] at c2
          have h2 := ht.1 (by omega)
          have : n / 8 % 2 = 1 := by
            have := mt hz.2 h2
            omega
          rw [decide_eq_true this]
          exact J
        · refine ev_neg c2 ?_
          rw [s1, s2] at c2
          have h2 : rest n 12 = 0 := by
            by_cases q : rest n 12 = 0
            · exact q
            · have := ht.2 q; omega
          have := (hz.1 h2).2
          rw [decide_eq_false (by omega)]
          exact J
  | succ d ih =>
    intro i hi
    have ih' := ih (i + 1) (by omega)
    have hll := ls_len n i
    have el : ls n (i + 1) = ls n i ++ (if n.testBit i = true ∧ i ≠ 3 then [L i] else []) := rfl
    refine Ev.step (graverlaw06_ShdrWords.l0.eq_2 _ _ _ _ _) (ev_pos (by omega) (ev_pos (by omega) ?_))
    rw [wrap64_id (n := (i : Int) + 1) (by omega) (by omega)]
    by_cases t : n.testBit i = true
    · refine ev_pos ((shr_bit n i hn (by omega)).2 t) ?_
      by_cases e : i = 3
      · rw [if_neg (fun h => h.2 e), List.append_nil] at el
        rw [el] at ih'
        exact ev_pos (by omega) ih'
      · rw [if_pos ⟨t, e⟩] at el
        rw [el] at ih'
        refine ev_neg (by omega) (ev_pos (by omega) (ev_pos (by show (i : Int) + 1 ≤ ((12 : Nat) : Int); omega) ?_))
        have e3 : ((⟨#[87, 65, 88, 46, 77, 83, 73, 76, 79, 71, 84, 67]⟩ : ByteArray).extract ((i : Int)).toNat ((i : Int) + 1).toNat) = ⟨#[L i]⟩ := by
          apply ba_ext
          rw [show ((i : Int)).toNat = i by omega, show ((i : Int) + 1).toNat = i + 1 by omega]
          exact letter_at2 i (by omega) e
        rw [e3]
        refine ev_pos (by show (ls n i).length + 1 ≤ _; omega) ?_
        have e4 : (⟨(ls n i).toArray⟩ : ByteArray) ++ ⟨#[L i]⟩ = ⟨(ls n i ++ [L i]).toArray⟩ := by
          apply ba_ext
          rw [append_data]
        rw [e4]
        exact ih'
    · rw [if_neg (fun h => t h.1), List.append_nil] at el
      rw [el] at ih'
      exact ev_neg (fun h => t ((shr_bit n i hn (by omega)).1 h)) ih'
theorem ShdrWords : graverlaw06_ShdrWords.Pure := by
  intro a b wa wb
  obtain ⟨a0, a1⟩ := wf_u64 wa
  obtain ⟨b0, b1⟩ := wf_u64 wb
  obtain ⟨n, rfl⟩ := Int.eq_ofNat_of_zero_le a0
  obtain ⟨m, rfl⟩ := Int.eq_ofNat_of_zero_le b0
  have J : Ev (fun k => graverlaw06_ShdrWords.j0 k (n : Int) (m : Int) false) true :=
    Ev.step (graverlaw06_ShdrWords.j0.eq_2 _ _ _) (ev_neg (by decide) (law_loop (by omega) (by omega) 12 0 rfl))
  refine Ev.rounds (Ev.congr (fun k => graverlaw06_ShdrWords.f.eq_1 k (n : Int) (m : Int)) ?_)
  refine Ev.bind speaks06 (ev_pos rfl (ev_const rfl ?_))
  have ht := type_eq a0 a1
  by_cases c : (n : Int) < 19
  · refine ev_pos c (ev_const ht (ev_pos a0 (ev_pos (by show (n : Int) < ((19 : Nat) : Int); omega) (ev_pos ?_ (ev_neg (by omega) J)))))
    rw [mk_toList, toList_data]
    exact nm_in (by show (n : Int) < ((19 : Nat) : Int); omega)
  · refine ev_neg c (ev_pos (by omega) (ev_const ht (ev_pos (by decide) ?_)))
    have e : tn (n : Int) = hexW n := nm_out (by show ¬ (n : Int) < ((19 : Nat) : Int); omega)
    rw [e]
    refine ev_pos (by show (2 : Int) ≤ (((hexW n).length : Nat) : Int); unfold hexW; simp; omega) ?_
    have e2 : ((⟨(hexW n).toArray⟩ : ByteArray).extract 0 2).toList = [48, 120] := by
      rw [toList_data, extract_data]
      rfl
    rw [e2]
    exact J
end Go.Proofs.YteoeohkjomehoaaDoor.Pure
