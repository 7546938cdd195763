/- Any kind's word, any flags' letters; two numbers never have the same: for every input; no condition but the tables. -/
import Derived.Test.YtjmjebbjfjgbeaaDoorWds
import Derived.Test.YtjmjebbjfjgbeaaDoorQ10
import Derived.Test.YtjmjebbjfjgbeaaDoorQ7
import Derived.Test.YtjmjebbjfjgbeaaDoorQ8
import Derived.Test.YtjmjebbjfjgbeaaDoorQ9
namespace Go.Proofs.YtjmjebbjfjgbeaaDoor.Pure
open Go.RowKit Go.Proofs.YtjmjebbjfjgbeaaDoor.Q Go.Proofs.YtjmjebbjfjgbeaaDoorW.PrintWords Go.Proofs.YtjmjebbjfjgbeaaDoorW.PrintLast Go.Proofs.YtjmjebbjfjgbeaaDoorW.PrintMore Go.Proofs.YtjmjebbjfjgbeaaDoor.Mth
set_option linter.unusedVariables false
set_option linter.unusedSimpArgs false

theorem speaks07 : Ev (fun k => graverlaw07_speaks.f k) true := Ev.of graverlaw07_speaks.mono (k := 40) (by decide +kernel)
/-! ### kinds' words -/
def hexW (u : Nat) : List UInt8 := 48 :: 120 :: Fmt.hexDigits u
theorem hexW_inj (a b : Nat) (h : hexW a = hexW b) : a = b := Fmt.hex_inj a b (List.cons.inj (List.cons.inj h).2).2
theorem hex_size (u : Nat) (h : u < 18446744073709551616) : (Fmt.hexDigits u).length ≤ 16 := Fmt.hex_length 15 u (by simpa using h)
theorem hex_eq {a : Int} (h0 : 0 ≤ a) (h1 : a < 18446744073709551616) : ((strconv_FormatUint.f a 16).bind fun t => (if 2 + t.size ≤ 9223372036854775807 then (some ((⟨#[48, 120]⟩ : ByteArray) ++ t)) else (none))) = some ⟨(hexW a.toNat).toArray⟩ := by
  unfold strconv_FormatUint.f
  rw [if_pos ⟨h0, h1, Or.inr rfl⟩]
  have hs : (⟨(Fmt.fmtOf a 16).toArray⟩ : ByteArray).size = (Fmt.hexDigits a.toNat).length := rfl
  have hl := hex_size a.toNat (by omega)
  show (if 2 + (⟨(Fmt.fmtOf a 16).toArray⟩ : ByteArray).size ≤ 9223372036854775807 then _ else _) = _
  rw [if_pos (by rw [hs]; omega)]
  congr 1
/-- The law's own list of words. -/
def wds : List ByteArray := [(⟨#[78, 85, 76, 76]⟩ : ByteArray), (⟨#[76, 79, 65, 68]⟩ : ByteArray), (⟨#[68, 89, 78, 65, 77, 73, 67]⟩ : ByteArray), (⟨#[73, 78, 84, 69, 82, 80]⟩ : ByteArray), (⟨#[78, 79, 84, 69]⟩ : ByteArray), (⟨#[83, 72, 76, 73, 66]⟩ : ByteArray), (⟨#[80, 72, 68, 82]⟩ : ByteArray), (⟨#[84, 76, 83]⟩ : ByteArray)]
abbrev tn := nm wds hexW
theorem names : Names wds hexW where
  inj := hexW_inj
  no := fun i hi x hx h => by
    have h1 : ∀ i, i < 8 → (wds.getD i ByteArray.empty).data.toList.head? ≠ some 48 := by decide
    exact h1 i hi (by rw [h]; rfl)
  one := by have h : ∀ i, i < 8 → ∀ j, j < 8 → (wds.getD i ByteArray.empty).data.toList = (wds.getD j ByteArray.empty).data.toList → i = j := by decide
            exact fun i j hi hj => h i hi j hj
theorem type_eq {a : Int} (h0 : 0 ≤ a) (h1 : a < 18446744073709551616) : phdr_TypeName.f a = some ⟨(tn a).toArray⟩ := by
  unfold phdr_TypeName.f
  by_cases c : a < 8
  · rw [if_pos c, if_pos h0]
    have e : tn a = (rdOf ByteArray.empty wds a).data.toList := nm_in (by show a < ((8 : Nat) : Int); omega)
    rw [e, mk_same]
    rfl
  · rw [if_neg c, hex_eq h0 h1]
    show _ = some (⟨(nm wds hexW a).toArray⟩ : ByteArray)
    rw [nm_out (by show ¬ a < ((8 : Nat) : Int); omega)]

/-! ### flags' letters -/
/-- A number less the bits of another one. -/
def anN (x m : Nat) : Nat := (BitVec.ofNat 64 x &&& ~~~ BitVec.ofNat 64 m).toNat
theorem anN_bit (x m j : Nat) (hx : x < 18446744073709551616) (hm : m < 18446744073709551616) : (anN x m).testBit j = (x.testBit j && !m.testBit j) := by
  unfold anN
  rw [BitVec.testBit_toNat, BitVec.getLsbD_and, BitVec.getLsbD_not, BitVec.getLsbD_ofNat, BitVec.getLsbD_ofNat]
  by_cases hj : j < 64
  · simp [hj]
  · have : x.testBit j = false := Nat.testBit_lt_two_pow (Nat.lt_of_lt_of_le hx (by have := Nat.pow_le_pow_right (n := 2) (by decide) (show 64 ≤ j by omega); simpa using this))
    simp [hj, this]
theorem anN_lt (x m : Nat) : anN x m < 18446744073709551616 := by
  have := (BitVec.ofNat 64 x &&& ~~~ BitVec.ofNat 64 m).isLt
  simpa [anN] using this
theorem andNot_eq (x m : Nat) (hx : x < 18446744073709551616) (hm : m < 18446744073709551616) : Go.bits .andNot .u64 (x : Int) (m : Int) = (anN x m : Int) := by
  have e : Go.bits .andNot .u64 (x : Int) (m : Int) = IntKind.u64.wrap (((BitVec.ofInt 64 (x : Int) &&& ~~~ BitVec.ofInt 64 (m : Int) : BitVec 64).toNat : Nat) : Int) := rfl
  have e1 : ∀ y : Nat, BitVec.ofInt 64 (y : Int) = BitVec.ofNat 64 y := fun y => by simp
  rw [e, e1, e1]
  exact wrapu_id (by omega) (by have := anN_lt x m; unfold anN at this; omega)
theorem shr_bit (n i : Nat) (hn : n < 18446744073709551616) (hi : i < 12) : Go.bits .and .u64 (shr .u64 (n : Int) (i : Int)) 1 = 1 ↔ n.testBit i = true := by
  have h64 : ∀ n : Int, 0 ≤ n → n < 2 ^ 64 → IntKind.u64.wrap n = n := fun n h0 h1 => wrapu_id h0 (by simpa using h1)
  have e : shr .u64 (n : Int) (i : Int) = ((n / 2 ^ i : Nat) : Int) := by
    unfold shr
    rw [show min ((i : Int)).toNat IntKind.u64.bits = i by simp [IntKind.bits]; omega]
    rw [Int.natCast_ediv, Int.natCast_pow]; rfl
  have hq : n / 2 ^ i < 18446744073709551616 := Nat.lt_of_le_of_lt (Nat.div_le_self _ _) hn
  have := (bits_nat .u64 64 (by decide) h64 (n / 2 ^ i) 1 (by omega) (by decide)).1
  rw [show ((1 : Nat) : Int) = 1 from rfl] at this
  rw [e, this, Nat.and_one_is_mod, Nat.testBit_eq_decide_div_mod_eq, decide_eq_true_iff]
  omega
/-- The letters' numbers after so many rounds. -/
def S (n : Nat) : Nat → List Int
  | 0 => [45, 45, 45]
  | i + 1 => if n.testBit (2 - i) = true then (S n i).set i ([82, 87, 88].getD i 0) else S n i
theorem S_len (n i : Nat) : (S n i).length = 3 := by
  induction i with
  | zero => rfl
  | succ i ih => unfold S; split <;> simp [ih]
/-- The law's own. -/
def U (n : Nat) : Nat → List Int
  | 0 => [45, 45, 45]
  | i + 1 => if n.testBit i = true then (U n i).set (2 - i) ([88, 87, 82].getD i 0) else U n i
theorem U_len (n i : Nat) : (U n i).length = 3 := by
  induction i with
  | zero => rfl
  | succ i ih => unfold U; split <;> simp [ih]
def ch (b : Bool) (c : Int) : Int := if b = true then c else 45
theorem S_three (n : Nat) : S n 3 = [ch (n.testBit 2) 82, ch (n.testBit 1) 87, ch (n.testBit 0) 88] := by
  simp only [S]
  cases n.testBit 2 <;> cases n.testBit 1 <;> cases n.testBit 0 <;> rfl
theorem U_three (n : Nat) : U n 3 = S n 3 := by
  simp only [S, U]
  cases n.testBit 2 <;> cases n.testBit 1 <;> cases n.testBit 0 <;> rfl
def ls (n : Nat) : List UInt8 := (S n 3).map fun x => UInt8.ofNat x.toNat
theorem ls_len (n : Nat) : (ls n).length = 3 := by rw [ls, List.length_map, S_len]
theorem ls_inj (n m : Nat) (h : ls n = ls m) : ∀ i, i < 3 → n.testBit i = m.testBit i := by
  unfold ls at h
  rw [S_three, S_three] at h
  have : n.testBit 2 = m.testBit 2 ∧ n.testBit 1 = m.testBit 1 ∧ n.testBit 0 = m.testBit 0 := by
    revert h
    cases n.testBit 2 <;> cases n.testBit 1 <;> cases n.testBit 0 <;> cases m.testBit 2 <;> cases m.testBit 1 <;> cases m.testBit 0 <;> decide
  intro i hi
  match i, hi with
  | 0, _ => exact this.2.2
  | 1, _ => exact this.2.1
  | 2, _ => exact this.1
def tail (n : Nat) : List UInt8 := if anN n 7 = 0 then [] else 43 :: hexW (anN n 7)
def flags (n : Nat) : List UInt8 := ls n ++ tail n
theorem rest_bit (n j : Nat) (hn : n < 18446744073709551616) : (anN n 7).testBit j = (n.testBit j && !decide (j < 3)) := by
  rw [anN_bit n 7 j hn (by decide)]
  congr 2
  by_cases c : j < 3
  · have : ∀ j, j < 3 → Nat.testBit 7 j = true := by decide
    rw [this j c, decide_eq_true c]
  · rw [decide_eq_false c]
    exact Nat.testBit_lt_two_pow (Nat.lt_of_lt_of_le (show 7 < 2 ^ 3 by decide) (Nat.pow_le_pow_right (by decide) (by omega)))
theorem flags_inj (n m : Nat) (hn : n < 18446744073709551616) (hm : m < 18446744073709551616) (h : flags n = flags m) : n = m := by
  obtain ⟨h1, h2⟩ := List.append_inj h (by rw [ls_len, ls_len])
  have hr : anN n 7 = anN m 7 := by
    unfold tail at h2
    by_cases c : anN n 7 = 0
    · rw [if_pos c] at h2
      by_cases d : anN m 7 = 0
      · rw [c, d]
      · rw [if_neg d] at h2; cases h2
    · rw [if_neg c] at h2
      by_cases d : anN m 7 = 0
      · rw [if_pos d] at h2; cases h2
      · rw [if_neg d] at h2
        exact hexW_inj _ _ (List.cons.inj h2).2
  apply Nat.eq_of_testBit_eq
  intro j
  by_cases c : j < 3
  · exact ls_inj n m h1 j c
  · have e1 := rest_bit n j hn
    have e2 := rest_bit m j hm
    rw [decide_eq_false c] at e1 e2
    rw [hr] at e1
    simpa using e1.symm.trans e2
theorem rest_zero (n : Nat) (hn : n < 18446744073709551616) : anN n 7 = 0 ↔ n < 8 := by
  constructor
  · intro h
    refine Nat.lt_pow_two_of_testBit (n := 3) n (fun j hj => ?_)
    have := rest_bit n j hn
    rw [h, decide_eq_false (by omega)] at this
    simpa using this.symm
  · intro h
    apply Nat.eq_of_testBit_eq
    intro j
    rw [rest_bit n j hn, Nat.zero_testBit]
    by_cases c : j < 3
    · simp [c]
    · have : n.testBit j = false := Nat.testBit_lt_two_pow (Nat.lt_of_lt_of_le (show n < 2 ^ 3 by omega) (Nat.pow_le_pow_right (by decide) (by omega)))
      rw [this]; rfl
theorem str_S (n : Nat) : strOfNums (S n 3) = ⟨(ls n).toArray⟩ := rfl
theorem flag_loop (n : Nat) (hn : n < 18446744073709551616) : ∀ (d i : Nat), i + d = 3 → Ev (fun k => phdr_Letters.l0 k (n : Int) (S n i) [82, 87, 88] 3 (i : Int)) ⟨(flags n).toArray⟩ := by
  intro d
  induction d with
  | zero =>
    intro i hi
    obtain rfl : i = 3 := by omega
    refine Ev.step (phdr_Letters.l0.eq_2 _ _ _ _ _) (ev_neg (by decide) ?_)
    rw [show (7 : Int) = ((7 : Nat) : Int) from rfl, andNot_eq n 7 hn (by decide), str_S]
    have s1 : (⟨(ls n).toArray⟩ : ByteArray).size = 3 := ls_len n
    by_cases c : anN n 7 = 0
    · refine ev_pos (by rw [c]; rfl) (ev_now ?_)
      unfold flags tail
      rw [if_pos c, List.append_nil]
    · have hl := anN_lt n 7
      have hs := hex_size (anN n 7) hl
      refine ev_neg (by omega) (ev_pos (by rw [s1]; decide) ?_)
      have hf : strconv_FormatUint.f ((anN n 7 : Nat) : Int) 16 = some ⟨(Fmt.hexDigits (anN n 7)).toArray⟩ := by
        unfold strconv_FormatUint.f
        rw [if_pos ⟨by omega, by omega, Or.inr rfl⟩]
        rfl
      have s2 : (⟨(Fmt.hexDigits (anN n 7)).toArray⟩ : ByteArray).size = (Fmt.hexDigits (anN n 7)).length := rfl
      refine ev_const hf (ev_pos (by rw [ByteArray.size_append, s1, s2]; show 3 + 3 + _ ≤ _; omega) (ev_now ?_))
      apply ba_ext
      rw [append_data, append_data]
      unfold flags tail
      rw [if_neg c]
      show (ls n ++ [43, 48, 120]) ++ Fmt.hexDigits (anN n 7) = ls n ++ 43 :: 48 :: 120 :: Fmt.hexDigits (anN n 7)
      rw [List.append_assoc]
      rfl
  | succ d ih =>
    intro i hi
    have ih' := ih (i + 1) (by omega)
    have hl := S_len n i
    refine Ev.step (phdr_Letters.l0.eq_2 _ _ _ _ _) (ev_pos (by omega) (ev_pos (by omega) (ev_pos (by show (i : Int) < ((3 : Nat) : Int); omega) ?_)))
    rw [wrap64_id (n := (i : Int) + 1) (by omega) (by omega), wrap64_id (n := 2 - (i : Int)) (by omega) (by omega), show (2 : Int) - (i : Int) = ((2 - i : Nat) : Int) by omega]
    refine ev_pos (by omega) ?_
    have el : S n (i + 1) = if n.testBit (2 - i) = true then (S n i).set i ([82, 87, 88].getD i 0) else S n i := rfl
    by_cases t : n.testBit (2 - i) = true
    · rw [if_pos t] at el
      rw [el] at ih'
      exact ev_pos ((shr_bit n (2 - i) hn (by omega)).2 t) (ev_pos (by rw [hl]; show (i : Int) < ((3 : Nat) : Int); omega) ih')
    · rw [if_neg t] at el
      rw [el] at ih'
      exact ev_neg (fun h => t ((shr_bit n (2 - i) hn (by omega)).1 h)) ih'
theorem flag_ev (n : Nat) (hn : n < 18446744073709551616) : Ev (fun k => phdr_Letters.f k (n : Int)) ⟨(flags n).toArray⟩ :=
  Ev.congr (fun k => phdr_Letters.f.eq_1 k (n : Int)) (ev_const rfl (flag_loop n hn 3 0 rfl))

/-! ### the law -/
theorem law_end {n m : Nat} (hn : n < 18446744073709551616) (hm : m < 18446744073709551616) : Ev (fun k => (phdr_TypeName.f (n : Int)).bind fun t176 => ((phdr_TypeName.f (m : Int)).bind fun t177 => (if t176.toList = t177.toList then (if (n : Int) = (m : Int) then ((phdr_Letters.f k (m : Int)).bind fun t178 => (if (⟨(flags n).toArray⟩ : ByteArray).toList = t178.toList then (some ((n : Int) == (m : Int))) else (some (!((n : Int) == (m : Int)))))) else (some false)) else (if (n : Int) = (m : Int) then (some false) else ((phdr_Letters.f k (m : Int)).bind fun t179 => (if (⟨(flags n).toArray⟩ : ByteArray).toList = t179.toList then (some ((n : Int) == (m : Int))) else (some (!((n : Int) == (m : Int)))))))))) true := by
  refine ev_const (type_eq (by omega) (by omega)) (ev_const (type_eq (by omega) (by omega)) ?_)
  by_cases c : n = m
  · subst c
    exact ev_pos rfl (ev_pos rfl (Ev.bind (flag_ev n hn) (ev_pos rfl (ev_now (by simp)))))
  · refine ev_neg (fun h => ?_) (ev_neg (by omega) (Ev.bind (flag_ev m hm) (ev_neg (fun h => ?_) (ev_now ?_))))
    · rw [mk_toList, mk_toList] at h
      have := (names.same (by omega) (by omega)).1 h
      omega
    · rw [mk_toList, mk_toList] at h
      exact c (flags_inj n m hn hm h)
    · have : ((n : Int) == (m : Int)) = false := beq_eq_false_iff_ne.mpr (by omega)
      rw [this]; rfl
theorem law_loop {n m : Nat} (hn : n < 18446744073709551616) (hm : m < 18446744073709551616) : ∀ (d i : Nat), i + d = 3 → Ev (fun k => graverlaw07_PhdrWords.l0 k (n : Int) (m : Int) (U n i) (i : Int)) true := by
  intro d
  induction d with
  | zero =>
    intro i hi
    obtain rfl : i = 3 := by omega
    have J := law_end hn hm
    have s1 : (⟨(flags n).toArray⟩ : ByteArray).size = 3 + (tail n).length := by
      show (flags n).length = _
      unfold flags
      rw [List.length_append, ls_len]
    refine Ev.step (graverlaw07_PhdrWords.l0.eq_2 _ _ _ _) (ev_neg (by decide) (Ev.bind (flag_ev n hn) ?_))
    refine ev_pos (by decide) (ev_pos (by rw [s1]; omega) (ev_pos ?_ ?_))
    · rw [U_three, str_S, toList_data, extract_data, mk_toList]
      show ((flags n).drop 0).take (3 - 0) = _
      have := ls_len n
      unfold flags
      rw [List.drop_zero]
      exact List.take_left' this
    · have hz := rest_zero n hn
      have ht : 0 < (tail n).length ↔ ¬ anN n 7 = 0 := by
        unfold tail
        split
        · rename_i q; exact ⟨fun h => absurd h (by simp), fun h => absurd q h⟩
        · rename_i q; exact ⟨fun _ => q, fun _ => by simp⟩
      by_cases c : (n : Int) > 7
      · exact ev_pos (by rw [s1]; have := ht.2 (fun h => by have := hz.1 h; omega); omega) (ev_pos c J)
      · refine ev_neg (fun h => ?_) (ev_neg c J)
        rw [s1] at h
        exact ht.1 (by omega) (hz.2 (by omega))
  | succ d ih =>
    intro i hi
    have ih' := ih (i + 1) (by omega)
    have hl := U_len n i
    refine Ev.step (graverlaw07_PhdrWords.l0.eq_2 _ _ _ _) (ev_pos (by omega) (ev_pos (by omega) ?_))
    rw [wrap64_id (n := (i : Int) + 1) (by omega) (by omega), wrap64_id (n := 2 - (i : Int)) (by omega) (by omega), show (2 : Int) - (i : Int) = ((2 - i : Nat) : Int) by omega]
    have el : U n (i + 1) = if n.testBit i = true then (U n i).set (2 - i) ([88, 87, 82].getD i 0) else U n i := rfl
    by_cases t : n.testBit i = true
    · rw [if_pos t] at el
      rw [el] at ih'
      have e3 : bt (⟨#[88, 87, 82]⟩ : ByteArray) (i : Int) = [88, 87, 82].getD i 0 := by
        have : ∀ i : Nat, i < 3 → bt (⟨#[88, 87, 82]⟩ : ByteArray) (i : Int) = [88, 87, 82].getD i 0 := by decide +kernel
        exact this i (by omega)
      refine ev_pos ((shr_bit n i hn (by omega)).2 t) (ev_pos (by omega) (ev_pos (by rw [hl]; omega) ?_))
      rw [e3]
      exact ih'
    · rw [if_neg t] at el
      rw [el] at ih'
      exact ev_neg (fun h => t ((shr_bit n i hn (by omega)).1 h)) ih'
theorem PhdrWords : graverlaw07_PhdrWords.Pure := by
  intro a b wa wb
  obtain ⟨a0, a1⟩ := wf_u64 wa
  obtain ⟨b0, b1⟩ := wf_u64 wb
  obtain ⟨n, rfl⟩ := Int.eq_ofNat_of_zero_le a0
  obtain ⟨m, rfl⟩ := Int.eq_ofNat_of_zero_le b0
  have J : Ev (fun k => graverlaw07_PhdrWords.j0 k (n : Int) (m : Int) false) true :=
    Ev.step (graverlaw07_PhdrWords.j0.eq_2 _ _ _) (ev_neg (by decide) (law_loop (by omega) (by omega) 3 0 rfl))
  refine Ev.rounds (Ev.congr (fun k => graverlaw07_PhdrWords.f.eq_1 k (n : Int) (m : Int)) ?_)
  refine Ev.bind speaks07 (ev_pos rfl (ev_const rfl ?_))
  have ht := type_eq a0 a1
  by_cases c : (n : Int) < 8
  · refine ev_pos c (ev_const ht (ev_pos a0 (ev_pos (by show (n : Int) < ((8 : Nat) : Int); omega) (ev_pos ?_ (ev_neg (by omega) J)))))
    rw [mk_toList, toList_data]
    exact nm_in (by show (n : Int) < ((8 : Nat) : Int); omega)
  · refine ev_neg c (ev_pos (by omega) (ev_const ht (ev_pos (by decide) ?_)))
    have e : tn (n : Int) = hexW n := nm_out (by show ¬ (n : Int) < ((8 : Nat) : Int); omega)
    rw [e]
    refine ev_pos (by show (2 : Int) ≤ (((hexW n).length : Nat) : Int); unfold hexW; simp; omega) ?_
    have e2 : ((⟨(hexW n).toArray⟩ : ByteArray).extract 0 2).toList = [48, 120] := by
      rw [toList_data, extract_data]
      rfl
    rw [e2]
    exact J
end Go.Proofs.YtjmjebbjfjgbeaaDoor.Pure
