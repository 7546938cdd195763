/- What relocations in bytes come to: plain facts on the printed functions; no Go, no memory. -/
import Derived.Test.YtjmjebbjfjgbeaaFrm
import Derived.Test.YtjmjebbjfjgbeaaQ2
import Derived.Test.YtjmjebbjfjgbeaaQ3
import Derived.Test.YtjmjebbjfjgbeaaQ6
import Derived.Test.YtjmjebbjfjgbeaaQ7
namespace Go.Proofs.Ytjmjebbjfjgbeaa.Q
open Go.RowKit Go.Proofs.YtjmjebbjfjgbeaaW.PrintWords Go.Proofs.YtjmjebbjfjgbeaaW.PrintMore Go.Proofs.Ytjmjebbjfjgbeaa.Mth
set_option linter.unusedVariables false
set_option linter.unusedSimpArgs false

def wordsN (a : Bool) : Nat := if a = true then 3 else 2
def typeP (w : Bool) : Int := if w = true then 4294967296 else 256
def symQ (w : Bool) : Int := if w = true then 4294967296 else 16777216
def goodR (w a : Bool) (off sym ty add : Int) : Bool := decide (off < 256 ^ (word w).toNat) && decide (add < 256 ^ (word w).toNat) && decide (ty < typeP w) && decide (sym < symQ w) && (a || decide (add = 0))
def relR (big w a : Bool) (off sym ty add : Int) : ByteArray × Bool :=
  if goodR w a off sym ty add = true then recR big w (List.replicate (wordsN a) 0) (([off, sym * typeP w + ty, add] : List Int).take (wordsN a)) else (⟨#[]⟩, false)
theorem words_is (a : Bool) : relrec_words.f a = some ((wordsN a : Nat) : Int) := by cases a <;> rfl
theorem relSize_is (b w a : Bool) : relrec_Size.f b w a = some ((wordsN a : Int) * word w) := by
  unfold relrec_Size.f
  rw [words_is, word_is]
  cases a <;> cases w <;> exact congrArg some (wrap64_id (by decide) (by decide))
def u64P (x : Int) : Prop := 0 ≤ x ∧ x < 18446744073709551616
theorem shr_lt (x : Int) (n : Nat) (hn : n ≤ 64) : (shr .u64 x (n : Int) = 0) ↔ (x / 2 ^ n = 0) := by
  unfold shr
  rw [show min ((n : Nat) : Int).toNat (IntKind.u64.bits) = n by simp [IntKind.bits]; omega]
theorem div_zero_iff (x p : Int) (h0 : 0 ≤ x) (hp : 0 < p) : x / p = 0 ↔ x < p := by
  constructor
  · intro h
    have h1 := Int.mul_ediv_add_emod x p
    have h2 := Int.emod_lt_of_pos x hp
    rw [h, Int.mul_zero] at h1
    omega
  · intro h
    exact Int.ediv_eq_zero_of_lt h0 h
theorem good_ev (b w a : Bool) (off sym ty add : Int) (h1 : u64P off) (h2 : u64P sym) (h3 : u64P ty) (h4 : u64P add) : Ev (fun k => relrec_Reloc_Good.f k off sym ty add b w a) (goodR w a off sym ty add) := by
  refine Ev.congr (fun k => relrec_Reloc_Good.f.eq_1 k off sym ty add b w a) ?_
  have hs : relrec_split.f b w = some (if w = true then (32, 32) else (8, 24)) := by unfold relrec_split.f; cases w <;> rfl
  refine ev_const hs ?_
  have hu : U64 [off, add] := by
    intro x hx
    rcases List.mem_cons.1 hx with rfl | hx
    · exact h1
    · rcases List.mem_cons.1 hx with rfl | hx
      · exact h4
      · cases hx
  refine Ev.bind (formFits_ev b w [off, add] (by simp) hu) ?_
  unfold goodR
  have hall : ([off, add].all fun x => decide (x < 256 ^ (word w).toNat)) = (decide (off < 256 ^ (word w).toNat) && decide (add < 256 ^ (word w).toNat)) := by simp
  rw [hall]
  by_cases hf : (decide (off < 256 ^ (word w).toNat) && decide (add < 256 ^ (word w).toNat)) = true
  · rw [hf]
    refine ev_pos rfl ?_
    simp only [Bool.true_and]
    have key : ∀ (n m : Nat), n ≤ 64 → m ≤ 64 → (2 : Int) ^ n = typeP w → (2 : Int) ^ m = symQ w → Ev (fun _ : Nat => if 0 ≤ (n : Int) then (if (shr .u64 ty (n : Int)) = 0 then (if 0 ≤ (m : Int) then (if (shr .u64 sym (m : Int)) = 0 then (if a = true then (some true) else (some (add == 0))) else (some false)) else none) else (some false)) else none) (decide (ty < typeP w) && decide (sym < symQ w) && (a || decide (add = 0))) := by
      intro n m hn hm en em
      have tp : 0 < typeP w := by unfold typeP; split <;> decide
      have sp : 0 < symQ w := by unfold symQ; split <;> decide
      have ht : (shr .u64 ty (n : Int) = 0) ↔ ty < typeP w := by rw [shr_lt ty n hn, en, div_zero_iff _ _ h3.1 tp]
      have hs' : (shr .u64 sym (m : Int) = 0) ↔ sym < symQ w := by rw [shr_lt sym m hm, em, div_zero_iff _ _ h2.1 sp]
      refine ev_pos (by omega) ?_
      by_cases c1 : ty < typeP w
      · refine ev_pos (ht.2 c1) (ev_pos (by omega) ?_)
        rw [decide_eq_true c1]
        by_cases c2 : sym < symQ w
        · refine ev_pos (hs'.2 c2) ?_
          rw [decide_eq_true c2]
          cases a
          · refine ev_neg (by decide) (ev_now ?_)
            rw [Bool.eq_iff_iff]
            simp
          · exact ev_pos rfl (ev_now (by simp))
        · rw [decide_eq_false c2]
          exact ev_neg (fun h => c2 (hs'.1 h)) (ev_now (by simp))
      · rw [decide_eq_false c1]
        exact ev_neg (fun h => c1 (ht.1 h)) (ev_now (by simp))
    cases w
    · exact key 8 24 (by omega) (by omega) (by decide) (by decide)
    · exact key 32 32 (by omega) (by omega) (by decide) (by decide)
  · have hf' : (decide (off < 256 ^ (word w).toNat) && decide (add < 256 ^ (word w).toNat)) = false := Bool.eq_false_iff.2 hf
    rw [hf']
    exact ev_neg (by decide) (ev_now (by simp))
theorem info_is (w : Bool) (sym ty : Int) (n : Nat) (hn : n = 8 ∨ n = 32) (hp : (2 : Int) ^ n = typeP w) (h2 : u64P sym) (h3 : u64P ty) (hs : sym < symQ w) (ht : ty < typeP w) : Go.bits .or .u64 (shl .u64 sym (n : Int)) ty = sym * typeP w + ty := by
  obtain ⟨s, rfl⟩ := Int.eq_ofNat_of_zero_le h2.1
  obtain ⟨t, rfl⟩ := Int.eq_ofNat_of_zero_le h3.1
  have hsp : (s : Int) * typeP w + typeP w ≤ 18446744073709551616 := by
    unfold symQ typeP at *
    cases w <;> simp at * <;> omega
  have hpos : 0 < typeP w := by unfold typeP; split <;> decide
  have hm : 0 ≤ (s : Int) * typeP w := Int.mul_nonneg (by omega) (by omega)
  have hshl : shl .u64 (s : Int) (n : Int) = (s : Int) * typeP w := by
    unfold shl
    rw [show min ((n : Nat) : Int).toNat (IntKind.u64.bits) = n by simp [IntKind.bits]; omega, hp, wrapu_id hm (by omega)]
  rw [hshl]
  have e : (s : Int) * typeP w = ((2 ^ n * s : Nat) : Int) := by
    rw [← hp, Int.natCast_mul, Int.natCast_pow, Int.mul_comm]
    rfl
  rw [e]
  have htn : t < 2 ^ n := by
    have : (t : Int) < ((2 ^ n : Nat) : Int) := by rw [Int.natCast_pow]; exact_mod_cast (hp ▸ ht)
    omega
  have h64 : ∀ n : Int, 0 ≤ n → n < 2 ^ 64 → IntKind.u64.wrap n = n := fun n h0 h1 => wrapu_id h0 (by simpa using h1)
  have hb1 : 2 ^ n * s < 2 ^ 64 := by rw [e] at hsp; omega
  have hb2 : t < 2 ^ 64 := by have := h3.2; omega
  rw [(bits_nat .u64 64 (by decide) h64 (2 ^ n * s) t hb1 hb2).2, ← Nat.two_pow_add_eq_or_of_lt htn s]
  omega
theorem relPut_ev (b w a : Bool) (off sym ty add : Int) (h1 : u64P off) (h2 : u64P sym) (h3 : u64P ty) (h4 : u64P add) : Ev (fun k => relrec_Put.f k b w a off sym ty add) (relR b w a off sym ty add) := by
  refine Ev.congr (fun k => relrec_Put.f.eq_1 k b w a off sym ty add) ?_
  refine Ev.bind (good_ev b w a off sym ty add h1 h2 h3 h4) ?_
  unfold relR
  by_cases hg : goodR w a off sym ty add = true
  · rw [hg, if_pos rfl]
    refine ev_pos rfl ?_
    have hg' := hg
    unfold goodR at hg'
    simp only [Bool.and_eq_true, decide_eq_true_iff] at hg'
    obtain ⟨⟨⟨⟨g1, g2⟩, g3⟩, g4⟩, g5⟩ := hg'
    have hs : relrec_split.f b w = some (if w = true then (32, 32) else (8, 24)) := by unfold relrec_split.f; cases w <;> rfl
    refine ev_const hs ?_
    have hinfo : Go.bits .or .u64 (shl .u64 sym (if w = true then ((32 : Int), (32 : Int)) else (8, 24)).1) ty = sym * typeP w + ty := by
      cases w
      · exact info_is false sym ty 8 (.inl rfl) (by decide) h2 h3 g4 g3
      · exact info_is true sym ty 32 (.inr rfl) (by decide) h2 h3 g4 g3
    refine ev_pos (by cases w <;> decide) ?_
    rw [hinfo]
    refine ev_const (x := [off, sym * typeP w + ty, add]) rfl (ev_const (words_is a) ?_)
    have hn : wordsN a ≤ 3 := by unfold wordsN; split <;> omega
    refine ev_pos (by omega) (ev_pos (by omega) (ev_pos (by simp; omega) ?_))
    rw [Int.toNat_natCast]
    have hb : u64P (sym * typeP w + ty) := by
      refine ⟨Int.add_nonneg (Int.mul_nonneg h2.1 (by unfold typeP; split <;> decide)) h3.1, ?_⟩
      unfold symQ typeP at *
      cases w <;> simp at * <;> omega
    have hu : U64 (([off, sym * typeP w + ty, add] : List Int).take (wordsN a)) := by
      refine U64.take ?_ _
      intro x hx
      rcases List.mem_cons.1 hx with rfl | hx
      · exact h1
      · rcases List.mem_cons.1 hx with rfl | hx
        · exact hb
        · rcases List.mem_cons.1 hx with rfl | hx
          · exact h4
          · cases hx
    exact Ev.bind (record_ev b w _ _ (by simp; omega) hu) (ev_now rfl)
  · have hg' : goodR w a off sym ty add = false := Bool.eq_false_iff.2 hg
    rw [hg']
    exact ev_neg (by decide) (ev_now rfl)
theorem formOf_is (n : Int) : graverlaw09_formOf.f n = some ((Go.bits .and .i64 n 1) == 1, (Go.bits .and .i64 n 2) == 2) := rfl
theorem speaks09 : Ev (fun k => graverlaw09_speaks.f k) true := by
  refine Ev.congr (fun k => graverlaw09_speaks.f.eq_1 k) ?_
  have hf2 : graverlaw09_formOf.f 2 = some (false, true) := by rw [formOf_is]; decide
  have hf0 : graverlaw09_formOf.f 0 = some (false, false) := by rw [formOf_is]; decide
  refine ev_const hf2 (Ev.bind (relPut_ev false true true 1 2 3 4 ⟨by decide, by decide⟩ ⟨by decide, by decide⟩ ⟨by decide, by decide⟩ ⟨by decide, by decide⟩) ?_)
  refine ev_pos (by decide) (ev_pos (by rw [toList_data]; decide) ?_)
  refine ev_const hf0 (ev_const (relSize_is false false false) (ev_now (by decide)))
end Go.Proofs.Ytjmjebbjfjgbeaa.Q
