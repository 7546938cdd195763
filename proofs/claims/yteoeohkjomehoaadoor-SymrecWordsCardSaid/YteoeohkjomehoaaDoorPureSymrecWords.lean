/- The names of bindings, kinds and places; two numbers never have the same: for every input; no condition but the tables. -/
import Derived.Test.YteoeohkjomehoaaDoorWds
import Derived.Test.YteoeohkjomehoaaDoorQ10
import Derived.Test.YteoeohkjomehoaaDoorQ7
import Derived.Test.YteoeohkjomehoaaDoorQ8
import Derived.Test.YteoeohkjomehoaaDoorQ9
namespace Go.Proofs.YteoeohkjomehoaaDoor.Pure
open Go.RowKit Go.Proofs.YteoeohkjomehoaaDoor.Q Go.Proofs.YteoeohkjomehoaaDoorW.PrintWords Go.Proofs.YteoeohkjomehoaaDoorW.PrintLast Go.Proofs.YteoeohkjomehoaaDoorW.PrintMore Go.Proofs.YteoeohkjomehoaaDoor.Mth
set_option linter.unusedVariables false
set_option linter.unusedSimpArgs false

theorem speaks08 : Ev (fun k => graverlaw08_speaks.f k) true := Ev.of graverlaw08_speaks.mono (k := 40) (by decide +kernel)
abbrev nB := nm tabS_symrec_bindings Lib.decDigits
abbrev nK := nm tabS_symrec_kinds Lib.decDigits
theorem namesB : Names tabS_symrec_bindings Lib.decDigits where
  inj := Fmt.dec_inj
  no := fun i hi => no_dec ((by decide : ∀ i, i < 3 → ((tabS_symrec_bindings.getD i ByteArray.empty).data.toList.any fun c => decide (58 ≤ c.toNat)) = true) i hi)
  one := by have h : ∀ i, i < 3 → ∀ j, j < 3 → (tabS_symrec_bindings.getD i ByteArray.empty).data.toList = (tabS_symrec_bindings.getD j ByteArray.empty).data.toList → i = j := by decide
            exact fun i j hi hj => h i hi j hj
theorem namesK : Names tabS_symrec_kinds Lib.decDigits where
  inj := Fmt.dec_inj
  no := fun i hi => no_dec ((by decide : ∀ i, i < 7 → ((tabS_symrec_kinds.getD i ByteArray.empty).data.toList.any fun c => decide (58 ≤ c.toNat)) = true) i hi)
  one := by have h : ∀ i, i < 7 → ∀ j, j < 7 → (tabS_symrec_kinds.getD i ByteArray.empty).data.toList = (tabS_symrec_kinds.getD j ByteArray.empty).data.toList → i = j := by decide
            exact fun i j hi hj => h i hi j hj
theorem fmt10 {a : Int} (h0 : 0 ≤ a) (h1 : a < 18446744073709551616) : strconv_FormatUint.f a 10 = some ⟨(Lib.decDigits a.toNat).toArray⟩ := by
  unfold strconv_FormatUint.f
  rw [if_pos ⟨h0, h1, Or.inl rfl⟩]
  rfl
theorem named_eq (tab : List ByteArray) (hl : tab.length < 100) {a : Int} (h0 : 0 ≤ a) (h1 : a < 18446744073709551616) : symrec_named.f a tab = some ⟨(nm tab Lib.decDigits a).toArray⟩ := by
  unfold symrec_named.f
  rw [wrapu_id (by omega) (by omega)]
  by_cases c : a < (tab.length : Int)
  · rw [if_pos c, if_pos h0, if_pos c, nm_in c, mk_same]
  · rw [if_neg c, nm_out c, fmt10 h0 h1]; rfl
def place (a : Int) : List UInt8 := if a = 0 then [85, 78, 68] else if a = 65521 then [65, 66, 83] else if a = 65522 then [67, 79, 77] else Lib.decDigits a.toNat
theorem place_eq {a : Int} (h0 : 0 ≤ a) (h1 : a < 18446744073709551616) : symrec_PlaceName.f a = some ⟨(place a).toArray⟩ := by
  unfold symrec_PlaceName.f place
  by_cases c : a = 0
  · rw [if_pos c, if_pos c]
  · rw [if_neg c, if_neg c]
    by_cases c : a = 65521
    · rw [if_pos c, if_pos c]
    · rw [if_neg c, if_neg c]
      by_cases c : a = 65522
      · rw [if_pos c, if_pos c]
      · rw [if_neg c, if_neg c, fmt10 h0 h1]; rfl
theorem place_und (a : Int) : place a = [85, 78, 68] ↔ a = 0 := by
  unfold place
  by_cases c : a = 0
  · simp [c]
  · rw [if_neg c]
    split
    · simp [c]
    · split
      · simp [c]
      · exact ⟨fun h => absurd h.symm (no_dec (by decide) _), fun h => absurd h c⟩
theorem place_abs (a : Int) : place a = [65, 66, 83] ↔ a = 65521 := by
  unfold place
  split
  · rename_i c; subst c; simp
  · split
    · rename_i c; simp [c]
    · rename_i c; split
      · rename_i c2; subst c2; simp
      · exact ⟨fun h => absurd h.symm (no_dec (by decide) _), fun h => absurd h c⟩
theorem place_com (a : Int) : place a = [67, 79, 77] ↔ a = 65522 := by
  unfold place
  split
  · rename_i c; subst c; simp
  · split
    · rename_i c; subst c; simp
    · split
      · rename_i c; simp [c]
      · rename_i c; exact ⟨fun h => absurd h.symm (no_dec (by decide) _), fun h => absurd h c⟩
theorem place_same {a b : Int} (ha : 0 ≤ a) (hb : 0 ≤ b) : place a = place b ↔ a = b := by
  constructor
  · intro h
    by_cases a0 : a = 0
    · rw [(place_und a).2 a0] at h; rw [a0, (place_und b).1 h.symm]
    · by_cases a1 : a = 65521
      · rw [(place_abs a).2 a1] at h; rw [a1, (place_abs b).1 h.symm]
      · by_cases a2 : a = 65522
        · rw [(place_com a).2 a2] at h; rw [a2, (place_com b).1 h.symm]
        · have b0 : b ≠ 0 := fun e => a0 ((place_und a).1 (h.trans ((place_und b).2 e)))
          have b1 : b ≠ 65521 := fun e => a1 ((place_abs a).1 (h.trans ((place_abs b).2 e)))
          have b2 : b ≠ 65522 := fun e => a2 ((place_com a).1 (h.trans ((place_com b).2 e)))
          unfold place at h
          rw [if_neg a0, if_neg a1, if_neg a2, if_neg b0, if_neg b1, if_neg b2] at h
          have := Fmt.dec_inj _ _ h
          omega
  · rintro rfl; rfl
theorem words_end {a b : Int} (a0 : 0 ≤ a) (a1 : a < 18446744073709551616) (b0 : 0 ≤ b) (b1 : b < 18446744073709551616) :
    Ev (fun k => graverlaw08_SymrecWords.j0 k a b ⟨(nB a).toArray⟩ ⟨(nK a).toArray⟩ ⟨(place a).toArray⟩ false) true := by
  have last : Ev (fun _ => if a < 7 then some true else some ((⟨(nB a).toArray⟩ : ByteArray).toList == (⟨(nK a).toArray⟩ : ByteArray).toList)) true := by
    by_cases c : a < 7
    · exact ev_pos c (ev_now rfl)
    · refine ev_neg c (ev_now ?_)
      rw [mk_toList, mk_toList]
      show (nm tabS_symrec_bindings Lib.decDigits a == nm tabS_symrec_kinds Lib.decDigits a) = true
      rw [nm_out (tab := tabS_symrec_bindings) (by show ¬ a < ((3 : Nat) : Int); omega), nm_out (tab := tabS_symrec_kinds) (by show ¬ a < ((7 : Nat) : Int); omega)]
      simp
  refine Ev.step (graverlaw08_SymrecWords.j0.eq_2 _ _ _ _ _ _) (ev_neg (by decide) (ev_const (named_eq _ (by decide) b0 b1) ?_))
  simp only [mk_toList]
  by_cases c : a = b
  · subst c
    refine ev_pos rfl (ev_pos rfl (ev_const (named_eq _ (by decide) a0 a1) (ev_pos (mk_toList _).symm (ev_const (place_eq a0 a1) (ev_pos (mk_toList _).symm ?_)))))
    simpa only [mk_toList] using last
  · refine ev_neg (fun h => c ((namesB.same a0 b0).1 h)) (ev_neg c (ev_const (named_eq _ (by decide) b0 b1) (ev_neg (fun h => c ((namesK.same a0 b0).1 (h.trans (mk_toList _)))) (ev_const (place_eq b0 b1) (ev_neg (fun h => c ((place_same a0 b0).1 (h.trans (mk_toList _)))) ?_)))))
    simpa only [mk_toList] using last
theorem SymrecWords : graverlaw08_SymrecWords.Pure := by
  intro a b wa wb
  obtain ⟨a0, a1⟩ := wf_u64 wa
  obtain ⟨b0, b1⟩ := wf_u64 wb
  have J := words_end a0 a1 b0 b1
  refine Ev.rounds (Ev.congr (fun k => graverlaw08_SymrecWords.f.eq_1 k a b) ?_)
  refine Ev.bind speaks08 (ev_pos rfl (ev_const rfl (ev_const rfl (ev_const (named_eq tabS_symrec_bindings (by decide) a0 a1) (ev_const (named_eq tabS_symrec_kinds (by decide) a0 a1) (ev_const (place_eq a0 a1) ?_))))))
  have hU : (⟨(place a).toArray⟩ : ByteArray).toList = [85, 78, 68] ↔ a = 0 := by rw [mk_toList]; exact place_und a
  have hA : (⟨(place a).toArray⟩ : ByteArray).toList = [65, 66, 83] ↔ a = 65521 := by rw [mk_toList]; exact place_abs a
  have hC : ((⟨(place a).toArray⟩ : ByteArray).toList == [67, 79, 77]) = decide (a = 65522) := by rw [mk_toList, Bool.eq_iff_iff, beq_iff_eq, place_com, decide_eq_true_iff]
  have hB : a < 3 → (⟨(nB a).toArray⟩ : ByteArray).toList = (rdOf ByteArray.empty tabS_symrec_bindings a).toList := fun h => by rw [mk_toList, toList_data]; exact nm_in (by show a < ((3 : Nat) : Int); omega)
  have hK : a < 7 → (⟨(nK a).toArray⟩ : ByteArray).toList = (rdOf ByteArray.empty tabS_symrec_kinds a).toList := fun h => by rw [mk_toList, toList_data]; exact nm_in (by show a < ((7 : Nat) : Int); omega)
  generalize (⟨(nB a).toArray⟩ : ByteArray) = t1 at *
  generalize (⟨(nK a).toArray⟩ : ByteArray) = t2 at *
  generalize (⟨(place a).toArray⟩ : ByteArray) = t3 at *
  have rest : Ev (fun k => if a = 0 then (if t3.toList = ([85, 78, 68] : List UInt8) then (if a = 65521 then (if t3.toList = ([65, 66, 83] : List UInt8) then (if a = 65522 then (graverlaw08_SymrecWords.j0 k a b t1 t2 t3 (!(t3.toList == ([67, 79, 77] : List UInt8)))) else (graverlaw08_SymrecWords.j0 k a b t1 t2 t3 (t3.toList == ([67, 79, 77] : List UInt8)))) else (graverlaw08_SymrecWords.j0 k a b t1 t2 t3 true)) else (if t3.toList = ([65, 66, 83] : List UInt8) then (graverlaw08_SymrecWords.j0 k a b t1 t2 t3 true) else (if a = 65522 then (graverlaw08_SymrecWords.j0 k a b t1 t2 t3 (!(t3.toList == ([67, 79, 77] : List UInt8)))) else (graverlaw08_SymrecWords.j0 k a b t1 t2 t3 (t3.toList == ([67, 79, 77] : List UInt8)))))) else (graverlaw08_SymrecWords.j0 k a b t1 t2 t3 true)) else (if t3.toList = ([85, 78, 68] : List UInt8) then (graverlaw08_SymrecWords.j0 k a b t1 t2 t3 true) else (if a = 65521 then (if t3.toList = ([65, 66, 83] : List UInt8) then (if a = 65522 then (graverlaw08_SymrecWords.j0 k a b t1 t2 t3 (!(t3.toList == ([67, 79, 77] : List UInt8)))) else (graverlaw08_SymrecWords.j0 k a b t1 t2 t3 (t3.toList == ([67, 79, 77] : List UInt8)))) else (graverlaw08_SymrecWords.j0 k a b t1 t2 t3 true)) else (if t3.toList = ([65, 66, 83] : List UInt8) then (graverlaw08_SymrecWords.j0 k a b t1 t2 t3 true) else (if a = 65522 then (graverlaw08_SymrecWords.j0 k a b t1 t2 t3 (!(t3.toList == ([67, 79, 77] : List UInt8)))) else (graverlaw08_SymrecWords.j0 k a b t1 t2 t3 (t3.toList == ([67, 79, 77] : List UInt8)))))))) true := by
    rw [hC]
    by_cases c0 : a = 0
    · exact ev_pos c0 (ev_pos (hU.2 c0) (ev_neg (by omega) (ev_neg (fun h => by have := hA.1 h; omega) (ev_neg (by omega) (by rw [decide_eq_false (show ¬ a = 65522 by omega)]; exact J)))))
    · refine ev_neg c0 (ev_neg (fun h => c0 (hU.1 h)) ?_)
      by_cases c1 : a = 65521
      · exact ev_pos c1 (ev_pos (hA.2 c1) (ev_neg (by omega) (by rw [decide_eq_false (show ¬ a = 65522 by omega)]; exact J)))
      · refine ev_neg c1 (ev_neg (fun h => c1 (hA.1 h)) ?_)
        by_cases c2 : a = 65522
        · exact ev_pos c2 (by rw [decide_eq_true c2]; exact J)
        · exact ev_neg c2 (by rw [decide_eq_false c2]; exact J)
  by_cases d3 : a < 3
  · exact ev_pos d3 (ev_pos a0 (ev_pos (by show a < ((3 : Nat) : Int); omega) (ev_pos (hB d3) (ev_pos (by omega) (ev_pos (by show a < ((7 : Nat) : Int); omega) (ev_pos (hK (by omega)) rest))))))
  · refine ev_neg d3 ?_
    by_cases d7 : a < 7
    · exact ev_pos d7 (ev_pos a0 (ev_pos (by show a < ((7 : Nat) : Int); omega) (ev_pos (hK d7) rest)))
    · exact ev_neg d7 rest
end Go.Proofs.YteoeohkjomehoaaDoor.Pure
