/- Records of all kinds, one behind the other in any form, are read again, one behind the other, all bytes: for every input; no condition but the tables of sizes. -/
import Derived.Test.YteoeohkjomehoaaDoorFct
import Derived.Test.YteoeohkjomehoaaDoorQ10
import Derived.Test.YteoeohkjomehoaaDoorQ11
import Derived.Test.YteoeohkjomehoaaDoorQ13
import Derived.Test.YteoeohkjomehoaaDoorQ15
import Derived.Test.YteoeohkjomehoaaDoorQ17
import Derived.Test.YteoeohkjomehoaaDoorQ19
import Derived.Test.YteoeohkjomehoaaDoorQ2
import Derived.Test.YteoeohkjomehoaaDoorQ22
import Derived.Test.YteoeohkjomehoaaDoorQ23
import Derived.Test.YteoeohkjomehoaaDoorQ24
import Derived.Test.YteoeohkjomehoaaDoorQ5
import Derived.Test.YteoeohkjomehoaaDoorQ7
import Derived.Test.YteoeohkjomehoaaDoorQ8
import Derived.Test.YteoeohkjomehoaaDoorQ9
namespace Go.Proofs.YteoeohkjomehoaaDoor.Pure
open Go.RowKit Go.Proofs.YteoeohkjomehoaaDoor.Q Go.Proofs.YteoeohkjomehoaaDoorW.PrintWords Go.Proofs.YteoeohkjomehoaaDoorW.PrintLast Go.Proofs.YteoeohkjomehoaaDoorW.PrintMore Go.Proofs.YteoeohkjomehoaaDoor.Mth
set_option linter.unusedVariables false
set_option linter.unusedSimpArgs false

theorem cut_app (a b : ByteArray) : (a ++ b).extract a.size (a ++ b).size = b := by
  apply ba_ext
  rw [extract_data, append_data, ba_size a, List.drop_left, List.take_of_length_le]
  rw [ba_size, append_data, List.length_append]
  omega
theorem app_nil (a : ByteArray) : a ++ (⟨#[]⟩ : ByteArray) = a := by
  apply ba_ext
  rw [append_data]
  show a.data.toList ++ [] = _
  rw [List.append_nil]
theorem app_assoc (a b c : ByteArray) : a ++ b ++ c = a ++ (b ++ c) := by
  apply ba_ext
  rw [append_data, append_data, append_data, append_data, List.append_assoc]
theorem app_size (a b : ByteArray) : (a ++ b).size = a.size + b.size := ByteArray.size_append
abbrev T3 := S39
def Sm (x : T3) : Prop := (0 ≤ x.f0 ∧ x.f0 < 4294967296) ∧ (0 ≤ x.f1 ∧ x.f1 < 4294967296) ∧ (0 ≤ x.f2 ∧ x.f2 < 4294967296)
theorem okI {x n : Int} (h1 : 1 ≤ n) (h8 : n ≤ 8) (h : x < 256 ^ n.toNat) : okF x n = true := by
  unfold okF
  rw [decide_eq_true h1, decide_eq_true h8, decide_eq_true h]
  rfl
theorem ok4 {x : Int} (h : x < 4294967296) : okF x 4 = true := okI (by omega) (by omega) (by rw [show (256 : Int) ^ (4 : Int).toNat = 4294967296 by decide]; omega)
theorem ok8 {x : Int} (h : x < 4294967296) : okF x 8 = true := okI (by omega) (by omega) (by rw [show (256 : Int) ^ (8 : Int).toNat = 18446744073709551616 by decide]; omega)
theorem ok2 {x : Int} (h : x < 65536) : okF x 2 = true := okI (by omega) (by omega) (by rw [show (256 : Int) ^ (2 : Int).toNat = 65536 by decide]; omega)
theorem ok1 {x : Int} (h : x < 256) : okF x 1 = true := okI (by omega) (by omega) (by rw [show (256 : Int) ^ (1 : Int).toNat = 256 by decide]; omega)
theorem and_low (x : Int) (i : Nat) (hi : i ≤ 32) (h0 : 0 ≤ x) (h1 : x < 4294967296) : Go.bits .and .u64 x ((2 : Int) ^ i - 1) = x % 2 ^ i := by
  have h64 : ∀ n : Int, 0 ≤ n → n < 2 ^ 64 → IntKind.u64.wrap n = n := fun n h0 h1 => wrapu_id h0 (by simpa using h1)
  exact bits_mask .u64 64 (by decide) h64 i (by omega) x h0 (by omega)
theorem and255 (x : Int) (h0 : 0 ≤ x) (h1 : x < 4294967296) : Go.bits .and .u64 x 255 = x % 256 := and_low x 8 (by decide) h0 h1
theorem and64k (x : Int) (h0 : 0 ≤ x) (h1 : x < 4294967296) : Go.bits .and .u64 x 65535 = x % 65536 := and_low x 16 (by decide) h0 h1
/-! ### a record of each kind, put and read -/
def mkB (b : Bool) (A L : List Int) : ByteArray := ⟨(flat b A L).toArray⟩
theorem mkB_size (b : Bool) (A L : List Int) (ha : allF A L = true) (hl : A.length = L.length) : ((mkB b A L).size : Int) = A.sum := by
  rw [← flat_length b A L ha hl, ba_size]
  rfl
theorem shdr_pack (b w : Bool) (f0 f1 f2 f3 f4 f5 f6 f7 f8 f9 : Int) (hu : U64 (shdr_Put.vals w f0 f1 f2 f3 f4 f5 f6 f7 f8 f9)) (ha : allF (full w tab_shdr_sizes) (shdr_Put.vals w f0 f1 f2 f3 f4 f5 f6 f7 f8 f9) = true) :
    ∃ P : ByteArray, (P.size : Int) = shdr_total w ∧ Ev (fun k => shdr_Put.f k b w f0 f1 f2 f3 f4 f5 f6 f7 f8 f9) (P, true) ∧ ∀ rest : ByteArray, rest.size ≤ 100000 → Ev (fun k => shdr_Read.f k b w (P ++ rest)) (f0, f1, f2, f3, f4, f5, f6, f7, f8, f9, true) := by
  have hl : (full w tab_shdr_sizes).length = (shdr_Put.vals w f0 f1 f2 f3 f4 f5 f6 f7 f8 f9).length := by rw [full_length, shdr_len w, shdr_valen]
  have hs := mkB_size b (full w tab_shdr_sizes) (shdr_Put.vals w f0 f1 f2 f3 f4 f5 f6 f7 f8 f9) ha hl
  rw [shdr_sum] at hs
  have ht := shdr_tot w
  refine ⟨_, hs, ?_, fun rest hr => ?_⟩
  · refine ev_eq (shdr_put_ev b w f0 f1 f2 f3 f4 f5 f6 f7 f8 f9 hu) ?_
    unfold recR
    rw [if_pos (by rw [shdr_len w, shdr_valen]), if_pos ha]
    rfl
  · obtain ⟨g0, g1, g2, g3, g4, g5, g6, g7, g8, g9, hev, hv⟩ := shdr_read_long b w (mkB b (full w tab_shdr_sizes) (shdr_Put.vals w f0 f1 f2 f3 f4 f5 f6 f7 f8 f9) ++ rest) (by rw [app_size]; omega) (by rw [app_size]; omega)
    rw [append_data, show (mkB b (full w tab_shdr_sizes) (shdr_Put.vals w f0 f1 f2 f3 f4 f5 f6 f7 f8 f9)).data.toList = flat b (full w tab_shdr_sizes) (shdr_Put.vals w f0 f1 f2 f3 f4 f5 f6 f7 f8 f9) from rfl, nums_flat b _ _ _ (shdr_in8 w) hu hl ha] at hv
    obtain ⟨rfl, rfl, rfl, rfl, rfl, rfl, rfl, rfl, rfl, rfl⟩ := shdr_inj w _ _ _ _ _ _ _ _ _ _ _ _ _ _ _ _ _ _ _ _ hv
    exact hev
theorem phdr_pack (b w : Bool) (f0 f1 f2 f3 f4 f5 f6 f7 : Int) (hu : U64 (phdr_Put.vals w f0 f1 f2 f3 f4 f5 f6 f7)) (ha : allF (full w (phdr_Segment_shape.tab w)) (phdr_Put.vals w f0 f1 f2 f3 f4 f5 f6 f7) = true) :
    ∃ P : ByteArray, (P.size : Int) = phdr_total w ∧ Ev (fun k => phdr_Put.f k b w f0 f1 f2 f3 f4 f5 f6 f7) (P, true) ∧ ∀ rest : ByteArray, rest.size ≤ 100000 → Ev (fun k => phdr_Read.f k b w (P ++ rest)) (f0, f1, f2, f3, f4, f5, f6, f7, true) := by
  have hl : (full w (phdr_Segment_shape.tab w)).length = (phdr_Put.vals w f0 f1 f2 f3 f4 f5 f6 f7).length := by rw [full_length, phdr_len w, phdr_valen]
  have hs := mkB_size b (full w (phdr_Segment_shape.tab w)) (phdr_Put.vals w f0 f1 f2 f3 f4 f5 f6 f7) ha hl
  rw [phdr_sum] at hs
  have ht := phdr_tot w
  refine ⟨_, hs, ?_, fun rest hr => ?_⟩
  · refine ev_eq (phdr_put_ev b w f0 f1 f2 f3 f4 f5 f6 f7 hu) ?_
    unfold recR
    rw [if_pos (by rw [phdr_len w, phdr_valen]), if_pos ha]
    rfl
  · obtain ⟨g0, g1, g2, g3, g4, g5, g6, g7, hev, hv⟩ := phdr_read_long b w (mkB b (full w (phdr_Segment_shape.tab w)) (phdr_Put.vals w f0 f1 f2 f3 f4 f5 f6 f7) ++ rest) (by rw [app_size]; omega) (by rw [app_size]; omega)
    rw [append_data, show (mkB b (full w (phdr_Segment_shape.tab w)) (phdr_Put.vals w f0 f1 f2 f3 f4 f5 f6 f7)).data.toList = flat b (full w (phdr_Segment_shape.tab w)) (phdr_Put.vals w f0 f1 f2 f3 f4 f5 f6 f7) from rfl, nums_flat b _ _ _ (phdr_in8 w) hu hl ha] at hv
    obtain ⟨rfl, rfl, rfl, rfl, rfl, rfl, rfl, rfl⟩ := phdr_inj w _ _ _ _ _ _ _ _ _ _ _ _ _ _ _ _ hv
    exact hev
theorem symrec_pack (b w : Bool) (f0 f1 f2 f3 f4 f5 : Int) (hu : U64 (symrec_Put.vals w f0 f1 f2 f3 f4 f5)) (ha : allF (full w (symrec_Symbol_shape.tab w)) (symrec_Put.vals w f0 f1 f2 f3 f4 f5) = true) :
    ∃ P : ByteArray, (P.size : Int) = symrec_total w ∧ Ev (fun k => symrec_Put.f k b w f0 f1 f2 f3 f4 f5) (P, true) ∧ ∀ rest : ByteArray, rest.size ≤ 100000 → Ev (fun k => symrec_Read.f k b w (P ++ rest)) (f0, f1, f2, f3, f4, f5, true) := by
  have hl : (full w (symrec_Symbol_shape.tab w)).length = (symrec_Put.vals w f0 f1 f2 f3 f4 f5).length := by rw [full_length, symrec_len w, symrec_valen]
  have hs := mkB_size b (full w (symrec_Symbol_shape.tab w)) (symrec_Put.vals w f0 f1 f2 f3 f4 f5) ha hl
  rw [symrec_sum] at hs
  have ht := symrec_tot w
  refine ⟨_, hs, ?_, fun rest hr => ?_⟩
  · refine ev_eq (symrec_put_ev b w f0 f1 f2 f3 f4 f5 hu) ?_
    unfold recR
    rw [if_pos (by rw [symrec_len w, symrec_valen]), if_pos ha]
    rfl
  · obtain ⟨g0, g1, g2, g3, g4, g5, hev, hv⟩ := symrec_read_long b w (mkB b (full w (symrec_Symbol_shape.tab w)) (symrec_Put.vals w f0 f1 f2 f3 f4 f5) ++ rest) (by rw [app_size]; omega) (by rw [app_size]; omega)
    rw [append_data, show (mkB b (full w (symrec_Symbol_shape.tab w)) (symrec_Put.vals w f0 f1 f2 f3 f4 f5)).data.toList = flat b (full w (symrec_Symbol_shape.tab w)) (symrec_Put.vals w f0 f1 f2 f3 f4 f5) from rfl, nums_flat b _ _ _ (symrec_in8 w) hu hl ha] at hv
    obtain ⟨rfl, rfl, rfl, rfl, rfl, rfl⟩ := symrec_inj w _ _ _ _ _ _ _ _ _ _ _ _ hv
    exact hev
theorem relrec_pack (b w : Bool) (f0 f1 f2 f3 : Int) (h0 : u64P f0) (h1 : u64P f1) (h2 : u64P f2) (h3 : u64P f3) (hg : goodR w true f0 f1 f2 f3 = true) :
    ∃ P : ByteArray, (P.size : Int) = (wordsN true : Int) * word w ∧ Ev (fun k => relrec_Put.f k b w true f0 f1 f2 f3) (P, true) ∧ ∀ rest : ByteArray, rest.size ≤ 100000 → Ev (fun k => relrec_Read.f k b w true (P ++ rest)) (f0, f1, f2, f3, true) := by
  have hw := wordN_le w
  obtain ⟨P, hP⟩ : ∃ P : ByteArray, P.data.toList = putL b f0 (wordN w) ++ (putL b (f1 * typeP w + f2) (wordN w) ++ (if true = true then putL b f3 (wordN w) else [])) := ⟨⟨_⟩, mk_list _⟩
  have hs : P.size = 3 * wordN w := by
    rw [ba_size, hP, if_pos rfl, List.length_append, List.length_append, putW_len, putW_len, putW_len]
    omega
  refine ⟨P, by rw [hs, word_nat]; show ((3 * wordN w : Nat) : Int) = (3 : Int) * _; omega, ?_, fun rest hr => ?_⟩
  · refine ev_eq (relPut_ev b w true f0 f1 f2 f3 h0 h1 h2 h3) ?_
    rw [relR_good b w true f0 f1 f2 f3 h1 h2 hg]
    refine Prod.ext (ba_ext ?_) rfl
    rw [mk_list, hP]
  · have := relRead_ev b w true (P ++ rest) (by rw [app_size]; omega) (by show 3 * wordN w ≤ _; rw [app_size]; omega)
    rw [append_data, hP, relOf_put b w true f0 f1 f2 f3 h0 h1 h2 h3 hg rest.data.toList] at this
    exact this
/-! ### the law's records -/
/-- A record of the kind that stands at place i. -/
theorem rec_ev (b w : Bool) (i : Nat) (x : T3) (hx : Sm x) : ∃ P : ByteArray, P.size ≤ 200 ∧ (∀ (L : List T3) (s : ByteArray) (r : Bool), rd_T39 L (i : Int) = x → i < L.length → s.size ≤ 10000 → i < 20 →
      Ev (fun k => gravertop_TopRecords.l0 k L (s ++ P) ((i : Int) + 1) b w) r → Ev (fun k => gravertop_TopRecords.j1 k L s (i : Int) true b w) r) ∧
    (∀ (L : List T3) (B : ByteArray) (r : Bool), rd_T39 L (i : Int) = x → i < L.length → B.size ≤ 10000 → i < 20 →
      Ev (fun k => gravertop_TopRecords.l1 k L B ((i : Int) + 1) b w) r → Ev (fun k => gravertop_TopRecords.j5 k L (P ++ B) (i : Int) true b w) r) := by
  obtain ⟨⟨p0, q0⟩, ⟨p1, q1⟩, p2, q2⟩ := hx
  have w0 : IntKind.u64.wrap x.f0 = x.f0 := wrapu_id p0 (by omega)
  have w1 : IntKind.u64.wrap x.f1 = x.f1 := wrapu_id p1 (by omega)
  have w2 : IntKind.u64.wrap x.f2 = x.f2 := wrapu_id p2 (by omega)
  have ht : Int.tmod (i : Int) 4 = ((i % 4 : Nat) : Int) := by rw [Int.tmod_eq_emod_of_nonneg (by omega)]; omega
  have a1 := and255 x.f1 p1 q1
  have a2 := and255 x.f2 p2 q2
  have b1 := and64k x.f1 p1 q1
  have b2 := and64k x.f2 p2 q2
  have i64 : i < 20 → wrap64 ((i : Int) + 1) = (i : Int) + 1 := fun h => wrap64_id (by omega) (by omega)
  have hm : i % 4 = 0 ∨ i % 4 = 1 ∨ i % 4 = 2 ∨ i % 4 = 3 := by omega
  rcases hm with m | m | m | m
  · obtain ⟨P, hs, hp, hr⟩ := shdr_pack b w x.f0 0 x.f1 0 x.f2 0 0 0 x.f0 0 (by
      intro y hy
      cases w
      all_goals
        simp only [shdr_Put.vals, List.mem_cons, List.not_mem_nil, or_false] at hy
        omega) (by
      cases w
      · show (okF x.f0 4 && (okF 0 4 && (okF x.f1 4 && (okF 0 4 && (okF x.f2 4 && (okF 0 4 && (okF 0 4 && (okF 0 4 && (okF x.f0 4 && (okF 0 4 && true)))))))))) = true
        rw [ok4 q0, ok4 q1, ok4 q2]; decide
      · show (okF x.f0 4 && (okF 0 4 && (okF x.f1 8 && (okF 0 8 && (okF x.f2 8 && (okF 0 8 && (okF 0 4 && (okF 0 4 && (okF x.f0 8 && (okF 0 8 && true)))))))))) = true
        rw [ok4 q0, ok8 q0, ok8 q1, ok8 q2]; decide)
    have htt := shdr_tot w
    refine ⟨P, by omega, fun L s r e hi hsz h20 hgo => ?_, fun L B r e hi hsz h20 hgo => ?_⟩
    · refine Ev.step (gravertop_TopRecords.j1.eq_2 _ _ _ _ _ _) (ev_pos rfl (ev_pos (by omega) (ev_pos (by omega) ?_)))
      rw [e, w0, w1, w2, ht, m]
      refine ev_pos rfl (Ev.bind hp (ev_pos rfl (ev_pos (show s.size + P.size ≤ _ by omega) ?_)))
      rw [i64 h20]
      exact hgo
    · refine Ev.step (gravertop_TopRecords.j5.eq_2 _ _ _ _ _ _) (ev_pos rfl (ev_pos (by omega) (ev_pos (by omega) ?_)))
      rw [e, w0, w1, w2, ht, m]
      refine ev_pos rfl (Ev.bind (hr B (by omega)) (Ev.bind (shdr_size_ev b w) (ev_pos rfl (ev_pos rfl (ev_pos rfl (ev_pos rfl (ev_pos rfl (ev_pos (by omega) (ev_pos (by rw [app_size]; omega) ?_)))))))))
      rw [i64 h20, ← hs, Int.toNat_natCast, cut_app]
      exact hgo
  · obtain ⟨P, hs, hp, hr⟩ := phdr_pack b w x.f0 x.f1 0 x.f2 0 0 0 x.f0 (by
      intro y hy
      cases w
      all_goals
        simp only [phdr_Put.vals, List.mem_cons, List.not_mem_nil, or_false, if_true, if_false, Bool.false_eq_true] at hy
        omega) (by
      cases w
      · show (okF x.f0 4 && (okF 0 4 && (okF x.f2 4 && (okF 0 4 && (okF 0 4 && (okF 0 4 && (okF x.f1 4 && (okF x.f0 4 && true)))))))) = true
        rw [ok4 q0, ok4 q1, ok4 q2]; decide
      · show (okF x.f0 4 && (okF x.f1 4 && (okF 0 8 && (okF x.f2 8 && (okF 0 8 && (okF 0 8 && (okF 0 8 && (okF x.f0 8 && true)))))))) = true
        rw [ok4 q0, ok4 q1, ok8 q0, ok8 q2]; decide)
    have htt := phdr_tot w
    refine ⟨P, by omega, fun L s r e hi hsz h20 hgo => ?_, fun L B r e hi hsz h20 hgo => ?_⟩
    · refine Ev.step (gravertop_TopRecords.j1.eq_2 _ _ _ _ _ _) (ev_pos rfl (ev_pos (by omega) (ev_pos (by omega) ?_)))
      rw [e, w0, w1, w2, ht, m]
      refine ev_neg (by decide) (ev_pos rfl (Ev.bind hp (ev_pos rfl (ev_pos (show s.size + P.size ≤ _ by omega) ?_))))
      rw [i64 h20]
      exact hgo
    · refine Ev.step (gravertop_TopRecords.j5.eq_2 _ _ _ _ _ _) (ev_pos rfl (ev_pos (by omega) (ev_pos (by omega) ?_)))
      rw [e, w0, w1, w2, ht, m]
      refine ev_neg (by decide) (ev_pos rfl (Ev.bind (hr B (by omega)) (Ev.bind (phdr_size_ev b w) (ev_pos rfl (ev_pos rfl (ev_pos rfl (ev_pos rfl (ev_pos rfl (ev_pos (by omega) (ev_pos (by rw [app_size]; omega) ?_))))))))))
      rw [i64 h20, ← hs, Int.toNat_natCast, cut_app]
      exact hgo
  · obtain ⟨P, hs, hp, hr⟩ := symrec_pack b w x.f0 (x.f1 % 256) 0 (x.f2 % 65536) x.f2 0 (by
      intro y hy
      cases w
      all_goals
        simp only [symrec_Put.vals, List.mem_cons, List.not_mem_nil, or_false, if_true, if_false, Bool.false_eq_true] at hy
        omega) (by
      have k1 : x.f1 % 256 < 256 := by omega
      have k2 : x.f2 % 65536 < 65536 := by omega
      cases w
      · show (okF x.f0 4 && (okF x.f2 4 && (okF 0 4 && (okF (x.f1 % 256) 1 && (okF 0 1 && (okF (x.f2 % 65536) 2 && true)))))) = true
        rw [ok4 q0, ok4 q2, ok1 k1, ok2 k2]; decide
      · show (okF x.f0 4 && (okF (x.f1 % 256) 1 && (okF 0 1 && (okF (x.f2 % 65536) 2 && (okF x.f2 8 && (okF 0 8 && true)))))) = true
        rw [ok4 q0, ok8 q2, ok1 k1, ok2 k2]; decide)
    have htt := symrec_tot w
    refine ⟨P, by omega, fun L s r e hi hsz h20 hgo => ?_, fun L B r e hi hsz h20 hgo => ?_⟩
    · refine Ev.step (gravertop_TopRecords.j1.eq_2 _ _ _ _ _ _) (ev_pos rfl (ev_pos (by omega) (ev_pos (by omega) ?_)))
      rw [e, w0, w1, w2, ht, m, a1, b2]
      refine ev_neg (by decide) (ev_neg (by decide) (ev_pos rfl (Ev.bind hp (ev_pos rfl (ev_pos (show s.size + P.size ≤ _ by omega) ?_)))))
      rw [i64 h20]
      exact hgo
    · refine Ev.step (gravertop_TopRecords.j5.eq_2 _ _ _ _ _ _) (ev_pos rfl (ev_pos (by omega) (ev_pos (by omega) ?_)))
      rw [e, w0, w1, w2, ht, m, a1, b2]
      refine ev_neg (by decide) (ev_neg (by decide) (ev_pos rfl (Ev.bind (hr B (by omega)) (Ev.bind (symrec_size_ev b w) (ev_pos rfl (ev_pos rfl (ev_pos rfl (ev_pos rfl (ev_pos (by omega) (ev_pos (by rw [app_size]; omega) ?_))))))))))
      rw [i64 h20, ← hs, Int.toNat_natCast, cut_app]
      exact hgo
  · obtain ⟨P, hs, hp, hr⟩ := relrec_pack b w x.f0 (x.f1 % 65536) (x.f2 % 256) x.f1 ⟨p0, by omega⟩ ⟨by omega, by omega⟩ ⟨by omega, by omega⟩ ⟨p1, by omega⟩ ((good_iff w true _ _ _ _).2 (by
      rw [pow_word]
      unfold typeP symQ
      cases w
      · exact ⟨q0, q1, by show x.f2 % 256 < 256; omega, by show x.f1 % 65536 < 16777216; omega, Or.inl rfl⟩
      · exact ⟨by show x.f0 < 18446744073709551616; omega, by show x.f1 < 18446744073709551616; omega, by show x.f2 % 256 < 4294967296; omega, by show x.f1 % 65536 < 4294967296; omega, Or.inl rfl⟩))
    have htt : 0 ≤ (wordsN true : Int) * word w ∧ (wordsN true : Int) * word w ≤ 24 := by cases w <;> decide
    refine ⟨P, by omega, fun L s r e hi hsz h20 hgo => ?_, fun L B r e hi hsz h20 hgo => ?_⟩
    · refine Ev.step (gravertop_TopRecords.j1.eq_2 _ _ _ _ _ _) (ev_pos rfl (ev_pos (by omega) (ev_pos (by omega) ?_)))
      rw [e, w0, w1, w2, ht, m, a2, b1]
      refine ev_neg (by decide) (ev_neg (by decide) (ev_neg (by decide) (Ev.bind hp (ev_pos rfl (ev_pos (show s.size + P.size ≤ _ by omega) ?_)))))
      rw [i64 h20]
      exact hgo
    · refine Ev.step (gravertop_TopRecords.j5.eq_2 _ _ _ _ _ _) (ev_pos rfl (ev_pos (by omega) (ev_pos (by omega) ?_)))
      rw [e, w0, w1, w2, ht, m, a2, b1]
      refine ev_neg (by decide) (ev_neg (by decide) (ev_neg (by decide) (Ev.bind (hr B (by omega)) (ev_const (relSize_is b w true) (ev_pos rfl (ev_pos rfl (ev_pos rfl (ev_pos rfl (ev_pos (by omega) (ev_pos (by rw [app_size]; omega) ?_))))))))))
      rw [i64 h20, ← hs, Int.toNat_natCast, cut_app]
      exact hgo
theorem rd_at39 (pre : List T3) (x : T3) (rest : List T3) : rd_T39 (pre ++ x :: rest) (pre.length : Int) = x := by
  unfold rd_T39
  simp
/-- From place i on: what is put there, and that it is read there. -/
theorem loops (b w : Bool) (L : List T3) (hL : L.length < 9000000000000000000) (hx : ∀ x ∈ L, Sm x) : ∀ (rest pre : List T3), L = pre ++ rest → pre.length ≤ 12 → ∃ B : ByteArray, B.size ≤ 200 * (12 - pre.length) ∧
    (∀ (s : ByteArray) (r : Bool), s.size ≤ 1000 + 200 * pre.length → (∀ i : Int, Ev (fun k => gravertop_TopRecords.j1 k L (s ++ B) i false b w) r) → Ev (fun k => gravertop_TopRecords.l0 k L s (pre.length : Int) b w) r) ∧
    Ev (fun k => gravertop_TopRecords.l1 k L B (pre.length : Int) b w) true := by
  have fin : ∀ i : Int, Ev (fun k => gravertop_TopRecords.j5 k L (⟨#[]⟩ : ByteArray) i false b w) true := fun i => by
    refine Ev.step (gravertop_TopRecords.j5.eq_2 _ _ _ _ _ _) (ev_neg (by decide) (ev_now ?_))
    rw [toList_data]
    rfl
  intro rest
  induction rest with
  | nil =>
    intro pre h hp
    refine ⟨⟨#[]⟩, Nat.zero_le _, fun s r hs hT => ?_, ?_⟩
    · rw [app_nil] at hT
      exact Ev.step (gravertop_TopRecords.l0.eq_2 _ _ _ _ _) (ev_neg (by rw [h]; simp) (hT _))
    · exact Ev.step (gravertop_TopRecords.l1.eq_2 _ _ _ _ _) (ev_neg (by rw [h]; simp) (fin _))
  | cons x rest ih =>
    intro pre h hp
    have hll : L.length = pre.length + rest.length + 1 := by rw [h]; simp; omega
    by_cases c : pre.length < 12
    · have e1 : rd_T39 L (pre.length : Int) = x := by rw [h]; exact rd_at39 pre x rest
      obtain ⟨P, hP, k1, k2⟩ := rec_ev b w pre.length x (hx x (by rw [h]; simp))
      obtain ⟨B, hB, i1, i2⟩ := ih (pre ++ [x]) (by rw [h]; simp) (by simp; omega)
      rw [List.length_append, List.length_singleton] at hB i1 i2
      refine ⟨P ++ B, by rw [app_size]; omega, fun s r hs hT => ?_, ?_⟩
      · refine Ev.step (gravertop_TopRecords.l0.eq_2 _ _ _ _ _) (ev_pos (by omega) ?_)
        rw [decide_eq_true (show (pre.length : Int) < 12 by omega)]
        refine k1 L s r e1 (by omega) (by omega) (by omega) (i1 (s ++ P) r (by rw [app_size]; omega) fun i => ?_)
        rw [app_assoc]
        exact hT i
      · refine Ev.step (gravertop_TopRecords.l1.eq_2 _ _ _ _ _) (ev_pos (by omega) ?_)
        rw [decide_eq_true (show (pre.length : Int) < 12 by omega)]
        exact k2 L B true e1 (by omega) (by omega) (by omega) i2
    · refine ⟨⟨#[]⟩, Nat.zero_le _, fun s r hs hT => ?_, ?_⟩
      · rw [app_nil] at hT
        refine Ev.step (gravertop_TopRecords.l0.eq_2 _ _ _ _ _) (ev_pos (by omega) ?_)
        rw [decide_eq_false (show ¬ (pre.length : Int) < 12 by omega)]
        exact hT _
      · refine Ev.step (gravertop_TopRecords.l1.eq_2 _ _ _ _ _) (ev_pos (by omega) ?_)
        rw [decide_eq_false (show ¬ (pre.length : Int) < 12 by omega)]
        exact fin _
/-! ### the header -/
theorem ehdr_pack (b w : Bool) : ∃ P : ByteArray, (P.size : Int) = ehdr_total w ∧ Ev (fun k => ehdr_Put.f k b w 0 0 1 0 0 0 0 (esOf w) (peOf w) 0 (seOf w) 0 0) (P, true) ∧ ∀ rest : ByteArray, rest.size ≤ 100000 → Ev (fun k => ehdr_Read.f k b w (P ++ rest)) (0, 0, 1, 0, 0, 0, 0, esOf w, peOf w, 0, seOf w, 0, 0, true) := by
  have hu : U64 (ehdr_Put.vals w 0 0 1 0 0 0 0 (esOf w) (peOf w) 0 (seOf w) 0 0) := by unfold U64; cases w <;> decide
  have ha : allF (full w tab_ehdr_sizes) (ehdr_Put.vals w 0 0 1 0 0 0 0 (esOf w) (peOf w) 0 (seOf w) 0 0) = true := by cases w <;> decide +kernel
  have hl : (full w tab_ehdr_sizes).length = (ehdr_Put.vals w 0 0 1 0 0 0 0 (esOf w) (peOf w) 0 (seOf w) 0 0).length := by rw [full_length, ehdr_len w, ehdr_valen]
  have hs := mkB_size b (full w tab_ehdr_sizes) (ehdr_Put.vals w 0 0 1 0 0 0 0 (esOf w) (peOf w) 0 (seOf w) 0 0) ha hl
  rw [ehdr_sum] at hs
  have ht := ehdr_tot w
  refine ⟨_, hs, ?_, fun rest hr => ?_⟩
  · refine ev_eq (ehdr_put_ev b w 0 0 1 0 0 0 0 (esOf w) (peOf w) 0 (seOf w) 0 0 hu) ?_
    unfold recR
    rw [if_pos (by rw [ehdr_len w, ehdr_valen]), if_pos ha]
    rfl
  · obtain ⟨g0, g1, g2, g3, g4, g5, g6, g7, g8, g9, g10, g11, g12, hev, hv⟩ := ehdr_read_long b w (mkB b (full w tab_ehdr_sizes) (ehdr_Put.vals w 0 0 1 0 0 0 0 (esOf w) (peOf w) 0 (seOf w) 0 0) ++ rest) (by rw [app_size]; omega) (by rw [app_size]; omega)
    rw [append_data, show (mkB b (full w tab_ehdr_sizes) (ehdr_Put.vals w 0 0 1 0 0 0 0 (esOf w) (peOf w) 0 (seOf w) 0 0)).data.toList = flat b (full w tab_ehdr_sizes) (ehdr_Put.vals w 0 0 1 0 0 0 0 (esOf w) (peOf w) 0 (seOf w) 0 0) from rfl, nums_flat b _ _ _ (ehdr_in8 w) hu hl ha] at hv
    obtain ⟨h0, h1, h2, h3, h4, h5, h6, h7, h8, h9, h10, h11, h12⟩ := ehdr_inj w _ _ _ _ _ _ _ _ _ _ _ _ _ _ _ _ _ _ _ _ _ _ _ _ _ _ hv
    rw [h0, h1, h2, h3, h4, h5, h6, h7, h8, h9, h10, h11, h12] at hev
    exact hev
theorem top_ev (b w : Bool) (L : List T3) (hL : L.length < 9000000000000000000) (hx : ∀ x ∈ L, Sm x) : Ev (fun k => (class_Ident_Bytes.f b w 0 0 (⟨#[]⟩ : ByteArray)).bind fun t254 => ((ehdr_Plain.f k b w).bind fun bt255 => ((ehdr_Put.f k b w bt255.1 bt255.2.1 bt255.2.2.1 bt255.2.2.2.1 bt255.2.2.2.2.1 bt255.2.2.2.2.2.1 bt255.2.2.2.2.2.2.1 bt255.2.2.2.2.2.2.2.1 bt255.2.2.2.2.2.2.2.2.1 bt255.2.2.2.2.2.2.2.2.2.1 bt255.2.2.2.2.2.2.2.2.2.2.1 bt255.2.2.2.2.2.2.2.2.2.2.2.1 bt255.2.2.2.2.2.2.2.2.2.2.2.2).bind fun bt268 => (if t254.size + bt268.1.size ≤ 9223372036854775807 then (gravertop_TopRecords.l0 k L (t254 ++ bt268.1) 0 b w) else (none))))) true := by
  obtain ⟨P, hP, hput, hread⟩ := ehdr_pack b w
  have ht := ehdr_tot w
  obtain ⟨B, hB, h1, h2⟩ := loops b w L hL hx L [] rfl (Nat.zero_le _)
  have hid := ident_is b w 0 0 ⟨#[]⟩ (by show (0 : Nat) ≤ _; omega)
  obtain ⟨I, hI⟩ : ∃ I : ByteArray, I = ⟨(identL b w 0 0 (⟨#[]⟩ : ByteArray).data.toList).toArray⟩ := ⟨_, rfl⟩
  rw [← hI] at hid
  have hIl : I.data.toList = [127, 69, 76, 70, twoB w, twoB b, 1, 0, 0, 0, 0, 0, 0, 0, 0, 0] := by rw [hI, mk_list]; cases b <;> cases w <;> rfl
  have hIs : I.size = 16 := by rw [ba_size, hIl]; rfl
  refine ev_const hid (Ev.bind (plain_ev b w) (Ev.bind hput (ev_pos (show I.size + P.size ≤ _ by omega) (h1 (I ++ P) true (by rw [app_size]; omega) fun i => ?_))))
  refine Ev.step (gravertop_TopRecords.j1.eq_2 _ _ _ _ _ _) (ev_neg (by decide) ?_)
  have hs : (I ++ P ++ B).data.toList = 127 :: 69 :: 76 :: 70 :: twoB w :: twoB b :: 1 :: 0 :: 0 :: ([0, 0, 0, 0, 0, 0, 0] ++ (P ++ B).data.toList) := by rw [app_assoc, append_data, hIl]; rfl
  have hrd := read_is (I ++ P ++ B) _ _ _ _ _ _ _ _ _ _ hs (by simp)
  refine ev_const hrd (ev_pos (by cases b <;> cases w <;> rfl) ?_)
  have hz : ((!((readV (twoB w) (twoB b) 1 0 0 [127, 69, 76, 70] ([0, 0, 0, 0, 0, 0, 0] ++ (P ++ B).data.toList)).1 == b)) || (!((readV (twoB w) (twoB b) 1 0 0 [127, 69, 76, 70] ([0, 0, 0, 0, 0, 0, 0] ++ (P ++ B).data.toList)).2.1 == w))) = false := by cases b <;> cases w <;> rfl
  rw [hz]
  have hcut : (I ++ P ++ B).extract 16 (I ++ P ++ B).size = P ++ B := by
    have := cut_app I (P ++ B)
    rw [hIs, ← app_assoc] at this
    exact this
  have hsz : (I ++ P ++ B).size = 16 + P.size + B.size := by rw [app_size, app_size, hIs]
  refine Ev.step (gravertop_TopRecords.j2.eq_2 _ _ _ _ _) (ev_neg (by decide) (ev_pos (by omega) ?_))
  rw [hcut]
  refine Ev.bind (hread B (by omega)) (ev_pos rfl (Ev.bind (check_ev b w _ _ _ _ _ _ _ _ _ _ _ _ _) ?_))
  rw [show (chkOf w 1 0 0 (esOf w) (peOf w) (seOf w) != 0) = false by cases w <;> decide]
  refine Ev.step (gravertop_TopRecords.j3.eq_2 _ _ _ _ _) (ev_neg (by decide) (Ev.bind (ehdr_size_ev b w) ?_))
  rw [wrap64_id (n := 16 + ehdr_total w) (by omega) (by omega)]
  refine ev_pos (by omega) (ev_pos (by omega) ?_)
  have hcut2 : (I ++ P ++ B).extract (16 + ehdr_total w).toNat (I ++ P ++ B).size = B := by
    have := cut_app (I ++ P) B
    rw [app_size, hIs] at this
    rw [show (16 + ehdr_total w).toNat = 16 + P.size by omega]
    exact this
  rw [hcut2]
  exact h2
theorem records_ok : Ev (fun k => gravertop_records.f k) true := Ev.of gravertop_records.mono (k := 60) (by decide +kernel)
theorem wf_u32 {n : Int} (h : (Lit.int .u32 n).wf = true) : 0 ≤ n ∧ n < 4294967296 := by
  simp [Lit.wf, IntKind.min, IntKind.max, IntKind.signed, IntKind.bits] at h
  omega
theorem TopRecords : gravertop_TopRecords.Pure := by
  intro a0 L ha hL hw
  refine Ev.rounds (Ev.congr (fun k => gravertop_TopRecords.f.eq_1 k a0 L) ?_)
  obtain ⟨b, w, hf⟩ : ∃ b w, gravertop_formOf.f a0 = some (b, w) := ⟨_, _, rfl⟩
  refine Ev.bind records_ok (ev_pos rfl (ev_const hf ?_))
  exact top_ev b w L (by omega) fun x hx => by
    obtain ⟨h0, h1, h2⟩ := hw x hx
    exact ⟨wf_u32 h0, wf_u32 h1, wf_u32 h2⟩
end Go.Proofs.YteoeohkjomehoaaDoor.Pure
