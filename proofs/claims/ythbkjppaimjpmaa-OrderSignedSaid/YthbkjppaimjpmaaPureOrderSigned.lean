/- Any bytes are read as the number below 0 just where their highest bit is set, and bytes that are swapped twice are as they were: for every input; no condition. -/
import Derived.Test.YthbkjppaimjpmaaOrd
import Derived.Test.YthbkjppaimjpmaaQ10
import Derived.Test.YthbkjppaimjpmaaQ8
import Derived.Test.YthbkjppaimjpmaaQ9
namespace Go.Proofs.Ythbkjppaimjpmaa.Pure
open Go.RowKit Go.Proofs.Ythbkjppaimjpmaa.Q Go.Proofs.YthbkjppaimjpmaaW.PrintWords Go.Proofs.YthbkjppaimjpmaaW.PrintLast Go.Proofs.YthbkjppaimjpmaaW.PrintMore Go.Proofs.Ythbkjppaimjpmaa.Mth
set_option linter.unusedVariables false
set_option linter.unusedSimpArgs false

/-- The number of so many bytes, below 0 where its highest bit is set. -/
def sgn (u : Int) (n : Nat) : Int := if 256 ^ n ≤ 2 * u then u - 256 ^ n else u
theorem pow_split (n : Nat) (h8 : n ≤ 8) : (256 : Int) ^ n * 2 ^ (8 * (8 - n)) = 18446744073709551616 := by
  have : n = 0 ∨ n = 1 ∨ n = 2 ∨ n = 3 ∨ n = 4 ∨ n = 5 ∨ n = 6 ∨ n = 7 ∨ n = 8 := by omega
  rcases this with rfl | rfl | rfl | rfl | rfl | rfl | rfl | rfl | rfl <;> decide
theorem shift_sgn (u p q : Int) (hq : 0 < q) (hpq : p * q = 18446744073709551616) (h0 : 0 ≤ u) (hu : u < p) : (wrap64 (u * q)) / q = if p ≤ 2 * u then u - p else u := by
  have h1 : 0 ≤ u * q := Int.mul_nonneg h0 (by omega)
  have h2 : u * q < p * q := Int.mul_lt_mul_of_pos_right hu hq
  have h3 : 2 * u * q = 2 * (u * q) := Int.mul_assoc _ _ _
  split
  · rename_i h
    have h4 : p * q ≤ 2 * u * q := Int.mul_le_mul_of_nonneg_right h (by omega)
    have : wrap64 (u * q) = (u - p) * q := by
      rw [Int.sub_mul]
      unfold wrap64
      omega
    rw [this, Int.mul_ediv_cancel _ (by omega)]
  · rename_i h
    have h4 : (2 * u) * q < p * q := Int.mul_lt_mul_of_pos_right (by omega) hq
    have : wrap64 (u * q) = u * q := by
      unfold wrap64
      omega
    rw [this, Int.mul_ediv_cancel _ (by omega)]
theorem signed_ev (big : Bool) (s : ByteArray) (h8 : s.size ≤ 8) : Ev (fun k => order_Order_Signed.f k big s) (sgn (getS big s) s.size) := by
  have hl : s.data.toList.length = s.size := data_length s
  refine Ev.congr (fun k => order_Order_Signed.f.eq_1 k big s) ?_
  by_cases he : s.toList = []
  · refine ev_pos he (ev_now ?_)
    rw [toList_data] at he
    have : s.size = 0 := by rw [← hl, he]; rfl
    unfold sgn getS
    rw [he, getL_nil, this]
    decide
  · refine ev_neg he (ev_neg (by omega) (Ev.bind (get_ev big s) ?_))
    have hw : wrap64 (8 * (wrap64 (8 - (s.size : Int)))) = ((8 * (8 - s.size) : Nat) : Int) := by
      rw [wrap64_id (n := 8 - (s.size : Int)) (by omega) (by omega), wrap64_id (by omega) (by omega)]; omega
    rw [hw]
    refine ev_pos (by omega) (ev_now ?_)
    have h0 := (getL_range big s.data.toList).1
    have hlt := getL_lt big s.data.toList (by omega)
    rw [hl] at hlt
    have hsp := pow_split s.size h8
    have hmin : min ((8 * (8 - s.size) : Nat) : Int).toNat 64 = 8 * (8 - s.size) := by omega
    unfold shr shl
    rw [show IntKind.bits .u64 = 64 from rfl, show IntKind.bits .i64 = 64 from rfl, hmin]
    have hq : (0 : Int) < 2 ^ (8 * (8 - s.size)) := Int.pow_pos (by omega)
    unfold sgn getS
    generalize (2 : Int) ^ (8 * (8 - s.size)) = q at *
    generalize (256 : Int) ^ s.size = p at *
    generalize getL big s.data.toList = u at *
    have h2 : u * q < p * q := Int.mul_lt_mul_of_pos_right hlt hq
    rw [wrapu_id (Int.mul_nonneg h0 (by omega)) (by omega)]
    exact shift_sgn u p q hq hsp h0 hlt
theorem swap_ev (n size : Int) (h0 : 0 ≤ n) : Ev (fun k => order_Swap.f k n size) (getS true (putS false n size)) := by
  refine Ev.congr (fun k => order_Swap.f.eq_1 k n size) ?_
  exact Ev.bind (put_ev false n size h0) (Ev.bind (get_ev true _) (ev_now rfl))
theorem swap_put (n size : Int) (h1 : 1 ≤ size) (h8 : size ≤ 8) : putL true (getL true (putL false n size)) size = putL false n size := by
  have hlen := putL_length false n size
  rw [if_pos ⟨h1, h8⟩] at hlen
  have := putL_getL true (putL false n size) (by omega) (by omega)
  rw [hlen, show ((size.toNat : Nat) : Int) = size by omega] at this
  exact this
theorem swap_swap (n size : Int) (h1 : 1 ≤ size) (h8 : size ≤ 8) : getL true (putL false (getL true (putL false n size)) size) = getL false (putL false n size) := by
  have h := swap_put n size h1 h8
  unfold putL at h ⊢
  rw [if_pos ⟨h1, h8⟩] at h ⊢
  rw [if_pos ⟨h1, h8⟩]
  rw [if_pos ⟨h1, h8⟩] at h
  generalize (getL true (ord false (toLE n.toNat size.toNat))).toNat = m at *
  have e : toLE m size.toNat = ord true (ord false (toLE n.toNat size.toNat)) := by
    have := congrArg (ord true) h
    rw [ord_ord] at this
    exact this
  unfold getL
  rw [e]
  simp only [ord_length, toLE_length]
  congr 3
  simp [ord]
theorem swaps_loop (n : Int) (h0 : 0 ≤ n) (hn : n < 18446744073709551616) : ∀ (d : Nat) (i : Int), i + d = 10 → 0 ≤ i → Ev (fun k => graverlaw01_OrderSigned.l0 k n i) true := by
  intro d
  induction d with
  | zero =>
    intro i hi h
    exact Ev.step (graverlaw01_OrderSigned.l0.eq_2 _ _) (ev_neg (by omega) (Ev.now true))
  | succ d ih =>
    intro i hi h
    have ih' := ih (i + 1) (by omega) (by omega)
    refine Ev.step (graverlaw01_OrderSigned.l0.eq_2 _ _) (ev_pos (by omega) (Ev.bind (swap_ev n i h0) ?_))
    have hw : wrap64 (i + 1) = i + 1 := wrap64_id (by omega) (by omega)
    by_cases h1 : i < 1
    · refine ev_pos h1 (Ev.step (graverlaw01_OrderSigned.j4.eq_2 _ _ _ _) (ev_pos rfl (ev_pos ?_ ?_)))
      · unfold getS
        rw [putS_list]
        unfold putL
        rw [if_neg (by omega)]
        rfl
      · rw [hw]; exact ih'
    · refine ev_neg h1 (Ev.step (graverlaw01_OrderSigned.j4.eq_2 _ _ _ _) ?_)
      by_cases h8 : i > 8
      · rw [decide_eq_true h8]
        refine ev_pos rfl (ev_pos ?_ ?_)
        · unfold getS
          rw [putS_list]
          unfold putL
          rw [if_neg (by omega)]
          rfl
        · rw [hw]; exact ih'
      · rw [decide_eq_false h8]
        have hm := getL_range true (putS false n i).data.toList
        refine ev_neg (by decide) (Ev.bind (refPut_ev true _ i hm.1 hm.2) (Ev.bind (refPut_ev false n i h0 hn) (ev_pos ?_ ?_)))
        · rw [toList_data, toList_data, putS_list, putS_list]
          exact swap_put n i (by omega) (by omega)
        · refine Ev.bind (swap_ev _ i hm.1) (Ev.bind (refPut_ev false n i h0 hn) (Ev.bind (refGet_ev false _) (ev_pos ?_ ?_)))
          · exact swap_swap n i (by omega) (by omega)
          · rw [hw]; exact ih'
theorem top_at (big : Bool) (l : List UInt8) (h : l ≠ []) : ∃ b : UInt8, (if big = true then l.head? else l.getLast?) = some b ∧ leN (ord big l) = leN ((ord big l).dropLast) + 256 ^ (l.length - 1) * b.toNat := by
  have hne : ord big l ≠ [] := by
    intro e
    have := congrArg List.length e
    rw [ord_length] at this
    exact h (List.eq_nil_of_length_eq_zero (by simpa using this))
  refine ⟨(ord big l).getLast hne, ?_, ?_⟩
  · cases big
    · simp [ord, List.getLast?_eq_some_getLast h]
    · simp [ord, List.head?_eq_some_head h]
  · have e := List.dropLast_concat_getLast hne
    have := leN_append ((ord big l).dropLast) [(ord big l).getLast hne]
    rw [e, leN_one, List.length_dropLast, ord_length] at this
    exact this
theorem top_sgn (big : Bool) (l : List UInt8) (b : UInt8) (h1 : 1 ≤ l.length) (h8 : l.length ≤ 8) (hb : leN (ord big l) = leN ((ord big l).dropLast) + 256 ^ (l.length - 1) * b.toNat) : sgn (getL big l) l.length < 0 ↔ 128 ≤ b.toNat := by
  have hlt := getL_lt big l h8
  have h0 := (getL_range big l).1
  have hg : getL big l = (leN (ord big l) : Int) := by unfold getL; rw [if_pos h8]
  have hd := leN_lt ((ord big l).dropLast)
  rw [List.length_dropLast, ord_length] at hd
  have hp : (256 : Int) ^ l.length = ((256 ^ (l.length - 1) * 256 : Nat) : Int) := by
    rw [← Nat.pow_succ, Int.natCast_pow]
    congr 1
    omega
  rw [hg, hb]
  unfold sgn
  rw [hp]
  generalize leN ((ord big l).dropLast) = x at *
  generalize 256 ^ (l.length - 1) = q at *
  have hbl := b.toNat_lt
  generalize b.toNat = c at *
  constructor
  · intro h
    rcases Nat.lt_or_ge c 128 with hc | hc
    · exfalso
      have : q * (c + 1) ≤ q * 128 := Nat.mul_le_mul_left q (by omega)
      rw [Nat.mul_add, Nat.mul_one] at this
      rw [if_neg (by omega)] at h
      omega
    · exact hc
  · intro hc
    have : q * 128 ≤ q * c := Nat.mul_le_mul_left q hc
    rw [if_pos (by omega)]
    omega
theorem put_mod (big : Bool) (m u : Int) (n : Nat) (hm : 0 ≤ m) (hu : 0 ≤ u) (h : m % 256 ^ n = u % 256 ^ n) : putL big m (n : Int) = putL big u (n : Int) := by
  obtain ⟨a, rfl⟩ := Int.eq_ofNat_of_zero_le hm
  obtain ⟨b, rfl⟩ := Int.eq_ofNat_of_zero_le hu
  have h' : a % 256 ^ n = b % 256 ^ n := by
    have e : ∀ x : Nat, ((x % 256 ^ n : Nat) : Int) = (x : Int) % 256 ^ n := fun x => by rw [Int.natCast_emod, Int.natCast_pow]; rfl
    rw [← e, ← e] at h
    exact Int.ofNat_inj.1 h
  unfold putL
  simp only [Int.toNat_natCast]
  rw [← toLE_mod a n, h', toLE_mod]
theorem put_sgn (big : Bool) (l : List UInt8) (h1 : 1 ≤ l.length) (h8 : l.length ≤ 8) : putL big (IntKind.u64.wrap (sgn (getL big l) l.length)) (l.length : Int) = l := by
  have h0 := getL_range big l
  have hlt := getL_lt big l h8
  conv => rhs; rw [← putL_getL big l h1 h8]
  have hw : IntKind.u64.wrap (sgn (getL big l) l.length) = sgn (getL big l) l.length % 18446744073709551616 := by
    simp [IntKind.wrap, IntKind.bits, IntKind.signed]
  rw [hw]
  refine put_mod big _ _ _ (Int.emod_nonneg _ (by omega)) h0.1 ?_
  have hd : (256 : Int) ^ l.length ∣ 18446744073709551616 := ⟨2 ^ (8 * (8 - l.length)), (pow_split l.length h8).symm⟩
  rw [Int.emod_emod_of_dvd _ hd]
  unfold sgn
  split
  · rw [Int.sub_emod_right]
  · rfl
theorem last_eq (s : ByteArray) (h : s.data.toList ≠ []) (hs : s.size ≤ 8) (b : UInt8) (hb : s.data.toList.getLast? = some b) : bt s (wrap64 ((s.size : Int) - 1)) = (b.toNat : Int) := by
  have hl : s.data.toList.length = s.size := data_length s
  have h0 : 0 < s.data.toList.length := List.length_pos_iff.2 h
  rw [wrap64_id (by omega) (by omega), show (s.size : Int) - 1 = ((s.size - 1 : Nat) : Int) by omega, bt_eq s (s.size - 1) (by omega)]
  rw [List.getLast?_eq_getElem?, List.getElem?_eq_getElem (by omega)] at hb
  simp only [hl] at hb
  injection hb with hb
  rw [hb]
theorem head_eq (s : ByteArray) (h : s.data.toList ≠ []) (b : UInt8) (hb : s.data.toList.head? = some b) : bt s 0 = (b.toNat : Int) := by
  have h0 : 0 < s.data.toList.length := List.length_pos_iff.2 h
  have := bt_eq s 0 h0
  rw [List.head?_eq_getElem?, List.getElem?_eq_getElem h0] at hb
  injection hb with hb
  rw [hb] at this
  exact this
theorem signed_mid (big : Bool) (s : ByteArray) (n : Int) (h1 : 1 ≤ s.size) (h8 : s.size ≤ 8) (h0 : 0 ≤ n) (hn : n < 18446744073709551616) : Ev (fun k => graverlaw01_OrderSigned.j0 k big s n (sgn (getS big s) s.size) false) true := by
  have hl : s.data.toList.length = s.size := data_length s
  have hne : s.data.toList ≠ [] := by intro e; rw [e] at hl; simp at hl; omega
  obtain ⟨b, hb, hv⟩ := top_at big s.data.toList hne
  have hts := top_sgn big s.data.toList b (by omega) (by omega) hv
  rw [hl] at hts
  have hps := put_sgn big s.data.toList (by omega) (by omega)
  rw [hl] at hps
  have hu := getL_range big s.data.toList
  have hlt := getL_lt big s.data.toList (by omega)
  rw [hl] at hlt
  have hwr : IntKind.u64.wrap (sgn (getS big s) s.size) = sgn (getS big s) s.size % 18446744073709551616 := by simp [IntKind.wrap, IntKind.bits, IntKind.signed]
  have last : Ev (fun k => graverlaw01_OrderSigned.j2 k n false) true :=
    Ev.step (graverlaw01_OrderSigned.j2.eq_2 _ _) (ev_neg (by decide) (swaps_loop n h0 hn 10 0 (by omega) (by omega)))
  have mid : Ev (fun k => graverlaw01_OrderSigned.j1 k big s n (sgn (getS big s) s.size) (getS big s) (b.toNat : Int)) true := by
    refine Ev.step (graverlaw01_OrderSigned.j1.eq_2 _ _ _ _ _ _) (ev_neg ?_ ?_)
    · have : decide (sgn (getS big s) s.size < 0) = decide ((b.toNat : Int) ≥ 128) := by
        rw [decide_eq_decide]
        unfold getS
        rw [hts]
        omega
      rw [this]
      simp
    · refine Ev.bind (refPut_ev big _ _ (by rw [hwr]; exact Int.emod_nonneg _ (by omega)) (by rw [hwr]; exact Int.emod_lt_of_pos _ (by omega))) (ev_pos ?_ ?_)
      · rw [toList_data, toList_data, putS_list]
        exact hps
      · by_cases hs8 : (s.size : Int) < 8
        · refine ev_pos hs8 ?_
          by_cases hk : sgn (getS big s) s.size ≥ 0
          · refine ev_pos hk ?_
            have e : sgn (getS big s) s.size = getS big s := by
              unfold sgn at hk ⊢
              unfold getS at hk ⊢
              split
              · rename_i hc
                rw [if_pos hc] at hk
                omega
              · rfl
            have e2 : IntKind.u64.wrap (getS big s) = getS big s := wrapu_id hu.1 hu.2
            rw [e, e2, bne_self_eq_false]
            exact last
          · exact ev_neg hk last
        · exact ev_neg hs8 last
  refine Ev.step (graverlaw01_OrderSigned.j0.eq_2 _ _ _ _ _) (ev_neg (by decide) (Ev.bind (refGet_ev big s) ?_))
  have hw : wrap64 ((s.size : Int) - 1) = (s.size : Int) - 1 := wrap64_id (by omega) (by omega)
  refine ev_pos (by rw [hw]; omega) (ev_pos (by rw [hw]; omega) ?_)
  cases big
  · refine ev_neg (by decide) ?_
    rw [last_eq s hne h8 b hb]
    exact mid
  · refine ev_pos rfl (ev_pos (by omega) ?_)
    rw [head_eq s hne b hb]
    exact mid
theorem signed_long (big : Bool) (s : ByteArray) (h8 : ¬ s.size ≤ 8) : Ev (fun k => order_Order_Signed.f k big s) 0 := by
  refine Ev.congr (fun k => order_Order_Signed.f.eq_1 k big s) ?_
  by_cases he : s.toList = []
  · exact ev_pos he (Ev.now 0)
  · exact ev_neg he (ev_pos (by omega) (Ev.now 0))
theorem zero_mid (big : Bool) (s : ByteArray) (n : Int) : Ev (fun k => graverlaw01_OrderSigned.j0 k big s n 0 true) true :=
  Ev.step (graverlaw01_OrderSigned.j0.eq_2 _ _ _ _ _) (ev_pos rfl (ev_now (by decide)))
theorem OrderSigned : graverlaw01_OrderSigned.Pure := by
  intro big s n hs hw
  obtain ⟨h0, hn⟩ := wf_u64 hw
  refine Ev.rounds (Ev.congr (fun k => graverlaw01_OrderSigned.f.eq_1 k big s n) ?_)
  refine Ev.bind speaks01 (ev_pos rfl (ev_pos (by rw [mn_eq]; omega) (ev_pos (by rw [mn_eq]; omega) ?_)))
  generalize s.extract 0 ((mn (s.size : Int) 10) : Int).toNat = t
  by_cases h8 : t.size ≤ 8
  · refine Ev.bind (signed_ev big t h8) ?_
    by_cases hz : (t.size : Int) = 0
    · refine ev_pos hz ?_
      have e : sgn (getS big t) t.size = 0 := by
        have hl : t.data.toList.length = t.size := data_length t
        have : t.data.toList = [] := List.eq_nil_of_length_eq_zero (by omega)
        unfold sgn getS
        rw [this, getL_nil, show t.size = 0 by omega]
        decide
      rw [e]
      exact zero_mid big t n
    · refine ev_neg hz ?_
      rw [decide_eq_false (by omega)]
      exact signed_mid big t n (by omega) h8 h0 hn
  · refine Ev.bind (signed_long big t h8) (ev_neg (by omega) ?_)
    rw [decide_eq_true (by omega)]
    exact zero_mid big t n

end Go.Proofs.Ythbkjppaimjpmaa.Pure
