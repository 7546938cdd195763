/- strconv.FormatUint at the bases 10 and 16: every number. No condition but the library's own tables. -/
import Derived.Test.YtjmjebbjfjgbeaaDoorQ0
import Derived.Outline
import Derived.Lib.ItoaMem
import Derived.Lib.AppendIntMem
import Derived.BigCall
import Derived.BigGuard
import Derived.Shelf.Strconv.Itoa0
import Derived.Shelf.Strconv.Itoa1
import Derived.Shelf.LaysM
import Derived.Shelf.Strconv.Itoa2
namespace Go.Proofs
open Go.Shelf
def Tryd.lays283_ren : Go.Shelf.Ren := ⟨fun | 283 => 85 | n => n, fun | 3 => 3 | 9 => 9 | 4 => 4 | n => n, fun | n => n⟩
theorem Tryd.lays283 : Go.Proofs.Lays.n283 Tryd.prog Tryd.lays283_ren := {
  mixed := by kernel_rfl
  f283 := Tryd.func85.trans (congrArg some (by kernel_rfl))
  t3 := Tryd.underlying3
  a3 := Tryd.isAgg3
  z3 := Tryd.sizeOf3
  v3 := Tryd.zeroValue3
  t4 := Tryd.underlying4
  a4 := Tryd.isAgg4
  z4 := Tryd.sizeOf4
  v4 := Tryd.zeroValue4
  t9 := Tryd.underlying9
  a9 := Tryd.isAgg9
  z9 := Tryd.sizeOf9
  v9 := Tryd.zeroValue9 }
open Go.Lib in
/-- internal/strconv.small: "small returns the string for an i with 0 <= i < nSmalls.": i's decimal numeral. The world is as it was. (LAID: no walk: one application.) -/
theorem Tryd.internal_strconv_small (i : Nat) (h : i < 100) (w : World) :
    Calls Tryd.prog 85 #[.int .i64 i] w fun e w' => e = .returned (.string ⟨(Lib.decDigits i).toArray⟩) ∧ w' = w := Any.internal_strconv_small Tryd.lays283 i h w
def Tryd.laysM284_ren : Go.Shelf.Ren := ⟨fun | 284 => 86 | 129 => 92 | 317 => 91 | 318 => 93 | n => n, fun | 53 => 22 | 3 => 3 | 212 => 147 | 0 => 0 | 4 => 4 | 46 => 57 | 5 => 5 | 9 => 9 | n => n, fun | 17 => 10 | n => n⟩
theorem Tryd.laysM284 : Go.Proofs.LaysM.n284 Tryd.prog Tryd.laysM284_ren := {
  mixed := by kernel_rfl
  f129 := Tryd.func92.trans (congrArg some (by kernel_rfl))
  f284 := Tryd.func86.trans (congrArg some (by kernel_rfl))
  f317 := Tryd.func91.trans (congrArg some (by kernel_rfl))
  f318 := Tryd.func93.trans (congrArg some (by kernel_rfl))
  t0 := Tryd.underlying0
  a0 := Tryd.isAgg0
  z0 := Tryd.sizeOf0
  v0 := Tryd.zeroValue0
  t3 := Tryd.underlying3
  a3 := Tryd.isAgg3
  z3 := Tryd.sizeOf3
  v3 := Tryd.zeroValue3
  t4 := Tryd.underlying4
  a4 := Tryd.isAgg4
  z4 := Tryd.sizeOf4
  v4 := Tryd.zeroValue4
  t5 := Tryd.underlying5
  a5 := Tryd.isAgg5
  z5 := Tryd.sizeOf5
  v5 := Tryd.zeroValue5
  t9 := Tryd.underlying9
  a9 := Tryd.isAgg9
  z9 := Tryd.sizeOf9
  v9 := Tryd.zeroValue9
  t46 := Tryd.underlying57
  a46 := Tryd.isAgg57
  z46 := Tryd.sizeOf57
  v46 := Tryd.zeroValue57
  t53 := Tryd.underlying22
  a53 := Tryd.isAgg22
  z53 := Tryd.sizeOf22
  v53 := Tryd.zeroValue22
  t212 := Tryd.underlying147
  a212 := Tryd.isAgg147
  z212 := Tryd.sizeOf147
  v212 := Tryd.zeroValue147
  g17 := by kernel_rfl
  i0 := by kernel_rfl
  i3 := by kernel_rfl
  i4 := by kernel_rfl
  i5 := by kernel_rfl
  i9 := by kernel_rfl
  i46 := by kernel_rfl
  i53 := by kernel_rfl
  i212 := by kernel_rfl
  m17 := by kernel_rfl }
open Go.Lib in
/-- internal/strconv.numDigits, at a d that is not 0: THE NUMBER OF d's DECIMAL DIGITS. The world is as it was. (LAID: no walk: one application.) -/
theorem Tryd.internal_strconv_numDigits (u : Nat) (h1 : 1 ≤ u) (h2 : u < 18446744073709551616) (w : World) (htab : Lib.TabIs Tryd.prog w "internal/strconv.uint64pow10" .u64 Lib.pow10Tab) :
    Calls Tryd.prog 86 #[.int .u64 u] w fun e w' => e = .returned (.int .i64 (Lib.nDigits u)) ∧ w' = w := Any.internal_strconv_numDigits Tryd.laysM284 u h1 h2 w htab
def Tryd.lays285_ren : Go.Shelf.Ren := ⟨fun | 285 => 87 | n => n, fun | 37 => 62 | 53 => 22 | 3 => 3 | 4 => 4 | 51 => 143 | 9 => 9 | 5 => 5 | 0 => 0 | n => n, fun | n => n⟩
theorem Tryd.lays285 : Go.Proofs.Lays.n285 Tryd.prog Tryd.lays285_ren := {
  mixed := by kernel_rfl
  f285 := Tryd.func87.trans (congrArg some (by kernel_rfl))
  t0 := Tryd.underlying0
  a0 := Tryd.isAgg0
  z0 := Tryd.sizeOf0
  v0 := Tryd.zeroValue0
  t3 := Tryd.underlying3
  a3 := Tryd.isAgg3
  z3 := Tryd.sizeOf3
  v3 := Tryd.zeroValue3
  t4 := Tryd.underlying4
  a4 := Tryd.isAgg4
  z4 := Tryd.sizeOf4
  v4 := Tryd.zeroValue4
  t5 := Tryd.underlying5
  a5 := Tryd.isAgg5
  z5 := Tryd.sizeOf5
  v5 := Tryd.zeroValue5
  t9 := Tryd.underlying9
  a9 := Tryd.isAgg9
  z9 := Tryd.sizeOf9
  v9 := Tryd.zeroValue9
  t37 := Tryd.underlying62
  a37 := Tryd.isAgg62
  z37 := Tryd.sizeOf62
  v37 := Tryd.zeroValue62
  t51 := Tryd.underlying143
  a51 := Tryd.isAgg143
  z51 := Tryd.sizeOf143
  v51 := Tryd.zeroValue143
  t53 := Tryd.underlying22
  a53 := Tryd.isAgg22
  z53 := Tryd.sizeOf22
  v53 := Tryd.zeroValue22 }
open Go.RowKit Go.Sort Go.Lib in
/-- internal/strconv.formatBase10: "formatBase10 formats the decimal representation of u into a. The caller is responsible for ensuring that a is big enough to hold u. If a is too big, leading zeros will be filled in as needed.": THE ROW HOLDS u's DIGITS ('FmtInv .. 0 ..': every place t holds 'dg u (len - 1 - t)'); all else is as it was but for the count of draws. (LAID: no walk: one application.) -/
theorem Tryd.internal_strconv_formatBase10 (blk off cap : Nat) (u : Nat) (d : Array UInt8) (w : World) (hH : Holds (fun (b : UInt8) => Value.int .u8 (b.toNat : Int)) w blk off d) (hu : u < 10 ^ d.size) (hu64 : u < 18446744073709551616) (hsz : d.size < 4611686018427387904) :
    Calls Tryd.prog 87 #[.slice (some ⟨blk, off, none⟩) d.size cap, .int .u64 u] w fun e w' =>
      e = .returned (.tuple #[]) ∧ ∃ (n v' : Nat) (dk : Array UInt8), w' = (putRow (fun (b : UInt8) => Value.int .u8 (b.toNat : Int)) w blk off dk).drewN n ∧ FmtInv d.size u 0 v' dk := Any.internal_strconv_formatBase10 Tryd.lays285 blk off cap u d w hH hu hu64 hsz
end Go.Proofs

namespace Go.Proofs.YtjmjebbjfjgbeaaDoor.Fmt
open Go.Shelf Go.RowKit Go.Lib Go.Sort Go.Proofs.YtjmjebbjfjgbeaaDoorW.PrintWords
set_option linter.unusedVariables false
set_option linter.unusedSimpArgs false
theorem grown_below {w : World} (k : Nat) (os : Array Obj) : Below w.heap.size w (grow (w.drewN k) os) :=
  ⟨rfl, rfl, rfl, Lib.size_grow w k os, fun j hj => heap_grow_old (w.drewN k) os hj⟩
set_option maxHeartbeats 6400000 in
set_option maxRecDepth 100000 in
theorem inner10 (u : Nat) (hu : u < 18446744073709551616) (w : World) (htab : Lib.TabIs Tryd.prog w "internal/strconv.uint64pow10" .u64 Lib.pow10Tab) :
    Calls Tryd.prog 73 #[.int .u64 u, .int .i64 10] w fun e w' => e = .returned (.string ⟨(Lib.decDigits u).toArray⟩) ∧ Below w.heap.size w w' := by
  by_cases hs : u < 100
  · go_enter Tryd.func73, Tryd.ntmps73
    go_wp2_with (go_at_call 85; refine (Tryd.internal_strconv_small u hs _).mono ?_; rintro e w' ⟨rfl, rfl⟩)
    go_ret
    exact ⟨rfl, Below.refl _ _⟩
  · have hu1 : 1 ≤ u := by omega
    have hnd20 : Lib.nDigits u ≤ 20 := by have := Lib.numDigits_eq u hu1 hu; split at this <;> omega
    have hb3 : Lib.nDigits u ≤ 24 := by omega
    have hal : Tryd.prog.arrayLen 137 = 24 := by simp [Program.arrayLen, Tryd.underlying137]
    have hsl1 : ∀ W, (Instr.sliceAt 137 (.pointer (some ⟨w.heap.size, 0, none⟩)) none (some (.int .i64 (Lib.nDigits u : Int))) none).run Tryd.prog W = .ok (.slice (some ⟨w.heap.size, 0, none⟩) (Lib.nDigits u) 24) W := fun W => by
      rw [run_sliceAt_array_h W 137 ⟨w.heap.size, 0, none⟩ (by simp [Program.arrayLen, Program.elem, Tryd.underlying137]) .i64 (Lib.nDigits u : Int) (by omega) (by rw [hal]; omega)]
      go_simp
    have hH0 := Lib.holds_zero0 w 137 (Lib.nDigits u) (by omega)
    have hfmt := Tryd.internal_strconv_formatBase10 w.heap.size 0 24 u (Array.replicate (Lib.nDigits u) 0) (w.alloc (.cells Lib.zeros24 137)) hH0 (by rw [Array.size_replicate]; exact Lib.lt_pow_nDigits u) hu (by rw [Array.size_replicate]; omega)
    rw [Array.size_replicate] at hfmt
    have HH0 := Lib.hid hH0
    clear hH0 hal
    go_enter Tryd.func73, Tryd.ntmps73
    go_wp2_with (go_at_call 86; refine (Tryd.internal_strconv_numDigits u hu1 hu _ (Lib.tabIs_alloc htab _)).mono ?_; rintro e w' ⟨rfl, rfl⟩)
    go_at_call 87
    refine hfmt.mono ?_
    rintro e w' ⟨rfl, k, v', dk, rfl, hF⟩
    have hcv : (convert 62 9 (.slice (some ⟨w.heap.size, 0, none⟩) (Lib.nDigits u) 24)).run Tryd.prog ((putRow (fun (b : UInt8) => Value.int .u8 (b.toNat : Int)) (w.alloc (.cells Lib.zeros24 137)) w.heap.size 0 dk).drewN k) = .ok (.string ⟨(Lib.decDigits u).toArray⟩) ((putRow (fun (b : UInt8) => Value.int .u8 (b.toNat : Int)) (w.alloc (.cells Lib.zeros24 137)) w.heap.size 0 dk).drewN k) := by
      have h := run_convert_bytes_back (P := Tryd.prog) ((putRow (fun (b : UInt8) => Value.int .u8 (b.toNat : Int)) (w.alloc (.cells Lib.zeros24 137)) w.heap.size 0 dk).drewN k) 62 9 5 ⟨w.heap.size, 0, none⟩ 24 (Lib.decDigits u) Tryd.underlying62 Tryd.underlying5 Tryd.underlying9 (fun j hj => by
        rw [Lib.row_is_numeral hF j hj, Lib.add_plain, World.cell?_drewN]
        exact cell?_putRow (fun (b : UInt8) => Value.int .u8 (b.toNat : Int)) _ w.heap.size 0 _ dk HH0.out (by rw [hF.size, Array.size_replicate]) j (by rw [hF.size]; rw [Lib.decDigits_length] at hj; exact hj))
      rw [Lib.decDigits_length] at h
      exact h
    go_wp2
    go_ret
    obtain ⟨os, eo⟩ := Lib.fin_at w (.cells Lib.zeros24 137) dk k 0
    exact ⟨rfl, eo ▸ grown_below k os⟩

/-! ### base 16 -/
def hexDigit (d : Nat) : UInt8 := UInt8.ofNat (if d < 10 then 48 + d else 87 + d)
def hexDigits (u : Nat) : List UInt8 := if h : u < 16 then [hexDigit u] else hexDigits (u / 16) ++ [hexDigit (u % 16)]
termination_by u
decreasing_by omega
theorem hex_small {u : Nat} (h : u < 16) : hexDigits u = [hexDigit u] := by rw [hexDigits, dif_pos h]
theorem hex_big {u : Nat} (h : ¬ u < 16) : hexDigits u = hexDigits (u / 16) ++ [hexDigit (u % 16)] := by rw [hexDigits, dif_neg h]
theorem hexDigit_inj {a b : Nat} (ha : a < 16) (hb : b < 16) (h : hexDigit a = hexDigit b) : a = b := by
  have := congrArg UInt8.toNat h
  unfold hexDigit at this
  simp only [UInt8.toNat_ofNat'] at this
  split at this <;> split at this <;> omega
theorem hex_ne (u : Nat) : hexDigits u ≠ [] := by
  by_cases h : u < 16
  · rw [hex_small h]; simp
  · rw [hex_big h]; simp
theorem hex_inj : ∀ (a b : Nat), hexDigits a = hexDigits b → a = b := by
  intro a
  induction a using Nat.strongRecOn with
  | _ a ih =>
    intro b h
    by_cases ha : a < 16
    · by_cases hb : b < 16
      · rw [hex_small ha, hex_small hb] at h
        exact hexDigit_inj ha hb (List.cons.inj h).1
      · rw [hex_small ha, hex_big hb] at h
        have := congrArg List.length h
        simp at this
        exact absurd this (hex_ne _)
    · by_cases hb : b < 16
      · rw [hex_big ha, hex_small hb] at h
        have := congrArg List.length h
        simp at this
        exact absurd this (hex_ne _)
      · rw [hex_big ha, hex_big hb] at h
        obtain ⟨h1, h2⟩ := List.append_inj' h rfl
        have h3 := ih (a / 16) (by omega) (b / 16) h1
        have h4 := hexDigit_inj (Nat.mod_lt _ (by decide)) (Nat.mod_lt _ (by decide)) (List.cons.inj h2).1
        omega
theorem hex_length : ∀ (k u : Nat), u < 16 ^ (k + 1) → (hexDigits u).length ≤ k + 1
  | 0, u, h => by rw [hex_small (by simpa using h)]; simp
  | k + 1, u, h => by
    by_cases hs : u < 16
    · rw [hex_small hs]; simp
    · rw [hex_big hs]
      have := hex_length k (u / 16) (Nat.div_lt_of_lt_mul (by rw [Nat.pow_succ, Nat.mul_comm] at h; exact h))
      simp; omega
theorem tz16 (w : World) (zs : List Int) (hz : zs = [0, 1, 56, 2, 57, 49, 28, 3, 61, 58, 42, 50, 38, 29, 17, 4, 62, 47, 59, 36, 45, 43, 51, 22, 53, 39, 33, 30, 24, 18, 12, 5, 63, 55, 48, 27, 60, 41, 37, 16, 46, 35, 44, 21, 52, 32, 23, 11, 54, 26, 40, 15, 34, 20, 31, 10, 25, 14, 19, 9, 13, 8, 7, 6]) (htab : Lib.TabIs Tryd.prog w "math/bits.deBruijn64tab" .u8 zs) :
    Calls Tryd.prog 97 #[.int .u64 16] w fun e w' => e = .returned (.int .i64 4) ∧ w' = w := by
  have hc : w.cell? ⟨12, 15, none⟩ = some (.int .u8 4) := by
    have := htab.cell (g := 12) (by kernel_rfl) 15 (by rw [hz]; decide)
    rw [this, hz]; rfl
  clear htab hz
  have hidx : IntKind.u64.wrap (Go.bits BinOp.and IntKind.u64 16 (IntKind.u64.wrap (-16)) * 285870213051353865) / 288230376151711744 = 15 := by kernel_rfl
  go_enter Tryd.func97, Tryd.ntmps97
  go_wp2
  go_ret
  exact ⟨rfl, rfl⟩
theorem tz (w : World) (zs : List Int) (hz : zs = [0, 1, 56, 2, 57, 49, 28, 3, 61, 58, 42, 50, 38, 29, 17, 4, 62, 47, 59, 36, 45, 43, 51, 22, 53, 39, 33, 30, 24, 18, 12, 5, 63, 55, 48, 27, 60, 41, 37, 16, 46, 35, 44, 21, 52, 32, 23, 11, 54, 26, 40, 15, 34, 20, 31, 10, 25, 14, 19, 9, 13, 8, 7, 6]) (htab : Lib.TabIs Tryd.prog w "math/bits.deBruijn64tab" .u8 zs) :
    Calls Tryd.prog 95 #[.int .u64 16] w fun e w' => e = .returned (.int .i64 4) ∧ w' = w := by
  have h := tz16 w zs hz htab
  clear htab hz
  go_enter Tryd.func95, Tryd.ntmps95
  go_wp2_with (go_at_call 97; refine h.mono ?_; rintro e w' ⟨rfl, rfl⟩)
  go_ret
  exact ⟨rfl, rfl⟩
theorem pow2 (w : World) : Calls Tryd.prog 94 #[.int .i64 16] w fun e w' => e = .returned (.bool true) ∧ w' = w := by
  have h : Go.bits BinOp.and IntKind.i64 16 15 = 0 := by kernel_rfl
  go_enter Tryd.func94, Tryd.ntmps94
  go_wp2
  go_ret
  exact ⟨rfl, rfl⟩
/-- The tail of an array of bytes. -/
def Tail (W : World) (g : Nat) (i : Nat) (l : List UInt8) : Prop := ∃ cur, W.heap[g]? = some (.cells cur 148 (0, 0)) ∧ cur.size = 65 ∧ cur.toList.drop i = l.map fun b => Value.int .u8 (b.toNat : Int)
theorem drop_set_cons {α : Type} : ∀ (l : List α) (i : Nat) (v : α), i < l.length → (l.set i v).drop i = v :: l.drop (i + 1)
  | x :: l, 0, v, _ => rfl
  | x :: l, i + 1, v, h => by
    rw [List.set_cons_succ, List.drop_succ_cons, List.drop_succ_cons]
    exact drop_set_cons l i v (by simpa using h)
theorem Tail.put {W : World} {g i : Nat} {l : List UInt8} (h : Tail W g (i + 1) l) (hi : i < 65) (b : UInt8) : Tail (W.setCell ⟨g, i, none⟩ (.int .u8 (b.toNat : Int))) g i (b :: l) := by
  obtain ⟨cur, h1, h2, h3⟩ := h
  refine ⟨_, blk_set h1 i _, by simpa using h2, ?_⟩
  rw [Array.toList_setIfInBounds, drop_set_cons _ _ _ (by rw [Array.length_toList, h2]; exact hi), h3]
  rfl
theorem Tail.len {W : World} {g i : Nat} {l : List UInt8} (h : Tail W g i l) : l.length = 65 - i := by
  obtain ⟨cur, h1, h2, h3⟩ := h
  have := congrArg List.length h3
  rw [List.length_drop, Array.length_toList, h2, List.length_map] at this
  exact this.symm
theorem Tail.cell {W : World} {g i : Nat} {l : List UInt8} (h : Tail W g i l) (j : Nat) (hj : j < l.length) : W.cell? ⟨g, i + j, none⟩ = some (.int .u8 (l[j].toNat : Int)) := by
  obtain ⟨cur, h1, h2, h3⟩ := h
  have e := congrArg (·[j]?) h3
  simp only [List.getElem?_drop, List.getElem?_map, List.getElem?_eq_getElem hj, Option.map_some, Array.getElem?_toList] at e
  simp [World.cell?, h1, e]
theorem digs_size : (⟨#[48, 49, 50, 51, 52, 53, 54, 55, 56, 57, 97, 98, 99, 100, 101, 102, 103, 104, 105, 106, 107, 108, 109, 110, 111, 112, 113, 114, 115, 116, 117, 118, 119, 120, 121, 122]⟩ : ByteArray).size = 36 := by decide
theorem digit_fin : ∀ d : Fin 16, (⟨#[48, 49, 50, 51, 52, 53, 54, 55, 56, 57, 97, 98, 99, 100, 101, 102, 103, 104, 105, 106, 107, 108, 109, 110, 111, 112, 113, 114, 115, 116, 117, 118, 119, 120, 121, 122]⟩ : ByteArray)[d.val]'(by rw [digs_size]; omega) = hexDigit d.val := by decide
theorem digit_at (d : Nat) (h : d < 16) (h' : d < (⟨#[48, 49, 50, 51, 52, 53, 54, 55, 56, 57, 97, 98, 99, 100, 101, 102, 103, 104, 105, 106, 107, 108, 109, 110, 111, 112, 113, 114, 115, 116, 117, 118, 119, 120, 121, 122]⟩ : ByteArray).size) : (⟨#[48, 49, 50, 51, 52, 53, 54, 55, 56, 57, 97, 98, 99, 100, 101, 102, 103, 104, 105, 106, 107, 108, 109, 110, 111, 112, 113, 114, 115, 116, 117, 118, 119, 120, 121, 122]⟩ : ByteArray)[d]'h' = hexDigit d := digit_fin ⟨d, h⟩
theorem and15 (v : Nat) (h : v < 18446744073709551616) : Go.bits .and .u64 (v : Int) 15 = ((v % 16 : Nat) : Int) := by
  have h64 : ∀ n : Int, 0 ≤ n → n < 2 ^ 64 → IntKind.u64.wrap n = n := fun n h0 h1 => by
    have : n < 18446744073709551616 := by simpa using h1
    rw [IntKind.wrap_u64]; omega
  have := (bits_nat .u64 64 (by decide) h64 v 15 (by omega) (by decide)).1
  rw [show ((15 : Nat) : Int) = 15 from rfl] at this
  rw [this, show (15 : Nat) = 2 ^ 4 - 1 by decide, Nat.and_two_pow_sub_one_eq_mod]
set_option maxHeartbeats 6400000 in
set_option maxRecDepth 100000 in
theorem bits16 (u : Nat) (hu : u < 18446744073709551616) (w : World) (zs : List Int) (hz : zs = [0, 1, 56, 2, 57, 49, 28, 3, 61, 58, 42, 50, 38, 29, 17, 4, 62, 47, 59, 36, 45, 43, 51, 22, 53, 39, 33, 30, 24, 18, 12, 5, 63, 55, 48, 27, 60, 41, 37, 16, 46, 35, 44, 21, 52, 32, 23, 11, 54, 26, 40, 15, 34, 20, 31, 10, 25, 14, 19, 9, 13, 8, 7, 6]) (htab : Lib.TabIs Tryd.prog w "math/bits.deBruijn64tab" .u8 zs) :
    Calls Tryd.prog 88 #[.slice none 0 0, .int .u64 u, .int .i64 16, .bool false, .bool false] w fun e w' => e = .returned (.tuple #[.slice none 0 0, .string ⟨(hexDigits u).toArray⟩]) ∧ Below w.heap.size w w' := by
  have htz := fun o => tz (w.alloc o) zs hz (Lib.tabIs_alloc htab o)
  clear htab hz
  go_enter Tryd.func88, Tryd.ntmps88
  go_wp2_with (first | (go_at_call 94; refine (pow2 _).mono ?_; rintro e w' ⟨rfl, rfl⟩) | (go_at_call 95; refine (htz _).mono ?_; rintro e w' ⟨rfl, rfl⟩))
  have hT0 : Aside0 (Tail (w.alloc (Obj.cells Tryd.zeroCells148 148)) w.heap.size 65 []) := ⟨_, heap_alloc_new w _, by kernel_rfl, by kernel_rfl⟩
  have hB0 : Aside0 (Below w.heap.size w (w.alloc (Obj.cells Tryd.zeroCells148 148))) := ⟨(Below.refl _ _).alloc (Nat.le_refl _) _⟩
  have HU := Aside0.mk hu
  clear htz hu
  go_loopg [1, 13] 15 (fun gg s1 s13 wr => ∃ (v i k : Nat) (l : List UInt8), s1 = .int .u64 v ∧ s13 = .int .i64 i ∧ k ≤ gg ∧ k ≤ 15 ∧ i = 50 + k ∧ Aside0 (v < 16 ^ (k + 1)) ∧ Aside0 (hexDigits u = hexDigits v ++ l) ∧ Aside0 (Tail wr w.heap.size i l) ∧ Aside0 (Below w.heap.size w wr))
  case atStart => exact ⟨u, 65, 15, [], rfl, rfl, by omega, by omega, rfl, ⟨by simpa using HU.out⟩, ⟨by simp⟩, hT0, hB0⟩
  case round =>
    clear HU hT0 hB0
    obtain ⟨v, i, k, l, rfl, rfl, hk, hk15, rfl, HV, HL, HT, HB⟩ := hrel
    obtain ⟨cur, h1, h2, h3⟩ := HT.out
    have hv64 : v < 18446744073709551616 := Nat.lt_of_lt_of_le HV.out (by have := Nat.pow_le_pow_right (n := 16) (by decide) (show k + 1 ≤ 16 by omega); simpa using this)
    have hcell : Aside0 (∀ i, i < 65 → ∃ old, wr.cell? ⟨w.heap.size, i, none⟩ = some old ∧ wr.frozen? ⟨w.heap.size, i, none⟩ = false) := ⟨fun i hi => ⟨cur[i]!, by
      have : i < cur.size := by omega
      simp [World.cell?, h1, this], by simp [World.frozen?, h1]⟩⟩
    clear h1 h2 h3
    by_cases hge : 16 ≤ v
    · have hd : decide ((16 : Int) ≤ (v : Int)) = true := decide_eq_true (by omega)
      have hand := and15 v hv64
      obtain ⟨k, rfl⟩ : ∃ j, k = j + 1 := ⟨k - 1, by
        have := HV.out
        by_cases h0 : k = 0
        · subst h0; simp at this; omega
        · omega⟩
      obtain ⟨old, hc1, hf1⟩ := hcell.out (50 + k) (by omega)
      go_wp2
      go_roundg k
      case measure => omega
      case rel =>
        refine ⟨v / 16, 50 + k, k, hexDigit (v % 16) :: l, by go_num, by go_num, Nat.le_refl _, by omega, rfl, ⟨?_⟩, ⟨?_⟩, ⟨?_⟩, ⟨?_⟩⟩
        · exact Nat.div_lt_of_lt_mul (by have := HV.out; rw [Nat.pow_succ, Nat.mul_comm] at this; exact this)
        · rw [HL.out, hex_big (by omega)]; simp
        · have := HT.out.put (i := 50 + k) (by omega) (hexDigit (v % 16))
          rw [digit_at (v % 16) (Nat.mod_lt _ (by decide))]
          exact this
        · exact HB.out.setCell (Nat.le_refl _) _
    · have hd : decide ((16 : Int) ≤ (v : Int)) = false := decide_eq_false (by omega)
      have hv16 : v < 16 := by omega
      obtain ⟨old, hc1, hf1⟩ := hcell.out (49 + k) (by omega)
      have hT2 : Tail (wr.setCell ⟨w.heap.size, 49 + k, none⟩ (.int .u8 ((hexDigit v).toNat : Int))) w.heap.size (49 + k) (hexDigits u) := by
        have ht : Tail wr w.heap.size (49 + k + 1) l := by rw [show 49 + k + 1 = 50 + k by omega]; exact HT.out
        rw [HL.out, hex_small hv16]
        exact ht.put (by omega) (hexDigit v)
      rw [← digit_at v hv16 (by rw [digs_size]; omega)] at hT2
      have HT2 := Aside0.mk hT2
      clear hT2
      have hlen := HT2.out.len
      have hal : Tryd.prog.arrayLen 148 = 65 := by simp [Program.arrayLen, Tryd.underlying148]
      have hsl1 : ∀ W, (Instr.sliceAt 148 (.pointer (some ⟨w.heap.size, 0, none⟩)) (some (.int .i64 (50 + (k : Int) - 1))) none none).run Tryd.prog W = .ok (.slice (some ⟨w.heap.size, 49 + k, none⟩) (hexDigits u).length (hexDigits u).length) W := fun W => by
        rw [run_sliceAt_array_l W 148 ⟨w.heap.size, 0, none⟩ (by simp [Program.arrayLen, Program.elem, Tryd.underlying148]) .i64 (50 + (k : Int) - 1) (by omega) (by rw [hal]; omega)]
        rw [hal, show Tryd.prog.elem 148 = 5 by simp [Program.elem, Tryd.underlying148], Tryd.sizeOf5, show (50 + (k : Int) - 1).toNat = 49 + k by omega, hlen, show 65 - (49 + k) = 16 - k by omega]
        simp [Result.andThen, slicedAt]
        rw [if_neg (by omega), Lib.add_plain]
        exact ⟨by rw [Nat.zero_add], by omega⟩
      have hcv := run_convert_bytes_back (P := Tryd.prog) _ 62 9 5 ⟨w.heap.size, 49 + k, none⟩ (hexDigits u).length (hexDigits u) Tryd.underlying62 Tryd.underlying5 Tryd.underlying9 (fun j hj => by rw [Lib.add_plain]; exact HT2.out.cell j hj)
      clear hal hlen
      go_wp2
      go_ret2
      exact ⟨rfl, HB.out.setCell (Nat.le_refl _) _⟩

def tab64 : List Int := [0, 1, 56, 2, 57, 49, 28, 3, 61, 58, 42, 50, 38, 29, 17, 4, 62, 47, 59, 36, 45, 43, 51, 22, 53, 39, 33, 30, 24, 18, 12, 5, 63, 55, 48, 27, 60, 41, 37, 16, 46, 35, 44, 21, 52, 32, 23, 11, 54, 26, 40, 15, 34, 20, 31, 10, 25, 14, 19, 9, 13, 8, 7, 6]
set_option maxHeartbeats 1000000 in
theorem inner16 (u : Nat) (hu : u < 18446744073709551616) (w : World) (htab : Lib.TabIs Tryd.prog w "math/bits.deBruijn64tab" .u8 tab64) :
    Calls Tryd.prog 73 #[.int .u64 u, .int .i64 16] w fun e w' => e = .returned (.string ⟨(hexDigits u).toArray⟩) ∧ Below w.heap.size w w' := by
  have h := bits16 u hu w tab64 rfl htab
  clear htab
  go_enter Tryd.func73, Tryd.ntmps73
  go_wp2_with (go_at_call 88; refine h.mono ?_; rintro e w' ⟨rfl, hb⟩)
  go_ret
  exact ⟨rfl, hb⟩
/-- What FormatUint gives at the bases 10 and 16. -/
def fmtOf (u base : Int) : List UInt8 := if base = 10 then Lib.decDigits u.toNat else hexDigits u.toNat
theorem format (a b : Int) (h0 : 0 ≤ a) (h1 : a < 18446744073709551616) (hb : b = 10 ∨ b = 16) (w : World) (ht1 : Lib.TabIs Tryd.prog w "internal/strconv.uint64pow10" .u64 Lib.pow10Tab) (ht2 : Lib.TabIs Tryd.prog w "math/bits.deBruijn64tab" .u8 tab64) :
    Calls Tryd.prog 52 #[.int .u64 a, .int .i64 b] w fun e w' => e = .returned (.string ⟨(fmtOf a b).toArray⟩) ∧ Below w.heap.size w w' := by
  obtain ⟨u, rfl⟩ := Int.eq_ofNat_of_zero_le h0
  have hu : u < 18446744073709551616 := by omega
  have h : Calls Tryd.prog 73 #[.int .u64 u, .int .i64 b] w fun e w' => e = .returned (.string ⟨(fmtOf u b).toArray⟩) ∧ Below w.heap.size w w' := by
    rcases hb with rfl | rfl
    · exact inner10 u hu w ht1
    · exact inner16 u hu w ht2
  clear ht1 ht2 hu h1 h0 hb
  generalize fmtOf u b = l at h ⊢
  go_enter Tryd.func52, Tryd.ntmps52
  go_wp2_with (go_at_call 73; refine h.mono ?_; rintro e w' ⟨rfl, hb⟩)
  go_ret
  exact ⟨rfl, hb⟩

/-! ### the numerals of base 10 -/
theorem dec_big {u : Nat} (h : ¬ u < 10) : Lib.decDigits u = Lib.decDigits (u / 10) ++ [UInt8.ofNat (48 + u % 10)] := by rw [Lib.decDigits, dif_neg h]
theorem dec_small {u : Nat} (h : u < 10) : Lib.decDigits u = [UInt8.ofNat (48 + u)] := by rw [Lib.decDigits, dif_pos h]
theorem dec_inj (a b : Nat) : Lib.decDigits a = Lib.decDigits b → a = b := by
  have ne : ∀ u, Lib.decDigits u ≠ [] := fun u => by
    by_cases h : u < 10
    · rw [dec_small h]; simp
    · rw [dec_big h]; simp
  have dig : ∀ x y : Nat, x < 10 → y < 10 → UInt8.ofNat (48 + x) = UInt8.ofNat (48 + y) → x = y := fun x y hx hy h => by
    have := congrArg UInt8.toNat h
    simp only [UInt8.toNat_ofNat'] at this
    omega
  induction a using Nat.strongRecOn generalizing b with
  | _ a ih =>
    intro h
    by_cases ha : a < 10
    · by_cases hb : b < 10
      · rw [dec_small ha, dec_small hb] at h
        exact dig _ _ ha hb (List.cons.inj h).1
      · rw [dec_small ha, dec_big hb] at h
        have := congrArg List.length h
        simp at this
        exact absurd this (ne _)
    · by_cases hb : b < 10
      · rw [dec_big ha, dec_small hb] at h
        have := congrArg List.length h
        simp at this
        exact absurd this (ne _)
      · rw [dec_big ha, dec_big hb] at h
        obtain ⟨h1, h2⟩ := List.append_inj' h rfl
        have h3 := ih (a / 10) (by omega) (b / 10) h1
        have h4 := dig _ _ (Nat.mod_lt _ (by decide)) (Nat.mod_lt _ (by decide)) (List.cons.inj h2).1
        omega
/-- Each byte of a numeral is a digit. -/
theorem dec_digit (a : Nat) : ∀ c ∈ Lib.decDigits a, c.toNat < 58 := by
  induction a using Nat.strongRecOn with
  | _ a ih =>
    intro c hc
    by_cases ha : a < 10
    · rw [dec_small ha] at hc
      have e : c = UInt8.ofNat (48 + a) := by simpa using hc
      rw [e]
      simp only [UInt8.toNat_ofNat']
      omega
    · rw [dec_big ha] at hc
      rcases List.mem_append.1 hc with hc | hc
      · exact ih (a / 10) (by omega) c hc
      · have e : c = UInt8.ofNat (48 + a % 10) := by simpa using hc
        rw [e]
        simp only [UInt8.toNat_ofNat']
        omega
theorem dec_ne (u : Nat) : Lib.decDigits u ≠ [] := by
  by_cases h : u < 10
  · rw [dec_small h]; simp
  · rw [dec_big h]; simp
theorem dec_length (u : Nat) (h : u < 18446744073709551616) : (Lib.decDigits u).length ≤ 20 := by
  by_cases h0 : u < 10
  · rw [dec_small h0]; simp
  · rw [Lib.decDigits_length]
    have := Lib.numDigits_eq u (by omega) h
    split at this <;> omega
end Go.Proofs.YtjmjebbjfjgbeaaDoor.Fmt
