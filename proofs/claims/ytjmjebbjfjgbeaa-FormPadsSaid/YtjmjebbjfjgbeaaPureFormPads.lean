/- An ident's bytes are read again, whatever its pad is: for every input; no condition. -/
import Derived.Test.YtjmjebbjfjgbeaaIdt
import Derived.Test.YtjmjebbjfjgbeaaQ19
namespace Go.Proofs.Ytjmjebbjfjgbeaa.Pure
open Go.RowKit Go.Proofs.Ytjmjebbjfjgbeaa.Q Go.Proofs.YtjmjebbjfjgbeaaW.PrintWords Go.Proofs.YtjmjebbjfjgbeaaW.PrintLast Go.Proofs.YtjmjebbjfjgbeaaW.PrintMore Go.Proofs.Ytjmjebbjfjgbeaa.Mth
set_option linter.unusedVariables false
set_option linter.unusedSimpArgs false

theorem two_ok (b : Bool) : (twoB b = 1 ∨ twoB b = 2) ∧ (twoB b == 2) = b := by cases b <;> decide
theorem zeros_str (n : Nat) : (strOfNums (List.replicate n 0)).toList = List.replicate n 0 := by
  rw [toList_data, strOfNums_data]
  simp
theorem FormPads : graverlaw04_FormPads.Pure := by
  intro wide big pad hp
  refine Ev.rounds (Ev.congr (fun k => graverlaw04_FormPads.f.eq_1 k wide big pad) ?_)
  refine Ev.bind speaks04 (ev_pos rfl ?_)
  refine ev_const (ident_is big wide 7 9 pad hp) ?_
  have hl : pad.data.toList.length = pad.size := data_length pad
  have hrest : (pad.data.toList.take 7 ++ List.replicate (7 - (pad.data.toList.take 7).length) 0).length = 7 := by rw [List.length_append, List.length_replicate, List.length_take]; omega
  have hid : identL big wide 7 9 pad.data.toList = 127 :: 69 :: 76 :: 70 :: twoB wide :: twoB big :: 1 :: 7 :: 9 :: (pad.data.toList.take 7 ++ List.replicate (7 - (pad.data.toList.take 7).length) 0) := by
    unfold identL
    simp [magicL]
  have hr := read_is (⟨(identL big wide 7 9 pad.data.toList).toArray⟩ : ByteArray) _ _ _ _ _ _ _ _ _ _ (by rw [mk_list, hid]) (by omega)
  have hv : readV (twoB wide) (twoB big) 1 7 9 [127, 69, 76, 70] (pad.data.toList.take 7 ++ List.replicate (7 - (pad.data.toList.take 7).length) 0) = (big, wide, 7, 9, ⟨(pad.data.toList.take 7 ++ List.replicate (7 - (pad.data.toList.take 7).length) 0).toArray⟩, 0) := by
    unfold readV
    rw [if_pos (show ([127, 69, 76, 70] : List UInt8) = magicL from rfl), if_pos (two_ok wide).1, if_pos (two_ok big).1, if_pos rfl, (two_ok wide).2, (two_ok big).2, List.take_of_length_le (by omega)]
    rfl
  rw [hv] at hr
  refine ev_const hr ?_
  have hsz : (⟨(identL big wide 7 9 pad.data.toList).toArray⟩ : ByteArray).size = 16 := by rw [ba_size, mk_list, hid]; simp only [List.length_cons, hrest]
  have hpz : (⟨(pad.data.toList.take 7 ++ List.replicate (7 - (pad.data.toList.take 7).length) 0).toArray⟩ : ByteArray).size = 7 := by rw [ba_size, mk_list, hrest]
  have hlt : (pad.data.toList.take 7).length = min 7 pad.size := by rw [List.length_take, hl]
  have hmn : ((mn (pad.size : Int) 7) : Int).toNat = min 7 pad.size := by rw [mn_eq]; omega
  refine ev_pos (by omega) (ev_pos rfl (ev_pos (by simp) (ev_pos rfl (ev_pos rfl (ev_pos (by rw [mn_eq]; omega) (ev_pos (by rw [hpz, mn_eq]; omega) (ev_pos (by rw [mn_eq]; omega) (ev_pos ?_ (ev_pos (by rw [mn_eq]; omega) (ev_pos (by rw [mn_eq]; omega) (ev_now ?_)))))))))))
  · rw [toList_data, toList_data, extract_data, extract_data, mk_list, hmn, List.drop_zero, List.drop_zero, Nat.sub_zero, List.take_left' (by rw [hlt])]
    by_cases h : pad.size ≤ 7
    · rw [List.take_of_length_le (by omega), List.take_of_length_le (by omega)]
    · congr 1
      omega
  · rw [toList_data, extract_data, mk_list, hpz, hmn, zeros_str, List.drop_left' (by rw [hlt]), List.take_of_length_le (by rw [List.length_replicate, hlt]; omega), hlt]
    have : (7 - mn (pad.size : Int) 7 : Int).toNat = 7 - min 7 pad.size := by rw [mn_eq]; omega
    rw [this]
    simp

end Go.Proofs.Ytjmjebbjfjgbeaa.Pure
