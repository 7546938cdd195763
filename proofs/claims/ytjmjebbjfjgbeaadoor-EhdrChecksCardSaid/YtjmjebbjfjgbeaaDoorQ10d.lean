/- What Go functions of the program compute, each as a Lean function with the proof that the call returns just that. No condition but those in the statements. -/
import Derived.Test.YtjmjebbjfjgbeaaDoorQ0
import Derived.Test.YtjmjebbjfjgbeaaDoorQ1
import Derived.Test.YtjmjebbjfjgbeaaDoorQ3
import Derived.Test.YtjmjebbjfjgbeaaDoorQ8
import Derived.Test.YtjmjebbjfjgbeaaDoorQ9
namespace Go.Proofs.YtjmjebbjfjgbeaaDoor.Q
open Go.RowKit Go.Proofs.YtjmjebbjfjgbeaaDoorW.PrintWords Go.Proofs.YtjmjebbjfjgbeaaDoorW.PrintLast Go.Proofs.YtjmjebbjfjgbeaaDoorW.PrintMore
attribute [local go_sem] max2_int min2_int max_two min_two max_three min_three max_four min_four   -- for this text's walks alone
set_option linter.unusedVariables false
set_option linter.unusedSimpArgs false

/-! #### graverlaw05_EhdrChecks: function 7 -/
mutual
def graverlaw05_EhdrChecks.j0 : Nat → Bool → Int → Int → Int → Int → Int → Int → Bool → Bool → Int → Int → Int → Int → Int → Int → Int → Int → Int → Int → Int → Int → Int → Option (Bool)
 | 0, _, _, _, _, _, _, _, _, _, _, _, _, _, _, _, _, _, _, _, _, _, _ => none
 | k + 1, x51, x181000, x181001, x181002, x181003, x182000, x182001, x186000, x186001, x200000, x200001, x200002, x200003, x200004, x200005, x200006, x200007, x200008, x200009, x200010, x200011, x200012 => if x51 = true then (some false) else (if x181001 = x200007 then (if x182000 = 0 then (if x182001 = 0 then (graverlaw05_EhdrChecks.j1 k 0 false x181000 x181001 x181002 x181003 x186000 x186001 x200000 x200001 x181000 x200003 x182000 x182001 x200006 x181001 x181002 x200009 x181003 x200011 x200012) else (graverlaw05_EhdrChecks.j1 k 0 (x181003 != x200010) x181000 x181001 x181002 x181003 x186000 x186001 x200000 x200001 x181000 x200003 x182000 x182001 x200006 x181001 x181002 x200009 x181003 x200011 x200012)) else (if x181002 = x200008 then (if x182001 = 0 then (graverlaw05_EhdrChecks.j1 k 0 false x181000 x181001 x181002 x181003 x186000 x186001 x200000 x200001 x181000 x200003 x182000 x182001 x200006 x181001 x181002 x200009 x181003 x200011 x200012) else (graverlaw05_EhdrChecks.j1 k 0 (x181003 != x200010) x181000 x181001 x181002 x181003 x186000 x186001 x200000 x200001 x181000 x200003 x182000 x182001 x200006 x181001 x181002 x200009 x181003 x200011 x200012)) else (graverlaw05_EhdrChecks.j1 k 0 true x181000 x181001 x181002 x181003 x186000 x186001 x200000 x200001 x181000 x200003 x182000 x182001 x200006 x181001 x181002 x200009 x181003 x200011 x200012))) else (graverlaw05_EhdrChecks.j1 k 0 true x181000 x181001 x181002 x181003 x186000 x186001 x200000 x200001 x181000 x200003 x182000 x182001 x200006 x181001 x181002 x200009 x181003 x200011 x200012))
def graverlaw05_EhdrChecks.j1 : Nat → Int → Bool → Int → Int → Int → Int → Bool → Bool → Int → Int → Int → Int → Int → Int → Int → Int → Int → Int → Int → Int → Int → Option (Bool)
 | 0, _, _, _, _, _, _, _, _, _, _, _, _, _, _, _, _, _, _, _, _, _ => none
 | k + 1, x10, x99, x181000, x181001, x181002, x181003, x186000, x186001, x200000, x200001, x200002, x200003, x200004, x200005, x200006, x200007, x200008, x200009, x200010, x200011, x200012 => if x99 = true then (if x181000 = 1 then ((ehdr_Head_Check.f k x200000 x200001 x200002 x200003 x200004 x200005 x200006 x200007 x200008 x200009 x200010 x200011 x200012 x186000 x186001).bind fun t203 => (some (t203 == 8))) else ((ehdr_Head_Check.f k x200000 x200001 x200002 x200003 x200004 x200005 x200006 x200007 x200008 x200009 x200010 x200011 x200012 x186000 x186001).bind fun t204 => (some (t204 == 7)))) else (if x181000 = 1 then ((ehdr_Head_Check.f k x200000 x200001 x200002 x200003 x200004 x200005 x200006 x200007 x200008 x200009 x200010 x200011 x200012 x186000 x186001).bind fun t205 => (some (t205 == x10))) else ((ehdr_Head_Check.f k x200000 x200001 x200002 x200003 x200004 x200005 x200006 x200007 x200008 x200009 x200010 x200011 x200012 x186000 x186001).bind fun t206 => (some (t206 == 7))))
end
def graverlaw05_EhdrChecks.f (k : Nat) (a0 : Int) (a1_0 : Int) (a1_1 : Int) (a1_2 : Int) (a1_3 : Int) (a2_0 : Int) (a2_1 : Int) : Option (Bool) := (graverlaw05_speaks.f k).bind fun t182 => (if t182 = true then ((graverlaw05_formOf.f a0).bind fun bt183 => ((ehdr_Plain.f k bt183.1 bt183.2).bind fun bt186 => ((ehdr_Head_Check.f k bt186.1 bt186.2.1 bt186.2.2.1 bt186.2.2.2.1 bt186.2.2.2.2.1 bt186.2.2.2.2.2.1 bt186.2.2.2.2.2.2.1 bt186.2.2.2.2.2.2.2.1 bt186.2.2.2.2.2.2.2.2.1 bt186.2.2.2.2.2.2.2.2.2.1 bt186.2.2.2.2.2.2.2.2.2.2.1 bt186.2.2.2.2.2.2.2.2.2.2.2.1 bt186.2.2.2.2.2.2.2.2.2.2.2.2 bt183.1 bt183.2).bind fun t200 => (if t200 = 0 then ((ehdr_Size.f k bt183.1 bt183.2).bind fun t201 => (if bt186.2.2.2.2.2.2.2.1 = (IntKind.u64.wrap (wrap64 (16 + t201))) then (if bt186.2.2.2.2.2.2.2.2.1 = (IntKind.u64.wrap (wrap64 (32 + (wrap64 (24 * (Go.bits .and .i64 (a0 / 2) 1)))))) then (graverlaw05_EhdrChecks.j0 k (bt186.2.2.2.2.2.2.2.2.2.2.1 != (IntKind.u64.wrap (wrap64 (40 + (wrap64 (24 * (Go.bits .and .i64 (a0 / 2) 1))))))) a1_0 a1_1 a1_2 a1_3 a2_0 a2_1 bt183.1 bt183.2 bt186.1 bt186.2.1 bt186.2.2.1 bt186.2.2.2.1 bt186.2.2.2.2.1 bt186.2.2.2.2.2.1 bt186.2.2.2.2.2.2.1 bt186.2.2.2.2.2.2.2.1 bt186.2.2.2.2.2.2.2.2.1 bt186.2.2.2.2.2.2.2.2.2.1 bt186.2.2.2.2.2.2.2.2.2.2.1 bt186.2.2.2.2.2.2.2.2.2.2.2.1 bt186.2.2.2.2.2.2.2.2.2.2.2.2) else (graverlaw05_EhdrChecks.j0 k true a1_0 a1_1 a1_2 a1_3 a2_0 a2_1 bt183.1 bt183.2 bt186.1 bt186.2.1 bt186.2.2.1 bt186.2.2.2.1 bt186.2.2.2.2.1 bt186.2.2.2.2.2.1 bt186.2.2.2.2.2.2.1 bt186.2.2.2.2.2.2.2.1 bt186.2.2.2.2.2.2.2.2.1 bt186.2.2.2.2.2.2.2.2.2.1 bt186.2.2.2.2.2.2.2.2.2.2.1 bt186.2.2.2.2.2.2.2.2.2.2.2.1 bt186.2.2.2.2.2.2.2.2.2.2.2.2)) else (graverlaw05_EhdrChecks.j0 k true a1_0 a1_1 a1_2 a1_3 a2_0 a2_1 bt183.1 bt183.2 bt186.1 bt186.2.1 bt186.2.2.1 bt186.2.2.2.1 bt186.2.2.2.2.1 bt186.2.2.2.2.2.1 bt186.2.2.2.2.2.2.1 bt186.2.2.2.2.2.2.2.1 bt186.2.2.2.2.2.2.2.2.1 bt186.2.2.2.2.2.2.2.2.2.1 bt186.2.2.2.2.2.2.2.2.2.2.1 bt186.2.2.2.2.2.2.2.2.2.2.2.1 bt186.2.2.2.2.2.2.2.2.2.2.2.2))) else (graverlaw05_EhdrChecks.j0 k true a1_0 a1_1 a1_2 a1_3 a2_0 a2_1 bt183.1 bt183.2 bt186.1 bt186.2.1 bt186.2.2.1 bt186.2.2.2.1 bt186.2.2.2.2.1 bt186.2.2.2.2.2.1 bt186.2.2.2.2.2.2.1 bt186.2.2.2.2.2.2.2.1 bt186.2.2.2.2.2.2.2.2.1 bt186.2.2.2.2.2.2.2.2.2.1 bt186.2.2.2.2.2.2.2.2.2.2.1 bt186.2.2.2.2.2.2.2.2.2.2.2.1 bt186.2.2.2.2.2.2.2.2.2.2.2.2))))) else (some false))
theorem graverlaw05_EhdrChecks.mono_l : ∀ k, (∀ y0 y1 y2 y3 y4 y5 y6 y7 y8 y9 y10 y11 y12 y13 y14 y15 y16 y17 y18 y19 y20 y21, LeO (graverlaw05_EhdrChecks.j0 k y0 y1 y2 y3 y4 y5 y6 y7 y8 y9 y10 y11 y12 y13 y14 y15 y16 y17 y18 y19 y20 y21) (graverlaw05_EhdrChecks.j0 (k + 1) y0 y1 y2 y3 y4 y5 y6 y7 y8 y9 y10 y11 y12 y13 y14 y15 y16 y17 y18 y19 y20 y21)) ∧ (∀ y0 y1 y2 y3 y4 y5 y6 y7 y8 y9 y10 y11 y12 y13 y14 y15 y16 y17 y18 y19 y20, LeO (graverlaw05_EhdrChecks.j1 k y0 y1 y2 y3 y4 y5 y6 y7 y8 y9 y10 y11 y12 y13 y14 y15 y16 y17 y18 y19 y20) (graverlaw05_EhdrChecks.j1 (k + 1) y0 y1 y2 y3 y4 y5 y6 y7 y8 y9 y10 y11 y12 y13 y14 y15 y16 y17 y18 y19 y20))
 | 0 => ⟨fun _ _ _ _ _ _ _ _ _ _ _ _ _ _ _ _ _ _ _ _ _ _ r h => by simp [graverlaw05_EhdrChecks.j0] at h, fun _ _ _ _ _ _ _ _ _ _ _ _ _ _ _ _ _ _ _ _ _ r h => by simp [graverlaw05_EhdrChecks.j1] at h⟩
 | k + 1 => by
  obtain ⟨ih0, ih1⟩ := graverlaw05_EhdrChecks.mono_l k
  refine ⟨?_, ?_⟩
  ·
   intro y0 y1 y2 y3 y4 y5 y6 y7 y8 y9 y10 y11 y12 y13 y14 y15 y16 y17 y18 y19 y20 y21
   unfold graverlaw05_EhdrChecks.j0
   repeat' first
   | (with_reducible exact ih0 _ _ _ _ _ _ _ _ _ _ _ _ _ _ _ _ _ _ _ _ _ _)
   | (with_reducible exact ih1 _ _ _ _ _ _ _ _ _ _ _ _ _ _ _ _ _ _ _ _ _)
   | (with_reducible exact ehdr_Head_Check.mono _ _ _ _ _ _ _ _ _ _ _ _ _ _ _ _)
   | (with_reducible exact ehdr_Plain.mono _ _ _)
   | (with_reducible exact ehdr_Size.mono _ _ _)
   | (with_reducible exact graverlaw05_speaks.mono _)
   | (with_reducible exact LeO.refl _)
   | (with_reducible exact LeO.none _)
   | (with_reducible refine LeO.ite ?_ ?_)
   | (with_reducible refine LeO.bind ?_ (fun _ => ?_))
   | exact ih0 _ _ _ _ _ _ _ _ _ _ _ _ _ _ _ _ _ _ _ _ _ _
   | exact ih1 _ _ _ _ _ _ _ _ _ _ _ _ _ _ _ _ _ _ _ _ _
   | exact ehdr_Head_Check.mono _ _ _ _ _ _ _ _ _ _ _ _ _ _ _ _
   | exact ehdr_Plain.mono _ _ _
   | exact ehdr_Size.mono _ _ _
   | exact graverlaw05_speaks.mono _
   | exact LeO.none _
   | refine LeO.ite ?_ ?_
   | refine LeO.bind ?_ (fun _ => ?_)
  ·
   intro y0 y1 y2 y3 y4 y5 y6 y7 y8 y9 y10 y11 y12 y13 y14 y15 y16 y17 y18 y19 y20
   unfold graverlaw05_EhdrChecks.j1
   repeat' first
   | (with_reducible exact ih0 _ _ _ _ _ _ _ _ _ _ _ _ _ _ _ _ _ _ _ _ _ _)
   | (with_reducible exact ih1 _ _ _ _ _ _ _ _ _ _ _ _ _ _ _ _ _ _ _ _ _)
   | (with_reducible exact ehdr_Head_Check.mono _ _ _ _ _ _ _ _ _ _ _ _ _ _ _ _)
   | (with_reducible exact ehdr_Plain.mono _ _ _)
   | (with_reducible exact ehdr_Size.mono _ _ _)
   | (with_reducible exact graverlaw05_speaks.mono _)
   | (with_reducible exact LeO.refl _)
   | (with_reducible exact LeO.none _)
   | (with_reducible refine LeO.ite ?_ ?_)
   | (with_reducible refine LeO.bind ?_ (fun _ => ?_))
   | exact ih0 _ _ _ _ _ _ _ _ _ _ _ _ _ _ _ _ _ _ _ _ _ _
   | exact ih1 _ _ _ _ _ _ _ _ _ _ _ _ _ _ _ _ _ _ _ _ _
   | exact ehdr_Head_Check.mono _ _ _ _ _ _ _ _ _ _ _ _ _ _ _ _
   | exact ehdr_Plain.mono _ _ _
   | exact ehdr_Size.mono _ _ _
   | exact graverlaw05_speaks.mono _
   | exact LeO.none _
   | refine LeO.ite ?_ ?_
   | refine LeO.bind ?_ (fun _ => ?_)
theorem graverlaw05_EhdrChecks.mono : ∀ a0 a1 a2 a3 a4 a5 a6 k, LeO (graverlaw05_EhdrChecks.f k a0 a1 a2 a3 a4 a5 a6) (graverlaw05_EhdrChecks.f (k + 1) a0 a1 a2 a3 a4 a5 a6) := by
 intro a0 a1 a2 a3 a4 a5 a6 k
 obtain ⟨ih0, ih1⟩ := graverlaw05_EhdrChecks.mono_l k
 unfold graverlaw05_EhdrChecks.f
 repeat' first
   | (with_reducible exact ih0 _ _ _ _ _ _ _ _ _ _ _ _ _ _ _ _ _ _ _ _ _ _)
   | (with_reducible exact ih1 _ _ _ _ _ _ _ _ _ _ _ _ _ _ _ _ _ _ _ _ _)
   | (with_reducible exact ehdr_Head_Check.mono _ _ _ _ _ _ _ _ _ _ _ _ _ _ _ _)
   | (with_reducible exact ehdr_Plain.mono _ _ _)
   | (with_reducible exact ehdr_Size.mono _ _ _)
   | (with_reducible exact graverlaw05_speaks.mono _)
   | (with_reducible exact LeO.refl _)
   | (with_reducible exact LeO.none _)
   | (with_reducible refine LeO.ite ?_ ?_)
   | (with_reducible refine LeO.bind ?_ (fun _ => ?_))
   | exact ih0 _ _ _ _ _ _ _ _ _ _ _ _ _ _ _ _ _ _ _ _ _ _
   | exact ih1 _ _ _ _ _ _ _ _ _ _ _ _ _ _ _ _ _ _ _ _ _
   | exact ehdr_Head_Check.mono _ _ _ _ _ _ _ _ _ _ _ _ _ _ _ _
   | exact ehdr_Plain.mono _ _ _
   | exact ehdr_Size.mono _ _ _
   | exact graverlaw05_speaks.mono _
   | exact LeO.none _
   | refine LeO.ite ?_ ?_
   | refine LeO.bind ?_ (fun _ => ?_)
def graverlaw05_EhdrChecks.T5 : Bool × List (List Nat × List Nat) := (true, [([], []), ([], []), ([0, 1], [0, 1]), ([2], [2]), ([3, 2], [3]), ([4], [4]), ([5, 4], [4, 5]), ([4], [4]), ([7, 4, 4], [4, 7]), ([8, 4], [4, 8]), ([9, 4], [4, 9]), ([6, 10, 4], [4, 6, 10]), ([4, 11], [4, 11]), ([12, 8], [12]), ([13], [13]), ([14, 13], [13, 14]), ([13], [13]), ([16, 13], [13, 16]), ([17, 13], [13, 17]), ([18, 13], [13, 18]), ([19, 13], [13, 19]), ([20, 13], [13, 20]), ([15, 21, 13], [13, 15, 21]), ([13, 22], [13, 22]), ([23, 13], [23]), ([24], [24]), ([25, 24], [24, 25]), ([24], [24]), ([27, 24], [24, 27]), ([28, 24], [24, 28]), ([29, 24], [24, 29]), ([30, 24], [24, 30]), ([31, 24], [24, 31]), ([26, 32, 24], [24, 26, 32]), ([24, 33], [24, 33])])
def graverlaw05_EhdrChecks.B5 : List Nat := [0, 0, 3, 7, 15, 31, 63, 31, 159, 415, 927, 2047, 4095, 8191, 16383, 32767, 16383, 81919, 212991, 475135, 999423, 2047999, 4194303, 8388607, 16777215, 33554431, 67108863, 33554431, 167772159, 436207615, 973078527, 2046820351, 4194303999, 8589934591, 17179869183]
theorem graverlaw05_EhdrChecks.tab5 : rtab .any (opsOf Tryd.f7 5) = graverlaw05_EhdrChecks.T5 := by kernel_rfl
theorem graverlaw05_EhdrChecks.bits5 : waitsOk graverlaw05_EhdrChecks.T5.2 graverlaw05_EhdrChecks.B5 = true := by kernel_rfl
def graverlaw05_EhdrChecks.T8 : Bool × List (List Nat × List Nat) := (true, [([], []), ([0], [0]), ([], []), ([2], [2]), ([], []), ([4], [4]), ([], []), ([6], [6]), ([], []), ([8], [8]), ([], []), ([10], [10]), ([0, 1], []), ([12, 1, 0, 1], [1, 12]), ([0, 1, 2, 3, 12, 13], []), ([14, 3, 13, 0, 1, 2, 3, 12, 13], [3, 14]), ([0, 1, 2, 3, 4, 5, 12, 13, 14, 15], []), ([16, 5, 15, 0, 1, 2, 3, 4, 5, 12, 13, 14, 15], [5, 16]), ([0, 1, 2, 3, 4, 5, 6, 7, 12, 13, 14, 15, 16, 17], []), ([18, 7, 17, 0, 1, 2, 3, 4, 5, 6, 7, 12, 13, 14, 15, 16, 17], [7, 18]), ([0, 1, 2, 3, 4, 5, 6, 7, 8, 9, 12, 13, 14, 15, 16, 17, 18, 19], []), ([20, 9, 19, 0, 1, 2, 3, 4, 5, 6, 7, 8, 9, 12, 13, 14, 15, 16, 17, 18, 19], [9, 20]), ([0, 1, 2, 3, 4, 5, 6, 7, 8, 9, 10, 11, 12, 13, 14, 15, 16, 17, 18, 19, 20, 21], []), ([22, 11, 21, 0, 1, 2, 3, 4, 5, 6, 7, 8, 9, 10, 11, 12, 13, 14, 15, 16, 17, 18, 19, 20, 21], [11, 22])])
def graverlaw05_EhdrChecks.B8 : List Nat := [0, 1, 0, 4, 0, 16, 0, 64, 0, 256, 0, 1024, 3, 4099, 12303, 28687, 61503, 127039, 258303, 520447, 1045503, 2094079, 4194303, 8388607]
theorem graverlaw05_EhdrChecks.tab8 : rtab .any (opsOf Tryd.f7 8) = graverlaw05_EhdrChecks.T8 := by kernel_rfl
theorem graverlaw05_EhdrChecks.bits8 : waitsOk graverlaw05_EhdrChecks.T8.2 graverlaw05_EhdrChecks.B8 = true := by kernel_rfl
/-- THE ONE PURE STATEMENT of graverlaw05_EhdrChecks: yours. -/
def graverlaw05_EhdrChecks.Pure : Prop := ∀ (a0 : Int) (a1_0 : Int) (a1_1 : Int) (a1_2 : Int) (a1_3 : Int) (a2_0 : Int) (a2_1 : Int), (Lit.int .i64 a0).wf = true → (Lit.int .u64 a1_0).wf = true → (Lit.int .u64 a1_1).wf = true → (Lit.int .u64 a1_2).wf = true → (Lit.int .u64 a1_3).wf = true → (Lit.int .u64 a2_0).wf = true → (Lit.int .u64 a2_1).wf = true → ∃ k, graverlaw05_EhdrChecks.f k a0 a1_0 a1_1 a1_2 a1_3 a2_0 a2_1 = some true

end Go.Proofs.YtjmjebbjfjgbeaaDoor.Q
