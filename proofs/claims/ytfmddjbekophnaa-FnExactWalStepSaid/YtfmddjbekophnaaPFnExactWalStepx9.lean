-- PRINTED by print.py (a twelfth state) out of the translation. Not trusted: Lean checks it.
import Derived.Test.YtfmddjbekophnaaPFnExactWalStepx0
import Derived.Test.YtfmddjbekophnaaPFnExactWalStepx1
import Derived.Test.YtfmddjbekophnaaPFnExactWalStepx2
import Derived.Test.YtfmddjbekophnaaPFnExactWalStepx5
import Derived.Test.YtfmddjbekophnaaPFnExactWalStepx7
import Derived.Test.YtfmddjbekophnaaPFnExactWalStepx8
import Derived.Test.YtfmddjbekophnaaZip
namespace Go.Proofs.Ytfmddjbekophnaa.PFnExactWalStep
open Go.RowKit Go.Proofs.YtfmddjbekophnaaW.PrintWords Go.Proofs.YtfmddjbekophnaaW.PrintLast Go.Proofs.YtfmddjbekophnaaW.PrintMore Go.Proofs.Ytfmddjbekophnaa.Zip
attribute [local go_sem] max2_int min2_int max_two min_two max_three min_three max_four min_four   -- for this text's walks alone
set_option linter.unusedVariables false
set_option linter.unusedSimpArgs false

/-! ### laws_FnExactWalStep: function 13 -/
mutual
def laws_FnExactWalStep.j0 : Nat → Bool → Bool → Bool → Int → Int → Int → Int → List (S139) → Int → Int → Int → Int → ByteArray → Int → Int → Int → Int → List (S117) → Int → Int → Int → Int → List (S117) → Int → Int → Int → Int → List (S117) → Option (Bool)
 | 0, _, _, _, _, _, _, _, _, _, _, _, _, _, _, _, _, _, _, _, _, _, _, _, _, _, _, _, _ => none
 | k + 1, x7, x10, x51, x247000, x247001, x247002, x247003, x247004, x248000, x248001, x248002, x248003, x248004, x271000, x271001, x271002, x271003, x271004, x279000, x279001, x279002, x279003, x279004, x293000, x293001, x293002, x293003, x293004 => if x51 = true then (some false) else ((laws_toWal.f k x247000 x247001 x247002 x247003 x247004).bind fun bt294 => ((laws_eqWal.f k x279000 x279001 x279002 x279003 x279004 bt294.1 bt294.2.1 bt294.2.2.1 bt294.2.2.2.1 bt294.2.2.2.2).bind fun t301 => (if t301 = true then ((laws_markWal.f k x279000 x279001 x279002 x279003 x279004 1).bind fun bt302 => (if bt302.1 < 0 then (laws_FnExactWalStep.j1 k x7 true x247000 x247001 x247002 x247003 x247004 x248000 x248001 x248002 x248003 x248004 x271000 x271001 x271002 x271003 x271004 x293000 x293001 x293002 x293003 x293004) else ((laws_eqWal.f k x293000 x293001 x293002 x293003 x293004 x271000 x271001 x271002 x271003 x271004).bind fun t304 => (if t304 = true then (laws_FnExactWalStep.j1 k x7 (x10 != x7) x247000 x247001 x247002 x247003 x247004 x248000 x248001 x248002 x248003 x248004 x271000 x271001 x271002 x271003 x271004 x293000 x293001 x293002 x293003 x293004) else (laws_FnExactWalStep.j1 k x7 true x247000 x247001 x247002 x247003 x247004 x248000 x248001 x248002 x248003 x248004 x271000 x271001 x271002 x271003 x271004 x293000 x293001 x293002 x293003 x293004))))) else (some false))))
def laws_FnExactWalStep.j1 : Nat → Bool → Bool → Int → Int → Int → Int → List (S139) → Int → Int → Int → Int → ByteArray → Int → Int → Int → Int → List (S117) → Int → Int → Int → Int → List (S117) → Option (Bool)
 | 0, _, _, _, _, _, _, _, _, _, _, _, _, _, _, _, _, _, _, _, _, _, _ => none
 | k + 1, x7, x72, x247000, x247001, x247002, x247003, x247004, x248000, x248001, x248002, x248003, x248004, x271000, x271001, x271002, x271003, x271004, x293000, x293001, x293002, x293003, x293004 => if x72 = true then (some false) else ((laws_markWal.f k x293000 x293001 x293002 x293003 x293004 1).bind fun bt305 => ((laws_heldWal.f k x293000 x293001 x293002 x293003 bt305.2 1).bind fun t307 => (if t307 < 0 then (some false) else (if t307 = bt305.1 then ((laws_toWal.f k x247000 x247001 x247002 x247003 x247004).bind fun bt308 => ((laws_toRec.f x248000 x248001 x248002 x248003 x248004).bind fun bt315 => ((impl_WalStep.f k bt308.1 bt308.2.1 bt308.2.2.1 bt308.2.2.2.1 bt308.2.2.2.2 bt315.1 bt315.2.1 bt315.2.2.1 bt315.2.2.2.1 bt315.2.2.2.2).bind fun bt320 => ((laws_eqWal.f k bt320.1 bt320.2.1 bt320.2.2.1 bt320.2.2.2.1 bt320.2.2.2.2.1 x271000 x271001 x271002 x271003 x271004).bind fun t329 => (if t329 = true then (laws_FnExactWalStep.j2 k bt305.1 (bt320.2.2.2.2.2 != x7) x293000 x293001 x293002 x293003 bt305.2) else (laws_FnExactWalStep.j2 k bt305.1 true x293000 x293001 x293002 x293003 bt305.2)))))) else (some false)))))
def laws_FnExactWalStep.j2 : Nat → Int → Bool → Int → Int → Int → Int → List (S117) → Option (Bool)
 | 0, _, _, _, _, _, _, _ => none
 | k + 1, x12, x100, x293000, x293001, x293002, x293003, x293004 => if x100 = true then (some false) else ((laws_heldWal.f k x293000 x293001 x293002 x293003 x293004 1).bind fun t330 => (if t330 < 0 then (some false) else (if t330 = x12 then (some true) else (some false))))
end
def laws_FnExactWalStep.f (k : Nat) (a0_0 : Int) (a0_1 : Int) (a0_2 : Int) (a0_3 : Int) (l0_4 : List (S139)) (a1_0 : Int) (a1_1 : Int) (a1_2 : Int) (a1_3 : Int) (a1_4 : ByteArray) : Option (Bool) := (laws_szWal.f k a0_0 a0_1 a0_2 a0_3 l0_4 1048576).bind fun t248 => (if t248 < 0 then (some true) else ((laws_szRec.f a1_0 a1_1 a1_2 a1_3 a1_4 t248).bind fun t249 => (if t249 < 0 then (some true) else ((laws_toWal.f k a0_0 a0_1 a0_2 a0_3 l0_4).bind fun bt250 => ((laws_toRec.f a1_0 a1_1 a1_2 a1_3 a1_4).bind fun bt257 => ((spec_WalStep.f k bt250.1 bt250.2.1 bt250.2.2.1 bt250.2.2.2.1 bt250.2.2.2.2 bt257.1 bt257.2.1 bt257.2.2.1 bt257.2.2.2.1 bt257.2.2.2.2).bind fun bt262 => ((laws_toWal.f k a0_0 a0_1 a0_2 a0_3 l0_4).bind fun bt271 => ((laws_toRec.f a1_0 a1_1 a1_2 a1_3 a1_4).bind fun bt279 => ((impl_WalStep.f k bt271.1 bt271.2.1 bt271.2.2.1 bt271.2.2.2.1 bt271.2.2.2.2 bt279.1 bt279.2.1 bt279.2.2.1 bt279.2.2.2.1 bt279.2.2.2.2).bind fun bt284 => ((laws_eqWal.f k bt284.1 bt284.2.1 bt284.2.2.1 bt284.2.2.2.1 bt284.2.2.2.2.1 bt262.1 bt262.2.1 bt262.2.2.1 bt262.2.2.2.1 bt262.2.2.2.2.1).bind fun t293 => (if t293 = true then (laws_FnExactWalStep.j0 k bt262.2.2.2.2.2 bt284.2.2.2.2.2 (bt284.2.2.2.2.2 != bt262.2.2.2.2.2) a0_0 a0_1 a0_2 a0_3 l0_4 a1_0 a1_1 a1_2 a1_3 a1_4 bt262.1 bt262.2.1 bt262.2.2.1 bt262.2.2.2.1 bt262.2.2.2.2.1 bt271.1 bt271.2.1 bt271.2.2.1 bt271.2.2.2.1 bt271.2.2.2.2 bt284.1 bt284.2.1 bt284.2.2.1 bt284.2.2.2.1 bt284.2.2.2.2.1) else (laws_FnExactWalStep.j0 k bt262.2.2.2.2.2 bt284.2.2.2.2.2 true a0_0 a0_1 a0_2 a0_3 l0_4 a1_0 a1_1 a1_2 a1_3 a1_4 bt262.1 bt262.2.1 bt262.2.2.1 bt262.2.2.2.1 bt262.2.2.2.2.1 bt271.1 bt271.2.1 bt271.2.2.1 bt271.2.2.2.1 bt271.2.2.2.2 bt284.1 bt284.2.1 bt284.2.2.1 bt284.2.2.2.1 bt284.2.2.2.2.1))))))))))))
theorem laws_FnExactWalStep.mono_l : ∀ k, (∀ y0 y1 y2 y3 y4 y5 y6 y7 y8 y9 y10 y11 y12 y13 y14 y15 y16 y17 y18 y19 y20 y21 y22 y23 y24 y25 y26 y27, LeO (laws_FnExactWalStep.j0 k y0 y1 y2 y3 y4 y5 y6 y7 y8 y9 y10 y11 y12 y13 y14 y15 y16 y17 y18 y19 y20 y21 y22 y23 y24 y25 y26 y27) (laws_FnExactWalStep.j0 (k + 1) y0 y1 y2 y3 y4 y5 y6 y7 y8 y9 y10 y11 y12 y13 y14 y15 y16 y17 y18 y19 y20 y21 y22 y23 y24 y25 y26 y27)) ∧ (∀ y0 y1 y2 y3 y4 y5 y6 y7 y8 y9 y10 y11 y12 y13 y14 y15 y16 y17 y18 y19 y20 y21, LeO (laws_FnExactWalStep.j1 k y0 y1 y2 y3 y4 y5 y6 y7 y8 y9 y10 y11 y12 y13 y14 y15 y16 y17 y18 y19 y20 y21) (laws_FnExactWalStep.j1 (k + 1) y0 y1 y2 y3 y4 y5 y6 y7 y8 y9 y10 y11 y12 y13 y14 y15 y16 y17 y18 y19 y20 y21)) ∧ (∀ y0 y1 y2 y3 y4 y5 y6, LeO (laws_FnExactWalStep.j2 k y0 y1 y2 y3 y4 y5 y6) (laws_FnExactWalStep.j2 (k + 1) y0 y1 y2 y3 y4 y5 y6))
 | 0 => ⟨fun _ _ _ _ _ _ _ _ _ _ _ _ _ _ _ _ _ _ _ _ _ _ _ _ _ _ _ _ r h => by simp [laws_FnExactWalStep.j0] at h, fun _ _ _ _ _ _ _ _ _ _ _ _ _ _ _ _ _ _ _ _ _ _ r h => by simp [laws_FnExactWalStep.j1] at h, fun _ _ _ _ _ _ _ r h => by simp [laws_FnExactWalStep.j2] at h⟩
 | k + 1 => by
  obtain ⟨ih0, ih1, ih2⟩ := laws_FnExactWalStep.mono_l k
  refine ⟨?_, ?_, ?_⟩
  ·intro y0 y1 y2 y3 y4 y5 y6 y7 y8 y9 y10 y11 y12 y13 y14 y15 y16 y17 y18 y19 y20 y21 y22 y23 y24 y25 y26 y27
   unfold laws_FnExactWalStep.j0
   repeat' first
   | (with_reducible exact ih0 _ _ _ _ _ _ _ _ _ _ _ _ _ _ _ _ _ _ _ _ _ _ _ _ _ _ _ _)
   | (with_reducible exact ih1 _ _ _ _ _ _ _ _ _ _ _ _ _ _ _ _ _ _ _ _ _ _)
   | (with_reducible exact ih2 _ _ _ _ _ _ _)
   | (with_reducible exact impl_WalStep.mono _ _ _ _ _ _ _ _ _ _ _)
   | (with_reducible exact laws_eqWal.mono _ _ _ _ _ _ _ _ _ _ _)
   | (with_reducible exact laws_heldWal.mono _ _ _ _ _ _ _)
   | (with_reducible exact laws_markWal.mono _ _ _ _ _ _ _)
   | (with_reducible exact laws_szWal.mono _ _ _ _ _ _ _)
   | (with_reducible exact laws_toWal.mono _ _ _ _ _ _)
   | (with_reducible exact spec_WalStep.mono _ _ _ _ _ _ _ _ _ _ _)
   | (with_reducible exact LeO.refl _)
   | (with_reducible exact LeO.none _)
   | (with_reducible refine LeO.ite ?_ ?_)
   | (with_reducible refine LeO.bind ?_ (fun _ => ?_))
   | exact ih0 _ _ _ _ _ _ _ _ _ _ _ _ _ _ _ _ _ _ _ _ _ _ _ _ _ _ _ _
   | exact ih1 _ _ _ _ _ _ _ _ _ _ _ _ _ _ _ _ _ _ _ _ _ _
   | exact ih2 _ _ _ _ _ _ _
   | exact impl_WalStep.mono _ _ _ _ _ _ _ _ _ _ _
   | exact laws_eqWal.mono _ _ _ _ _ _ _ _ _ _ _
   | exact laws_heldWal.mono _ _ _ _ _ _ _
   | exact laws_markWal.mono _ _ _ _ _ _ _
   | exact laws_szWal.mono _ _ _ _ _ _ _
   | exact laws_toWal.mono _ _ _ _ _ _
   | exact spec_WalStep.mono _ _ _ _ _ _ _ _ _ _ _
   | exact LeO.none _
   | refine LeO.ite ?_ ?_
   | refine LeO.bind ?_ (fun _ => ?_)
  ·intro y0 y1 y2 y3 y4 y5 y6 y7 y8 y9 y10 y11 y12 y13 y14 y15 y16 y17 y18 y19 y20 y21
   unfold laws_FnExactWalStep.j1
   repeat' first
   | (with_reducible exact ih0 _ _ _ _ _ _ _ _ _ _ _ _ _ _ _ _ _ _ _ _ _ _ _ _ _ _ _ _)
   | (with_reducible exact ih1 _ _ _ _ _ _ _ _ _ _ _ _ _ _ _ _ _ _ _ _ _ _)
   | (with_reducible exact ih2 _ _ _ _ _ _ _)
   | (with_reducible exact impl_WalStep.mono _ _ _ _ _ _ _ _ _ _ _)
   | (with_reducible exact laws_eqWal.mono _ _ _ _ _ _ _ _ _ _ _)
   | (with_reducible exact laws_heldWal.mono _ _ _ _ _ _ _)
   | (with_reducible exact laws_markWal.mono _ _ _ _ _ _ _)
   | (with_reducible exact laws_szWal.mono _ _ _ _ _ _ _)
   | (with_reducible exact laws_toWal.mono _ _ _ _ _ _)
   | (with_reducible exact spec_WalStep.mono _ _ _ _ _ _ _ _ _ _ _)
   | (with_reducible exact LeO.refl _)
   | (with_reducible exact LeO.none _)
   | (with_reducible refine LeO.ite ?_ ?_)
   | (with_reducible refine LeO.bind ?_ (fun _ => ?_))
   | exact ih0 _ _ _ _ _ _ _ _ _ _ _ _ _ _ _ _ _ _ _ _ _ _ _ _ _ _ _ _
   | exact ih1 _ _ _ _ _ _ _ _ _ _ _ _ _ _ _ _ _ _ _ _ _ _
   | exact ih2 _ _ _ _ _ _ _
   | exact impl_WalStep.mono _ _ _ _ _ _ _ _ _ _ _
   | exact laws_eqWal.mono _ _ _ _ _ _ _ _ _ _ _
   | exact laws_heldWal.mono _ _ _ _ _ _ _
   | exact laws_markWal.mono _ _ _ _ _ _ _
   | exact laws_szWal.mono _ _ _ _ _ _ _
   | exact laws_toWal.mono _ _ _ _ _ _
   | exact spec_WalStep.mono _ _ _ _ _ _ _ _ _ _ _
   | exact LeO.none _
   | refine LeO.ite ?_ ?_
   | refine LeO.bind ?_ (fun _ => ?_)
  ·intro y0 y1 y2 y3 y4 y5 y6
   unfold laws_FnExactWalStep.j2
   repeat' first
   | (with_reducible exact ih0 _ _ _ _ _ _ _ _ _ _ _ _ _ _ _ _ _ _ _ _ _ _ _ _ _ _ _ _)
   | (with_reducible exact ih1 _ _ _ _ _ _ _ _ _ _ _ _ _ _ _ _ _ _ _ _ _ _)
   | (with_reducible exact ih2 _ _ _ _ _ _ _)
   | (with_reducible exact impl_WalStep.mono _ _ _ _ _ _ _ _ _ _ _)
   | (with_reducible exact laws_eqWal.mono _ _ _ _ _ _ _ _ _ _ _)
   | (with_reducible exact laws_heldWal.mono _ _ _ _ _ _ _)
   | (with_reducible exact laws_markWal.mono _ _ _ _ _ _ _)
   | (with_reducible exact laws_szWal.mono _ _ _ _ _ _ _)
   | (with_reducible exact laws_toWal.mono _ _ _ _ _ _)
   | (with_reducible exact spec_WalStep.mono _ _ _ _ _ _ _ _ _ _ _)
   | (with_reducible exact LeO.refl _)
   | (with_reducible exact LeO.none _)
   | (with_reducible refine LeO.ite ?_ ?_)
   | (with_reducible refine LeO.bind ?_ (fun _ => ?_))
   | exact ih0 _ _ _ _ _ _ _ _ _ _ _ _ _ _ _ _ _ _ _ _ _ _ _ _ _ _ _ _
   | exact ih1 _ _ _ _ _ _ _ _ _ _ _ _ _ _ _ _ _ _ _ _ _ _
   | exact ih2 _ _ _ _ _ _ _
   | exact impl_WalStep.mono _ _ _ _ _ _ _ _ _ _ _
   | exact laws_eqWal.mono _ _ _ _ _ _ _ _ _ _ _
   | exact laws_heldWal.mono _ _ _ _ _ _ _
   | exact laws_markWal.mono _ _ _ _ _ _ _
   | exact laws_szWal.mono _ _ _ _ _ _ _
   | exact laws_toWal.mono _ _ _ _ _ _
   | exact spec_WalStep.mono _ _ _ _ _ _ _ _ _ _ _
   | exact LeO.none _
   | refine LeO.ite ?_ ?_
   | refine LeO.bind ?_ (fun _ => ?_)
theorem laws_FnExactWalStep.mono : ∀ a0 a1 a2 a3 a4 a5 a6 a7 a8 a9 k, LeO (laws_FnExactWalStep.f k a0 a1 a2 a3 a4 a5 a6 a7 a8 a9) (laws_FnExactWalStep.f (k + 1) a0 a1 a2 a3 a4 a5 a6 a7 a8 a9) := by
 intro a0 a1 a2 a3 a4 a5 a6 a7 a8 a9 k
 obtain ⟨ih0, ih1, ih2⟩ := laws_FnExactWalStep.mono_l k
 unfold laws_FnExactWalStep.f
 repeat' first
  | (with_reducible exact ih0 _ _ _ _ _ _ _ _ _ _ _ _ _ _ _ _ _ _ _ _ _ _ _ _ _ _ _ _)
  | (with_reducible exact ih1 _ _ _ _ _ _ _ _ _ _ _ _ _ _ _ _ _ _ _ _ _ _)
  | (with_reducible exact ih2 _ _ _ _ _ _ _)
  | (with_reducible exact impl_WalStep.mono _ _ _ _ _ _ _ _ _ _ _)
  | (with_reducible exact laws_eqWal.mono _ _ _ _ _ _ _ _ _ _ _)
  | (with_reducible exact laws_heldWal.mono _ _ _ _ _ _ _)
  | (with_reducible exact laws_markWal.mono _ _ _ _ _ _ _)
  | (with_reducible exact laws_szWal.mono _ _ _ _ _ _ _)
  | (with_reducible exact laws_toWal.mono _ _ _ _ _ _)
  | (with_reducible exact spec_WalStep.mono _ _ _ _ _ _ _ _ _ _ _)
  | (with_reducible exact LeO.refl _)
  | (with_reducible exact LeO.none _)
  | (with_reducible refine LeO.ite ?_ ?_)
  | (with_reducible refine LeO.bind ?_ (fun _ => ?_))
  | exact ih0 _ _ _ _ _ _ _ _ _ _ _ _ _ _ _ _ _ _ _ _ _ _ _ _ _ _ _ _
  | exact ih1 _ _ _ _ _ _ _ _ _ _ _ _ _ _ _ _ _ _ _ _ _ _
  | exact ih2 _ _ _ _ _ _ _
  | exact impl_WalStep.mono _ _ _ _ _ _ _ _ _ _ _
  | exact laws_eqWal.mono _ _ _ _ _ _ _ _ _ _ _
  | exact laws_heldWal.mono _ _ _ _ _ _ _
  | exact laws_markWal.mono _ _ _ _ _ _ _
  | exact laws_szWal.mono _ _ _ _ _ _ _
  | exact laws_toWal.mono _ _ _ _ _ _
  | exact spec_WalStep.mono _ _ _ _ _ _ _ _ _ _ _
  | exact LeO.none _
  | refine LeO.ite ?_ ?_
  | refine LeO.bind ?_ (fun _ => ?_)
def laws_FnExactWalStep.T8 : Bool × List (List Nat × List Nat) := (true, [([], []), ([0], [0]), ([], []), ([2, 1], [2]), ([1, 3, 3], [1, 3]), ([4], [4]), ([5], [5]), ([5], [5]), ([], []), ([8, 6, 4, 0, 1, 2, 3, 4, 5, 6, 8], [6, 8]), ([7, 9, 0, 1, 2, 3, 4, 5, 6, 7, 8, 9], [7])])
def laws_FnExactWalStep.B8 : List Nat := [0, 1, 0, 7, 15, 31, 63, 63, 0, 383, 1023]
theorem laws_FnExactWalStep.tab8 : rtab .any (opsOf Try.f13 8) = laws_FnExactWalStep.T8 := by kernel_rfl
theorem laws_FnExactWalStep.bits8 : waitsOk laws_FnExactWalStep.T8.2 laws_FnExactWalStep.B8 = true := by kernel_rfl
def laws_FnExactWalStep.T10 : Bool × List (List Nat × List Nat) := (true, [([], []), ([], []), ([1], [1]), ([0, 2, 2], [0, 2]), ([3], [3]), ([4], [4]), ([4], [4]), ([], []), ([7, 5, 3, 0, 1, 2, 3, 4, 5, 7], [5, 7]), ([6, 8, 0, 1, 2, 3, 4, 5, 6, 7, 8], [6])])
def laws_FnExactWalStep.B10 : List Nat := [0, 0, 2, 7, 15, 31, 31, 0, 191, 511]
theorem laws_FnExactWalStep.tab10 : rtab .any (opsOf Try.f13 10) = laws_FnExactWalStep.T10 := by kernel_rfl
theorem laws_FnExactWalStep.bits10 : waitsOk laws_FnExactWalStep.T10.2 laws_FnExactWalStep.B10 = true := by kernel_rfl
def laws_FnExactWalStep.T27 : Bool × List (List Nat × List Nat) := (true, [([], []), ([0], [0]), ([], []), ([2, 1], [2]), ([1, 3, 3], [1, 3]), ([4], [4]), ([5], [5]), ([5], [5]), ([], []), ([8, 6, 4, 0, 1, 2, 3, 4, 5, 6, 8], [6, 8]), ([7, 9, 0, 1, 2, 3, 4, 5, 6, 7, 8, 9], [7])])
def laws_FnExactWalStep.B27 : List Nat := [0, 1, 0, 7, 15, 31, 63, 63, 0, 383, 1023]
theorem laws_FnExactWalStep.tab27 : rtab .any (opsOf Try.f13 27) = laws_FnExactWalStep.T27 := by kernel_rfl
theorem laws_FnExactWalStep.bits27 : waitsOk laws_FnExactWalStep.T27.2 laws_FnExactWalStep.B27 = true := by kernel_rfl
set_option maxHeartbeats 8000000 in
set_option maxRecDepth 100000 in
theorem laws_FnExactWalStep.calls (k : Nat) (a0_0 : Int) (a0_1 : Int) (a0_2 : Int) (a0_3 : Int) (A0_4 : Option Addr) (c0_4 : Nat) (l0_4 : List (S139)) (a1_0 : Int) (a1_1 : Int) (a1_2 : Int) (a1_3 : Int) (a1_4 : ByteArray) (r : Bool) (w : World) (hr0_4 : Kd.C k139 w A0_4 l0_4.length l0_4) (hc0_4 : l0_4.length ≤ c0_4) (h : laws_FnExactWalStep.f k a0_0 a0_1 a0_2 a0_3 l0_4 a1_0 a1_1 a1_2 a1_3 a1_4 = some r) (hr_ : r = true) :
 Calls Try.prog 13 #[.agg #[.int .i64 a0_0, .int .i64 a0_1, .int .i64 a0_2, .int .i64 a0_3, .slice A0_4 l0_4.length c0_4], .agg #[.int .i64 a1_0, .int .i64 a1_1, .int .i64 a1_2, .int .i64 a1_3, .string a1_4]] w fun e w' => e = .returned (.bool r) ∧ Below w.heap.size w w' := by
 have hu62 := Try.underlying62
 have hu79 := Try.underlying79
 have hu67 := Try.underlying67
 have HR0_4 := Aside0.mk hr0_4
 have HC0_4 := Aside0.mk hc0_4
 clear hr0_4 hc0_4
 have HB := Aside0.mk (Below.refl w.heap.size w)
 have H : ((laws_szWal.f k a0_0 a0_1 a0_2 a0_3 l0_4 1048576).bind fun t248 => (if t248 < 0 then (some true) else ((laws_szRec.f a1_0 a1_1 a1_2 a1_3 a1_4 t248).bind fun t249 => (if t249 < 0 then (some true) else ((laws_toWal.f k a0_0 a0_1 a0_2 a0_3 l0_4).bind fun bt250 => ((laws_toRec.f a1_0 a1_1 a1_2 a1_3 a1_4).bind fun bt257 => ((spec_WalStep.f k bt250.1 bt250.2.1 bt250.2.2.1 bt250.2.2.2.1 bt250.2.2.2.2 bt257.1 bt257.2.1 bt257.2.2.1 bt257.2.2.2.1 bt257.2.2.2.2).bind fun bt262 => ((laws_toWal.f k a0_0 a0_1 a0_2 a0_3 l0_4).bind fun bt271 => ((laws_toRec.f a1_0 a1_1 a1_2 a1_3 a1_4).bind fun bt279 => ((impl_WalStep.f k bt271.1 bt271.2.1 bt271.2.2.1 bt271.2.2.2.1 bt271.2.2.2.2 bt279.1 bt279.2.1 bt279.2.2.1 bt279.2.2.2.1 bt279.2.2.2.2).bind fun bt284 => ((laws_eqWal.f k bt284.1 bt284.2.1 bt284.2.2.1 bt284.2.2.2.1 bt284.2.2.2.2.1 bt262.1 bt262.2.1 bt262.2.2.1 bt262.2.2.2.1 bt262.2.2.2.2.1).bind fun t293 => (if t293 = true then (laws_FnExactWalStep.j0 k bt262.2.2.2.2.2 bt284.2.2.2.2.2 (bt284.2.2.2.2.2 != bt262.2.2.2.2.2) a0_0 a0_1 a0_2 a0_3 l0_4 a1_0 a1_1 a1_2 a1_3 a1_4 bt262.1 bt262.2.1 bt262.2.2.1 bt262.2.2.2.1 bt262.2.2.2.2.1 bt271.1 bt271.2.1 bt271.2.2.1 bt271.2.2.2.1 bt271.2.2.2.2 bt284.1 bt284.2.1 bt284.2.2.1 bt284.2.2.2.1 bt284.2.2.2.2.1) else (laws_FnExactWalStep.j0 k bt262.2.2.2.2.2 bt284.2.2.2.2.2 true a0_0 a0_1 a0_2 a0_3 l0_4 a1_0 a1_1 a1_2 a1_3 a1_4 bt262.1 bt262.2.1 bt262.2.2.1 bt262.2.2.2.1 bt262.2.2.2.2.1 bt271.1 bt271.2.1 bt271.2.2.1 bt271.2.2.2.1 bt271.2.2.2.2 bt284.1 bt284.2.1 bt284.2.2.1 bt284.2.2.2.1 bt284.2.2.2.2.1))))))))))))) = some r := h
 clear h
 obtain ⟨t248, A3, H⟩ := bd H
 by_cases c4 : t248 < 0
 ·rw [if_pos c4] at H
  have c4b0 : decide (t248 < 0) = true := decide_eq_true c4
  clear c4
  obtain rfl := Option.some.inj H
  go_enter Try.func13, Try.ntmps13
  go_wp2_with (first | ((with_reducible refine gD 2 rfl ?_); refine boxZ 2 #[.int .i64 a0_0, .int .i64 a0_1, .int .i64 a0_2, .int .i64 a0_3, .slice A0_4 l0_4.length c0_4] 62 ?_; intro gb246 hg w5 hbox hb; have BK246 := Aside0.mk hbox; have GW246 := gw (w := w) hg; have GE246 := gw (w := w) hg; replace HB := bs (w := w) hb; clear hb hbox hg) | ((with_reducible refine gD 3 rfl ?_); refine boxZ 3 #[.int .i64 a1_0, .int .i64 a1_1, .int .i64 a1_2, .int .i64 a1_3, .string a1_4] 79 ?_; intro gb247 hg w6 hbox hb; have BK247 := Aside0.mk hbox; have GW247 := gw (w := w) hg; have GE247 := gw (w := w) hg; replace HB := bs (w := w) hb; have NB246_247 := nl BK246 hg; have NB247_246 := nr BK246 hg; replace BK246 := bv BK246 hb; clear hb hbox hg; have hnb7 := NB246_247.out; have hnc7 := NB247_246.out; obtain ⟨Z8_0, Z8_1, Z8_2, Z8_3, Z8_4, Y8_0, Y8_1, Y8_2, Y8_3, Y8_4⟩ := cf5 BK246) | ((with_reducible refine gC 55 rfl ?_); refine goesZ (some 18) rfl Try.func55 #[.agg #[.int .i64 a0_0, .int .i64 a0_1, .int .i64 a0_2, .int .i64 a0_3, .slice A0_4 l0_4.length c0_4], .int .i64 1048576] ?_; (with_reducible refine (laws_szWal.calls k a0_0 a0_1 a0_2 a0_3 _ _ l0_4 1048576 t248 _ ?side1 ?side2 A3.out).mono ?_); (case side1 => exact ca (Kd.C_below HR0_4.out HB.out)); (case side2 => exact HC0_4.out); rintro e w9 ⟨rfl, hb⟩; refine ⟨_, rfl, ?_⟩; replace BK246 := bv BK246 hb; replace BK247 := bv BK247 hb; replace HB := bs (w := w) hb; (try clear hb)))
  go_ret
  exact ⟨fe, bl⟩
 ·rw [if_neg c4] at H
  have c4b0 : decide (t248 < 0) = false := decide_eq_false c4
  clear c4
  obtain ⟨t249, A10, H⟩ := bd H
  by_cases c11 : t249 < 0
  ·rw [if_pos c11] at H
   have c11b0 : decide (t249 < 0) = true := decide_eq_true c11
   clear c11
   obtain rfl := Option.some.inj H
   go_enter Try.func13, Try.ntmps13
   go_wp2_with (first | ((with_reducible refine gD 2 rfl ?_); refine boxZ 2 #[.int .i64 a0_0, .int .i64 a0_1, .int .i64 a0_2, .int .i64 a0_3, .slice A0_4 l0_4.length c0_4] 62 ?_; intro gb246 hg w12 hbox hb; have BK246 := Aside0.mk hbox; have GW246 := gw (w := w) hg; have GE246 := gw (w := w) hg; replace HB := bs (w := w) hb; clear hb hbox hg) | ((with_reducible refine gD 3 rfl ?_); refine boxZ 3 #[.int .i64 a1_0, .int .i64 a1_1, .int .i64 a1_2, .int .i64 a1_3, .string a1_4] 79 ?_; intro gb247 hg w13 hbox hb; have BK247 := Aside0.mk hbox; have GW247 := gw (w := w) hg; have GE247 := gw (w := w) hg; replace HB := bs (w := w) hb; have NB246_247 := nl BK246 hg; have NB247_246 := nr BK246 hg; replace BK246 := bv BK246 hb; clear hb hbox hg; have hnb14 := NB246_247.out; have hnc14 := NB247_246.out; obtain ⟨Z15_0, Z15_1, Z15_2, Z15_3, Z15_4, Y15_0, Y15_1, Y15_2, Y15_3, Y15_4⟩ := cf5 BK246) | ((with_reducible refine gC 55 rfl ?_); refine goesZ (some 18) rfl Try.func55 #[.agg #[.int .i64 a0_0, .int .i64 a0_1, .int .i64 a0_2, .int .i64 a0_3, .slice A0_4 l0_4.length c0_4], .int .i64 1048576] ?_; (with_reducible refine (laws_szWal.calls k a0_0 a0_1 a0_2 a0_3 _ _ l0_4 1048576 t248 _ ?side1 ?side2 A3.out).mono ?_); (case side1 => exact ca (Kd.C_below HR0_4.out HB.out)); (case side2 => exact HC0_4.out); rintro e w16 ⟨rfl, hb⟩; refine ⟨_, rfl, ?_⟩; replace BK246 := bv BK246 hb; replace BK247 := bv BK247 hb; replace HB := bs (w := w) hb; (try clear hb); obtain ⟨Z17_0, Z17_1, Z17_2, Z17_3, Z17_4, Y17_0, Y17_1, Y17_2, Y17_3, Y17_4⟩ := cf5 BK247) | ((with_reducible refine gC 66 rfl ?_); refine goesZ (some 23) rfl Try.func66 #[.agg #[.int .i64 a1_0, .int .i64 a1_1, .int .i64 a1_2, .int .i64 a1_3, .string a1_4], .int .i64 t248] ?_; (with_reducible refine (laws_szRec.calls a1_0 a1_1 a1_2 a1_3 a1_4 t248 t249 _ A10.out).mono ?_); rintro e w18 ⟨rfl, hb⟩; refine ⟨_, rfl, ?_⟩; replace BK246 := bv BK246 hb; replace BK247 := bv BK247 hb; replace HB := bs (w := w) hb; (try clear hb)))
   go_ret
   exact ⟨fe, bl⟩
  ·rw [if_neg c11] at H
   have c11b0 : decide (t249 < 0) = false := decide_eq_false c11
   clear c11
   replace H := Option.bind_eq_some_iff.mp H
   obtain ⟨⟨t250, t251, t252, t253, t254⟩, A190, H⟩ := H
   replace H : ((laws_toRec.f a1_0 a1_1 a1_2 a1_3 a1_4).bind fun bt257 => ((spec_WalStep.f k t250 t251 t252 t253 t254 bt257.1 bt257.2.1 bt257.2.2.1 bt257.2.2.2.1 bt257.2.2.2.2).bind fun bt262 => ((laws_toWal.f k a0_0 a0_1 a0_2 a0_3 l0_4).bind fun bt271 => ((laws_toRec.f a1_0 a1_1 a1_2 a1_3 a1_4).bind fun bt279 => ((impl_WalStep.f k bt271.1 bt271.2.1 bt271.2.2.1 bt271.2.2.2.1 bt271.2.2.2.2 bt279.1 bt279.2.1 bt279.2.2.1 bt279.2.2.2.1 bt279.2.2.2.2).bind fun bt284 => ((laws_eqWal.f k bt284.1 bt284.2.1 bt284.2.2.1 bt284.2.2.2.1 bt284.2.2.2.2.1 bt262.1 bt262.2.1 bt262.2.2.1 bt262.2.2.2.1 bt262.2.2.2.2.1).bind fun t293 => (if t293 = true then (laws_FnExactWalStep.j0 k bt262.2.2.2.2.2 bt284.2.2.2.2.2 (bt284.2.2.2.2.2 != bt262.2.2.2.2.2) a0_0 a0_1 a0_2 a0_3 l0_4 a1_0 a1_1 a1_2 a1_3 a1_4 bt262.1 bt262.2.1 bt262.2.2.1 bt262.2.2.2.1 bt262.2.2.2.2.1 bt271.1 bt271.2.1 bt271.2.2.1 bt271.2.2.2.1 bt271.2.2.2.2 bt284.1 bt284.2.1 bt284.2.2.1 bt284.2.2.2.1 bt284.2.2.2.2.1) else (laws_FnExactWalStep.j0 k bt262.2.2.2.2.2 bt284.2.2.2.2.2 true a0_0 a0_1 a0_2 a0_3 l0_4 a1_0 a1_1 a1_2 a1_3 a1_4 bt262.1 bt262.2.1 bt262.2.2.1 bt262.2.2.2.1 bt262.2.2.2.2.1 bt271.1 bt271.2.1 bt271.2.2.1 bt271.2.2.2.1 bt271.2.2.2.2 bt284.1 bt284.2.1 bt284.2.2.1 bt284.2.2.2.1 bt284.2.2.2.2.1)))))))) = some r := H
   have A19 := Aside0.mk A190
   clear A190
   replace H := Option.bind_eq_some_iff.mp H
   obtain ⟨⟨t257, t258, t259, t260, t261⟩, A200, H⟩ := H
   replace H : ((spec_WalStep.f k t250 t251 t252 t253 t254 t257 t258 t259 t260 t261).bind fun bt262 => ((laws_toWal.f k a0_0 a0_1 a0_2 a0_3 l0_4).bind fun bt271 => ((laws_toRec.f a1_0 a1_1 a1_2 a1_3 a1_4).bind fun bt279 => ((impl_WalStep.f k bt271.1 bt271.2.1 bt271.2.2.1 bt271.2.2.2.1 bt271.2.2.2.2 bt279.1 bt279.2.1 bt279.2.2.1 bt279.2.2.2.1 bt279.2.2.2.2).bind fun bt284 => ((laws_eqWal.f k bt284.1 bt284.2.1 bt284.2.2.1 bt284.2.2.2.1 bt284.2.2.2.2.1 bt262.1 bt262.2.1 bt262.2.2.1 bt262.2.2.2.1 bt262.2.2.2.2.1).bind fun t293 => (if t293 = true then (laws_FnExactWalStep.j0 k bt262.2.2.2.2.2 bt284.2.2.2.2.2 (bt284.2.2.2.2.2 != bt262.2.2.2.2.2) a0_0 a0_1 a0_2 a0_3 l0_4 a1_0 a1_1 a1_2 a1_3 a1_4 bt262.1 bt262.2.1 bt262.2.2.1 bt262.2.2.2.1 bt262.2.2.2.2.1 bt271.1 bt271.2.1 bt271.2.2.1 bt271.2.2.2.1 bt271.2.2.2.2 bt284.1 bt284.2.1 bt284.2.2.1 bt284.2.2.2.1 bt284.2.2.2.2.1) else (laws_FnExactWalStep.j0 k bt262.2.2.2.2.2 bt284.2.2.2.2.2 true a0_0 a0_1 a0_2 a0_3 l0_4 a1_0 a1_1 a1_2 a1_3 a1_4 bt262.1 bt262.2.1 bt262.2.2.1 bt262.2.2.2.1 bt262.2.2.2.2.1 bt271.1 bt271.2.1 bt271.2.2.1 bt271.2.2.2.1 bt271.2.2.2.2 bt284.1 bt284.2.1 bt284.2.2.1 bt284.2.2.2.1 bt284.2.2.2.2.1))))))) = some r := H
   have A20 := Aside0.mk A200
   clear A200
   replace H := Option.bind_eq_some_iff.mp H
   obtain ⟨⟨t262, t263, t264, t265, t266, t269⟩, A210, H⟩ := H
   replace H : ((laws_toWal.f k a0_0 a0_1 a0_2 a0_3 l0_4).bind fun bt271 => ((laws_toRec.f a1_0 a1_1 a1_2 a1_3 a1_4).bind fun bt279 => ((impl_WalStep.f k bt271.1 bt271.2.1 bt271.2.2.1 bt271.2.2.2.1 bt271.2.2.2.2 bt279.1 bt279.2.1 bt279.2.2.1 bt279.2.2.2.1 bt279.2.2.2.2).bind fun bt284 => ((laws_eqWal.f k bt284.1 bt284.2.1 bt284.2.2.1 bt284.2.2.2.1 bt284.2.2.2.2.1 t262 t263 t264 t265 t266).bind fun t293 => (if t293 = true then (laws_FnExactWalStep.j0 k t269 bt284.2.2.2.2.2 (bt284.2.2.2.2.2 != t269) a0_0 a0_1 a0_2 a0_3 l0_4 a1_0 a1_1 a1_2 a1_3 a1_4 t262 t263 t264 t265 t266 bt271.1 bt271.2.1 bt271.2.2.1 bt271.2.2.2.1 bt271.2.2.2.2 bt284.1 bt284.2.1 bt284.2.2.1 bt284.2.2.2.1 bt284.2.2.2.2.1) else (laws_FnExactWalStep.j0 k t269 bt284.2.2.2.2.2 true a0_0 a0_1 a0_2 a0_3 l0_4 a1_0 a1_1 a1_2 a1_3 a1_4 t262 t263 t264 t265 t266 bt271.1 bt271.2.1 bt271.2.2.1 bt271.2.2.2.1 bt271.2.2.2.2 bt284.1 bt284.2.1 bt284.2.2.1 bt284.2.2.2.1 bt284.2.2.2.2.1)))))) = some r := H
   have A21 := Aside0.mk A210
   clear A210
   replace H := Option.bind_eq_some_iff.mp H
   obtain ⟨⟨t271, t272, t273, t274, t275⟩, A220, H⟩ := H
   replace H : ((laws_toRec.f a1_0 a1_1 a1_2 a1_3 a1_4).bind fun bt279 => ((impl_WalStep.f k t271 t272 t273 t274 t275 bt279.1 bt279.2.1 bt279.2.2.1 bt279.2.2.2.1 bt279.2.2.2.2).bind fun bt284 => ((laws_eqWal.f k bt284.1 bt284.2.1 bt284.2.2.1 bt284.2.2.2.1 bt284.2.2.2.2.1 t262 t263 t264 t265 t266).bind fun t293 => (if t293 = true then (laws_FnExactWalStep.j0 k t269 bt284.2.2.2.2.2 (bt284.2.2.2.2.2 != t269) a0_0 a0_1 a0_2 a0_3 l0_4 a1_0 a1_1 a1_2 a1_3 a1_4 t262 t263 t264 t265 t266 t271 t272 t273 t274 t275 bt284.1 bt284.2.1 bt284.2.2.1 bt284.2.2.2.1 bt284.2.2.2.2.1) else (laws_FnExactWalStep.j0 k t269 bt284.2.2.2.2.2 true a0_0 a0_1 a0_2 a0_3 l0_4 a1_0 a1_1 a1_2 a1_3 a1_4 t262 t263 t264 t265 t266 t271 t272 t273 t274 t275 bt284.1 bt284.2.1 bt284.2.2.1 bt284.2.2.2.1 bt284.2.2.2.2.1))))) = some r := H
   have A22 := Aside0.mk A220
   clear A220
   replace H := Option.bind_eq_some_iff.mp H
   obtain ⟨⟨t279, t280, t281, t282, t283⟩, A230, H⟩ := H
   replace H : ((impl_WalStep.f k t271 t272 t273 t274 t275 t279 t280 t281 t282 t283).bind fun bt284 => ((laws_eqWal.f k bt284.1 bt284.2.1 bt284.2.2.1 bt284.2.2.2.1 bt284.2.2.2.2.1 t262 t263 t264 t265 t266).bind fun t293 => (if t293 = true then (laws_FnExactWalStep.j0 k t269 bt284.2.2.2.2.2 (bt284.2.2.2.2.2 != t269) a0_0 a0_1 a0_2 a0_3 l0_4 a1_0 a1_1 a1_2 a1_3 a1_4 t262 t263 t264 t265 t266 t271 t272 t273 t274 t275 bt284.1 bt284.2.1 bt284.2.2.1 bt284.2.2.2.1 bt284.2.2.2.2.1) else (laws_FnExactWalStep.j0 k t269 bt284.2.2.2.2.2 true a0_0 a0_1 a0_2 a0_3 l0_4 a1_0 a1_1 a1_2 a1_3 a1_4 t262 t263 t264 t265 t266 t271 t272 t273 t274 t275 bt284.1 bt284.2.1 bt284.2.2.1 bt284.2.2.2.1 bt284.2.2.2.2.1)))) = some r := H
   have A23 := Aside0.mk A230
   clear A230
   replace H := Option.bind_eq_some_iff.mp H
   obtain ⟨⟨t284, t285, t286, t287, t288, t291⟩, A240, H⟩ := H
   replace H : ((laws_eqWal.f k t284 t285 t286 t287 t288 t262 t263 t264 t265 t266).bind fun t293 => (if t293 = true then (laws_FnExactWalStep.j0 k t269 t291 (t291 != t269) a0_0 a0_1 a0_2 a0_3 l0_4 a1_0 a1_1 a1_2 a1_3 a1_4 t262 t263 t264 t265 t266 t271 t272 t273 t274 t275 t284 t285 t286 t287 t288) else (laws_FnExactWalStep.j0 k t269 t291 true a0_0 a0_1 a0_2 a0_3 l0_4 a1_0 a1_1 a1_2 a1_3 a1_4 t262 t263 t264 t265 t266 t271 t272 t273 t274 t275 t284 t285 t286 t287 t288))) = some r := H
   have A24 := Aside0.mk A240
   clear A240
   have HC25 := Aside0.mk H
   clear H
   go_enter Try.func13, Try.ntmps13
   try go_wp2_with (first | ((with_reducible refine gD 2 rfl ?_); refine boxZ 2 #[.int .i64 a0_0, .int .i64 a0_1, .int .i64 a0_2, .int .i64 a0_3, .slice A0_4 l0_4.length c0_4] 62 ?_; intro gb246 hg w26 hbox hb; have BK246 := Aside0.mk hbox; have GW246 := gw (w := w) hg; have GE246 := gw (w := w) hg; replace HB := bs (w := w) hb; clear hb hbox hg) | ((with_reducible refine gD 3 rfl ?_); refine boxZ 3 #[.int .i64 a1_0, .int .i64 a1_1, .int .i64 a1_2, .int .i64 a1_3, .string a1_4] 79 ?_; intro gb247 hg w27 hbox hb; have BK247 := Aside0.mk hbox; have GW247 := gw (w := w) hg; have GE247 := gw (w := w) hg; replace HB := bs (w := w) hb; have NB246_247 := nl BK246 hg; have NB247_246 := nr BK246 hg; replace BK246 := bv BK246 hb; clear hb hbox hg; have hnb28 := NB246_247.out; have hnc28 := NB247_246.out; obtain ⟨Z29_0, Z29_1, Z29_2, Z29_3, Z29_4, Y29_0, Y29_1, Y29_2, Y29_3, Y29_4⟩ := cf5 BK246) | ((with_reducible refine gC 55 rfl ?_); refine goesZ (some 18) rfl Try.func55 #[.agg #[.int .i64 a0_0, .int .i64 a0_1, .int .i64 a0_2, .int .i64 a0_3, .slice A0_4 l0_4.length c0_4], .int .i64 1048576] ?_; (with_reducible refine (laws_szWal.calls k a0_0 a0_1 a0_2 a0_3 _ _ l0_4 1048576 t248 _ ?side1 ?side2 A3.out).mono ?_); (case side1 => exact ca (Kd.C_below HR0_4.out HB.out)); (case side2 => exact HC0_4.out); rintro e w30 ⟨rfl, hb⟩; refine ⟨_, rfl, ?_⟩; replace BK246 := bv BK246 hb; replace BK247 := bv BK247 hb; replace HB := bs (w := w) hb; (try clear hb); obtain ⟨Z31_0, Z31_1, Z31_2, Z31_3, Z31_4, Y31_0, Y31_1, Y31_2, Y31_3, Y31_4⟩ := cf5 BK247) | ((with_reducible refine gC 66 rfl ?_); refine goesZ (some 23) rfl Try.func66 #[.agg #[.int .i64 a1_0, .int .i64 a1_1, .int .i64 a1_2, .int .i64 a1_3, .string a1_4], .int .i64 t248] ?_; (with_reducible refine (laws_szRec.calls a1_0 a1_1 a1_2 a1_3 a1_4 t248 t249 _ A10.out).mono ?_); rintro e w32 ⟨rfl, hb⟩; refine ⟨_, rfl, ?_⟩; replace BK246 := bv BK246 hb; replace BK247 := bv BK247 hb; replace HB := bs (w := w) hb; (try clear hb)))
   replace BK246 := Aside0.mk (blk_drew BK246.out); replace BK247 := Aside0.mk (blk_drew BK247.out); replace HB := Aside0.mk (below_drew1 HB.out)
   refine start_ (n := 11) (S := fun w' => w'.cell? ⟨gb246, 0, none⟩ = some (.int .i64 a0_0) ∧ w'.cell? ⟨gb246, 1, none⟩ = some (.int .i64 a0_1) ∧ w'.cell? ⟨gb246, 2, none⟩ = some (.int .i64 a0_2) ∧ w'.cell? ⟨gb246, 3, none⟩ = some (.int .i64 a0_3) ∧ w'.cell? ⟨gb246, 4, none⟩ = some (.slice A0_4 l0_4.length c0_4) ∧ w'.cell? ⟨gb247, 0, none⟩ = some (.int .i64 a1_0) ∧ w'.cell? ⟨gb247, 1, none⟩ = some (.int .i64 a1_1) ∧ w'.cell? ⟨gb247, 2, none⟩ = some (.int .i64 a1_2) ∧ w'.cell? ⟨gb247, 3, none⟩ = some (.int .i64 a1_3) ∧ w'.cell? ⟨gb247, 4, none⟩ = some (.string a1_4)) (ds := []) (bo 11 0) (by kernel_rfl) rfl rfl ⟨cb 0 BK246, cb 1 BK246, cb 2 BK246, cb 3 BK246, cb 4 BK246, cb 0 BK247, cb 1 BK247, cb 2 BK247, cb 3 BK247, cb 4 BK247⟩ (fun hHeld => ?_); refine with_tabW laws_FnExactWalStep.tab8 laws_FnExactWalStep.bits8 (fun HT_ HW_ => ?_)
   generalize w32.drew = w33 at BK246 BK247 HB hHeld ⊢
   refine tV 0 27 (bo 11 1) ?_
   refine tV 2 29 (bo 11 5) ?_
   refine join_ (σ := Value × Value × Nat) 2 (bo 11 511) (fun s_ => [(28, .agg #[.int .i64 t250, .int .i64 t251, .int .i64 t252, .int .i64 t253, s_.1]), (30, .agg #[.int .i64 t257, .int .i64 t258, .int .i64 t259, .int .i64 t260, .string t261]), (31, .tuple #[.agg #[.int .i64 t262, .int .i64 t263, .int .i64 t264, .int .i64 t265, s_.2.1], .bool t269]), (6, .pointer (some ⟨s_.2.2, 0, none⟩)), (26, .tuple #[.agg #[.int .i64 t262, .int .i64 t263, .int .i64 t264, .int .i64 t265, s_.2.1], .bool t269]), (32, .agg #[.int .i64 t262, .int .i64 t263, .int .i64 t264, .int .i64 t265, s_.2.1]), (33, .bool t269)]) (fun s_ w' => (w'.cell? ⟨gb246, 0, none⟩ = some (.int .i64 a0_0) ∧ w'.cell? ⟨gb246, 1, none⟩ = some (.int .i64 a0_1) ∧ w'.cell? ⟨gb246, 2, none⟩ = some (.int .i64 a0_2) ∧ w'.cell? ⟨gb246, 3, none⟩ = some (.int .i64 a0_3) ∧ w'.cell? ⟨gb246, 4, none⟩ = some (.slice A0_4 l0_4.length c0_4) ∧ w'.cell? ⟨gb247, 0, none⟩ = some (.int .i64 a1_0) ∧ w'.cell? ⟨gb247, 1, none⟩ = some (.int .i64 a1_1) ∧ w'.cell? ⟨gb247, 2, none⟩ = some (.int .i64 a1_2) ∧ w'.cell? ⟨gb247, 3, none⟩ = some (.int .i64 a1_3) ∧ w'.cell? ⟨gb247, 4, none⟩ = some (.string a1_4)) ∧ (Kd.R k117 117 w' w.heap.size (fun k_ => some k_ ≠ (s_.2.1 : Value).ownBlock) s_.1 t254) ∧ (Kd.R k117 117 w' w.heap.size (fun k_ => some k_ ≠ (s_.1 : Value).ownBlock) s_.2.1 t266) ∧ (w'.heap[gb246]? = some (.cells #[.int .i64 a0_0, .int .i64 a0_1, .int .i64 a0_2, .int .i64 a0_3, .slice A0_4 l0_4.length c0_4] 62 (0, 0))) ∧ (w'.heap[gb247]? = some (.cells #[.int .i64 a1_0, .int .i64 a1_1, .int .i64 a1_2, .int .i64 a1_3, .string a1_4] 79 (0, 0))) ∧ (w'.heap[s_.2.2]? = some (.cells #[.int .i64 0, .int .i64 0, .int .i64 0, .int .i64 0, .slice none 0 0] 67 (0, 0))) ∧ (w.heap.size ≤ s_.2.2) ∧ (w.heap.size ≤ s_.2.2) ∧ (gb246 ≠ s_.2.2) ∧ (s_.2.2 ≠ gb246) ∧ (gb247 ≠ s_.2.2) ∧ (s_.2.2 ≠ gb247) ∧ (Below w.heap.size w w')) ?_ ?_
   rotate_left
   ·intro hCont
    refine two_ (i := 1) (j := 8) (Ni := some 28) (Nj := some 6) (bo 11 7) (bo 11 261) rfl rfl rfl rfl (two_of HT_.out (by kernel_rfl)) (by decide) (by decide) (fun K hK => ?_) (fun K hK => ?_)
    ·skip
     refine goes_ Try.func57 (by kernel_rfl) rfl #[.agg #[.int .i64 a0_0, .int .i64 a0_1, .int .i64 a0_2, .int .i64 a0_3, .slice A0_4 l0_4.length c0_4]] (by rfl) rfl rfl sa ?_
     with_reducible refine (laws_toWal.calls k a0_0 a0_1 a0_2 a0_3 _ _ l0_4 t250 t251 t252 t253 t254 _ ?side1 ?side2 A19.out).mono ?_
     (case side1 => exact ca (Kd.C_below HR0_4.out HB.out))
     (case side2 => exact HC0_4.out)
     rintro e w34 ⟨v255, rfl, ho0, hb⟩
     refine ⟨_, rfl, ?_⟩
     have HO256 := Aside0.mk (Kd.R_lower ho0 (below_size bl)); replace BK246 := bv BK246 hb; replace BK247 := bv BK247 hb; replace HB := bs (w := w) hb; (try clear hb hb2 hk hi ho0)
     refine hK.out _ _ ⟨cb 0 BK246, cb 1 BK246, cb 2 BK246, cb 3 BK246, cb 4 BK246, cb 0 BK247, cb 1 BK247, cb 2 BK247, cb 3 BK247, cb 4 BK247⟩ (fun hHeld => ?_)
     clear hK K
     refine norm_ (a' := ?_) ?_ ?_
     rotate_left
     ·show Act.put _ (some 28) _ = _
      simp only [Act.put, List.setIfInBounds_toArray, List.set_cons_zero, List.set_cons_succ, i64_w, i32_w]
      rfl
     refine two_ (i := 3) (j := 8) (Ni := some 30) (Nj := some 6) (bo 11 15) (bo 11 263) rfl rfl rfl rfl (two_of HT_.out (by kernel_rfl)) (by decide) (by decide) (fun K hK => ?_) (fun K hK => ?_)
     ·skip
      refine goes_ Try.func68 (by kernel_rfl) rfl #[.agg #[.int .i64 a1_0, .int .i64 a1_1, .int .i64 a1_2, .int .i64 a1_3, .string a1_4]] (by rfl) rfl rfl sa ?_
      with_reducible refine (laws_toRec.calls a1_0 a1_1 a1_2 a1_3 a1_4 t257 t258 t259 t260 t261 _ A20.out).mono ?_
      rintro e w35 ⟨rfl, hb⟩
      refine ⟨_, rfl, ?_⟩
      replace HO256 := Aside0.mk (Kd.R_below (rpR HO256.out) hb); replace BK246 := bv BK246 hb; replace BK247 := bv BK247 hb; replace HB := bs (w := w) hb; (try clear hb hb2 hk hi)
      obtain ⟨Ao36, co36, eo36⟩ := Kd.R_slice HO256.out
      (first | subst eo36 | (injection eo36 with f1_ f2_ f3_; have f4_ := f1_.symm; have f5_ := f3_.symm; clear f1_ f2_ f3_; subst f4_; subst f5_))
      refine hK.out _ _ ⟨cb 0 BK246, cb 1 BK246, cb 2 BK246, cb 3 BK246, cb 4 BK246, cb 0 BK247, cb 1 BK247, cb 2 BK247, cb 3 BK247, cb 4 BK247⟩ (fun hHeld => ?_)
      clear hK K
      refine norm_ (a' := ?_) ?_ ?_
      rotate_left
      ·show Act.put _ (some 30) _ = _
       simp only [Act.put, List.setIfInBounds_toArray, List.set_cons_zero, List.set_cons_succ, i64_w, i32_w]
       rfl
      refine two_ (i := 4) (j := 8) (Ni := some 31) (Nj := some 6) (bo 11 31) (bo 11 271) rfl rfl rfl rfl (two_of HT_.out (by kernel_rfl)) (by decide) (by decide) (fun K hK => ?_) (fun K hK => ?_)
      ·skip
       refine goes_ Try.func67 (by kernel_rfl) rfl #[.agg #[.int .i64 t250, .int .i64 t251, .int .i64 t252, .int .i64 t253, .slice Ao36 t254.length co36], .agg #[.int .i64 t257, .int .i64 t258, .int .i64 t259, .int .i64 t260, .string t261]] (by rfl) rfl rfl sa ?_
       with_reducible refine (spec_WalStep.calls k t250 t251 t252 t253 _ _ t254 t257 t258 t259 t260 t261 t262 t263 t264 t265 t266 t269 _ ?side1 ?side2 A21.out).mono ?_
       (case side1 => exact ca ((Kd.R_reads' HO256.out).2.2))
       (case side2 => exact (Kd.R_reads' HO256.out).2.1)
       rintro e w37 ⟨v267, rfl, ho0, hb⟩
       refine ⟨_, rfl, ?_⟩
       have HO268 := Aside0.mk (Kd.R_lower (Kd.R_new' ho0 (Kd.R_lt (rpR HO256.out))) (below_size bl)); replace HO256 := Aside0.mk (Kd.R_elder' (rpR HO256.out) (Kd.R_base ho0) hb); replace BK246 := bv BK246 hb; replace BK247 := bv BK247 hb; replace HB := bs (w := w) hb; (try clear hb hb2 hk hi ho0)
       refine hK.out _ _ ⟨cb 0 BK246, cb 1 BK246, cb 2 BK246, cb 3 BK246, cb 4 BK246, cb 0 BK247, cb 1 BK247, cb 2 BK247, cb 3 BK247, cb 4 BK247⟩ (fun hHeld => ?_)
       clear hK K
       refine norm_ (a' := ?_) ?_ ?_
       rotate_left
       ·show Act.put _ (some 31) _ = _
        simp only [Act.put, List.setIfInBounds_toArray, List.set_cons_zero, List.set_cons_succ, i64_w, i32_w]
        rfl
       refine pV 5 26 (bo 11 63) ?_
       refine pV 6 32 (bo 11 127) ?_
       refine pV 7 33 (bo 11 255) ?_
       refine one_ (i := 8) (N := some 6) (bo 11 511) rfl rfl (one_of HT_.out (by kernel_rfl)) (by decide) (fun K hK => ?_)
       refine box_step ?hg (N := 6) ?hd (cs := #[.int .i64 0, .int .i64 0, .int .i64 0, .int .i64 0, .slice none 0 0]) (t := 67) ?hr ?_; (case hd => rfl); (case hg => rfl); (case hr => first | (go_simp; done) | (go_simp; rfl))
       intro gb270 hg w38 hbox hb
       replace HO256 := Aside0.mk (Kd.R_below (rpR HO256.out) hb); replace HO268 := Aside0.mk (Kd.R_below (rpR HO268.out) hb); have BK270 := Aside0.mk hbox; have GW270 := gw (w := w) hg; have GE270 := gw (w := w) hg; replace HB := bs (w := w) hb; have NB246_270 := nl BK246 hg; have NB270_246 := nr BK246 hg; replace BK246 := bv BK246 hb; have NB247_270 := nl BK247 hg; have NB270_247 := nr BK247 hg; replace BK247 := bv BK247 hb; clear hb hbox hg
       refine hK.out _ _ ⟨cb 0 BK246, cb 1 BK246, cb 2 BK246, cb 3 BK246, cb 4 BK246, cb 0 BK247, cb 1 BK247, cb 2 BK247, cb 3 BK247, cb 4 BK247⟩ (fun hHeld => ?_)
       clear hK K
       refine norm_ (a' := ?_) ?_ ?_
       rotate_left
       ·show Act.put _ (some 6) _ = _
        simp only [Act.put, List.setIfInBounds_toArray, List.set_cons_zero, List.set_cons_succ, i64_w, i32_w]
        rfl
       exact norm_ (by simp only [putAll, Act.put, List.setIfInBounds_toArray, List.set_cons_zero, List.set_cons_succ]) (hCont (.slice Ao36 t254.length co36, v267, gb270) _ ⟨hHeld, (rpR (Kd.R_mono HO256.out (fun _ hk => hk.2))), (rpR (Kd.R_mono HO268.out (fun _ hk => hk.2))), bk, bk, bk, GW270.out, GE270.out, NB246_270.out, NB270_246.out, NB247_270.out, NB270_247.out, bl⟩)
      ·skip
       refine box_step ?hg (N := 6) ?hd (cs := #[.int .i64 0, .int .i64 0, .int .i64 0, .int .i64 0, .slice none 0 0]) (t := 67) ?hr ?_; (case hd => rfl); (case hg => rfl); (case hr => first | (go_simp; done) | (go_simp; rfl))
       intro gb270 hg w36 hbox hb
       replace HO256 := Aside0.mk (Kd.R_below (rpR HO256.out) hb); have BK270 := Aside0.mk hbox; have GW270 := gw (w := w) hg; have GE270 := gw (w := w) hg; replace HB := bs (w := w) hb; have NB246_270 := nl BK246 hg; have NB270_246 := nr BK246 hg; replace BK246 := bv BK246 hb; have NB247_270 := nl BK247 hg; have NB270_247 := nr BK247 hg; replace BK247 := bv BK247 hb; clear hb hbox hg
       obtain ⟨Ao37, co37, eo37⟩ := Kd.R_slice HO256.out
       (first | subst eo37 | (injection eo37 with f1_ f2_ f3_; have f4_ := f1_.symm; have f5_ := f3_.symm; clear f1_ f2_ f3_; subst f4_; subst f5_))
       refine hK.out _ _ ⟨cb 0 BK246, cb 1 BK246, cb 2 BK246, cb 3 BK246, cb 4 BK246, cb 0 BK247, cb 1 BK247, cb 2 BK247, cb 3 BK247, cb 4 BK247⟩ (fun hHeld => ?_)
       clear hK K
       refine norm_ (a' := ?_) ?_ ?_
       rotate_left
       ·show Act.put _ (some 6) _ = _
        simp only [Act.put, List.setIfInBounds_toArray, List.set_cons_zero, List.set_cons_succ, i64_w, i32_w]
        rfl
       refine one_ (i := 4) (N := some 31) (bo 11 287) rfl rfl (one_of HT_.out (by kernel_rfl)) (by decide) (fun K hK => ?_)
       refine goes_ Try.func67 (by kernel_rfl) rfl #[.agg #[.int .i64 t250, .int .i64 t251, .int .i64 t252, .int .i64 t253, .slice Ao37 t254.length co37], .agg #[.int .i64 t257, .int .i64 t258, .int .i64 t259, .int .i64 t260, .string t261]] (by rfl) rfl rfl sa ?_
       with_reducible refine (spec_WalStep.calls k t250 t251 t252 t253 _ _ t254 t257 t258 t259 t260 t261 t262 t263 t264 t265 t266 t269 _ ?side1 ?side2 A21.out).mono ?_
       (case side1 => exact ca ((Kd.R_reads' HO256.out).2.2))
       (case side2 => exact (Kd.R_reads' HO256.out).2.1)
       rintro e w38 ⟨v267, rfl, ho0, hb⟩
       refine ⟨_, rfl, ?_⟩
       have HO268 := Aside0.mk (Kd.R_lower (Kd.R_new' ho0 (Kd.R_lt (rpR HO256.out))) (below_size bl)); replace HO256 := Aside0.mk (Kd.R_elder' (rpR HO256.out) (Kd.R_base ho0) hb); replace BK246 := bv BK246 hb; replace BK247 := bv BK247 hb; replace BK270 := bv BK270 hb; replace HB := bs (w := w) hb; (try clear hb hb2 hk hi ho0)
       refine hK.out _ _ ⟨cb 0 BK246, cb 1 BK246, cb 2 BK246, cb 3 BK246, cb 4 BK246, cb 0 BK247, cb 1 BK247, cb 2 BK247, cb 3 BK247, cb 4 BK247⟩ (fun hHeld => ?_)
       clear hK K
       refine norm_ (a' := ?_) ?_ ?_
       rotate_left
       ·show Act.put _ (some 31) _ = _
        simp only [Act.put, List.setIfInBounds_toArray, List.set_cons_zero, List.set_cons_succ, i64_w, i32_w]
        rfl
       refine pV 5 26 (bo 11 319) ?_
       refine pV 6 32 (bo 11 383) ?_
       refine pV 7 33 (bo 11 511) ?_
       exact norm_ (by simp only [putAll, Act.put, List.setIfInBounds_toArray, List.set_cons_zero, List.set_cons_succ]) (hCont (.slice Ao37 t254.length co37, v267, gb270) _ ⟨hHeld, (rpR (Kd.R_mono HO256.out (fun _ hk => hk.2))), (rpR (Kd.R_mono HO268.out (fun _ hk => hk.2))), bk, bk, bk, GW270.out, GE270.out, NB246_270.out, NB270_246.out, NB247_270.out, NB270_247.out, bl⟩)
     ·skip
      refine box_step ?hg (N := 6) ?hd (cs := #[.int .i64 0, .int .i64 0, .int .i64 0, .int .i64 0, .slice none 0 0]) (t := 67) ?hr ?_; (case hd => rfl); (case hg => rfl); (case hr => first | (go_simp; done) | (go_simp; rfl))
      intro gb270 hg w35 hbox hb
      replace HO256 := Aside0.mk (Kd.R_below (rpR HO256.out) hb); have BK270 := Aside0.mk hbox; have GW270 := gw (w := w) hg; have GE270 := gw (w := w) hg; replace HB := bs (w := w) hb; have NB246_270 := nl BK246 hg; have NB270_246 := nr BK246 hg; replace BK246 := bv BK246 hb; have NB247_270 := nl BK247 hg; have NB270_247 := nr BK247 hg; replace BK247 := bv BK247 hb; clear hb hbox hg
      refine hK.out _ _ ⟨cb 0 BK246, cb 1 BK246, cb 2 BK246, cb 3 BK246, cb 4 BK246, cb 0 BK247, cb 1 BK247, cb 2 BK247, cb 3 BK247, cb 4 BK247⟩ (fun hHeld => ?_)
      clear hK K
      refine norm_ (a' := ?_) ?_ ?_
      rotate_left
      ·show Act.put _ (some 6) _ = _
       simp only [Act.put, List.setIfInBounds_toArray, List.set_cons_zero, List.set_cons_succ, i64_w, i32_w]
       rfl
      refine one_ (i := 3) (N := some 30) (bo 11 271) rfl rfl (one_of HT_.out (by kernel_rfl)) (by decide) (fun K hK => ?_)
      refine goes_ Try.func68 (by kernel_rfl) rfl #[.agg #[.int .i64 a1_0, .int .i64 a1_1, .int .i64 a1_2, .int .i64 a1_3, .string a1_4]] (by rfl) rfl rfl sa ?_
      with_reducible refine (laws_toRec.calls a1_0 a1_1 a1_2 a1_3 a1_4 t257 t258 t259 t260 t261 _ A20.out).mono ?_
      rintro e w36 ⟨rfl, hb⟩
      refine ⟨_, rfl, ?_⟩
      replace HO256 := Aside0.mk (Kd.R_below (rpR HO256.out) hb); replace BK246 := bv BK246 hb; replace BK247 := bv BK247 hb; replace BK270 := bv BK270 hb; replace HB := bs (w := w) hb; (try clear hb hb2 hk hi)
      obtain ⟨Ao37, co37, eo37⟩ := Kd.R_slice HO256.out
      (first | subst eo37 | (injection eo37 with f1_ f2_ f3_; have f4_ := f1_.symm; have f5_ := f3_.symm; clear f1_ f2_ f3_; subst f4_; subst f5_))
      refine hK.out _ _ ⟨cb 0 BK246, cb 1 BK246, cb 2 BK246, cb 3 BK246, cb 4 BK246, cb 0 BK247, cb 1 BK247, cb 2 BK247, cb 3 BK247, cb 4 BK247⟩ (fun hHeld => ?_)
      clear hK K
      refine norm_ (a' := ?_) ?_ ?_
      rotate_left
      ·show Act.put _ (some 30) _ = _
       simp only [Act.put, List.setIfInBounds_toArray, List.set_cons_zero, List.set_cons_succ, i64_w, i32_w]
       rfl
      refine one_ (i := 4) (N := some 31) (bo 11 287) rfl rfl (one_of HT_.out (by kernel_rfl)) (by decide) (fun K hK => ?_)
      refine goes_ Try.func67 (by kernel_rfl) rfl #[.agg #[.int .i64 t250, .int .i64 t251, .int .i64 t252, .int .i64 t253, .slice Ao37 t254.length co37], .agg #[.int .i64 t257, .int .i64 t258, .int .i64 t259, .int .i64 t260, .string t261]] (by rfl) rfl rfl sa ?_
      with_reducible refine (spec_WalStep.calls k t250 t251 t252 t253 _ _ t254 t257 t258 t259 t260 t261 t262 t263 t264 t265 t266 t269 _ ?side1 ?side2 A21.out).mono ?_
      (case side1 => exact ca ((Kd.R_reads' HO256.out).2.2))
      (case side2 => exact (Kd.R_reads' HO256.out).2.1)
      rintro e w38 ⟨v267, rfl, ho0, hb⟩
      refine ⟨_, rfl, ?_⟩
      have HO268 := Aside0.mk (Kd.R_lower (Kd.R_new' ho0 (Kd.R_lt (rpR HO256.out))) (below_size bl)); replace HO256 := Aside0.mk (Kd.R_elder' (rpR HO256.out) (Kd.R_base ho0) hb); replace BK246 := bv BK246 hb; replace BK247 := bv BK247 hb; replace BK270 := bv BK270 hb; replace HB := bs (w := w) hb; (try clear hb hb2 hk hi ho0)
      refine hK.out _ _ ⟨cb 0 BK246, cb 1 BK246, cb 2 BK246, cb 3 BK246, cb 4 BK246, cb 0 BK247, cb 1 BK247, cb 2 BK247, cb 3 BK247, cb 4 BK247⟩ (fun hHeld => ?_)
      clear hK K
      refine norm_ (a' := ?_) ?_ ?_
      rotate_left
      ·show Act.put _ (some 31) _ = _
       simp only [Act.put, List.setIfInBounds_toArray, List.set_cons_zero, List.set_cons_succ, i64_w, i32_w]
       rfl
      refine pV 5 26 (bo 11 319) ?_
      refine pV 6 32 (bo 11 383) ?_
      refine pV 7 33 (bo 11 511) ?_
      exact norm_ (by simp only [putAll, Act.put, List.setIfInBounds_toArray, List.set_cons_zero, List.set_cons_succ]) (hCont (.slice Ao37 t254.length co37, v267, gb270) _ ⟨hHeld, (rpR (Kd.R_mono HO256.out (fun _ hk => hk.2))), (rpR (Kd.R_mono HO268.out (fun _ hk => hk.2))), bk, bk, bk, GW270.out, GE270.out, NB246_270.out, NB270_246.out, NB247_270.out, NB270_247.out, bl⟩)
    ·skip
     refine box_step ?hg (N := 6) ?hd (cs := #[.int .i64 0, .int .i64 0, .int .i64 0, .int .i64 0, .slice none 0 0]) (t := 67) ?hr ?_; (case hd => rfl); (case hg => rfl); (case hr => first | (go_simp; done) | (go_simp; rfl))
     intro gb270 hg w34 hbox hb
     have BK270 := Aside0.mk hbox; have GW270 := gw (w := w) hg; have GE270 := gw (w := w) hg; replace HB := bs (w := w) hb; have NB246_270 := nl BK246 hg; have NB270_246 := nr BK246 hg; replace BK246 := bv BK246 hb; have NB247_270 := nl BK247 hg; have NB270_247 := nr BK247 hg; replace BK247 := bv BK247 hb; clear hb hbox hg
     refine hK.out _ _ ⟨cb 0 BK246, cb 1 BK246, cb 2 BK246, cb 3 BK246, cb 4 BK246, cb 0 BK247, cb 1 BK247, cb 2 BK247, cb 3 BK247, cb 4 BK247⟩ (fun hHeld => ?_)
     clear hK K
     refine norm_ (a' := ?_) ?_ ?_
     rotate_left
     ·show Act.put _ (some 6) _ = _
      simp only [Act.put, List.setIfInBounds_toArray, List.set_cons_zero, List.set_cons_succ, i64_w, i32_w]
      rfl
     refine one_ (i := 1) (N := some 28) (bo 11 263) rfl rfl (one_of HT_.out (by kernel_rfl)) (by decide) (fun K hK => ?_)
     refine goes_ Try.func57 (by kernel_rfl) rfl #[.agg #[.int .i64 a0_0, .int .i64 a0_1, .int .i64 a0_2, .int .i64 a0_3, .slice A0_4 l0_4.length c0_4]] (by rfl) rfl rfl sa ?_
     with_reducible refine (laws_toWal.calls k a0_0 a0_1 a0_2 a0_3 _ _ l0_4 t250 t251 t252 t253 t254 _ ?side1 ?side2 A19.out).mono ?_
     (case side1 => exact ca (Kd.C_below HR0_4.out HB.out))
     (case side2 => exact HC0_4.out)
     rintro e w35 ⟨v255, rfl, ho0, hb⟩
     refine ⟨_, rfl, ?_⟩
     have HO256 := Aside0.mk (Kd.R_lower ho0 (below_size bl)); replace BK246 := bv BK246 hb; replace BK247 := bv BK247 hb; replace BK270 := bv BK270 hb; replace HB := bs (w := w) hb; (try clear hb hb2 hk hi ho0)
     refine hK.out _ _ ⟨cb 0 BK246, cb 1 BK246, cb 2 BK246, cb 3 BK246, cb 4 BK246, cb 0 BK247, cb 1 BK247, cb 2 BK247, cb 3 BK247, cb 4 BK247⟩ (fun hHeld => ?_)
     clear hK K
     refine norm_ (a' := ?_) ?_ ?_
     rotate_left
     ·show Act.put _ (some 28) _ = _
      simp only [Act.put, List.setIfInBounds_toArray, List.set_cons_zero, List.set_cons_succ, i64_w, i32_w]
      rfl
     refine one_ (i := 3) (N := some 30) (bo 11 271) rfl rfl (one_of HT_.out (by kernel_rfl)) (by decide) (fun K hK => ?_)
     refine goes_ Try.func68 (by kernel_rfl) rfl #[.agg #[.int .i64 a1_0, .int .i64 a1_1, .int .i64 a1_2, .int .i64 a1_3, .string a1_4]] (by rfl) rfl rfl sa ?_
     with_reducible refine (laws_toRec.calls a1_0 a1_1 a1_2 a1_3 a1_4 t257 t258 t259 t260 t261 _ A20.out).mono ?_
     rintro e w36 ⟨rfl, hb⟩
     refine ⟨_, rfl, ?_⟩
     replace HO256 := Aside0.mk (Kd.R_below (rpR HO256.out) hb); replace BK246 := bv BK246 hb; replace BK247 := bv BK247 hb; replace BK270 := bv BK270 hb; replace HB := bs (w := w) hb; (try clear hb hb2 hk hi)
     obtain ⟨Ao37, co37, eo37⟩ := Kd.R_slice HO256.out
     (first | subst eo37 | (injection eo37 with f1_ f2_ f3_; have f4_ := f1_.symm; have f5_ := f3_.symm; clear f1_ f2_ f3_; subst f4_; subst f5_))
     refine hK.out _ _ ⟨cb 0 BK246, cb 1 BK246, cb 2 BK246, cb 3 BK246, cb 4 BK246, cb 0 BK247, cb 1 BK247, cb 2 BK247, cb 3 BK247, cb 4 BK247⟩ (fun hHeld => ?_)
     clear hK K
     refine norm_ (a' := ?_) ?_ ?_
     rotate_left
     ·show Act.put _ (some 30) _ = _
      simp only [Act.put, List.setIfInBounds_toArray, List.set_cons_zero, List.set_cons_succ, i64_w, i32_w]
      rfl
     refine one_ (i := 4) (N := some 31) (bo 11 287) rfl rfl (one_of HT_.out (by kernel_rfl)) (by decide) (fun K hK => ?_)
     refine goes_ Try.func67 (by kernel_rfl) rfl #[.agg #[.int .i64 t250, .int .i64 t251, .int .i64 t252, .int .i64 t253, .slice Ao37 t254.length co37], .agg #[.int .i64 t257, .int .i64 t258, .int .i64 t259, .int .i64 t260, .string t261]] (by rfl) rfl rfl sa ?_
     with_reducible refine (spec_WalStep.calls k t250 t251 t252 t253 _ _ t254 t257 t258 t259 t260 t261 t262 t263 t264 t265 t266 t269 _ ?side1 ?side2 A21.out).mono ?_
     (case side1 => exact ca ((Kd.R_reads' HO256.out).2.2))
     (case side2 => exact (Kd.R_reads' HO256.out).2.1)
     rintro e w38 ⟨v267, rfl, ho0, hb⟩
     refine ⟨_, rfl, ?_⟩
     have HO268 := Aside0.mk (Kd.R_lower (Kd.R_new' ho0 (Kd.R_lt (rpR HO256.out))) (below_size bl)); replace HO256 := Aside0.mk (Kd.R_elder' (rpR HO256.out) (Kd.R_base ho0) hb); replace BK246 := bv BK246 hb; replace BK247 := bv BK247 hb; replace BK270 := bv BK270 hb; replace HB := bs (w := w) hb; (try clear hb hb2 hk hi ho0)
     refine hK.out _ _ ⟨cb 0 BK246, cb 1 BK246, cb 2 BK246, cb 3 BK246, cb 4 BK246, cb 0 BK247, cb 1 BK247, cb 2 BK247, cb 3 BK247, cb 4 BK247⟩ (fun hHeld => ?_)
     clear hK K
     refine norm_ (a' := ?_) ?_ ?_
     rotate_left
     ·show Act.put _ (some 31) _ = _
      simp only [Act.put, List.setIfInBounds_toArray, List.set_cons_zero, List.set_cons_succ, i64_w, i32_w]
      rfl
     refine pV 5 26 (bo 11 319) ?_
     refine pV 6 32 (bo 11 383) ?_
     refine pV 7 33 (bo 11 511) ?_
     exact norm_ (by simp only [putAll, Act.put, List.setIfInBounds_toArray, List.set_cons_zero, List.set_cons_succ]) (hCont (.slice Ao37 t254.length co37, v267, gb270) _ ⟨hHeld, (rpR (Kd.R_mono HO256.out (fun _ hk => hk.2))), (rpR (Kd.R_mono HO268.out (fun _ hk => hk.2))), bk, bk, bk, GW270.out, GE270.out, NB246_270.out, NB270_246.out, NB247_270.out, NB270_247.out, bl⟩)
   rintro ⟨v255, v267, gb270⟩ w39 ⟨hS_, h0_, h1_, h2_, h3_, h4_, h5_, h6_, h7_, h8_, h9_, h10_, h11_⟩
   have n0_ : Aside0 (Kd.R k117 117 w39 w.heap.size (fun k_ => some k_ ≠ (v267 : Value).ownBlock) v255 t254) := ⟨h0_⟩
   have n1_ : Aside0 (Kd.R k117 117 w39 w.heap.size (fun k_ => some k_ ≠ (v255 : Value).ownBlock) v267 t266) := ⟨h1_⟩
   have n2_ : Aside0 (w39.heap[gb246]? = some (.cells #[.int .i64 a0_0, .int .i64 a0_1, .int .i64 a0_2, .int .i64 a0_3, .slice A0_4 l0_4.length c0_4] 62 (0, 0))) := ⟨h2_⟩
   have n3_ : Aside0 (w39.heap[gb247]? = some (.cells #[.int .i64 a1_0, .int .i64 a1_1, .int .i64 a1_2, .int .i64 a1_3, .string a1_4] 79 (0, 0))) := ⟨h3_⟩
   have n4_ : Aside0 (w39.heap[gb270]? = some (.cells #[.int .i64 0, .int .i64 0, .int .i64 0, .int .i64 0, .slice none 0 0] 67 (0, 0))) := ⟨h4_⟩
   have n5_ : Aside0 (w.heap.size ≤ gb270) := ⟨h5_⟩
   have n6_ : Aside0 (w.heap.size ≤ gb270) := ⟨h6_⟩
   have n7_ : Aside0 (gb246 ≠ gb270) := ⟨h7_⟩
   have n8_ : Aside0 (gb270 ≠ gb246) := ⟨h8_⟩
   have n9_ : Aside0 (gb247 ≠ gb270) := ⟨h9_⟩
   have n10_ : Aside0 (gb270 ≠ gb247) := ⟨h10_⟩
   have n11_ : Aside0 (Below w.heap.size w w39) := ⟨h11_⟩
   clear BK246
   clear BK247
   clear HB
   clear h0_ h1_ h2_ h3_ h4_ h5_ h6_ h7_ h8_ h9_ h10_ h11_
   have HO256 := n0_
   have HO268 := n1_
   have BK246 := n2_
   have BK247 := n3_
   have BK270 := n4_
   have GW270 := n5_
   have GE270 := n6_
   have NB246_270 := n7_
   have NB270_246 := n8_
   have NB247_270 := n9_
   have NB270_247 := n10_
   have HB := n11_
   clear n0_ n1_ n2_ n3_ n4_ n5_ n6_ n7_ n8_ n9_ n10_ n11_
   have hHeld : w39.cell? ⟨gb246, 0, none⟩ = some (.int .i64 a0_0) ∧ w39.cell? ⟨gb246, 1, none⟩ = some (.int .i64 a0_1) ∧ w39.cell? ⟨gb246, 2, none⟩ = some (.int .i64 a0_2) ∧ w39.cell? ⟨gb246, 3, none⟩ = some (.int .i64 a0_3) ∧ w39.cell? ⟨gb246, 4, none⟩ = some (.slice A0_4 l0_4.length c0_4) ∧ w39.cell? ⟨gb247, 0, none⟩ = some (.int .i64 a1_0) ∧ w39.cell? ⟨gb247, 1, none⟩ = some (.int .i64 a1_1) ∧ w39.cell? ⟨gb247, 2, none⟩ = some (.int .i64 a1_2) ∧ w39.cell? ⟨gb247, 3, none⟩ = some (.int .i64 a1_3) ∧ w39.cell? ⟨gb247, 4, none⟩ = some (.string a1_4) := hS_
   obtain ⟨Ao44, co44, eo44⟩ := Kd.R_slice HO268.out
   (first | subst eo44 | (injection eo44 with f1_ f2_ f3_; have f4_ := f1_.symm; have f5_ := f3_.symm; clear f1_ f2_ f3_; subst f4_; subst f5_))
   refine norm_ (a' := ?_) ?_ ?_
   rotate_left
   ·simp only [putAll, Act.put, List.setIfInBounds_toArray, List.set_cons_zero, List.set_cons_succ]
    rfl
   refine one_ (i := 9) (N := none) (bo 11 1023) rfl rfl (one_of HT_.out (by kernel_rfl)) (by decide) (fun K hK => ?_)
   have hs40 : w39.cell? ⟨gb270, 0, none⟩ = some (.int .i64 0) := cb 0 BK270
   have hfs40 := blk_frozen BK270.out 0
   have hns40_0 := NB246_270.out
   have hns40_1 := NB247_270.out
   have hms40_0 := NB270_246.out
   have hms40_1 := NB270_247.out
   have hs41 : w39.cell? ⟨gb270, 1, none⟩ = some (.int .i64 0) := cb 1 BK270
   have hfs41 := blk_frozen BK270.out 1
   have hns41_0 := NB246_270.out
   have hns41_1 := NB247_270.out
   have hms41_0 := NB270_246.out
   have hms41_1 := NB270_247.out
   have hs42 : w39.cell? ⟨gb270, 2, none⟩ = some (.int .i64 0) := cb 2 BK270
   have hfs42 := blk_frozen BK270.out 2
   have hns42_0 := NB246_270.out
   have hns42_1 := NB247_270.out
   have hms42_0 := NB270_246.out
   have hms42_1 := NB270_247.out
   have hs43 : w39.cell? ⟨gb270, 3, none⟩ = some (.int .i64 0) := cb 3 BK270
   have hfs43 := blk_frozen BK270.out 3
   have hns43_0 := NB246_270.out
   have hns43_1 := NB247_270.out
   have hms43_0 := NB270_246.out
   have hms43_1 := NB270_247.out
   have hs45 : w39.cell? ⟨gb270, 4, none⟩ = some (.slice none 0 0) := cb 4 BK270
   have hfs45 := blk_frozen BK270.out 4
   have hns45_0 := NB246_270.out
   have hns45_1 := NB247_270.out
   have hms45_0 := NB270_246.out
   have hms45_1 := NB270_247.out
   refine skip_ (w1 := ?_) (by rfl) rfl ?_ ?_
   rotate_left
   ·go_simp
    rfl
   refine hK.out _ _ ⟨((cell_far (p := ⟨gb270, _, none⟩) NB246_270.out _).trans (((cell_far (p := ⟨gb270, _, none⟩) NB246_270.out _).trans (((cell_far (p := ⟨gb270, _, none⟩) NB246_270.out _).trans (((cell_far (p := ⟨gb270, _, none⟩) NB246_270.out _).trans (((cell_far (p := ⟨gb270, _, none⟩) NB246_270.out _).trans (hHeld.1)))))))))), ((cell_far (p := ⟨gb270, _, none⟩) NB246_270.out _).trans (((cell_far (p := ⟨gb270, _, none⟩) NB246_270.out _).trans (((cell_far (p := ⟨gb270, _, none⟩) NB246_270.out _).trans (((cell_far (p := ⟨gb270, _, none⟩) NB246_270.out _).trans (((cell_far (p := ⟨gb270, _, none⟩) NB246_270.out _).trans (hHeld.2.1)))))))))), ((cell_far (p := ⟨gb270, _, none⟩) NB246_270.out _).trans (((cell_far (p := ⟨gb270, _, none⟩) NB246_270.out _).trans (((cell_far (p := ⟨gb270, _, none⟩) NB246_270.out _).trans (((cell_far (p := ⟨gb270, _, none⟩) NB246_270.out _).trans (((cell_far (p := ⟨gb270, _, none⟩) NB246_270.out _).trans (hHeld.2.2.1)))))))))), ((cell_far (p := ⟨gb270, _, none⟩) NB246_270.out _).trans (((cell_far (p := ⟨gb270, _, none⟩) NB246_270.out _).trans (((cell_far (p := ⟨gb270, _, none⟩) NB246_270.out _).trans (((cell_far (p := ⟨gb270, _, none⟩) NB246_270.out _).trans (((cell_far (p := ⟨gb270, _, none⟩) NB246_270.out _).trans (hHeld.2.2.2.1)))))))))), ((cell_far (p := ⟨gb270, _, none⟩) NB246_270.out _).trans (((cell_far (p := ⟨gb270, _, none⟩) NB246_270.out _).trans (((cell_far (p := ⟨gb270, _, none⟩) NB246_270.out _).trans (((cell_far (p := ⟨gb270, _, none⟩) NB246_270.out _).trans (((cell_far (p := ⟨gb270, _, none⟩) NB246_270.out _).trans (hHeld.2.2.2.2.1)))))))))), ((cell_far (p := ⟨gb270, _, none⟩) NB247_270.out _).trans (((cell_far (p := ⟨gb270, _, none⟩) NB247_270.out _).trans (((cell_far (p := ⟨gb270, _, none⟩) NB247_270.out _).trans (((cell_far (p := ⟨gb270, _, none⟩) NB247_270.out _).trans (((cell_far (p := ⟨gb270, _, none⟩) NB247_270.out _).trans (hHeld.2.2.2.2.2.1)))))))))), ((cell_far (p := ⟨gb270, _, none⟩) NB247_270.out _).trans (((cell_far (p := ⟨gb270, _, none⟩) NB247_270.out _).trans (((cell_far (p := ⟨gb270, _, none⟩) NB247_270.out _).trans (((cell_far (p := ⟨gb270, _, none⟩) NB247_270.out _).trans (((cell_far (p := ⟨gb270, _, none⟩) NB247_270.out _).trans (hHeld.2.2.2.2.2.2.1)))))))))), ((cell_far (p := ⟨gb270, _, none⟩) NB247_270.out _).trans (((cell_far (p := ⟨gb270, _, none⟩) NB247_270.out _).trans (((cell_far (p := ⟨gb270, _, none⟩) NB247_270.out _).trans (((cell_far (p := ⟨gb270, _, none⟩) NB247_270.out _).trans (((cell_far (p := ⟨gb270, _, none⟩) NB247_270.out _).trans (hHeld.2.2.2.2.2.2.2.1)))))))))), ((cell_far (p := ⟨gb270, _, none⟩) NB247_270.out _).trans (((cell_far (p := ⟨gb270, _, none⟩) NB247_270.out _).trans (((cell_far (p := ⟨gb270, _, none⟩) NB247_270.out _).trans (((cell_far (p := ⟨gb270, _, none⟩) NB247_270.out _).trans (((cell_far (p := ⟨gb270, _, none⟩) NB247_270.out _).trans (hHeld.2.2.2.2.2.2.2.2.1)))))))))), ((cell_far (p := ⟨gb270, _, none⟩) NB247_270.out _).trans (((cell_far (p := ⟨gb270, _, none⟩) NB247_270.out _).trans (((cell_far (p := ⟨gb270, _, none⟩) NB247_270.out _).trans (((cell_far (p := ⟨gb270, _, none⟩) NB247_270.out _).trans (((cell_far (p := ⟨gb270, _, none⟩) NB247_270.out _).trans (hHeld.2.2.2.2.2.2.2.2.2))))))))))⟩ (fun hHeld => ?_)
   clear hK K
   refine pV 10 7 (bo 11 2047) ?_
   refine done_ (done_of HT_.out (by kernel_rfl)) ?_
   have hnb46 := NB246_270.out
   have hnc46 := NB270_246.out
   obtain ⟨Z47_0, Z47_1, Z47_2, Z47_3, Z47_4, Y47_0, Y47_1, Y47_2, Y47_3, Y47_4⟩ := cf5 BK246
   try go_wp2_with (first | ((with_reducible refine gC 57 rfl ?_); refine goesZ (some 35) rfl Try.func57 #[.agg #[.int .i64 a0_0, .int .i64 a0_1, .int .i64 a0_2, .int .i64 a0_3, .slice A0_4 l0_4.length c0_4]] ?_; (with_reducible refine (laws_toWal.calls k a0_0 a0_1 a0_2 a0_3 _ _ l0_4 t271 t272 t273 t274 t275 _ ?side1 ?side2 A22.out).mono ?_); (case side1 => exact Kd.C_below HR0_4.out bl); (case side2 => exact HC0_4.out); rintro e w48 ⟨v276, rfl, ho0, hb⟩; refine ⟨_, rfl, ?_⟩; have HO277 := Aside0.mk (Kd.R_lower (Kd.R_new' (Kd.R_new' ho0 (Kd.R_lt (rpR (Kd.R_mono (Kd.R_far (p := ⟨gb270, 4, none⟩) (Kd.R_far (p := ⟨gb270, 3, none⟩) (Kd.R_far (p := ⟨gb270, 2, none⟩) (Kd.R_far (p := ⟨gb270, 1, none⟩) (Kd.R_far (p := ⟨gb270, 0, none⟩) (Kd.R_types HO256.out BK270.out (by decide)) (fun _ hk => hk.2) (.int .i64 t262)) (fun _ hk => hk.2) (.int .i64 t263)) (fun _ hk => hk.2) (.int .i64 t264)) (fun _ hk => hk.2) (.int .i64 t265)) (fun _ hk => hk.2) (.slice Ao44 t266.length co44)) (fun _ h_ => h_.1))))) (Kd.R_lt (rpR (Kd.R_mono (Kd.R_far (p := ⟨gb270, 4, none⟩) (Kd.R_far (p := ⟨gb270, 3, none⟩) (Kd.R_far (p := ⟨gb270, 2, none⟩) (Kd.R_far (p := ⟨gb270, 1, none⟩) (Kd.R_far (p := ⟨gb270, 0, none⟩) (Kd.R_types HO268.out BK270.out (by decide)) (fun _ hk => hk.2) (.int .i64 t262)) (fun _ hk => hk.2) (.int .i64 t263)) (fun _ hk => hk.2) (.int .i64 t264)) (fun _ hk => hk.2) (.int .i64 t265)) (fun _ hk => hk.2) (.slice Ao44 t266.length co44)) (fun _ h_ => h_.1))))) (below_size bl)); replace HO256 := Aside0.mk (Kd.R_elder' (rpR (Kd.R_mono (Kd.R_far (p := ⟨gb270, 4, none⟩) (Kd.R_far (p := ⟨gb270, 3, none⟩) (Kd.R_far (p := ⟨gb270, 2, none⟩) (Kd.R_far (p := ⟨gb270, 1, none⟩) (Kd.R_far (p := ⟨gb270, 0, none⟩) (Kd.R_types HO256.out BK270.out (by decide)) (fun _ hk => hk.2) (.int .i64 t262)) (fun _ hk => hk.2) (.int .i64 t263)) (fun _ hk => hk.2) (.int .i64 t264)) (fun _ hk => hk.2) (.int .i64 t265)) (fun _ hk => hk.2) (.slice Ao44 t266.length co44)) (fun _ h_ => h_.1))) (Kd.R_base ho0) hb); replace HO268 := Aside0.mk (Kd.R_elder' (rpR (Kd.R_mono (Kd.R_far (p := ⟨gb270, 4, none⟩) (Kd.R_far (p := ⟨gb270, 3, none⟩) (Kd.R_far (p := ⟨gb270, 2, none⟩) (Kd.R_far (p := ⟨gb270, 1, none⟩) (Kd.R_far (p := ⟨gb270, 0, none⟩) (Kd.R_types HO268.out BK270.out (by decide)) (fun _ hk => hk.2) (.int .i64 t262)) (fun _ hk => hk.2) (.int .i64 t263)) (fun _ hk => hk.2) (.int .i64 t264)) (fun _ hk => hk.2) (.int .i64 t265)) (fun _ hk => hk.2) (.slice Ao44 t266.length co44)) (fun _ h_ => h_.1))) (Kd.R_base ho0) hb); replace BK246 := Aside0.mk (blk_below (g := gb246) (o := .cells #[.int .i64 a0_0, .int .i64 a0_1, .int .i64 a0_2, .int .i64 a0_3, .slice A0_4 l0_4.length c0_4] 62 (0, 0)) bkk hb); replace BK247 := Aside0.mk (blk_below (g := gb247) (o := .cells #[.int .i64 a1_0, .int .i64 a1_1, .int .i64 a1_2, .int .i64 a1_3, .string a1_4] 79 (0, 0)) bkk hb); replace BK270 := Aside0.mk (blk_below (g := gb270) (o := .cells #[.int .i64 t262, .int .i64 t263, .int .i64 t264, .int .i64 t265, .slice Ao44 t266.length co44] 67 (0, 0)) bkk hb); replace HB := bs (w := w) hb; (try clear hb ho0)) | ((with_reducible refine gD 8 rfl ?_); refine boxZ 8 #[.int .i64 0, .int .i64 0, .int .i64 0, .int .i64 0, .slice none 0 0] 67 ?_; intro gb278 hg w49 hbox hb; replace HO256 := Aside0.mk (Kd.R_below (rpR HO256.out) hb); replace HO268 := Aside0.mk (Kd.R_below (rpR HO268.out) hb); replace HO277 := Aside0.mk (Kd.R_below (rpR HO277.out) hb); have BK278 := Aside0.mk hbox; have GW278 := gw (w := w) hg; have GE278 := gw (w := w) hg; replace HB := bs (w := w) hb; have NB246_278 := nl BK246 hg; have NB278_246 := nr BK246 hg; replace BK246 := bv BK246 hb; have NB247_278 := nl BK247 hg; have NB278_247 := nr BK247 hg; replace BK247 := bv BK247 hb; have NB270_278 := nl BK270 hg; have NB278_270 := nr BK270 hg; replace BK270 := bv BK270 hb; clear hb hbox hg; have hnb50 := NB278_246.out; have hnc50 := NB246_278.out; have hnb51 := NB278_247.out; have hnc51 := NB247_278.out; have hnb52 := NB278_270.out; have hnc52 := NB270_278.out; obtain ⟨Z53_0, Z53_1, Z53_2, Z53_3, Z53_4, Y53_0, Y53_1, Y53_2, Y53_3, Y53_4⟩ := cf5 BK278; obtain ⟨Ao54, co54, rfl⟩ := Kd.R_slice HO277.out))
   have n0_ : Aside0 (Kd.R k117 117 (((((w49.setCell ⟨gb278, 0, none⟩ (.int .i64 t271)).setCell ⟨gb278, 1, none⟩ (.int .i64 t272)).setCell ⟨gb278, 2, none⟩ (.int .i64 t273)).setCell ⟨gb278, 3, none⟩ (.int .i64 t274)).setCell ⟨gb278, 4, none⟩ (.slice Ao54 t275.length co54)) w.heap.size (fun k_ => some k_ ≠ (.slice Ao44 t266.length co44 : Value).ownBlock ∧ some k_ ≠ (.slice Ao54 t275.length co54 : Value).ownBlock) v255 t254) := ⟨rpR (Kd.R_mono (Kd.R_far (p := ⟨gb278, 4, none⟩) (Kd.R_far (p := ⟨gb278, 3, none⟩) (Kd.R_far (p := ⟨gb278, 2, none⟩) (Kd.R_far (p := ⟨gb278, 1, none⟩) (Kd.R_far (p := ⟨gb278, 0, none⟩) (Kd.R_types HO256.out BK278.out (by decide)) (fun _ hk => hk.2) (.int .i64 t271)) (fun _ hk => hk.2) (.int .i64 t272)) (fun _ hk => hk.2) (.int .i64 t273)) (fun _ hk => hk.2) (.int .i64 t274)) (fun _ hk => hk.2) (.slice Ao54 t275.length co54)) (fun _ hk => ⟨hk.1.1, hk.1.2⟩))⟩
   have n1_ : Aside0 (Kd.R k117 117 (((((w49.setCell ⟨gb278, 0, none⟩ (.int .i64 t271)).setCell ⟨gb278, 1, none⟩ (.int .i64 t272)).setCell ⟨gb278, 2, none⟩ (.int .i64 t273)).setCell ⟨gb278, 3, none⟩ (.int .i64 t274)).setCell ⟨gb278, 4, none⟩ (.slice Ao54 t275.length co54)) w.heap.size (fun k_ => some k_ ≠ (v255 : Value).ownBlock ∧ some k_ ≠ (.slice Ao54 t275.length co54 : Value).ownBlock) (.slice Ao44 t266.length co44) t266) := ⟨rpR (Kd.R_mono (Kd.R_far (p := ⟨gb278, 4, none⟩) (Kd.R_far (p := ⟨gb278, 3, none⟩) (Kd.R_far (p := ⟨gb278, 2, none⟩) (Kd.R_far (p := ⟨gb278, 1, none⟩) (Kd.R_far (p := ⟨gb278, 0, none⟩) (Kd.R_types HO268.out BK278.out (by decide)) (fun _ hk => hk.2) (.int .i64 t271)) (fun _ hk => hk.2) (.int .i64 t272)) (fun _ hk => hk.2) (.int .i64 t273)) (fun _ hk => hk.2) (.int .i64 t274)) (fun _ hk => hk.2) (.slice Ao54 t275.length co54)) (fun _ hk => ⟨hk.1.1, hk.1.2⟩))⟩
   have n2_ : Aside0 (Kd.R k117 117 (((((w49.setCell ⟨gb278, 0, none⟩ (.int .i64 t271)).setCell ⟨gb278, 1, none⟩ (.int .i64 t272)).setCell ⟨gb278, 2, none⟩ (.int .i64 t273)).setCell ⟨gb278, 3, none⟩ (.int .i64 t274)).setCell ⟨gb278, 4, none⟩ (.slice Ao54 t275.length co54)) w.heap.size (fun k_ => some k_ ≠ (v255 : Value).ownBlock ∧ some k_ ≠ (.slice Ao44 t266.length co44 : Value).ownBlock) (.slice Ao54 t275.length co54) t275) := ⟨rpR (Kd.R_mono (Kd.R_far (p := ⟨gb278, 4, none⟩) (Kd.R_far (p := ⟨gb278, 3, none⟩) (Kd.R_far (p := ⟨gb278, 2, none⟩) (Kd.R_far (p := ⟨gb278, 1, none⟩) (Kd.R_far (p := ⟨gb278, 0, none⟩) (Kd.R_types HO277.out BK278.out (by decide)) (fun _ hk => hk.2) (.int .i64 t271)) (fun _ hk => hk.2) (.int .i64 t272)) (fun _ hk => hk.2) (.int .i64 t273)) (fun _ hk => hk.2) (.int .i64 t274)) (fun _ hk => hk.2) (.slice Ao54 t275.length co54)) (fun _ hk => ⟨hk.1.1.2, hk.1.2⟩))⟩
   have n3_ : Aside0 ((((((w49.setCell ⟨gb278, 0, none⟩ (.int .i64 t271)).setCell ⟨gb278, 1, none⟩ (.int .i64 t272)).setCell ⟨gb278, 2, none⟩ (.int .i64 t273)).setCell ⟨gb278, 3, none⟩ (.int .i64 t274)).setCell ⟨gb278, 4, none⟩ (.slice Ao54 t275.length co54)).heap[gb246]? = some (.cells #[.int .i64 a0_0, .int .i64 a0_1, .int .i64 a0_2, .int .i64 a0_3, .slice A0_4 l0_4.length c0_4] 62 (0, 0))) := ⟨bkk⟩
   have n4_ : Aside0 ((((((w49.setCell ⟨gb278, 0, none⟩ (.int .i64 t271)).setCell ⟨gb278, 1, none⟩ (.int .i64 t272)).setCell ⟨gb278, 2, none⟩ (.int .i64 t273)).setCell ⟨gb278, 3, none⟩ (.int .i64 t274)).setCell ⟨gb278, 4, none⟩ (.slice Ao54 t275.length co54)).heap[gb247]? = some (.cells #[.int .i64 a1_0, .int .i64 a1_1, .int .i64 a1_2, .int .i64 a1_3, .string a1_4] 79 (0, 0))) := ⟨bkk⟩
   have n5_ : Aside0 ((((((w49.setCell ⟨gb278, 0, none⟩ (.int .i64 t271)).setCell ⟨gb278, 1, none⟩ (.int .i64 t272)).setCell ⟨gb278, 2, none⟩ (.int .i64 t273)).setCell ⟨gb278, 3, none⟩ (.int .i64 t274)).setCell ⟨gb278, 4, none⟩ (.slice Ao54 t275.length co54)).heap[gb270]? = some (.cells #[.int .i64 t262, .int .i64 t263, .int .i64 t264, .int .i64 t265, .slice Ao44 t266.length co44] 67 (0, 0))) := ⟨bkk⟩
   have n6_ : Aside0 ((((((w49.setCell ⟨gb278, 0, none⟩ (.int .i64 t271)).setCell ⟨gb278, 1, none⟩ (.int .i64 t272)).setCell ⟨gb278, 2, none⟩ (.int .i64 t273)).setCell ⟨gb278, 3, none⟩ (.int .i64 t274)).setCell ⟨gb278, 4, none⟩ (.slice Ao54 t275.length co54)).heap[gb278]? = some (.cells #[.int .i64 t271, .int .i64 t272, .int .i64 t273, .int .i64 t274, .slice Ao54 t275.length co54] 67 (0, 0))) := ⟨bkk⟩
   have n7_ : Aside0 (Below w.heap.size w (((((w49.setCell ⟨gb278, 0, none⟩ (.int .i64 t271)).setCell ⟨gb278, 1, none⟩ (.int .i64 t272)).setCell ⟨gb278, 2, none⟩ (.int .i64 t273)).setCell ⟨gb278, 3, none⟩ (.int .i64 t274)).setCell ⟨gb278, 4, none⟩ (.slice Ao54 t275.length co54))) := ⟨bl⟩
   (try clear HO256)
   (try clear HO268)
   (try clear HO277)
   (try clear BK246)
   (try clear BK247)
   (try clear BK270)
   (try clear BK278)
   (try clear HB)
   generalize (((((w49.setCell ⟨gb278, 0, none⟩ (.int .i64 t271)).setCell ⟨gb278, 1, none⟩ (.int .i64 t272)).setCell ⟨gb278, 2, none⟩ (.int .i64 t273)).setCell ⟨gb278, 3, none⟩ (.int .i64 t274)).setCell ⟨gb278, 4, none⟩ (.slice Ao54 t275.length co54)) = w55 at n0_ n1_ n2_ n3_ n4_ n5_ n6_ n7_ ⊢
   have HO256 := n0_
   have HO268 := n1_
   have HO277 := n2_
   have BK246 := n3_
   have BK247 := n4_
   have BK270 := n5_
   have BK278 := n6_
   have HB := n7_
   clear n0_ n1_ n2_ n3_ n4_ n5_ n6_ n7_
   replace HO256 := Aside0.mk (Kd.R_drew HO256.out); replace HO268 := Aside0.mk (Kd.R_drew HO268.out); replace HO277 := Aside0.mk (Kd.R_drew HO277.out); replace BK246 := Aside0.mk (blk_drew BK246.out); replace BK247 := Aside0.mk (blk_drew BK247.out); replace BK270 := Aside0.mk (blk_drew BK270.out); replace BK278 := Aside0.mk (blk_drew BK278.out); replace HB := Aside0.mk (below_drew1 HB.out)
   refine start_ (n := 10) (S := fun w' => w'.cell? ⟨gb278, 0, none⟩ = some (.int .i64 t271) ∧ w'.cell? ⟨gb278, 1, none⟩ = some (.int .i64 t272) ∧ w'.cell? ⟨gb278, 2, none⟩ = some (.int .i64 t273) ∧ w'.cell? ⟨gb278, 3, none⟩ = some (.int .i64 t274) ∧ w'.cell? ⟨gb278, 4, none⟩ = some (.slice Ao54 t275.length co54) ∧ w'.cell? ⟨gb247, 0, none⟩ = some (.int .i64 a1_0) ∧ w'.cell? ⟨gb247, 1, none⟩ = some (.int .i64 a1_1) ∧ w'.cell? ⟨gb247, 2, none⟩ = some (.int .i64 a1_2) ∧ w'.cell? ⟨gb247, 3, none⟩ = some (.int .i64 a1_3) ∧ w'.cell? ⟨gb247, 4, none⟩ = some (.string a1_4)) (ds := []) (bo 10 0) (by kernel_rfl) rfl rfl ⟨cb 0 BK278, cb 1 BK278, cb 2 BK278, cb 3 BK278, cb 4 BK278, cb 0 BK247, cb 1 BK247, cb 2 BK247, cb 3 BK247, cb 4 BK247⟩ (fun hHeld => ?_); refine with_tabW laws_FnExactWalStep.tab10 laws_FnExactWalStep.bits10 (fun HT_ HW_ => ?_)
   generalize w55.drew = w56 at HO256 HO268 HO277 BK246 BK247 BK270 BK278 HB hHeld ⊢
   refine tV 0 37 (bo 10 1) ?_
   refine tV 1 38 (bo 10 3) ?_
   refine join_ (σ := Value × Nat) 2 (bo 10 255) (fun s_ => [(39, .agg #[.int .i64 t279, .int .i64 t280, .int .i64 t281, .int .i64 t282, .string t283]), (40, .tuple #[.agg #[.int .i64 t284, .int .i64 t285, .int .i64 t286, .int .i64 t287, s_.1], .bool t291]), (9, .pointer (some ⟨s_.2, 0, none⟩)), (36, .tuple #[.agg #[.int .i64 t284, .int .i64 t285, .int .i64 t286, .int .i64 t287, s_.1], .bool t291]), (41, .agg #[.int .i64 t284, .int .i64 t285, .int .i64 t286, .int .i64 t287, s_.1]), (42, .bool t291)]) (fun s_ w' => (w'.cell? ⟨gb278, 0, none⟩ = some (.int .i64 t271) ∧ w'.cell? ⟨gb278, 1, none⟩ = some (.int .i64 t272) ∧ w'.cell? ⟨gb278, 2, none⟩ = some (.int .i64 t273) ∧ w'.cell? ⟨gb278, 3, none⟩ = some (.int .i64 t274) ∧ w'.cell? ⟨gb278, 4, none⟩ = some (.slice Ao54 t275.length co54) ∧ w'.cell? ⟨gb247, 0, none⟩ = some (.int .i64 a1_0) ∧ w'.cell? ⟨gb247, 1, none⟩ = some (.int .i64 a1_1) ∧ w'.cell? ⟨gb247, 2, none⟩ = some (.int .i64 a1_2) ∧ w'.cell? ⟨gb247, 3, none⟩ = some (.int .i64 a1_3) ∧ w'.cell? ⟨gb247, 4, none⟩ = some (.string a1_4)) ∧ (Kd.R k117 117 w' w.heap.size (fun k_ => some k_ ≠ (.slice Ao44 t266.length co44 : Value).ownBlock ∧ some k_ ≠ (.slice Ao54 t275.length co54 : Value).ownBlock ∧ some k_ ≠ (s_.1 : Value).ownBlock) v255 t254) ∧ (Kd.R k117 117 w' w.heap.size (fun k_ => some k_ ≠ (v255 : Value).ownBlock ∧ some k_ ≠ (.slice Ao54 t275.length co54 : Value).ownBlock ∧ some k_ ≠ (s_.1 : Value).ownBlock) (.slice Ao44 t266.length co44) t266) ∧ (Kd.R k117 117 w' w.heap.size (fun k_ => some k_ ≠ (v255 : Value).ownBlock ∧ some k_ ≠ (.slice Ao44 t266.length co44 : Value).ownBlock ∧ some k_ ≠ (s_.1 : Value).ownBlock) (.slice Ao54 t275.length co54) t275) ∧ (Kd.R k117 117 w' w.heap.size (fun k_ => some k_ ≠ (v255 : Value).ownBlock ∧ some k_ ≠ (.slice Ao44 t266.length co44 : Value).ownBlock ∧ some k_ ≠ (.slice Ao54 t275.length co54 : Value).ownBlock) s_.1 t288) ∧ (w'.heap[gb246]? = some (.cells #[.int .i64 a0_0, .int .i64 a0_1, .int .i64 a0_2, .int .i64 a0_3, .slice A0_4 l0_4.length c0_4] 62 (0, 0))) ∧ (w'.heap[gb247]? = some (.cells #[.int .i64 a1_0, .int .i64 a1_1, .int .i64 a1_2, .int .i64 a1_3, .string a1_4] 79 (0, 0))) ∧ (w'.heap[gb270]? = some (.cells #[.int .i64 t262, .int .i64 t263, .int .i64 t264, .int .i64 t265, .slice Ao44 t266.length co44] 67 (0, 0))) ∧ (w'.heap[gb278]? = some (.cells #[.int .i64 t271, .int .i64 t272, .int .i64 t273, .int .i64 t274, .slice Ao54 t275.length co54] 67 (0, 0))) ∧ (w'.heap[s_.2]? = some (.cells #[.int .i64 0, .int .i64 0, .int .i64 0, .int .i64 0, .slice none 0 0] 67 (0, 0))) ∧ (w.heap.size ≤ s_.2) ∧ (w.heap.size ≤ s_.2) ∧ (gb246 ≠ s_.2) ∧ (s_.2 ≠ gb246) ∧ (gb247 ≠ s_.2) ∧ (s_.2 ≠ gb247) ∧ (gb270 ≠ s_.2) ∧ (s_.2 ≠ gb270) ∧ (gb278 ≠ s_.2) ∧ (s_.2 ≠ gb278) ∧ (Below w.heap.size w w')) ?_ ?_
   rotate_left
   ·intro hCont
    refine two_ (i := 2) (j := 7) (Ni := some 39) (Nj := some 9) (bo 10 7) (bo 10 131) rfl rfl rfl rfl (two_of HT_.out (by kernel_rfl)) (by decide) (by decide) (fun K hK => ?_) (fun K hK => ?_)
    ·skip
     refine goes_ Try.func68 (by kernel_rfl) rfl #[.agg #[.int .i64 a1_0, .int .i64 a1_1, .int .i64 a1_2, .int .i64 a1_3, .string a1_4]] (by rfl) rfl rfl sa ?_
     with_reducible refine (laws_toRec.calls a1_0 a1_1 a1_2 a1_3 a1_4 t279 t280 t281 t282 t283 _ A23.out).mono ?_
     rintro e w57 ⟨rfl, hb⟩
     refine ⟨_, rfl, ?_⟩
     replace HO256 := Aside0.mk (Kd.R_below (rpR HO256.out) hb); replace HO268 := Aside0.mk (Kd.R_below (rpR HO268.out) hb); replace HO277 := Aside0.mk (Kd.R_below (rpR HO277.out) hb); replace BK246 := bv BK246 hb; replace BK247 := bv BK247 hb; replace BK270 := bv BK270 hb; replace BK278 := bv BK278 hb; replace HB := bs (w := w) hb; (try clear hb hb2 hk hi)
     refine hK.out _ _ ⟨cb 0 BK278, cb 1 BK278, cb 2 BK278, cb 3 BK278, cb 4 BK278, cb 0 BK247, cb 1 BK247, cb 2 BK247, cb 3 BK247, cb 4 BK247⟩ (fun hHeld => ?_)
     clear hK K
     refine norm_ (a' := ?_) ?_ ?_
     rotate_left
     ·show Act.put _ (some 39) _ = _
      simp only [Act.put, List.setIfInBounds_toArray, List.set_cons_zero, List.set_cons_succ, i64_w, i32_w]
      rfl
     refine two_ (i := 3) (j := 7) (Ni := some 40) (Nj := some 9) (bo 10 15) (bo 10 135) rfl rfl rfl rfl (two_of HT_.out (by kernel_rfl)) (by decide) (by decide) (fun K hK => ?_) (fun K hK => ?_)
     ·skip
      refine goes_ Try.func69 (by kernel_rfl) rfl #[.agg #[.int .i64 t271, .int .i64 t272, .int .i64 t273, .int .i64 t274, .slice Ao54 t275.length co54], .agg #[.int .i64 t279, .int .i64 t280, .int .i64 t281, .int .i64 t282, .string t283]] (by rfl) rfl rfl sa ?_
      with_reducible refine (impl_WalStep.calls k t271 t272 t273 t274 _ _ t275 t279 t280 t281 t282 t283 t284 t285 t286 t287 t288 t291 _ ?side1 ?side2 A24.out).mono ?_
      (case side1 => exact ca ((Kd.R_reads' HO277.out).2.2))
      (case side2 => exact (Kd.R_reads' HO277.out).2.1)
      rintro e w58 ⟨v289, rfl, ho0, hb⟩
      refine ⟨_, rfl, ?_⟩
      have HO290 := Aside0.mk (Kd.R_lower (Kd.R_new' (Kd.R_new' (Kd.R_new' ho0 (Kd.R_lt (rpR HO256.out))) (Kd.R_lt (rpR HO268.out))) (Kd.R_lt (rpR HO277.out))) (below_size bl)); replace HO256 := Aside0.mk (Kd.R_elder' (rpR HO256.out) (Kd.R_base ho0) hb); replace HO268 := Aside0.mk (Kd.R_elder' (rpR HO268.out) (Kd.R_base ho0) hb); replace HO277 := Aside0.mk (Kd.R_elder' (rpR HO277.out) (Kd.R_base ho0) hb); replace BK246 := bv BK246 hb; replace BK247 := bv BK247 hb; replace BK270 := bv BK270 hb; replace BK278 := bv BK278 hb; replace HB := bs (w := w) hb; (try clear hb hb2 hk hi ho0)
      refine hK.out _ _ ⟨cb 0 BK278, cb 1 BK278, cb 2 BK278, cb 3 BK278, cb 4 BK278, cb 0 BK247, cb 1 BK247, cb 2 BK247, cb 3 BK247, cb 4 BK247⟩ (fun hHeld => ?_)
      clear hK K
      refine norm_ (a' := ?_) ?_ ?_
      rotate_left
      ·show Act.put _ (some 40) _ = _
       simp only [Act.put, List.setIfInBounds_toArray, List.set_cons_zero, List.set_cons_succ, i64_w, i32_w]
       rfl
      refine pV 4 36 (bo 10 31) ?_
      refine pV 5 41 (bo 10 63) ?_
      refine pV 6 42 (bo 10 127) ?_
      refine one_ (i := 7) (N := some 9) (bo 10 255) rfl rfl (one_of HT_.out (by kernel_rfl)) (by decide) (fun K hK => ?_)
      refine box_step ?hg (N := 9) ?hd (cs := #[.int .i64 0, .int .i64 0, .int .i64 0, .int .i64 0, .slice none 0 0]) (t := 67) ?hr ?_; (case hd => rfl); (case hg => rfl); (case hr => first | (go_simp; done) | (go_simp; rfl))
      intro gb292 hg w59 hbox hb
      replace HO256 := Aside0.mk (Kd.R_below (rpR HO256.out) hb); replace HO268 := Aside0.mk (Kd.R_below (rpR HO268.out) hb); replace HO277 := Aside0.mk (Kd.R_below (rpR HO277.out) hb); replace HO290 := Aside0.mk (Kd.R_below (rpR HO290.out) hb); have BK292 := Aside0.mk hbox; have GW292 := gw (w := w) hg; have GE292 := gw (w := w) hg; replace HB := bs (w := w) hb; have NB246_292 := nl BK246 hg; have NB292_246 := nr BK246 hg; replace BK246 := bv BK246 hb; have NB247_292 := nl BK247 hg; have NB292_247 := nr BK247 hg; replace BK247 := bv BK247 hb; have NB270_292 := nl BK270 hg; have NB292_270 := nr BK270 hg; replace BK270 := bv BK270 hb; have NB278_292 := nl BK278 hg; have NB292_278 := nr BK278 hg; replace BK278 := bv BK278 hb; clear hb hbox hg
      refine hK.out _ _ ⟨cb 0 BK278, cb 1 BK278, cb 2 BK278, cb 3 BK278, cb 4 BK278, cb 0 BK247, cb 1 BK247, cb 2 BK247, cb 3 BK247, cb 4 BK247⟩ (fun hHeld => ?_)
      clear hK K
      refine norm_ (a' := ?_) ?_ ?_
      rotate_left
      ·show Act.put _ (some 9) _ = _
       simp only [Act.put, List.setIfInBounds_toArray, List.set_cons_zero, List.set_cons_succ, i64_w, i32_w]
       rfl
      exact norm_ (by simp only [putAll, Act.put, List.setIfInBounds_toArray, List.set_cons_zero, List.set_cons_succ]) (hCont (v289, gb292) _ ⟨hHeld, (rpR (Kd.R_mono HO256.out (fun _ hk => ⟨hk.1.1, ⟨hk.1.2, hk.2⟩⟩))), (rpR (Kd.R_mono HO268.out (fun _ hk => ⟨hk.1.1, ⟨hk.1.2, hk.2⟩⟩))), (rpR (Kd.R_mono HO277.out (fun _ hk => ⟨hk.1.1, ⟨hk.1.2, hk.2⟩⟩))), (rpR (Kd.R_mono HO290.out (fun _ hk => ⟨hk.1.1.2, ⟨hk.1.2, hk.2⟩⟩))), bk, bk, bk, bk, bk, GW292.out, GE292.out, NB246_292.out, NB292_246.out, NB247_292.out, NB292_247.out, NB270_292.out, NB292_270.out, NB278_292.out, NB292_278.out, bl⟩)
     ·skip
      refine box_step ?hg (N := 9) ?hd (cs := #[.int .i64 0, .int .i64 0, .int .i64 0, .int .i64 0, .slice none 0 0]) (t := 67) ?hr ?_; (case hd => rfl); (case hg => rfl); (case hr => first | (go_simp; done) | (go_simp; rfl))
      intro gb292 hg w58 hbox hb
      replace HO256 := Aside0.mk (Kd.R_below (rpR HO256.out) hb); replace HO268 := Aside0.mk (Kd.R_below (rpR HO268.out) hb); replace HO277 := Aside0.mk (Kd.R_below (rpR HO277.out) hb); have BK292 := Aside0.mk hbox; have GW292 := gw (w := w) hg; have GE292 := gw (w := w) hg; replace HB := bs (w := w) hb; have NB246_292 := nl BK246 hg; have NB292_246 := nr BK246 hg; replace BK246 := bv BK246 hb; have NB247_292 := nl BK247 hg; have NB292_247 := nr BK247 hg; replace BK247 := bv BK247 hb; have NB270_292 := nl BK270 hg; have NB292_270 := nr BK270 hg; replace BK270 := bv BK270 hb; have NB278_292 := nl BK278 hg; have NB292_278 := nr BK278 hg; replace BK278 := bv BK278 hb; clear hb hbox hg
      refine hK.out _ _ ⟨cb 0 BK278, cb 1 BK278, cb 2 BK278, cb 3 BK278, cb 4 BK278, cb 0 BK247, cb 1 BK247, cb 2 BK247, cb 3 BK247, cb 4 BK247⟩ (fun hHeld => ?_)
      clear hK K
      refine norm_ (a' := ?_) ?_ ?_
      rotate_left
      ·show Act.put _ (some 9) _ = _
       simp only [Act.put, List.setIfInBounds_toArray, List.set_cons_zero, List.set_cons_succ, i64_w, i32_w]
       rfl
      refine one_ (i := 3) (N := some 40) (bo 10 143) rfl rfl (one_of HT_.out (by kernel_rfl)) (by decide) (fun K hK => ?_)
      refine goes_ Try.func69 (by kernel_rfl) rfl #[.agg #[.int .i64 t271, .int .i64 t272, .int .i64 t273, .int .i64 t274, .slice Ao54 t275.length co54], .agg #[.int .i64 t279, .int .i64 t280, .int .i64 t281, .int .i64 t282, .string t283]] (by rfl) rfl rfl sa ?_
      with_reducible refine (impl_WalStep.calls k t271 t272 t273 t274 _ _ t275 t279 t280 t281 t282 t283 t284 t285 t286 t287 t288 t291 _ ?side1 ?side2 A24.out).mono ?_
      (case side1 => exact ca ((Kd.R_reads' HO277.out).2.2))
      (case side2 => exact (Kd.R_reads' HO277.out).2.1)
      rintro e w59 ⟨v289, rfl, ho0, hb⟩
      refine ⟨_, rfl, ?_⟩
      have HO290 := Aside0.mk (Kd.R_lower (Kd.R_new' (Kd.R_new' (Kd.R_new' ho0 (Kd.R_lt (rpR HO256.out))) (Kd.R_lt (rpR HO268.out))) (Kd.R_lt (rpR HO277.out))) (below_size bl)); replace HO256 := Aside0.mk (Kd.R_elder' (rpR HO256.out) (Kd.R_base ho0) hb); replace HO268 := Aside0.mk (Kd.R_elder' (rpR HO268.out) (Kd.R_base ho0) hb); replace HO277 := Aside0.mk (Kd.R_elder' (rpR HO277.out) (Kd.R_base ho0) hb); replace BK246 := bv BK246 hb; replace BK247 := bv BK247 hb; replace BK270 := bv BK270 hb; replace BK278 := bv BK278 hb; replace BK292 := bv BK292 hb; replace HB := bs (w := w) hb; (try clear hb hb2 hk hi ho0)
      refine hK.out _ _ ⟨cb 0 BK278, cb 1 BK278, cb 2 BK278, cb 3 BK278, cb 4 BK278, cb 0 BK247, cb 1 BK247, cb 2 BK247, cb 3 BK247, cb 4 BK247⟩ (fun hHeld => ?_)
      clear hK K
      refine norm_ (a' := ?_) ?_ ?_
      rotate_left
      ·show Act.put _ (some 40) _ = _
       simp only [Act.put, List.setIfInBounds_toArray, List.set_cons_zero, List.set_cons_succ, i64_w, i32_w]
       rfl
      refine pV 4 36 (bo 10 159) ?_
      refine pV 5 41 (bo 10 191) ?_
      refine pV 6 42 (bo 10 255) ?_
      exact norm_ (by simp only [putAll, Act.put, List.setIfInBounds_toArray, List.set_cons_zero, List.set_cons_succ]) (hCont (v289, gb292) _ ⟨hHeld, (rpR (Kd.R_mono HO256.out (fun _ hk => ⟨hk.1.1, ⟨hk.1.2, hk.2⟩⟩))), (rpR (Kd.R_mono HO268.out (fun _ hk => ⟨hk.1.1, ⟨hk.1.2, hk.2⟩⟩))), (rpR (Kd.R_mono HO277.out (fun _ hk => ⟨hk.1.1, ⟨hk.1.2, hk.2⟩⟩))), (rpR (Kd.R_mono HO290.out (fun _ hk => ⟨hk.1.1.2, ⟨hk.1.2, hk.2⟩⟩))), bk, bk, bk, bk, bk, GW292.out, GE292.out, NB246_292.out, NB292_246.out, NB247_292.out, NB292_247.out, NB270_292.out, NB292_270.out, NB278_292.out, NB292_278.out, bl⟩)
    ·skip
     refine box_step ?hg (N := 9) ?hd (cs := #[.int .i64 0, .int .i64 0, .int .i64 0, .int .i64 0, .slice none 0 0]) (t := 67) ?hr ?_; (case hd => rfl); (case hg => rfl); (case hr => first | (go_simp; done) | (go_simp; rfl))
     intro gb292 hg w57 hbox hb
     replace HO256 := Aside0.mk (Kd.R_below (rpR HO256.out) hb); replace HO268 := Aside0.mk (Kd.R_below (rpR HO268.out) hb); replace HO277 := Aside0.mk (Kd.R_below (rpR HO277.out) hb); have BK292 := Aside0.mk hbox; have GW292 := gw (w := w) hg; have GE292 := gw (w := w) hg; replace HB := bs (w := w) hb; have NB246_292 := nl BK246 hg; have NB292_246 := nr BK246 hg; replace BK246 := bv BK246 hb; have NB247_292 := nl BK247 hg; have NB292_247 := nr BK247 hg; replace BK247 := bv BK247 hb; have NB270_292 := nl BK270 hg; have NB292_270 := nr BK270 hg; replace BK270 := bv BK270 hb; have NB278_292 := nl BK278 hg; have NB292_278 := nr BK278 hg; replace BK278 := bv BK278 hb; clear hb hbox hg
     refine hK.out _ _ ⟨cb 0 BK278, cb 1 BK278, cb 2 BK278, cb 3 BK278, cb 4 BK278, cb 0 BK247, cb 1 BK247, cb 2 BK247, cb 3 BK247, cb 4 BK247⟩ (fun hHeld => ?_)
     clear hK K
     refine norm_ (a' := ?_) ?_ ?_
     rotate_left
     ·show Act.put _ (some 9) _ = _
      simp only [Act.put, List.setIfInBounds_toArray, List.set_cons_zero, List.set_cons_succ, i64_w, i32_w]
      rfl
     refine one_ (i := 2) (N := some 39) (bo 10 135) rfl rfl (one_of HT_.out (by kernel_rfl)) (by decide) (fun K hK => ?_)
     refine goes_ Try.func68 (by kernel_rfl) rfl #[.agg #[.int .i64 a1_0, .int .i64 a1_1, .int .i64 a1_2, .int .i64 a1_3, .string a1_4]] (by rfl) rfl rfl sa ?_
     with_reducible refine (laws_toRec.calls a1_0 a1_1 a1_2 a1_3 a1_4 t279 t280 t281 t282 t283 _ A23.out).mono ?_
     rintro e w58 ⟨rfl, hb⟩
     refine ⟨_, rfl, ?_⟩
     replace HO256 := Aside0.mk (Kd.R_below (rpR HO256.out) hb); replace HO268 := Aside0.mk (Kd.R_below (rpR HO268.out) hb); replace HO277 := Aside0.mk (Kd.R_below (rpR HO277.out) hb); replace BK246 := bv BK246 hb; replace BK247 := bv BK247 hb; replace BK270 := bv BK270 hb; replace BK278 := bv BK278 hb; replace BK292 := bv BK292 hb; replace HB := bs (w := w) hb; (try clear hb hb2 hk hi)
     refine hK.out _ _ ⟨cb 0 BK278, cb 1 BK278, cb 2 BK278, cb 3 BK278, cb 4 BK278, cb 0 BK247, cb 1 BK247, cb 2 BK247, cb 3 BK247, cb 4 BK247⟩ (fun hHeld => ?_)
     clear hK K
     refine norm_ (a' := ?_) ?_ ?_
     rotate_left
     ·show Act.put _ (some 39) _ = _
      simp only [Act.put, List.setIfInBounds_toArray, List.set_cons_zero, List.set_cons_succ, i64_w, i32_w]
      rfl
     refine one_ (i := 3) (N := some 40) (bo 10 143) rfl rfl (one_of HT_.out (by kernel_rfl)) (by decide) (fun K hK => ?_)
     refine goes_ Try.func69 (by kernel_rfl) rfl #[.agg #[.int .i64 t271, .int .i64 t272, .int .i64 t273, .int .i64 t274, .slice Ao54 t275.length co54], .agg #[.int .i64 t279, .int .i64 t280, .int .i64 t281, .int .i64 t282, .string t283]] (by rfl) rfl rfl sa ?_
     with_reducible refine (impl_WalStep.calls k t271 t272 t273 t274 _ _ t275 t279 t280 t281 t282 t283 t284 t285 t286 t287 t288 t291 _ ?side1 ?side2 A24.out).mono ?_
     (case side1 => exact ca ((Kd.R_reads' HO277.out).2.2))
     (case side2 => exact (Kd.R_reads' HO277.out).2.1)
     rintro e w59 ⟨v289, rfl, ho0, hb⟩
     refine ⟨_, rfl, ?_⟩
     have HO290 := Aside0.mk (Kd.R_lower (Kd.R_new' (Kd.R_new' (Kd.R_new' ho0 (Kd.R_lt (rpR HO256.out))) (Kd.R_lt (rpR HO268.out))) (Kd.R_lt (rpR HO277.out))) (below_size bl)); replace HO256 := Aside0.mk (Kd.R_elder' (rpR HO256.out) (Kd.R_base ho0) hb); replace HO268 := Aside0.mk (Kd.R_elder' (rpR HO268.out) (Kd.R_base ho0) hb); replace HO277 := Aside0.mk (Kd.R_elder' (rpR HO277.out) (Kd.R_base ho0) hb); replace BK246 := bv BK246 hb; replace BK247 := bv BK247 hb; replace BK270 := bv BK270 hb; replace BK278 := bv BK278 hb; replace BK292 := bv BK292 hb; replace HB := bs (w := w) hb; (try clear hb hb2 hk hi ho0)
     refine hK.out _ _ ⟨cb 0 BK278, cb 1 BK278, cb 2 BK278, cb 3 BK278, cb 4 BK278, cb 0 BK247, cb 1 BK247, cb 2 BK247, cb 3 BK247, cb 4 BK247⟩ (fun hHeld => ?_)
     clear hK K
     refine norm_ (a' := ?_) ?_ ?_
     rotate_left
     ·show Act.put _ (some 40) _ = _
      simp only [Act.put, List.setIfInBounds_toArray, List.set_cons_zero, List.set_cons_succ, i64_w, i32_w]
      rfl
     refine pV 4 36 (bo 10 159) ?_
     refine pV 5 41 (bo 10 191) ?_
     refine pV 6 42 (bo 10 255) ?_
     exact norm_ (by simp only [putAll, Act.put, List.setIfInBounds_toArray, List.set_cons_zero, List.set_cons_succ]) (hCont (v289, gb292) _ ⟨hHeld, (rpR (Kd.R_mono HO256.out (fun _ hk => ⟨hk.1.1, ⟨hk.1.2, hk.2⟩⟩))), (rpR (Kd.R_mono HO268.out (fun _ hk => ⟨hk.1.1, ⟨hk.1.2, hk.2⟩⟩))), (rpR (Kd.R_mono HO277.out (fun _ hk => ⟨hk.1.1, ⟨hk.1.2, hk.2⟩⟩))), (rpR (Kd.R_mono HO290.out (fun _ hk => ⟨hk.1.1.2, ⟨hk.1.2, hk.2⟩⟩))), bk, bk, bk, bk, bk, GW292.out, GE292.out, NB246_292.out, NB292_246.out, NB247_292.out, NB292_247.out, NB270_292.out, NB292_270.out, NB278_292.out, NB292_278.out, bl⟩)
   rintro ⟨v289, gb292⟩ w60 ⟨hS_, h0_, h1_, h2_, h3_, h4_, h5_, h6_, h7_, h8_, h9_, h10_, h11_, h12_, h13_, h14_, h15_, h16_, h17_, h18_, h19_⟩
   have n0_ : Aside0 (Kd.R k117 117 w60 w.heap.size (fun k_ => some k_ ≠ (.slice Ao44 t266.length co44 : Value).ownBlock ∧ some k_ ≠ (.slice Ao54 t275.length co54 : Value).ownBlock ∧ some k_ ≠ (v289 : Value).ownBlock) v255 t254) := ⟨h0_⟩
   have n1_ : Aside0 (Kd.R k117 117 w60 w.heap.size (fun k_ => some k_ ≠ (v255 : Value).ownBlock ∧ some k_ ≠ (.slice Ao54 t275.length co54 : Value).ownBlock ∧ some k_ ≠ (v289 : Value).ownBlock) (.slice Ao44 t266.length co44) t266) := ⟨h1_⟩
   have n2_ : Aside0 (Kd.R k117 117 w60 w.heap.size (fun k_ => some k_ ≠ (v255 : Value).ownBlock ∧ some k_ ≠ (.slice Ao44 t266.length co44 : Value).ownBlock ∧ some k_ ≠ (v289 : Value).ownBlock) (.slice Ao54 t275.length co54) t275) := ⟨h2_⟩
   have n3_ : Aside0 (Kd.R k117 117 w60 w.heap.size (fun k_ => some k_ ≠ (v255 : Value).ownBlock ∧ some k_ ≠ (.slice Ao44 t266.length co44 : Value).ownBlock ∧ some k_ ≠ (.slice Ao54 t275.length co54 : Value).ownBlock) v289 t288) := ⟨h3_⟩
   have n4_ : Aside0 (w60.heap[gb246]? = some (.cells #[.int .i64 a0_0, .int .i64 a0_1, .int .i64 a0_2, .int .i64 a0_3, .slice A0_4 l0_4.length c0_4] 62 (0, 0))) := ⟨h4_⟩
   have n5_ : Aside0 (w60.heap[gb247]? = some (.cells #[.int .i64 a1_0, .int .i64 a1_1, .int .i64 a1_2, .int .i64 a1_3, .string a1_4] 79 (0, 0))) := ⟨h5_⟩
   have n6_ : Aside0 (w60.heap[gb270]? = some (.cells #[.int .i64 t262, .int .i64 t263, .int .i64 t264, .int .i64 t265, .slice Ao44 t266.length co44] 67 (0, 0))) := ⟨h6_⟩
   have n7_ : Aside0 (w60.heap[gb278]? = some (.cells #[.int .i64 t271, .int .i64 t272, .int .i64 t273, .int .i64 t274, .slice Ao54 t275.length co54] 67 (0, 0))) := ⟨h7_⟩
   have n8_ : Aside0 (w60.heap[gb292]? = some (.cells #[.int .i64 0, .int .i64 0, .int .i64 0, .int .i64 0, .slice none 0 0] 67 (0, 0))) := ⟨h8_⟩
   have n9_ : Aside0 (w.heap.size ≤ gb292) := ⟨h9_⟩
   have n10_ : Aside0 (w.heap.size ≤ gb292) := ⟨h10_⟩
   have n11_ : Aside0 (gb246 ≠ gb292) := ⟨h11_⟩
   have n12_ : Aside0 (gb292 ≠ gb246) := ⟨h12_⟩
   have n13_ : Aside0 (gb247 ≠ gb292) := ⟨h13_⟩
   have n14_ : Aside0 (gb292 ≠ gb247) := ⟨h14_⟩
   have n15_ : Aside0 (gb270 ≠ gb292) := ⟨h15_⟩
   have n16_ : Aside0 (gb292 ≠ gb270) := ⟨h16_⟩
   have n17_ : Aside0 (gb278 ≠ gb292) := ⟨h17_⟩
   have n18_ : Aside0 (gb292 ≠ gb278) := ⟨h18_⟩
   have n19_ : Aside0 (Below w.heap.size w w60) := ⟨h19_⟩
   clear HO256
   clear HO268
   clear HO277
   clear BK246
   clear BK247
   clear BK270
   clear BK278
   clear HB
   clear h0_ h1_ h2_ h3_ h4_ h5_ h6_ h7_ h8_ h9_ h10_ h11_ h12_ h13_ h14_ h15_ h16_ h17_ h18_ h19_
   have HO256 := n0_
   have HO268 := n1_
   have HO277 := n2_
   have HO290 := n3_
   have BK246 := n4_
   have BK247 := n5_
   have BK270 := n6_
   have BK278 := n7_
   have BK292 := n8_
   have GW292 := n9_
   have GE292 := n10_
   have NB246_292 := n11_
   have NB292_246 := n12_
   have NB247_292 := n13_
   have NB292_247 := n14_
   have NB270_292 := n15_
   have NB292_270 := n16_
   have NB278_292 := n17_
   have NB292_278 := n18_
   have HB := n19_
   clear n0_ n1_ n2_ n3_ n4_ n5_ n6_ n7_ n8_ n9_ n10_ n11_ n12_ n13_ n14_ n15_ n16_ n17_ n18_ n19_
   have hHeld : w60.cell? ⟨gb278, 0, none⟩ = some (.int .i64 t271) ∧ w60.cell? ⟨gb278, 1, none⟩ = some (.int .i64 t272) ∧ w60.cell? ⟨gb278, 2, none⟩ = some (.int .i64 t273) ∧ w60.cell? ⟨gb278, 3, none⟩ = some (.int .i64 t274) ∧ w60.cell? ⟨gb278, 4, none⟩ = some (.slice Ao54 t275.length co54) ∧ w60.cell? ⟨gb247, 0, none⟩ = some (.int .i64 a1_0) ∧ w60.cell? ⟨gb247, 1, none⟩ = some (.int .i64 a1_1) ∧ w60.cell? ⟨gb247, 2, none⟩ = some (.int .i64 a1_2) ∧ w60.cell? ⟨gb247, 3, none⟩ = some (.int .i64 a1_3) ∧ w60.cell? ⟨gb247, 4, none⟩ = some (.string a1_4) := hS_
   obtain ⟨Ao65, co65, eo65⟩ := Kd.R_slice HO290.out
   (first | subst eo65 | (injection eo65 with f1_ f2_ f3_; have f4_ := f1_.symm; have f5_ := f3_.symm; clear f1_ f2_ f3_; subst f4_; subst f5_))
   refine norm_ (a' := ?_) ?_ ?_
   rotate_left
   ·simp only [putAll, Act.put, List.setIfInBounds_toArray, List.set_cons_zero, List.set_cons_succ]
    rfl
   refine one_ (i := 8) (N := none) (bo 10 511) rfl rfl (one_of HT_.out (by kernel_rfl)) (by decide) (fun K hK => ?_)
   have hs61 : w60.cell? ⟨gb292, 0, none⟩ = some (.int .i64 0) := cb 0 BK292
   have hfs61 := blk_frozen BK292.out 0
   have hns61_0 := NB246_292.out
   have hns61_1 := NB247_292.out
   have hns61_2 := NB270_292.out
   have hns61_3 := NB278_292.out
   have hms61_0 := NB292_246.out
   have hms61_1 := NB292_247.out
   have hms61_2 := NB292_270.out
   have hms61_3 := NB292_278.out
   have hs62 : w60.cell? ⟨gb292, 1, none⟩ = some (.int .i64 0) := cb 1 BK292
   have hfs62 := blk_frozen BK292.out 1
   have hns62_0 := NB246_292.out
   have hns62_1 := NB247_292.out
   have hns62_2 := NB270_292.out
   have hns62_3 := NB278_292.out
   have hms62_0 := NB292_246.out
   have hms62_1 := NB292_247.out
   have hms62_2 := NB292_270.out
   have hms62_3 := NB292_278.out
   have hs63 : w60.cell? ⟨gb292, 2, none⟩ = some (.int .i64 0) := cb 2 BK292
   have hfs63 := blk_frozen BK292.out 2
   have hns63_0 := NB246_292.out
   have hns63_1 := NB247_292.out
   have hns63_2 := NB270_292.out
   have hns63_3 := NB278_292.out
   have hms63_0 := NB292_246.out
   have hms63_1 := NB292_247.out
   have hms63_2 := NB292_270.out
   have hms63_3 := NB292_278.out
   have hs64 : w60.cell? ⟨gb292, 3, none⟩ = some (.int .i64 0) := cb 3 BK292
   have hfs64 := blk_frozen BK292.out 3
   have hns64_0 := NB246_292.out
   have hns64_1 := NB247_292.out
   have hns64_2 := NB270_292.out
   have hns64_3 := NB278_292.out
   have hms64_0 := NB292_246.out
   have hms64_1 := NB292_247.out
   have hms64_2 := NB292_270.out
   have hms64_3 := NB292_278.out
   have hs66 : w60.cell? ⟨gb292, 4, none⟩ = some (.slice none 0 0) := cb 4 BK292
   have hfs66 := blk_frozen BK292.out 4
   have hns66_0 := NB246_292.out
   have hns66_1 := NB247_292.out
   have hns66_2 := NB270_292.out
   have hns66_3 := NB278_292.out
   have hms66_0 := NB292_246.out
   have hms66_1 := NB292_247.out
   have hms66_2 := NB292_270.out
   have hms66_3 := NB292_278.out
   refine skip_ (w1 := ?_) (by rfl) rfl ?_ ?_
   rotate_left
   ·go_simp
    rfl
   refine hK.out _ _ ⟨((cell_far (p := ⟨gb292, _, none⟩) NB278_292.out _).trans (((cell_far (p := ⟨gb292, _, none⟩) NB278_292.out _).trans (((cell_far (p := ⟨gb292, _, none⟩) NB278_292.out _).trans (((cell_far (p := ⟨gb292, _, none⟩) NB278_292.out _).trans (((cell_far (p := ⟨gb292, _, none⟩) NB278_292.out _).trans (hHeld.1)))))))))), ((cell_far (p := ⟨gb292, _, none⟩) NB278_292.out _).trans (((cell_far (p := ⟨gb292, _, none⟩) NB278_292.out _).trans (((cell_far (p := ⟨gb292, _, none⟩) NB278_292.out _).trans (((cell_far (p := ⟨gb292, _, none⟩) NB278_292.out _).trans (((cell_far (p := ⟨gb292, _, none⟩) NB278_292.out _).trans (hHeld.2.1)))))))))), ((cell_far (p := ⟨gb292, _, none⟩) NB278_292.out _).trans (((cell_far (p := ⟨gb292, _, none⟩) NB278_292.out _).trans (((cell_far (p := ⟨gb292, _, none⟩) NB278_292.out _).trans (((cell_far (p := ⟨gb292, _, none⟩) NB278_292.out _).trans (((cell_far (p := ⟨gb292, _, none⟩) NB278_292.out _).trans (hHeld.2.2.1)))))))))), ((cell_far (p := ⟨gb292, _, none⟩) NB278_292.out _).trans (((cell_far (p := ⟨gb292, _, none⟩) NB278_292.out _).trans (((cell_far (p := ⟨gb292, _, none⟩) NB278_292.out _).trans (((cell_far (p := ⟨gb292, _, none⟩) NB278_292.out _).trans (((cell_far (p := ⟨gb292, _, none⟩) NB278_292.out _).trans (hHeld.2.2.2.1)))))))))), ((cell_far (p := ⟨gb292, _, none⟩) NB278_292.out _).trans (((cell_far (p := ⟨gb292, _, none⟩) NB278_292.out _).trans (((cell_far (p := ⟨gb292, _, none⟩) NB278_292.out _).trans (((cell_far (p := ⟨gb292, _, none⟩) NB278_292.out _).trans (((cell_far (p := ⟨gb292, _, none⟩) NB278_292.out _).trans (hHeld.2.2.2.2.1)))))))))), ((cell_far (p := ⟨gb292, _, none⟩) NB247_292.out _).trans (((cell_far (p := ⟨gb292, _, none⟩) NB247_292.out _).trans (((cell_far (p := ⟨gb292, _, none⟩) NB247_292.out _).trans (((cell_far (p := ⟨gb292, _, none⟩) NB247_292.out _).trans (((cell_far (p := ⟨gb292, _, none⟩) NB247_292.out _).trans (hHeld.2.2.2.2.2.1)))))))))), ((cell_far (p := ⟨gb292, _, none⟩) NB247_292.out _).trans (((cell_far (p := ⟨gb292, _, none⟩) NB247_292.out _).trans (((cell_far (p := ⟨gb292, _, none⟩) NB247_292.out _).trans (((cell_far (p := ⟨gb292, _, none⟩) NB247_292.out _).trans (((cell_far (p := ⟨gb292, _, none⟩) NB247_292.out _).trans (hHeld.2.2.2.2.2.2.1)))))))))), ((cell_far (p := ⟨gb292, _, none⟩) NB247_292.out _).trans (((cell_far (p := ⟨gb292, _, none⟩) NB247_292.out _).trans (((cell_far (p := ⟨gb292, _, none⟩) NB247_292.out _).trans (((cell_far (p := ⟨gb292, _, none⟩) NB247_292.out _).trans (((cell_far (p := ⟨gb292, _, none⟩) NB247_292.out _).trans (hHeld.2.2.2.2.2.2.2.1)))))))))), ((cell_far (p := ⟨gb292, _, none⟩) NB247_292.out _).trans (((cell_far (p := ⟨gb292, _, none⟩) NB247_292.out _).trans (((cell_far (p := ⟨gb292, _, none⟩) NB247_292.out _).trans (((cell_far (p := ⟨gb292, _, none⟩) NB247_292.out _).trans (((cell_far (p := ⟨gb292, _, none⟩) NB247_292.out _).trans (hHeld.2.2.2.2.2.2.2.2.1)))))))))), ((cell_far (p := ⟨gb292, _, none⟩) NB247_292.out _).trans (((cell_far (p := ⟨gb292, _, none⟩) NB247_292.out _).trans (((cell_far (p := ⟨gb292, _, none⟩) NB247_292.out _).trans (((cell_far (p := ⟨gb292, _, none⟩) NB247_292.out _).trans (((cell_far (p := ⟨gb292, _, none⟩) NB247_292.out _).trans (hHeld.2.2.2.2.2.2.2.2.2))))))))))⟩ (fun hHeld => ?_)
   clear hK K
   refine pV 9 10 (bo 10 1023) ?_
   refine done_ (done_of HT_.out (by kernel_rfl)) ?_
   go_upto_region 11 with (fail)
   go_cut [51] (fun v51 wc => ∃ (kq : Nat) (x51_24 : Bool), v51 = .bool x51_24 ∧ Aside0 (laws_FnExactWalStep.j0 kq t269 t291 x51_24 a0_0 a0_1 a0_2 a0_3 l0_4 a1_0 a1_1 a1_2 a1_3 a1_4 t262 t263 t264 t265 t266 t271 t272 t273 t274 t275 t284 t285 t286 t287 t288 = some r) ∧ Aside0 (kq ≤ k) ∧ Aside0 (Kd.R k117 117 wc w.heap.size (fun k_ => some k_ ≠ ((.slice Ao54 t275.length co54) : Value).ownBlock ∧ some k_ ≠ ((.slice Ao65 t288.length co65) : Value).ownBlock) (.slice Ao44 t266.length co44) t266) ∧ Aside0 (Kd.R k117 117 wc w.heap.size (fun k_ => some k_ ≠ ((.slice Ao44 t266.length co44) : Value).ownBlock ∧ some k_ ≠ ((.slice Ao65 t288.length co65) : Value).ownBlock) (.slice Ao54 t275.length co54) t275) ∧ Aside0 (Kd.R k117 117 wc w.heap.size (fun k_ => some k_ ≠ ((.slice Ao44 t266.length co44) : Value).ownBlock ∧ some k_ ≠ ((.slice Ao54 t275.length co54) : Value).ownBlock) (.slice Ao65 t288.length co65) t288) ∧ Aside0 (wc.heap[gb246]? = some (.cells #[.int .i64 a0_0, .int .i64 a0_1, .int .i64 a0_2, .int .i64 a0_3, (.slice A0_4 l0_4.length c0_4)] 62 (0, 0))) ∧ Aside0 (wc.heap[gb247]? = some (.cells #[.int .i64 a1_0, .int .i64 a1_1, .int .i64 a1_2, .int .i64 a1_3, .string a1_4] 79 (0, 0))) ∧ Aside0 (wc.heap[gb270]? = some (.cells #[.int .i64 t262, .int .i64 t263, .int .i64 t264, .int .i64 t265, (.slice Ao44 t266.length co44)] 67 (0, 0))) ∧ Aside0 (wc.heap[gb278]? = some (.cells #[.int .i64 t271, .int .i64 t272, .int .i64 t273, .int .i64 t274, (.slice Ao54 t275.length co54)] 67 (0, 0))) ∧ Aside0 (wc.heap[gb292]? = some (.cells #[.int .i64 t284, .int .i64 t285, .int .i64 t286, .int .i64 t287, (.slice Ao65 t288.length co65)] 67 (0, 0))) ∧ Aside0 (Below w.heap.size w wc))
   case first =>
    have H := HC25.out
    clear HC25
    obtain ⟨t293, A67, H⟩ := bd H
    by_cases c68 : t293 = true
    ·subst c68
     replace H := iT H
     have H' := Aside0.mk H
     clear H
     have hnb69 := NB292_246.out
     have hnc69 := NB246_292.out
     have hnb70 := NB292_247.out
     have hnc70 := NB247_292.out
     have hnb71 := NB292_270.out
     have hnc71 := NB270_292.out
     have hnb72 := NB292_278.out
     have hnc72 := NB278_292.out
     obtain ⟨Z73_0, Z73_1, Z73_2, Z73_3, Z73_4, Y73_0, Y73_1, Y73_2, Y73_3, Y73_4⟩ := cf5 BK292
     have hnb74 := NB270_246.out
     have hnc74 := NB246_270.out
     have hnb75 := NB270_247.out
     have hnc75 := NB247_270.out
     have hnb76 := NB270_278.out
     have hnc76 := NB278_270.out
     obtain ⟨Z77_0, Z77_1, Z77_2, Z77_3, Z77_4, Y77_0, Y77_1, Y77_2, Y77_3, Y77_4⟩ := cf5 BK270
     go_wp2_with (first | ((with_reducible refine gC 59 rfl ?_); refine goesZ (some 45) rfl Try.func59 #[.agg #[.int .i64 t284, .int .i64 t285, .int .i64 t286, .int .i64 t287, .slice Ao65 t288.length co65], .agg #[.int .i64 t262, .int .i64 t263, .int .i64 t264, .int .i64 t265, .slice Ao44 t266.length co44]] ?_; (with_reducible refine (laws_eqWal.calls k t284 t285 t286 t287 _ _ t288 t262 t263 t264 t265 _ _ t266 true _ ?side1 ?side2 ?side3 ?side4 A67.out).mono ?_); (case side1 => refine (Kd.R_reads' (e := 117) (base := w.heap.size) (ok := fun k_ => (some k_ ≠ (v255 : Value).ownBlock ∧ (some k_ ≠ (.slice Ao44 t266.length co44 : Value).ownBlock ∧ some k_ ≠ (.slice Ao54 t275.length co54 : Value).ownBlock))) (n := t288.length) (c := co65) ?_).2.2; exact (rpR (Kd.R_mono (Kd.R_far (p := ⟨gb292, 4, none⟩) (Kd.R_far (p := ⟨gb292, 3, none⟩) (Kd.R_far (p := ⟨gb292, 2, none⟩) (Kd.R_far (p := ⟨gb292, 1, none⟩) (Kd.R_far (p := ⟨gb292, 0, none⟩) (Kd.R_types HO290.out BK292.out (by decide)) (fun _ hk => hk.2) (.int .i64 t284)) (fun _ hk => hk.2) (.int .i64 t285)) (fun _ hk => hk.2) (.int .i64 t286)) (fun _ hk => hk.2) (.int .i64 t287)) (fun _ hk => hk.2) (.slice Ao65 t288.length co65)) (fun _ h_ => h_.1)))); (case side2 => exact (Kd.R_reads' HO290.out).2.1); (case side3 => refine (Kd.R_reads' (e := 117) (base := w.heap.size) (ok := fun k_ => (some k_ ≠ (v255 : Value).ownBlock ∧ (some k_ ≠ (.slice Ao54 t275.length co54 : Value).ownBlock ∧ some k_ ≠ (.slice Ao65 t288.length co65 : Value).ownBlock))) (n := t266.length) (c := co44) ?_).2.2; exact (rpR (Kd.R_mono (Kd.R_far (p := ⟨gb292, 4, none⟩) (Kd.R_far (p := ⟨gb292, 3, none⟩) (Kd.R_far (p := ⟨gb292, 2, none⟩) (Kd.R_far (p := ⟨gb292, 1, none⟩) (Kd.R_far (p := ⟨gb292, 0, none⟩) (Kd.R_types HO268.out BK292.out (by decide)) (fun _ hk => hk.2) (.int .i64 t284)) (fun _ hk => hk.2) (.int .i64 t285)) (fun _ hk => hk.2) (.int .i64 t286)) (fun _ hk => hk.2) (.int .i64 t287)) (fun _ hk => hk.2) (.slice Ao65 t288.length co65)) (fun _ h_ => h_.1)))); (case side4 => exact (Kd.R_reads' HO268.out).2.1); rintro e w78 ⟨rfl, hb⟩; refine ⟨_, rfl, ?_⟩; replace HO256 := Aside0.mk (Kd.R_below (rpR (Kd.R_mono (Kd.R_far (p := ⟨gb292, 4, none⟩) (Kd.R_far (p := ⟨gb292, 3, none⟩) (Kd.R_far (p := ⟨gb292, 2, none⟩) (Kd.R_far (p := ⟨gb292, 1, none⟩) (Kd.R_far (p := ⟨gb292, 0, none⟩) (Kd.R_types HO256.out BK292.out (by decide)) (fun _ hk => hk.2) (.int .i64 t284)) (fun _ hk => hk.2) (.int .i64 t285)) (fun _ hk => hk.2) (.int .i64 t286)) (fun _ hk => hk.2) (.int .i64 t287)) (fun _ hk => hk.2) (.slice Ao65 t288.length co65)) (fun _ h_ => h_.1))) hb); replace HO268 := Aside0.mk (Kd.R_below (rpR (Kd.R_mono (Kd.R_far (p := ⟨gb292, 4, none⟩) (Kd.R_far (p := ⟨gb292, 3, none⟩) (Kd.R_far (p := ⟨gb292, 2, none⟩) (Kd.R_far (p := ⟨gb292, 1, none⟩) (Kd.R_far (p := ⟨gb292, 0, none⟩) (Kd.R_types HO268.out BK292.out (by decide)) (fun _ hk => hk.2) (.int .i64 t284)) (fun _ hk => hk.2) (.int .i64 t285)) (fun _ hk => hk.2) (.int .i64 t286)) (fun _ hk => hk.2) (.int .i64 t287)) (fun _ hk => hk.2) (.slice Ao65 t288.length co65)) (fun _ h_ => h_.1))) hb); replace HO277 := Aside0.mk (Kd.R_below (rpR (Kd.R_mono (Kd.R_far (p := ⟨gb292, 4, none⟩) (Kd.R_far (p := ⟨gb292, 3, none⟩) (Kd.R_far (p := ⟨gb292, 2, none⟩) (Kd.R_far (p := ⟨gb292, 1, none⟩) (Kd.R_far (p := ⟨gb292, 0, none⟩) (Kd.R_types HO277.out BK292.out (by decide)) (fun _ hk => hk.2) (.int .i64 t284)) (fun _ hk => hk.2) (.int .i64 t285)) (fun _ hk => hk.2) (.int .i64 t286)) (fun _ hk => hk.2) (.int .i64 t287)) (fun _ hk => hk.2) (.slice Ao65 t288.length co65)) (fun _ h_ => h_.1))) hb); replace HO290 := Aside0.mk (Kd.R_below (rpR (Kd.R_mono (Kd.R_far (p := ⟨gb292, 4, none⟩) (Kd.R_far (p := ⟨gb292, 3, none⟩) (Kd.R_far (p := ⟨gb292, 2, none⟩) (Kd.R_far (p := ⟨gb292, 1, none⟩) (Kd.R_far (p := ⟨gb292, 0, none⟩) (Kd.R_types HO290.out BK292.out (by decide)) (fun _ hk => hk.2) (.int .i64 t284)) (fun _ hk => hk.2) (.int .i64 t285)) (fun _ hk => hk.2) (.int .i64 t286)) (fun _ hk => hk.2) (.int .i64 t287)) (fun _ hk => hk.2) (.slice Ao65 t288.length co65)) (fun _ h_ => h_.1))) hb); replace BK246 := Aside0.mk (blk_below (g := gb246) (o := .cells #[.int .i64 a0_0, .int .i64 a0_1, .int .i64 a0_2, .int .i64 a0_3, .slice A0_4 l0_4.length c0_4] 62 (0, 0)) bkk hb); replace BK247 := Aside0.mk (blk_below (g := gb247) (o := .cells #[.int .i64 a1_0, .int .i64 a1_1, .int .i64 a1_2, .int .i64 a1_3, .string a1_4] 79 (0, 0)) bkk hb); replace BK270 := Aside0.mk (blk_below (g := gb270) (o := .cells #[.int .i64 t262, .int .i64 t263, .int .i64 t264, .int .i64 t265, .slice Ao44 t266.length co44] 67 (0, 0)) bkk hb); replace BK278 := Aside0.mk (blk_below (g := gb278) (o := .cells #[.int .i64 t271, .int .i64 t272, .int .i64 t273, .int .i64 t274, .slice Ao54 t275.length co54] 67 (0, 0)) bkk hb); replace BK292 := Aside0.mk (blk_below (g := gb292) (o := .cells #[.int .i64 t284, .int .i64 t285, .int .i64 t286, .int .i64 t287, .slice Ao65 t288.length co65] 67 (0, 0)) bkk hb); replace HB := bs (w := w) hb; (try clear hb)))
     go_meet
     case rel => exact ⟨_, ((t291 != t269)), fa, H', ⟨by first | omega | exact Nat.le_refl _⟩, ⟨rpR (Kd.R_mono HO268.out (fun _ hk => ⟨hk.2.1, hk.2.2⟩))⟩, ⟨rpR (Kd.R_mono HO277.out (fun _ hk => ⟨hk.2.1, hk.2.2⟩))⟩, ⟨rpR (Kd.R_mono HO290.out (fun _ hk => ⟨hk.2.1, hk.2.2⟩))⟩, ⟨by (with_reducible repeat (first | refine blk_drewN ?_ _ | refine blk_drew ?_ | refine blk_alloc ?_ _)); exact BK246.out⟩, ⟨by (with_reducible repeat (first | refine blk_drewN ?_ _ | refine blk_drew ?_ | refine blk_alloc ?_ _)); exact BK247.out⟩, ⟨by (with_reducible repeat (first | refine blk_drewN ?_ _ | refine blk_drew ?_ | refine blk_alloc ?_ _)); exact BK270.out⟩, ⟨by (with_reducible repeat (first | refine blk_drewN ?_ _ | refine blk_drew ?_ | refine blk_alloc ?_ _)); exact BK278.out⟩, ⟨by (with_reducible repeat (first | refine blk_drewN ?_ _ | refine blk_drew ?_ | refine blk_alloc ?_ _)); exact BK292.out⟩, ⟨bl⟩⟩
    ·replace c68 := Bool.eq_false_iff.mpr c68
     subst c68
     replace H := iF H
     have H' := Aside0.mk H
     clear H
     have hnb79 := NB292_246.out
     have hnc79 := NB246_292.out
     have hnb80 := NB292_247.out
     have hnc80 := NB247_292.out
     have hnb81 := NB292_270.out
     have hnc81 := NB270_292.out
     have hnb82 := NB292_278.out
     have hnc82 := NB278_292.out
     obtain ⟨Z83_0, Z83_1, Z83_2, Z83_3, Z83_4, Y83_0, Y83_1, Y83_2, Y83_3, Y83_4⟩ := cf5 BK292
     have hnb84 := NB270_246.out
     have hnc84 := NB246_270.out
     have hnb85 := NB270_247.out
     have hnc85 := NB247_270.out
     have hnb86 := NB270_278.out
     have hnc86 := NB278_270.out
     obtain ⟨Z87_0, Z87_1, Z87_2, Z87_3, Z87_4, Y87_0, Y87_1, Y87_2, Y87_3, Y87_4⟩ := cf5 BK270
     go_wp2_with (first | ((with_reducible refine gC 59 rfl ?_); refine goesZ (some 45) rfl Try.func59 #[.agg #[.int .i64 t284, .int .i64 t285, .int .i64 t286, .int .i64 t287, .slice Ao65 t288.length co65], .agg #[.int .i64 t262, .int .i64 t263, .int .i64 t264, .int .i64 t265, .slice Ao44 t266.length co44]] ?_; (with_reducible refine (laws_eqWal.calls k t284 t285 t286 t287 _ _ t288 t262 t263 t264 t265 _ _ t266 false _ ?side1 ?side2 ?side3 ?side4 A67.out).mono ?_); (case side1 => refine (Kd.R_reads' (e := 117) (base := w.heap.size) (ok := fun k_ => (some k_ ≠ (v255 : Value).ownBlock ∧ (some k_ ≠ (.slice Ao44 t266.length co44 : Value).ownBlock ∧ some k_ ≠ (.slice Ao54 t275.length co54 : Value).ownBlock))) (n := t288.length) (c := co65) ?_).2.2; exact (rpR (Kd.R_mono (Kd.R_far (p := ⟨gb292, 4, none⟩) (Kd.R_far (p := ⟨gb292, 3, none⟩) (Kd.R_far (p := ⟨gb292, 2, none⟩) (Kd.R_far (p := ⟨gb292, 1, none⟩) (Kd.R_far (p := ⟨gb292, 0, none⟩) (Kd.R_types HO290.out BK292.out (by decide)) (fun _ hk => hk.2) (.int .i64 t284)) (fun _ hk => hk.2) (.int .i64 t285)) (fun _ hk => hk.2) (.int .i64 t286)) (fun _ hk => hk.2) (.int .i64 t287)) (fun _ hk => hk.2) (.slice Ao65 t288.length co65)) (fun _ h_ => h_.1)))); (case side2 => exact (Kd.R_reads' HO290.out).2.1); (case side3 => refine (Kd.R_reads' (e := 117) (base := w.heap.size) (ok := fun k_ => (some k_ ≠ (v255 : Value).ownBlock ∧ (some k_ ≠ (.slice Ao54 t275.length co54 : Value).ownBlock ∧ some k_ ≠ (.slice Ao65 t288.length co65 : Value).ownBlock))) (n := t266.length) (c := co44) ?_).2.2; exact (rpR (Kd.R_mono (Kd.R_far (p := ⟨gb292, 4, none⟩) (Kd.R_far (p := ⟨gb292, 3, none⟩) (Kd.R_far (p := ⟨gb292, 2, none⟩) (Kd.R_far (p := ⟨gb292, 1, none⟩) (Kd.R_far (p := ⟨gb292, 0, none⟩) (Kd.R_types HO268.out BK292.out (by decide)) (fun _ hk => hk.2) (.int .i64 t284)) (fun _ hk => hk.2) (.int .i64 t285)) (fun _ hk => hk.2) (.int .i64 t286)) (fun _ hk => hk.2) (.int .i64 t287)) (fun _ hk => hk.2) (.slice Ao65 t288.length co65)) (fun _ h_ => h_.1)))); (case side4 => exact (Kd.R_reads' HO268.out).2.1); rintro e w88 ⟨rfl, hb⟩; refine ⟨_, rfl, ?_⟩; replace HO256 := Aside0.mk (Kd.R_below (rpR (Kd.R_mono (Kd.R_far (p := ⟨gb292, 4, none⟩) (Kd.R_far (p := ⟨gb292, 3, none⟩) (Kd.R_far (p := ⟨gb292, 2, none⟩) (Kd.R_far (p := ⟨gb292, 1, none⟩) (Kd.R_far (p := ⟨gb292, 0, none⟩) (Kd.R_types HO256.out BK292.out (by decide)) (fun _ hk => hk.2) (.int .i64 t284)) (fun _ hk => hk.2) (.int .i64 t285)) (fun _ hk => hk.2) (.int .i64 t286)) (fun _ hk => hk.2) (.int .i64 t287)) (fun _ hk => hk.2) (.slice Ao65 t288.length co65)) (fun _ h_ => h_.1))) hb); replace HO268 := Aside0.mk (Kd.R_below (rpR (Kd.R_mono (Kd.R_far (p := ⟨gb292, 4, none⟩) (Kd.R_far (p := ⟨gb292, 3, none⟩) (Kd.R_far (p := ⟨gb292, 2, none⟩) (Kd.R_far (p := ⟨gb292, 1, none⟩) (Kd.R_far (p := ⟨gb292, 0, none⟩) (Kd.R_types HO268.out BK292.out (by decide)) (fun _ hk => hk.2) (.int .i64 t284)) (fun _ hk => hk.2) (.int .i64 t285)) (fun _ hk => hk.2) (.int .i64 t286)) (fun _ hk => hk.2) (.int .i64 t287)) (fun _ hk => hk.2) (.slice Ao65 t288.length co65)) (fun _ h_ => h_.1))) hb); replace HO277 := Aside0.mk (Kd.R_below (rpR (Kd.R_mono (Kd.R_far (p := ⟨gb292, 4, none⟩) (Kd.R_far (p := ⟨gb292, 3, none⟩) (Kd.R_far (p := ⟨gb292, 2, none⟩) (Kd.R_far (p := ⟨gb292, 1, none⟩) (Kd.R_far (p := ⟨gb292, 0, none⟩) (Kd.R_types HO277.out BK292.out (by decide)) (fun _ hk => hk.2) (.int .i64 t284)) (fun _ hk => hk.2) (.int .i64 t285)) (fun _ hk => hk.2) (.int .i64 t286)) (fun _ hk => hk.2) (.int .i64 t287)) (fun _ hk => hk.2) (.slice Ao65 t288.length co65)) (fun _ h_ => h_.1))) hb); replace HO290 := Aside0.mk (Kd.R_below (rpR (Kd.R_mono (Kd.R_far (p := ⟨gb292, 4, none⟩) (Kd.R_far (p := ⟨gb292, 3, none⟩) (Kd.R_far (p := ⟨gb292, 2, none⟩) (Kd.R_far (p := ⟨gb292, 1, none⟩) (Kd.R_far (p := ⟨gb292, 0, none⟩) (Kd.R_types HO290.out BK292.out (by decide)) (fun _ hk => hk.2) (.int .i64 t284)) (fun _ hk => hk.2) (.int .i64 t285)) (fun _ hk => hk.2) (.int .i64 t286)) (fun _ hk => hk.2) (.int .i64 t287)) (fun _ hk => hk.2) (.slice Ao65 t288.length co65)) (fun _ h_ => h_.1))) hb); replace BK246 := Aside0.mk (blk_below (g := gb246) (o := .cells #[.int .i64 a0_0, .int .i64 a0_1, .int .i64 a0_2, .int .i64 a0_3, .slice A0_4 l0_4.length c0_4] 62 (0, 0)) bkk hb); replace BK247 := Aside0.mk (blk_below (g := gb247) (o := .cells #[.int .i64 a1_0, .int .i64 a1_1, .int .i64 a1_2, .int .i64 a1_3, .string a1_4] 79 (0, 0)) bkk hb); replace BK270 := Aside0.mk (blk_below (g := gb270) (o := .cells #[.int .i64 t262, .int .i64 t263, .int .i64 t264, .int .i64 t265, .slice Ao44 t266.length co44] 67 (0, 0)) bkk hb); replace BK278 := Aside0.mk (blk_below (g := gb278) (o := .cells #[.int .i64 t271, .int .i64 t272, .int .i64 t273, .int .i64 t274, .slice Ao54 t275.length co54] 67 (0, 0)) bkk hb); replace BK292 := Aside0.mk (blk_below (g := gb292) (o := .cells #[.int .i64 t284, .int .i64 t285, .int .i64 t286, .int .i64 t287, .slice Ao65 t288.length co65] 67 (0, 0)) bkk hb); replace HB := bs (w := w) hb; (try clear hb)))
     go_meet
     case rel => exact ⟨_, (true), fa, H', ⟨by first | omega | exact Nat.le_refl _⟩, ⟨rpR (Kd.R_mono HO268.out (fun _ hk => ⟨hk.2.1, hk.2.2⟩))⟩, ⟨rpR (Kd.R_mono HO277.out (fun _ hk => ⟨hk.2.1, hk.2.2⟩))⟩, ⟨rpR (Kd.R_mono HO290.out (fun _ hk => ⟨hk.2.1, hk.2.2⟩))⟩, ⟨by (with_reducible repeat (first | refine blk_drewN ?_ _ | refine blk_drew ?_ | refine blk_alloc ?_ _)); exact BK246.out⟩, ⟨by (with_reducible repeat (first | refine blk_drewN ?_ _ | refine blk_drew ?_ | refine blk_alloc ?_ _)); exact BK247.out⟩, ⟨by (with_reducible repeat (first | refine blk_drewN ?_ _ | refine blk_drew ?_ | refine blk_alloc ?_ _)); exact BK270.out⟩, ⟨by (with_reducible repeat (first | refine blk_drewN ?_ _ | refine blk_drew ?_ | refine blk_alloc ?_ _)); exact BK278.out⟩, ⟨by (with_reducible repeat (first | refine blk_drewN ?_ _ | refine blk_drew ?_ | refine blk_alloc ?_ _)); exact BK292.out⟩, ⟨bl⟩⟩
   case rest =>
    clear HC25
    try clear p2
    try clear c5
    try clear c6
    try clear c7
    try clear c8
    try clear c59
    try clear c68
    try clear c69
    try clear c70
    try clear c71
    try clear c72
    try clear c74
    try clear c75
    try clear c76
    try clear c79
    try clear c80
    try clear c81
    try clear c82
    try clear c84
    try clear c85
    try clear c86
    try clear Z73_0 Z73_1 Z73_2 Z73_3 Z73_4
    try clear Z77_0 Z77_1 Z77_2 Z77_3 Z77_4
    try clear Z83_0 Z83_1 Z83_2 Z83_3 Z83_4
    try clear Z87_0 Z87_1 Z87_2 Z87_3 Z87_4
    try clear Y73_0 Y73_1 Y73_2 Y73_3 Y73_4
    try clear Y77_0 Y77_1 Y77_2 Y77_3 Y77_4
    try clear Y83_0 Y83_1 Y83_2 Y83_3 Y83_4
    try clear Y87_0 Y87_1 Y87_2 Y87_3 Y87_4
    obtain ⟨kq, x51_24, rfl, HA, HJ24, HO_271004, HO_279004, HO_293004, BK246, BK247, BK270, BK278, BK292, HB⟩ := hcut
    cases kq with
    | zero => exact absurd HA.out (by simp [laws_FnExactWalStep.j0])
    | succ kj24 =>
     have H := HA.out
     clear HA
     simp only [laws_FnExactWalStep.j0] at H
     by_cases c89 : x51_24 = true
     ·subst c89
      replace H := iT H
      exact absurd ((Option.some.inj H).trans hr_) (by decide)
     ·replace c89 := Bool.eq_false_iff.mpr c89
      subst c89
      replace H := iF H
      replace H := Option.bind_eq_some_iff.mp H
      obtain ⟨⟨t294, t295, t296, t297, t298⟩, A900, H⟩ := H
      replace H : ((laws_eqWal.f kj24 t271 t272 t273 t274 t275 t294 t295 t296 t297 t298).bind fun t301 => (if t301 = true then ((laws_markWal.f kj24 t271 t272 t273 t274 t275 1).bind fun bt302 => (if bt302.1 < 0 then (laws_FnExactWalStep.j1 kj24 t269 true a0_0 a0_1 a0_2 a0_3 l0_4 a1_0 a1_1 a1_2 a1_3 a1_4 t262 t263 t264 t265 t266 t284 t285 t286 t287 t288) else ((laws_eqWal.f kj24 t284 t285 t286 t287 t288 t262 t263 t264 t265 t266).bind fun t304 => (if t304 = true then (laws_FnExactWalStep.j1 kj24 t269 (t291 != t269) a0_0 a0_1 a0_2 a0_3 l0_4 a1_0 a1_1 a1_2 a1_3 a1_4 t262 t263 t264 t265 t266 t284 t285 t286 t287 t288) else (laws_FnExactWalStep.j1 kj24 t269 true a0_0 a0_1 a0_2 a0_3 l0_4 a1_0 a1_1 a1_2 a1_3 a1_4 t262 t263 t264 t265 t266 t284 t285 t286 t287 t288))))) else (some false))) = some r := H
      have A90 := Aside0.mk A900
      clear A900
      obtain ⟨t301, A91, H⟩ := bd H
      by_cases c92 : t301 = true
      ·subst c92
       replace H := iT H
       replace H := Option.bind_eq_some_iff.mp H
       obtain ⟨⟨t302, t303⟩, A930, H⟩ := H
       replace H : (if t302 < 0 then (laws_FnExactWalStep.j1 kj24 t269 true a0_0 a0_1 a0_2 a0_3 l0_4 a1_0 a1_1 a1_2 a1_3 a1_4 t262 t263 t264 t265 t266 t284 t285 t286 t287 t288) else ((laws_eqWal.f kj24 t284 t285 t286 t287 t288 t262 t263 t264 t265 t266).bind fun t304 => (if t304 = true then (laws_FnExactWalStep.j1 kj24 t269 (t291 != t269) a0_0 a0_1 a0_2 a0_3 l0_4 a1_0 a1_1 a1_2 a1_3 a1_4 t262 t263 t264 t265 t266 t284 t285 t286 t287 t288) else (laws_FnExactWalStep.j1 kj24 t269 true a0_0 a0_1 a0_2 a0_3 l0_4 a1_0 a1_1 a1_2 a1_3 a1_4 t262 t263 t264 t265 t266 t284 t285 t286 t287 t288)))) = some r := H
       have A93 := Aside0.mk A930
       clear A930
       have HC94 := Aside0.mk H
       clear H
       try go_wp2
       replace HO_271004 := Aside0.mk (Kd.R_drew HO_271004.out); replace HO_279004 := Aside0.mk (Kd.R_drew HO_279004.out); replace HO_293004 := Aside0.mk (Kd.R_drew HO_293004.out); replace BK246 := Aside0.mk (blk_drew BK246.out); replace BK247 := Aside0.mk (blk_drew BK247.out); replace BK270 := Aside0.mk (blk_drew BK270.out); replace BK278 := Aside0.mk (blk_drew BK278.out); replace BK292 := Aside0.mk (blk_drew BK292.out); replace HB := Aside0.mk (below_drew1 HB.out)
       refine start_ (n := 5) (S := fun w' => w'.cell? ⟨gb278, 0, none⟩ = some (.int .i64 t271) ∧ w'.cell? ⟨gb278, 1, none⟩ = some (.int .i64 t272) ∧ w'.cell? ⟨gb278, 2, none⟩ = some (.int .i64 t273) ∧ w'.cell? ⟨gb278, 3, none⟩ = some (.int .i64 t274) ∧ w'.cell? ⟨gb278, 4, none⟩ = some (.slice Ao54 t275.length co54) ∧ w'.cell? ⟨gb246, 0, none⟩ = some (.int .i64 a0_0) ∧ w'.cell? ⟨gb246, 1, none⟩ = some (.int .i64 a0_1) ∧ w'.cell? ⟨gb246, 2, none⟩ = some (.int .i64 a0_2) ∧ w'.cell? ⟨gb246, 3, none⟩ = some (.int .i64 a0_3) ∧ w'.cell? ⟨gb246, 4, none⟩ = some (.slice A0_4 l0_4.length c0_4)) (ds := []) #[false, false, false, false, false] (by kernel_rfl) rfl rfl ⟨cb 0 BK278, cb 1 BK278, cb 2 BK278, cb 3 BK278, cb 4 BK278, cb 0 BK246, cb 1 BK246, cb 2 BK246, cb 3 BK246, cb 4 BK246⟩ (fun hHeld => ?_)
       generalize wc.drew = w95 at HO_271004 HO_279004 HO_293004 BK246 BK247 BK270 BK278 BK292 HB hHeld ⊢
       refine tV 0 52 #[true, false, false, false, false] ?_
       refine tV 1 53 #[true, true, false, false, false] ?_
       refine one_ (i := 2) (N := some 54) #[true, true, true, false, false] rfl rfl (by kernel_rfl) (by decide) (fun K hK => ?_)
       refine goes_ Try.func57 (by kernel_rfl) rfl #[.agg #[.int .i64 a0_0, .int .i64 a0_1, .int .i64 a0_2, .int .i64 a0_3, .slice A0_4 l0_4.length c0_4]] (by rfl) rfl rfl sa ?_
       with_reducible refine (laws_toWal.calls kj24 a0_0 a0_1 a0_2 a0_3 _ _ l0_4 t294 t295 t296 t297 t298 _ ?side1 ?side2 A90.out).mono ?_
       (case side1 => exact ca (Kd.C_below HR0_4.out HB.out))
       (case side2 => exact HC0_4.out)
       rintro e w96 ⟨v299, rfl, ho0, hb⟩
       refine ⟨_, rfl, ?_⟩
       have HO300 := Aside0.mk (Kd.R_lower (Kd.R_new' (Kd.R_new' (Kd.R_new' ho0 (Kd.R_lt (rpR HO_271004.out))) (Kd.R_lt (rpR HO_279004.out))) (Kd.R_lt (rpR HO_293004.out))) (below_size bl)); replace HO_271004 := Aside0.mk (Kd.R_elder' (rpR HO_271004.out) (Kd.R_base ho0) hb); replace HO_279004 := Aside0.mk (Kd.R_elder' (rpR HO_279004.out) (Kd.R_base ho0) hb); replace HO_293004 := Aside0.mk (Kd.R_elder' (rpR HO_293004.out) (Kd.R_base ho0) hb); replace BK246 := bv BK246 hb; replace BK247 := bv BK247 hb; replace BK270 := bv BK270 hb; replace BK278 := bv BK278 hb; replace BK292 := bv BK292 hb; replace HB := bs (w := w) hb; (try clear hb hb2 hk hi ho0)
       obtain ⟨Ao97, co97, eo97⟩ := Kd.R_slice HO300.out
       (first | subst eo97 | (injection eo97 with f1_ f2_ f3_; have f4_ := f1_.symm; have f5_ := f3_.symm; clear f1_ f2_ f3_; subst f4_; subst f5_))
       refine hK.out _ _ ⟨cb 0 BK278, cb 1 BK278, cb 2 BK278, cb 3 BK278, cb 4 BK278, cb 0 BK246, cb 1 BK246, cb 2 BK246, cb 3 BK246, cb 4 BK246⟩ (fun hHeld => ?_)
       clear hK K
       refine norm_ (a' := ?_) ?_ ?_
       rotate_left
       ·show Act.put _ (some 54) _ = _
        simp only [Act.put, List.setIfInBounds_toArray, List.set_cons_zero, List.set_cons_succ, i64_w, i32_w]
        rfl
       refine one_ (i := 3) (N := some 55) #[true, true, true, true, false] rfl rfl (by kernel_rfl) (by decide) (fun K hK => ?_)
       refine goes_ Try.func59 (by kernel_rfl) rfl #[.agg #[.int .i64 t271, .int .i64 t272, .int .i64 t273, .int .i64 t274, .slice Ao54 t275.length co54], .agg #[.int .i64 t294, .int .i64 t295, .int .i64 t296, .int .i64 t297, .slice Ao97 t298.length co97]] (by rfl) rfl rfl sa ?_
       with_reducible refine (laws_eqWal.calls kj24 t271 t272 t273 t274 _ _ t275 t294 t295 t296 t297 _ _ t298 true _ ?side1 ?side2 ?side3 ?side4 A91.out).mono ?_
       (case side1 => exact ca ((Kd.R_reads' HO_279004.out).2.2))
       (case side2 => exact (Kd.R_reads' HO_279004.out).2.1)
       (case side3 => exact ca ((Kd.R_reads' HO300.out).2.2))
       (case side4 => exact (Kd.R_reads' HO300.out).2.1)
       rintro e w98 ⟨rfl, hb⟩
       refine ⟨_, rfl, ?_⟩
       replace HO_271004 := Aside0.mk (Kd.R_below (rpR HO_271004.out) hb); replace HO_279004 := Aside0.mk (Kd.R_below (rpR HO_279004.out) hb); replace HO_293004 := Aside0.mk (Kd.R_below (rpR HO_293004.out) hb); replace HO300 := Aside0.mk (Kd.R_below (rpR HO300.out) hb); replace BK246 := bv BK246 hb; replace BK247 := bv BK247 hb; replace BK270 := bv BK270 hb; replace BK278 := bv BK278 hb; replace BK292 := bv BK292 hb; replace HB := bs (w := w) hb; (try clear hb hb2 hk hi)
       refine hK.out _ _ ⟨cb 0 BK278, cb 1 BK278, cb 2 BK278, cb 3 BK278, cb 4 BK278, cb 0 BK246, cb 1 BK246, cb 2 BK246, cb 3 BK246, cb 4 BK246⟩ (fun hHeld => ?_)
       clear hK K
       refine norm_ (a' := ?_) ?_ ?_
       rotate_left
       ·show Act.put _ (some 55) _ = _
        simp only [Act.put, List.setIfInBounds_toArray, List.set_cons_zero, List.set_cons_succ, i64_w, i32_w]
        rfl
       refine pV 4 56 #[true, true, true, true, true] ?_
       refine done_ (by kernel_rfl) ?_
       have hnb99 := NB278_246.out
       have hnc99 := NB246_278.out
       have hnb100 := NB278_247.out
       have hnc100 := NB247_278.out
       have hnb101 := NB278_270.out
       have hnc101 := NB270_278.out
       have hnb102 := NB278_292.out
       have hnc102 := NB292_278.out
       obtain ⟨Z103_0, Z103_1, Z103_2, Z103_3, Z103_4, Y103_0, Y103_1, Y103_2, Y103_3, Y103_4⟩ := cf5 BK278
       go_upto_region 17 with (first | ((with_reducible refine gC 63 rfl ?_); refine goesZ (some 59) rfl Try.func63 #[.agg #[.int .i64 t271, .int .i64 t272, .int .i64 t273, .int .i64 t274, .slice Ao54 t275.length co54], .int .i64 1] ?_; (with_reducible refine (laws_markWal.calls kj24 t271 t272 t273 t274 (fun k_ => some k_ = (.slice Ao54 t275.length co54 : Value).ownBlock) (.slice Ao54 t275.length co54) t275 1 t302 t303 w _ ?side1 ?side2 A93.out).mono ?_); (case side1 => repeat (first | (with_reducible first | exact HB.out | apply below_alloc | apply pw_below_drewN | apply below_drew1 | refine below_set ?_ GE246.out | refine below_set ?_ GE247.out | refine below_set ?_ GE270.out | refine below_set ?_ GE278.out | refine below_set ?_ GE292.out) | exact HB.out)); (case side2 => exact Kd.R_tight rfl HO_279004.out); rintro e w104 ⟨rfl, hy0, hb, hkp⟩; refine ⟨_, rfl, ?_⟩; replace HO_271004 := Aside0.mk (Kd.R_mono (ok' := fun k_ => some k_ ≠ (.slice Ao54 t275.length co54 : Value).ownBlock ∧ some k_ ≠ (.slice Ao65 t288.length co65 : Value).ownBlock ∧ some k_ ≠ (.slice Ao97 t298.length co97 : Value).ownBlock) (Kd.R_keptB (HO_271004.out) hkp (fun k_ hk_ hs_ => (hk_.1.1) hs_)) (fun k_ hk_ => ⟨hk_.1.1.1, hk_.1.1.2, hk_.1.2⟩)); replace HO_293004 := Aside0.mk (Kd.R_mono (ok' := fun k_ => some k_ ≠ (.slice Ao44 t266.length co44 : Value).ownBlock ∧ some k_ ≠ (.slice Ao54 t275.length co54 : Value).ownBlock ∧ some k_ ≠ (.slice Ao97 t298.length co97 : Value).ownBlock) (Kd.R_keptB (HO_293004.out) hkp (fun k_ hk_ hs_ => (hk_.1.2) hs_)) (fun k_ hk_ => ⟨hk_.1.1.1, hk_.1.1.2, hk_.1.2⟩)); replace BK246 := Aside0.mk (blk_kept bk hkp (fun hs_ => (fun e_ => (Kd.R_ne HO_279004.out BK246.out (by decide)) e_) hs_)); replace BK247 := Aside0.mk (blk_kept bk hkp (fun hs_ => (fun e_ => (Kd.R_ne HO_279004.out BK247.out (by decide)) e_) hs_)); replace BK270 := Aside0.mk (blk_kept bk hkp (fun hs_ => (fun e_ => (Kd.R_ne HO_279004.out BK270.out (by decide)) e_) hs_)); replace BK278 := Aside0.mk (blk_kept bk hkp (fun hs_ => (fun e_ => (Kd.R_ne HO_279004.out BK278.out (by decide)) e_) hs_)); replace BK292 := Aside0.mk (blk_kept bk hkp (fun hs_ => (fun e_ => (Kd.R_ne HO_279004.out BK292.out (by decide)) e_) hs_)); replace HO_279004 := Aside0.mk (Kd.R_reok rfl hy0 (fun k_ e_ => HO_279004.out.1 k_ e_)); replace HO300 := Aside0.mk (Kd.R_mono (ok' := fun k_ => some k_ ≠ (.slice Ao44 t266.length co44 : Value).ownBlock ∧ some k_ ≠ (.slice Ao54 t275.length co54 : Value).ownBlock ∧ some k_ ≠ (.slice Ao65 t288.length co65 : Value).ownBlock) (Kd.R_keptB (HO300.out) hkp (fun k_ hk_ hs_ => (hk_.1.2) hs_)) (fun k_ hk_ => ⟨hk_.1.1.1.2, hk_.1.1.2, hk_.1.2⟩)); replace HB := Aside0.mk (hb); (try clear hb hkp hy0)))
       (try simp only [Act.put, List.setIfInBounds_toArray, List.set_cons_zero, List.set_cons_succ])
       go_cut [72] (fun v72 wc => ∃ (kq : Nat) (x72_93 : Bool), v72 = .bool x72_93 ∧ Aside0 (laws_FnExactWalStep.j1 kq t269 x72_93 a0_0 a0_1 a0_2 a0_3 l0_4 a1_0 a1_1 a1_2 a1_3 a1_4 t262 t263 t264 t265 t266 t284 t285 t286 t287 t288 = some r) ∧ Aside0 (kq ≤ kj24) ∧ Aside0 (Kd.R k117 117 wc w.heap.size (fun k_ => some k_ ≠ ((.slice Ao54 t275.length co54) : Value).ownBlock ∧ some k_ ≠ ((.slice Ao65 t288.length co65) : Value).ownBlock) (.slice Ao44 t266.length co44) t266) ∧ Aside0 (Kd.R k117 117 wc w.heap.size (fun k_ => some k_ ≠ ((.slice Ao44 t266.length co44) : Value).ownBlock ∧ some k_ ≠ ((.slice Ao65 t288.length co65) : Value).ownBlock) (.slice Ao54 t275.length co54) t303) ∧ Aside0 (Kd.R k117 117 wc w.heap.size (fun k_ => some k_ ≠ ((.slice Ao44 t266.length co44) : Value).ownBlock ∧ some k_ ≠ ((.slice Ao54 t275.length co54) : Value).ownBlock) (.slice Ao65 t288.length co65) t288) ∧ Aside0 (wc.heap[gb246]? = some (.cells #[.int .i64 a0_0, .int .i64 a0_1, .int .i64 a0_2, .int .i64 a0_3, (.slice A0_4 l0_4.length c0_4)] 62 (0, 0))) ∧ Aside0 (wc.heap[gb247]? = some (.cells #[.int .i64 a1_0, .int .i64 a1_1, .int .i64 a1_2, .int .i64 a1_3, .string a1_4] 79 (0, 0))) ∧ Aside0 (wc.heap[gb270]? = some (.cells #[.int .i64 t262, .int .i64 t263, .int .i64 t264, .int .i64 t265, (.slice Ao44 t266.length co44)] 67 (0, 0))) ∧ Aside0 (wc.heap[gb278]? = some (.cells #[.int .i64 t271, .int .i64 t272, .int .i64 t273, .int .i64 t274, (.slice Ao54 t275.length co54)] 67 (0, 0))) ∧ Aside0 (wc.heap[gb292]? = some (.cells #[.int .i64 t284, .int .i64 t285, .int .i64 t286, .int .i64 t287, (.slice Ao65 t288.length co65)] 67 (0, 0))) ∧ Aside0 (Below w.heap.size w wc))
       case first =>
        have H := HC94.out
        clear HC94
        by_cases c105 : t302 < 0
        ·rw [if_pos c105] at H
         have c105b0 : decide (t302 < 0) = true := decide_eq_true c105
         clear c105
         (first | rw [c105b0] | (simp only [i64_w, i32_w]; rw [c105b0]) | skip)
         have H' := Aside0.mk H
         clear H
         go_wp2
         go_meet
         case rel => exact ⟨_, (true), fa, H', ⟨by have := HJ24.out; first | omega | exact Nat.le_refl _⟩, ⟨rpR (Kd.R_mono HO_271004.out (fun _ hk => ⟨hk.1, hk.2.1⟩))⟩, ⟨rpR (Kd.R_mono HO_279004.out (fun _ hk => ⟨hk.1.1, hk.1.2⟩))⟩, ⟨rpR (Kd.R_mono HO_293004.out (fun _ hk => ⟨hk.1, hk.2.1⟩))⟩, ⟨by (with_reducible repeat (first | refine blk_drewN ?_ _ | refine blk_drew ?_ | refine blk_alloc ?_ _)); exact BK246.out⟩, ⟨by (with_reducible repeat (first | refine blk_drewN ?_ _ | refine blk_drew ?_ | refine blk_alloc ?_ _)); exact BK247.out⟩, ⟨by (with_reducible repeat (first | refine blk_drewN ?_ _ | refine blk_drew ?_ | refine blk_alloc ?_ _)); exact BK270.out⟩, ⟨by (with_reducible repeat (first | refine blk_drewN ?_ _ | refine blk_drew ?_ | refine blk_alloc ?_ _)); exact BK278.out⟩, ⟨by (with_reducible repeat (first | refine blk_drewN ?_ _ | refine blk_drew ?_ | refine blk_alloc ?_ _)); exact BK292.out⟩, ⟨bl⟩⟩
        ·rw [if_neg c105] at H
         have c105b0 : decide (t302 < 0) = false := decide_eq_false c105
         clear c105
         (first | rw [c105b0] | (simp only [i64_w, i32_w]; rw [c105b0]) | skip)
         obtain ⟨t304, A106, H⟩ := bd H
         by_cases c107 : t304 = true
         ·subst c107
          replace H := iT H
          have H' := Aside0.mk H
          clear H
          have hnb108 := NB292_246.out
          have hnc108 := NB246_292.out
          have hnb109 := NB292_247.out
          have hnc109 := NB247_292.out
          have hnb110 := NB292_270.out
          have hnc110 := NB270_292.out
          have hnb111 := NB292_278.out
          have hnc111 := NB278_292.out
          obtain ⟨Z112_0, Z112_1, Z112_2, Z112_3, Z112_4, Y112_0, Y112_1, Y112_2, Y112_3, Y112_4⟩ := cf5 BK292
          have hnb113 := NB270_246.out
          have hnc113 := NB246_270.out
          have hnb114 := NB270_247.out
          have hnc114 := NB247_270.out
          have hnb115 := NB270_278.out
          have hnc115 := NB278_270.out
          obtain ⟨Z116_0, Z116_1, Z116_2, Z116_3, Z116_4, Y116_0, Y116_1, Y116_2, Y116_3, Y116_4⟩ := cf5 BK270
          go_wp2_with (first | (go_at_call 59; (with_reducible refine (laws_eqWal.calls kj24 t284 t285 t286 t287 _ _ t288 t262 t263 t264 t265 _ _ t266 true _ ?side1 ?side2 ?side3 ?side4 A106.out).mono ?_); (case side1 => exact ca ((Kd.R_reads' HO_293004.out).2.2)); (case side2 => exact (Kd.R_reads' HO_293004.out).2.1); (case side3 => exact ca ((Kd.R_reads' HO_271004.out).2.2)); (case side4 => exact (Kd.R_reads' HO_271004.out).2.1); rintro e w117 ⟨rfl, hb⟩; replace HO_271004 := Aside0.mk (Kd.R_below (rpR HO_271004.out) hb); replace HO_279004 := Aside0.mk (Kd.R_below (rpR HO_279004.out) hb); replace HO_293004 := Aside0.mk (Kd.R_below (rpR HO_293004.out) hb); replace HO300 := Aside0.mk (Kd.R_below (rpR HO300.out) hb); replace BK246 := bv BK246 hb; replace BK247 := bv BK247 hb; replace BK270 := bv BK270 hb; replace BK278 := bv BK278 hb; replace BK292 := bv BK292 hb; replace HB := bs (w := w) hb; (try clear hb)))
          go_meet
          case rel => exact ⟨_, ((t291 != t269)), fa, H', ⟨by have := HJ24.out; first | omega | exact Nat.le_refl _⟩, ⟨rpR (Kd.R_mono HO_271004.out (fun _ hk => ⟨hk.1, hk.2.1⟩))⟩, ⟨rpR (Kd.R_mono HO_279004.out (fun _ hk => ⟨hk.1.1, hk.1.2⟩))⟩, ⟨rpR (Kd.R_mono HO_293004.out (fun _ hk => ⟨hk.1, hk.2.1⟩))⟩, ⟨by (with_reducible repeat (first | refine blk_drewN ?_ _ | refine blk_drew ?_ | refine blk_alloc ?_ _)); exact BK246.out⟩, ⟨by (with_reducible repeat (first | refine blk_drewN ?_ _ | refine blk_drew ?_ | refine blk_alloc ?_ _)); exact BK247.out⟩, ⟨by (with_reducible repeat (first | refine blk_drewN ?_ _ | refine blk_drew ?_ | refine blk_alloc ?_ _)); exact BK270.out⟩, ⟨by (with_reducible repeat (first | refine blk_drewN ?_ _ | refine blk_drew ?_ | refine blk_alloc ?_ _)); exact BK278.out⟩, ⟨by (with_reducible repeat (first | refine blk_drewN ?_ _ | refine blk_drew ?_ | refine blk_alloc ?_ _)); exact BK292.out⟩, ⟨bl⟩⟩
         ·replace c107 := Bool.eq_false_iff.mpr c107
          subst c107
          replace H := iF H
          have H' := Aside0.mk H
          clear H
          have hnb118 := NB292_246.out
          have hnc118 := NB246_292.out
          have hnb119 := NB292_247.out
          have hnc119 := NB247_292.out
          have hnb120 := NB292_270.out
          have hnc120 := NB270_292.out
          have hnb121 := NB292_278.out
          have hnc121 := NB278_292.out
          obtain ⟨Z122_0, Z122_1, Z122_2, Z122_3, Z122_4, Y122_0, Y122_1, Y122_2, Y122_3, Y122_4⟩ := cf5 BK292
          have hnb123 := NB270_246.out
          have hnc123 := NB246_270.out
          have hnb124 := NB270_247.out
          have hnc124 := NB247_270.out
          have hnb125 := NB270_278.out
          have hnc125 := NB278_270.out
          obtain ⟨Z126_0, Z126_1, Z126_2, Z126_3, Z126_4, Y126_0, Y126_1, Y126_2, Y126_3, Y126_4⟩ := cf5 BK270
          go_wp2_with (first | (go_at_call 59; (with_reducible refine (laws_eqWal.calls kj24 t284 t285 t286 t287 _ _ t288 t262 t263 t264 t265 _ _ t266 false _ ?side1 ?side2 ?side3 ?side4 A106.out).mono ?_); (case side1 => exact ca ((Kd.R_reads' HO_293004.out).2.2)); (case side2 => exact (Kd.R_reads' HO_293004.out).2.1); (case side3 => exact ca ((Kd.R_reads' HO_271004.out).2.2)); (case side4 => exact (Kd.R_reads' HO_271004.out).2.1); rintro e w127 ⟨rfl, hb⟩; replace HO_271004 := Aside0.mk (Kd.R_below (rpR HO_271004.out) hb); replace HO_279004 := Aside0.mk (Kd.R_below (rpR HO_279004.out) hb); replace HO_293004 := Aside0.mk (Kd.R_below (rpR HO_293004.out) hb); replace HO300 := Aside0.mk (Kd.R_below (rpR HO300.out) hb); replace BK246 := bv BK246 hb; replace BK247 := bv BK247 hb; replace BK270 := bv BK270 hb; replace BK278 := bv BK278 hb; replace BK292 := bv BK292 hb; replace HB := bs (w := w) hb; (try clear hb)))
          go_meet
          case rel => exact ⟨_, (true), fa, H', ⟨by have := HJ24.out; first | omega | exact Nat.le_refl _⟩, ⟨rpR (Kd.R_mono HO_271004.out (fun _ hk => ⟨hk.1, hk.2.1⟩))⟩, ⟨rpR (Kd.R_mono HO_279004.out (fun _ hk => ⟨hk.1.1, hk.1.2⟩))⟩, ⟨rpR (Kd.R_mono HO_293004.out (fun _ hk => ⟨hk.1, hk.2.1⟩))⟩, ⟨by (with_reducible repeat (first | refine blk_drewN ?_ _ | refine blk_drew ?_ | refine blk_alloc ?_ _)); exact BK246.out⟩, ⟨by (with_reducible repeat (first | refine blk_drewN ?_ _ | refine blk_drew ?_ | refine blk_alloc ?_ _)); exact BK247.out⟩, ⟨by (with_reducible repeat (first | refine blk_drewN ?_ _ | refine blk_drew ?_ | refine blk_alloc ?_ _)); exact BK270.out⟩, ⟨by (with_reducible repeat (first | refine blk_drewN ?_ _ | refine blk_drew ?_ | refine blk_alloc ?_ _)); exact BK278.out⟩, ⟨by (with_reducible repeat (first | refine blk_drewN ?_ _ | refine blk_drew ?_ | refine blk_alloc ?_ _)); exact BK292.out⟩, ⟨bl⟩⟩
       case rest =>
        clear HC94
        try clear c1
        try clear p2
        try clear c5
        try clear c6
        try clear c7
        try clear c8
        try clear c9
        try clear c10
        try clear c11
        try clear c12
        try clear c57
        try clear c59
        try clear c63
        try clear c68
        try clear c69
        try clear c70
        try clear c71
        try clear c72
        try clear c74
        try clear c75
        try clear c76
        try clear c79
        try clear c80
        try clear c81
        try clear c82
        try clear c84
        try clear c85
        try clear c86
        try clear c89
        try clear c92
        try clear c99
        try clear c100
        try clear c101
        try clear c102
        try clear c105
        try clear c105b0
        try clear c107
        try clear c108
        try clear c109
        try clear c110
        try clear c111
        try clear c113
        try clear c114
        try clear c115
        try clear c118
        try clear c119
        try clear c120
        try clear c121
        try clear c123
        try clear c124
        try clear c125
        try clear Z103_0 Z103_1 Z103_2 Z103_3 Z103_4
        try clear Z112_0 Z112_1 Z112_2 Z112_3 Z112_4
        try clear Z116_0 Z116_1 Z116_2 Z116_3 Z116_4
        try clear Z122_0 Z122_1 Z122_2 Z122_3 Z122_4
        try clear Z126_0 Z126_1 Z126_2 Z126_3 Z126_4
        try clear Z73_0 Z73_1 Z73_2 Z73_3 Z73_4
        try clear Z77_0 Z77_1 Z77_2 Z77_3 Z77_4
        try clear Z83_0 Z83_1 Z83_2 Z83_3 Z83_4
        try clear Z87_0 Z87_1 Z87_2 Z87_3 Z87_4
        try clear Y103_0 Y103_1 Y103_2 Y103_3 Y103_4
        try clear Y112_0 Y112_1 Y112_2 Y112_3 Y112_4
        try clear Y116_0 Y116_1 Y116_2 Y116_3 Y116_4
        try clear Y122_0 Y122_1 Y122_2 Y122_3 Y122_4
        try clear Y126_0 Y126_1 Y126_2 Y126_3 Y126_4
        try clear Y73_0 Y73_1 Y73_2 Y73_3 Y73_4
        try clear Y77_0 Y77_1 Y77_2 Y77_3 Y77_4
        try clear Y83_0 Y83_1 Y83_2 Y83_3 Y83_4
        try clear Y87_0 Y87_1 Y87_2 Y87_3 Y87_4
        try clear p2
        obtain ⟨kq, x72_93, rfl, HA, HJ93, HO_271004, HO_279004, HO_293004, BK246, BK247, BK270, BK278, BK292, HB⟩ := hcut
        have hl279004_93 := (Kd.R_reads' HO_279004.out).1
        rw [hl279004_93] at HO_279004
        (try simp only [hl279004_93])
        (try simp only [hl279004_93] at BK246)
        (try simp only [hl279004_93] at BK247)
        (try simp only [hl279004_93] at BK270)
        (try simp only [hl279004_93] at BK278)
        (try simp only [hl279004_93] at BK292)
        (try simp only [hl279004_93] at HO_271004)
        (try simp only [hl279004_93] at HO_293004)
        cases kq with
        | zero => exact absurd HA.out (by simp [laws_FnExactWalStep.j1])
        | succ kj93 =>
         have H := HA.out
         clear HA
         simp only [laws_FnExactWalStep.j1] at H
         by_cases c128 : x72_93 = true
         ·subst c128
          replace H := iT H
          exact absurd ((Option.some.inj H).trans hr_) (by decide)
         ·replace c128 := Bool.eq_false_iff.mpr c128
          subst c128
          replace H := iF H
          replace H := Option.bind_eq_some_iff.mp H
          obtain ⟨⟨t305, t306⟩, A1290, H⟩ := H
          replace H : ((laws_heldWal.f kj93 t284 t285 t286 t287 t306 1).bind fun t307 => (if t307 < 0 then (some false) else (if t307 = t305 then ((laws_toWal.f kj93 a0_0 a0_1 a0_2 a0_3 l0_4).bind fun bt308 => ((laws_toRec.f a1_0 a1_1 a1_2 a1_3 a1_4).bind fun bt315 => ((impl_WalStep.f kj93 bt308.1 bt308.2.1 bt308.2.2.1 bt308.2.2.2.1 bt308.2.2.2.2 bt315.1 bt315.2.1 bt315.2.2.1 bt315.2.2.2.1 bt315.2.2.2.2).bind fun bt320 => ((laws_eqWal.f kj93 bt320.1 bt320.2.1 bt320.2.2.1 bt320.2.2.2.1 bt320.2.2.2.2.1 t262 t263 t264 t265 t266).bind fun t329 => (if t329 = true then (laws_FnExactWalStep.j2 kj93 t305 (bt320.2.2.2.2.2 != t269) t284 t285 t286 t287 t306) else (laws_FnExactWalStep.j2 kj93 t305 true t284 t285 t286 t287 t306)))))) else (some false)))) = some r := H
          have A129 := Aside0.mk A1290
          clear A1290
          obtain ⟨t307, A130, H⟩ := bd H
          by_cases c131 : t307 < 0
          ·rw [if_pos c131] at H
           have c131b0 : decide (t307 < 0) = true := decide_eq_true c131
           clear c131
           exact absurd ((Option.some.inj H).trans hr_) (by decide)
          ·rw [if_neg c131] at H
           have c131b0 : decide (t307 < 0) = false := decide_eq_false c131
           clear c131
           by_cases c132 : t307 = t305
           ·rw [if_pos c132] at H
            have c132b0 : (t307 == t305) = true := beq_iff_eq.mpr c132
            have c132b1 : (t307 != t305) = false := bne_eq_false_iff_eq.mpr c132
            clear c132
            replace H := Option.bind_eq_some_iff.mp H
            obtain ⟨⟨t308, t309, t310, t311, t312⟩, A1330, H⟩ := H
            replace H : ((laws_toRec.f a1_0 a1_1 a1_2 a1_3 a1_4).bind fun bt315 => ((impl_WalStep.f kj93 t308 t309 t310 t311 t312 bt315.1 bt315.2.1 bt315.2.2.1 bt315.2.2.2.1 bt315.2.2.2.2).bind fun bt320 => ((laws_eqWal.f kj93 bt320.1 bt320.2.1 bt320.2.2.1 bt320.2.2.2.1 bt320.2.2.2.2.1 t262 t263 t264 t265 t266).bind fun t329 => (if t329 = true then (laws_FnExactWalStep.j2 kj93 t305 (bt320.2.2.2.2.2 != t269) t284 t285 t286 t287 t306) else (laws_FnExactWalStep.j2 kj93 t305 true t284 t285 t286 t287 t306))))) = some r := H
            have A133 := Aside0.mk A1330
            clear A1330
            replace H := Option.bind_eq_some_iff.mp H
            obtain ⟨⟨t315, t316, t317, t318, t319⟩, A1340, H⟩ := H
            replace H : ((impl_WalStep.f kj93 t308 t309 t310 t311 t312 t315 t316 t317 t318 t319).bind fun bt320 => ((laws_eqWal.f kj93 bt320.1 bt320.2.1 bt320.2.2.1 bt320.2.2.2.1 bt320.2.2.2.2.1 t262 t263 t264 t265 t266).bind fun t329 => (if t329 = true then (laws_FnExactWalStep.j2 kj93 t305 (bt320.2.2.2.2.2 != t269) t284 t285 t286 t287 t306) else (laws_FnExactWalStep.j2 kj93 t305 true t284 t285 t286 t287 t306)))) = some r := H
            have A134 := Aside0.mk A1340
            clear A1340
            replace H := Option.bind_eq_some_iff.mp H
            obtain ⟨⟨t320, t321, t322, t323, t324, t327⟩, A1350, H⟩ := H
            replace H : ((laws_eqWal.f kj93 t320 t321 t322 t323 t324 t262 t263 t264 t265 t266).bind fun t329 => (if t329 = true then (laws_FnExactWalStep.j2 kj93 t305 (t327 != t269) t284 t285 t286 t287 t306) else (laws_FnExactWalStep.j2 kj93 t305 true t284 t285 t286 t287 t306))) = some r := H
            have A135 := Aside0.mk A1350
            clear A1350
            have HC136 := Aside0.mk H
            clear H
            have hnb137 := NB292_246.out
            have hnc137 := NB246_292.out
            have hnb138 := NB292_247.out
            have hnc138 := NB247_292.out
            have hnb139 := NB292_270.out
            have hnc139 := NB270_292.out
            have hnb140 := NB292_278.out
            have hnc140 := NB278_292.out
            obtain ⟨Z141_0, Z141_1, Z141_2, Z141_3, Z141_4, Y141_0, Y141_1, Y141_2, Y141_3, Y141_4⟩ := cf5 BK292
            try go_wp2_with (first | ((with_reducible refine gC 63 rfl ?_); refine goesZ (some 75) rfl Try.func63 #[.agg #[.int .i64 t284, .int .i64 t285, .int .i64 t286, .int .i64 t287, .slice Ao65 t288.length co65], .int .i64 1] ?_; (with_reducible refine (laws_markWal.calls kj93 t284 t285 t286 t287 (fun k_ => some k_ = (.slice Ao65 t288.length co65 : Value).ownBlock) (.slice Ao65 t288.length co65) t288 1 t305 t306 w _ ?side1 ?side2 A129.out).mono ?_); (case side1 => repeat (first | (with_reducible first | exact HB.out | apply below_alloc | apply pw_below_drewN | apply below_drew1 | refine below_set ?_ GE246.out | refine below_set ?_ GE247.out | refine below_set ?_ GE270.out | refine below_set ?_ GE278.out | refine below_set ?_ GE292.out) | exact HB.out)); (case side2 => exact Kd.R_tight rfl HO_293004.out); rintro e w142 ⟨rfl, hy0, hb, hkp⟩; refine ⟨_, rfl, ?_⟩; replace HO_271004 := Aside0.mk (Kd.R_mono (ok' := fun k_ => some k_ ≠ (.slice Ao54 t303.length co54 : Value).ownBlock ∧ some k_ ≠ (.slice Ao65 t288.length co65 : Value).ownBlock) (Kd.R_keptB (HO_271004.out) hkp (fun k_ hk_ hs_ => (hk_.2) hs_)) (fun k_ hk_ => ⟨hk_.1.1, hk_.1.2⟩)); replace HO_279004 := Aside0.mk (Kd.R_mono (ok' := fun k_ => some k_ ≠ (.slice Ao44 t266.length co44 : Value).ownBlock ∧ some k_ ≠ (.slice Ao65 t288.length co65 : Value).ownBlock) (Kd.R_keptB (HO_279004.out) hkp (fun k_ hk_ hs_ => (hk_.2) hs_)) (fun k_ hk_ => ⟨hk_.1.1, hk_.1.2⟩)); replace BK246 := Aside0.mk (blk_kept bk hkp (fun hs_ => (fun e_ => (Kd.R_ne HO_293004.out BK246.out (by decide)) e_) hs_)); replace BK247 := Aside0.mk (blk_kept bk hkp (fun hs_ => (fun e_ => (Kd.R_ne HO_293004.out BK247.out (by decide)) e_) hs_)); replace BK270 := Aside0.mk (blk_kept bk hkp (fun hs_ => (fun e_ => (Kd.R_ne HO_293004.out BK270.out (by decide)) e_) hs_)); replace BK278 := Aside0.mk (blk_kept bk hkp (fun hs_ => (fun e_ => (Kd.R_ne HO_293004.out BK278.out (by decide)) e_) hs_)); replace BK292 := Aside0.mk (blk_kept bk hkp (fun hs_ => (fun e_ => (Kd.R_ne HO_293004.out BK292.out (by decide)) e_) hs_)); replace HO_293004 := Aside0.mk (Kd.R_reok rfl hy0 (fun k_ e_ => HO_293004.out.1 k_ e_)); replace HB := Aside0.mk (hb); (try clear hb hkp hy0); obtain ⟨Z143_0, Z143_1, Z143_2, Z143_3, Z143_4, Y143_0, Y143_1, Y143_2, Y143_3, Y143_4⟩ := cf5 BK292) | ((with_reducible refine gC 70 rfl ?_); refine goesL_ (some 78) rfl rfl Try.func70 (by kernel_rfl) rfl #[.agg #[.int .i64 t284, .int .i64 t285, .int .i64 t286, .int .i64 t287, .slice Ao65 t306.length co65], .int .i64 1] rfl (by (try simp only [List.map_toArray, List.map_cons, List.map_nil]); first | done | (rw [show t306.length = t288.length from (Kd.R_reads' HO_293004.out).1.symm] <;> rfl) | rfl | (simp only [List.length_drop, List.length_take]; rfl)) ?_; (with_reducible refine (laws_heldWal.calls kj93 t284 t285 t286 t287 _ _ t306 1 t307 _ ?side1 ?side2 A130.out).mono ?_); (case side1 => exact ca ((Kd.R_reads' HO_293004.out).2.2)); (case side2 => rw [show t306.length = t288.length from (Kd.R_reads' HO_293004.out).1.symm]; exact (Kd.R_reads' HO_293004.out).2.1); rintro e w144 ⟨rfl, hb⟩; refine ⟨_, rfl, ?_⟩; replace HO_271004 := Aside0.mk (Kd.R_below (rpR HO_271004.out) hb); replace HO_279004 := Aside0.mk (Kd.R_below (rpR HO_279004.out) hb); replace HO_293004 := Aside0.mk (Kd.R_below (rpR HO_293004.out) hb); replace BK246 := bv BK246 hb; replace BK247 := bv BK247 hb; replace BK270 := bv BK270 hb; replace BK278 := bv BK278 hb; replace BK292 := bv BK292 hb; replace HB := bs (w := w) hb; (try clear hb)))
            replace HO_271004 := Aside0.mk (Kd.R_drew HO_271004.out); replace HO_279004 := Aside0.mk (Kd.R_drew HO_279004.out); replace HO_293004 := Aside0.mk (Kd.R_drew HO_293004.out); replace BK246 := Aside0.mk (blk_drew BK246.out); replace BK247 := Aside0.mk (blk_drew BK247.out); replace BK270 := Aside0.mk (blk_drew BK270.out); replace BK278 := Aside0.mk (blk_drew BK278.out); replace BK292 := Aside0.mk (blk_drew BK292.out); replace HB := Aside0.mk (below_drew1 HB.out)
            refine start_ (n := 11) (S := fun w' => w'.cell? ⟨gb246, 0, none⟩ = some (.int .i64 a0_0) ∧ w'.cell? ⟨gb246, 1, none⟩ = some (.int .i64 a0_1) ∧ w'.cell? ⟨gb246, 2, none⟩ = some (.int .i64 a0_2) ∧ w'.cell? ⟨gb246, 3, none⟩ = some (.int .i64 a0_3) ∧ w'.cell? ⟨gb246, 4, none⟩ = some (.slice A0_4 l0_4.length c0_4) ∧ w'.cell? ⟨gb247, 0, none⟩ = some (.int .i64 a1_0) ∧ w'.cell? ⟨gb247, 1, none⟩ = some (.int .i64 a1_1) ∧ w'.cell? ⟨gb247, 2, none⟩ = some (.int .i64 a1_2) ∧ w'.cell? ⟨gb247, 3, none⟩ = some (.int .i64 a1_3) ∧ w'.cell? ⟨gb247, 4, none⟩ = some (.string a1_4)) (ds := []) (bo 11 0) (by kernel_rfl) rfl rfl ⟨cb 0 BK246, cb 1 BK246, cb 2 BK246, cb 3 BK246, cb 4 BK246, cb 0 BK247, cb 1 BK247, cb 2 BK247, cb 3 BK247, cb 4 BK247⟩ (fun hHeld => ?_); refine with_tabW laws_FnExactWalStep.tab27 laws_FnExactWalStep.bits27 (fun HT_ HW_ => ?_)
            generalize w144.drew = w145 at HO_271004 HO_279004 HO_293004 BK246 BK247 BK270 BK278 BK292 HB hHeld ⊢
            refine tV 0 85 (bo 11 1) ?_
            refine tV 2 87 (bo 11 5) ?_
            refine join_ (σ := Value × Value × Nat) 2 (bo 11 511) (fun s_ => [(86, .agg #[.int .i64 t308, .int .i64 t309, .int .i64 t310, .int .i64 t311, s_.1]), (88, .agg #[.int .i64 t315, .int .i64 t316, .int .i64 t317, .int .i64 t318, .string t319]), (89, .tuple #[.agg #[.int .i64 t320, .int .i64 t321, .int .i64 t322, .int .i64 t323, s_.2.1], .bool t327]), (14, .pointer (some ⟨s_.2.2, 0, none⟩)), (84, .tuple #[.agg #[.int .i64 t320, .int .i64 t321, .int .i64 t322, .int .i64 t323, s_.2.1], .bool t327]), (90, .agg #[.int .i64 t320, .int .i64 t321, .int .i64 t322, .int .i64 t323, s_.2.1]), (91, .bool t327)]) (fun s_ w' => (w'.cell? ⟨gb246, 0, none⟩ = some (.int .i64 a0_0) ∧ w'.cell? ⟨gb246, 1, none⟩ = some (.int .i64 a0_1) ∧ w'.cell? ⟨gb246, 2, none⟩ = some (.int .i64 a0_2) ∧ w'.cell? ⟨gb246, 3, none⟩ = some (.int .i64 a0_3) ∧ w'.cell? ⟨gb246, 4, none⟩ = some (.slice A0_4 l0_4.length c0_4) ∧ w'.cell? ⟨gb247, 0, none⟩ = some (.int .i64 a1_0) ∧ w'.cell? ⟨gb247, 1, none⟩ = some (.int .i64 a1_1) ∧ w'.cell? ⟨gb247, 2, none⟩ = some (.int .i64 a1_2) ∧ w'.cell? ⟨gb247, 3, none⟩ = some (.int .i64 a1_3) ∧ w'.cell? ⟨gb247, 4, none⟩ = some (.string a1_4)) ∧ (Kd.R k117 117 w' w.heap.size (fun k_ => some k_ ≠ (s_.2.1 : Value).ownBlock ∧ some k_ ≠ (.slice Ao44 t266.length co44 : Value).ownBlock ∧ some k_ ≠ (.slice Ao54 t303.length co54 : Value).ownBlock ∧ some k_ ≠ (.slice Ao65 t288.length co65 : Value).ownBlock) s_.1 t312) ∧ (Kd.R k117 117 w' w.heap.size (fun k_ => some k_ ≠ (s_.1 : Value).ownBlock ∧ some k_ ≠ (.slice Ao44 t266.length co44 : Value).ownBlock ∧ some k_ ≠ (.slice Ao54 t303.length co54 : Value).ownBlock ∧ some k_ ≠ (.slice Ao65 t288.length co65 : Value).ownBlock) s_.2.1 t324) ∧ (Kd.R k117 117 w' w.heap.size (fun k_ => some k_ ≠ (s_.1 : Value).ownBlock ∧ some k_ ≠ (s_.2.1 : Value).ownBlock ∧ some k_ ≠ (.slice Ao54 t303.length co54 : Value).ownBlock ∧ some k_ ≠ (.slice Ao65 t288.length co65 : Value).ownBlock) (.slice Ao44 t266.length co44) t266) ∧ (Kd.R k117 117 w' w.heap.size (fun k_ => some k_ ≠ (s_.1 : Value).ownBlock ∧ some k_ ≠ (s_.2.1 : Value).ownBlock ∧ some k_ ≠ (.slice Ao44 t266.length co44 : Value).ownBlock ∧ some k_ ≠ (.slice Ao65 t288.length co65 : Value).ownBlock) (.slice Ao54 t303.length co54) t303) ∧ (Kd.R k117 117 w' w.heap.size (fun k_ => some k_ ≠ (s_.1 : Value).ownBlock ∧ some k_ ≠ (s_.2.1 : Value).ownBlock ∧ some k_ ≠ (.slice Ao44 t266.length co44 : Value).ownBlock ∧ some k_ ≠ (.slice Ao54 t303.length co54 : Value).ownBlock) (.slice Ao65 t288.length co65) t306) ∧ (w'.heap[gb246]? = some (.cells #[.int .i64 a0_0, .int .i64 a0_1, .int .i64 a0_2, .int .i64 a0_3, .slice A0_4 l0_4.length c0_4] 62 (0, 0))) ∧ (w'.heap[gb247]? = some (.cells #[.int .i64 a1_0, .int .i64 a1_1, .int .i64 a1_2, .int .i64 a1_3, .string a1_4] 79 (0, 0))) ∧ (w'.heap[gb270]? = some (.cells #[.int .i64 t262, .int .i64 t263, .int .i64 t264, .int .i64 t265, .slice Ao44 t266.length co44] 67 (0, 0))) ∧ (w'.heap[gb278]? = some (.cells #[.int .i64 t271, .int .i64 t272, .int .i64 t273, .int .i64 t274, .slice Ao54 t303.length co54] 67 (0, 0))) ∧ (w'.heap[gb292]? = some (.cells #[.int .i64 t284, .int .i64 t285, .int .i64 t286, .int .i64 t287, .slice Ao65 t288.length co65] 67 (0, 0))) ∧ (w'.heap[s_.2.2]? = some (.cells #[.int .i64 0, .int .i64 0, .int .i64 0, .int .i64 0, .slice none 0 0] 67 (0, 0))) ∧ (w.heap.size ≤ s_.2.2) ∧ (w.heap.size ≤ s_.2.2) ∧ (gb246 ≠ s_.2.2) ∧ (s_.2.2 ≠ gb246) ∧ (gb247 ≠ s_.2.2) ∧ (s_.2.2 ≠ gb247) ∧ (gb270 ≠ s_.2.2) ∧ (s_.2.2 ≠ gb270) ∧ (gb278 ≠ s_.2.2) ∧ (s_.2.2 ≠ gb278) ∧ (gb292 ≠ s_.2.2) ∧ (s_.2.2 ≠ gb292) ∧ (Below w.heap.size w w')) ?_ ?_
            rotate_left
            ·intro hCont
             refine two_ (i := 1) (j := 8) (Ni := some 86) (Nj := some 14) (bo 11 7) (bo 11 261) rfl rfl rfl rfl (two_of HT_.out (by kernel_rfl)) (by decide) (by decide) (fun K hK => ?_) (fun K hK => ?_)
             ·skip
              refine goes_ Try.func57 (by kernel_rfl) rfl #[.agg #[.int .i64 a0_0, .int .i64 a0_1, .int .i64 a0_2, .int .i64 a0_3, .slice A0_4 l0_4.length c0_4]] (by rfl) rfl rfl sa ?_
              with_reducible refine (laws_toWal.calls kj93 a0_0 a0_1 a0_2 a0_3 _ _ l0_4 t308 t309 t310 t311 t312 _ ?side1 ?side2 A133.out).mono ?_
              (case side1 => exact ca (Kd.C_below HR0_4.out HB.out))
              (case side2 => exact HC0_4.out)
              rintro e w146 ⟨v313, rfl, ho0, hb⟩
              refine ⟨_, rfl, ?_⟩
              have HO314 := Aside0.mk (Kd.R_lower (Kd.R_new' (Kd.R_new' (Kd.R_new' ho0 (Kd.R_lt (rpR HO_271004.out))) (Kd.R_lt (rpR HO_279004.out))) (Kd.R_lt (rpR HO_293004.out))) (below_size bl)); replace HO_271004 := Aside0.mk (Kd.R_elder' (rpR HO_271004.out) (Kd.R_base ho0) hb); replace HO_279004 := Aside0.mk (Kd.R_elder' (rpR HO_279004.out) (Kd.R_base ho0) hb); replace HO_293004 := Aside0.mk (Kd.R_elder' (rpR HO_293004.out) (Kd.R_base ho0) hb); replace BK246 := bv BK246 hb; replace BK247 := bv BK247 hb; replace BK270 := bv BK270 hb; replace BK278 := bv BK278 hb; replace BK292 := bv BK292 hb; replace HB := bs (w := w) hb; (try clear hb hb2 hk hi ho0)
              refine hK.out _ _ ⟨cb 0 BK246, cb 1 BK246, cb 2 BK246, cb 3 BK246, cb 4 BK246, cb 0 BK247, cb 1 BK247, cb 2 BK247, cb 3 BK247, cb 4 BK247⟩ (fun hHeld => ?_)
              clear hK K
              refine norm_ (a' := ?_) ?_ ?_
              rotate_left
              ·show Act.put _ (some 86) _ = _
               simp only [Act.put, List.setIfInBounds_toArray, List.set_cons_zero, List.set_cons_succ, i64_w, i32_w]
               rfl
              refine two_ (i := 3) (j := 8) (Ni := some 88) (Nj := some 14) (bo 11 15) (bo 11 263) rfl rfl rfl rfl (two_of HT_.out (by kernel_rfl)) (by decide) (by decide) (fun K hK => ?_) (fun K hK => ?_)
              ·skip
               refine goes_ Try.func68 (by kernel_rfl) rfl #[.agg #[.int .i64 a1_0, .int .i64 a1_1, .int .i64 a1_2, .int .i64 a1_3, .string a1_4]] (by rfl) rfl rfl sa ?_
               with_reducible refine (laws_toRec.calls a1_0 a1_1 a1_2 a1_3 a1_4 t315 t316 t317 t318 t319 _ A134.out).mono ?_
               rintro e w147 ⟨rfl, hb⟩
               refine ⟨_, rfl, ?_⟩
               replace HO_271004 := Aside0.mk (Kd.R_below (rpR HO_271004.out) hb); replace HO_279004 := Aside0.mk (Kd.R_below (rpR HO_279004.out) hb); replace HO_293004 := Aside0.mk (Kd.R_below (rpR HO_293004.out) hb); replace HO314 := Aside0.mk (Kd.R_below (rpR HO314.out) hb); replace BK246 := bv BK246 hb; replace BK247 := bv BK247 hb; replace BK270 := bv BK270 hb; replace BK278 := bv BK278 hb; replace BK292 := bv BK292 hb; replace HB := bs (w := w) hb; (try clear hb hb2 hk hi)
               obtain ⟨Ao148, co148, eo148⟩ := Kd.R_slice HO314.out
               (first | subst eo148 | (injection eo148 with f1_ f2_ f3_; have f4_ := f1_.symm; have f5_ := f3_.symm; clear f1_ f2_ f3_; subst f4_; subst f5_))
               refine hK.out _ _ ⟨cb 0 BK246, cb 1 BK246, cb 2 BK246, cb 3 BK246, cb 4 BK246, cb 0 BK247, cb 1 BK247, cb 2 BK247, cb 3 BK247, cb 4 BK247⟩ (fun hHeld => ?_)
               clear hK K
               refine norm_ (a' := ?_) ?_ ?_
               rotate_left
               ·show Act.put _ (some 88) _ = _
                simp only [Act.put, List.setIfInBounds_toArray, List.set_cons_zero, List.set_cons_succ, i64_w, i32_w]
                rfl
               refine two_ (i := 4) (j := 8) (Ni := some 89) (Nj := some 14) (bo 11 31) (bo 11 271) rfl rfl rfl rfl (two_of HT_.out (by kernel_rfl)) (by decide) (by decide) (fun K hK => ?_) (fun K hK => ?_)
               ·skip
                refine goes_ Try.func69 (by kernel_rfl) rfl #[.agg #[.int .i64 t308, .int .i64 t309, .int .i64 t310, .int .i64 t311, .slice Ao148 t312.length co148], .agg #[.int .i64 t315, .int .i64 t316, .int .i64 t317, .int .i64 t318, .string t319]] (by rfl) rfl rfl sa ?_
                with_reducible refine (impl_WalStep.calls kj93 t308 t309 t310 t311 _ _ t312 t315 t316 t317 t318 t319 t320 t321 t322 t323 t324 t327 _ ?side1 ?side2 A135.out).mono ?_
                (case side1 => exact ca ((Kd.R_reads' HO314.out).2.2))
                (case side2 => exact (Kd.R_reads' HO314.out).2.1)
                rintro e w149 ⟨v325, rfl, ho0, hb⟩
                refine ⟨_, rfl, ?_⟩
                have HO326 := Aside0.mk (Kd.R_lower (Kd.R_new' (Kd.R_new' (Kd.R_new' (Kd.R_new' ho0 (Kd.R_lt (rpR HO_271004.out))) (Kd.R_lt (rpR HO_279004.out))) (Kd.R_lt (rpR HO_293004.out))) (Kd.R_lt (rpR HO314.out))) (below_size bl)); replace HO_271004 := Aside0.mk (Kd.R_elder' (rpR HO_271004.out) (Kd.R_base ho0) hb); replace HO_279004 := Aside0.mk (Kd.R_elder' (rpR HO_279004.out) (Kd.R_base ho0) hb); replace HO_293004 := Aside0.mk (Kd.R_elder' (rpR HO_293004.out) (Kd.R_base ho0) hb); replace HO314 := Aside0.mk (Kd.R_elder' (rpR HO314.out) (Kd.R_base ho0) hb); replace BK246 := bv BK246 hb; replace BK247 := bv BK247 hb; replace BK270 := bv BK270 hb; replace BK278 := bv BK278 hb; replace BK292 := bv BK292 hb; replace HB := bs (w := w) hb; (try clear hb hb2 hk hi ho0)
                refine hK.out _ _ ⟨cb 0 BK246, cb 1 BK246, cb 2 BK246, cb 3 BK246, cb 4 BK246, cb 0 BK247, cb 1 BK247, cb 2 BK247, cb 3 BK247, cb 4 BK247⟩ (fun hHeld => ?_)
                clear hK K
                refine norm_ (a' := ?_) ?_ ?_
                rotate_left
                ·show Act.put _ (some 89) _ = _
                 simp only [Act.put, List.setIfInBounds_toArray, List.set_cons_zero, List.set_cons_succ, i64_w, i32_w]
                 rfl
                refine pV 5 84 (bo 11 63) ?_
                refine pV 6 90 (bo 11 127) ?_
                refine pV 7 91 (bo 11 255) ?_
                refine one_ (i := 8) (N := some 14) (bo 11 511) rfl rfl (one_of HT_.out (by kernel_rfl)) (by decide) (fun K hK => ?_)
                refine box_step ?hg (N := 14) ?hd (cs := #[.int .i64 0, .int .i64 0, .int .i64 0, .int .i64 0, .slice none 0 0]) (t := 67) ?hr ?_; (case hd => rfl); (case hg => rfl); (case hr => first | (go_simp; done) | (go_simp; rfl))
                intro gb328 hg w150 hbox hb
                replace HO_271004 := Aside0.mk (Kd.R_below (rpR HO_271004.out) hb); replace HO_279004 := Aside0.mk (Kd.R_below (rpR HO_279004.out) hb); replace HO_293004 := Aside0.mk (Kd.R_below (rpR HO_293004.out) hb); replace HO314 := Aside0.mk (Kd.R_below (rpR HO314.out) hb); replace HO326 := Aside0.mk (Kd.R_below (rpR HO326.out) hb); have BK328 := Aside0.mk hbox; have GW328 := gw (w := w) hg; have GE328 := gw (w := w) hg; replace HB := bs (w := w) hb; have NB246_328 := nl BK246 hg; have NB328_246 := nr BK246 hg; replace BK246 := bv BK246 hb; have NB247_328 := nl BK247 hg; have NB328_247 := nr BK247 hg; replace BK247 := bv BK247 hb; have NB270_328 := nl BK270 hg; have NB328_270 := nr BK270 hg; replace BK270 := bv BK270 hb; have NB278_328 := nl BK278 hg; have NB328_278 := nr BK278 hg; replace BK278 := bv BK278 hb; have NB292_328 := nl BK292 hg; have NB328_292 := nr BK292 hg; replace BK292 := bv BK292 hb; clear hb hbox hg
                refine hK.out _ _ ⟨cb 0 BK246, cb 1 BK246, cb 2 BK246, cb 3 BK246, cb 4 BK246, cb 0 BK247, cb 1 BK247, cb 2 BK247, cb 3 BK247, cb 4 BK247⟩ (fun hHeld => ?_)
                clear hK K
                refine norm_ (a' := ?_) ?_ ?_
                rotate_left
                ·show Act.put _ (some 14) _ = _
                 simp only [Act.put, List.setIfInBounds_toArray, List.set_cons_zero, List.set_cons_succ, i64_w, i32_w]
                 rfl
                exact norm_ (by simp only [putAll, Act.put, List.setIfInBounds_toArray, List.set_cons_zero, List.set_cons_succ]) (hCont (.slice Ao148 t312.length co148, v325, gb328) _ ⟨hHeld, (rpR (Kd.R_mono HO314.out (fun _ hk => ⟨hk.2, ⟨hk.1.1.1.2, ⟨hk.1.1.2, hk.1.2⟩⟩⟩))), (rpR (Kd.R_mono HO326.out (fun _ hk => ⟨hk.2, ⟨hk.1.1.1.2, ⟨hk.1.1.2, hk.1.2⟩⟩⟩))), (rpR (Kd.R_mono HO_271004.out (fun _ hk => ⟨hk.1.2, ⟨hk.2, ⟨hk.1.1.1, hk.1.1.2⟩⟩⟩))), (rpR (Kd.R_mono HO_279004.out (fun _ hk => ⟨hk.1.2, ⟨hk.2, ⟨hk.1.1.1, hk.1.1.2⟩⟩⟩))), (rpR (Kd.R_mono HO_293004.out (fun _ hk => ⟨hk.1.2, ⟨hk.2, ⟨hk.1.1.1, hk.1.1.2⟩⟩⟩))), bk, bk, bk, bk, bk, bk, GW328.out, GE328.out, NB246_328.out, NB328_246.out, NB247_328.out, NB328_247.out, NB270_328.out, NB328_270.out, NB278_328.out, NB328_278.out, NB292_328.out, NB328_292.out, bl⟩)
               ·skip
                refine box_step ?hg (N := 14) ?hd (cs := #[.int .i64 0, .int .i64 0, .int .i64 0, .int .i64 0, .slice none 0 0]) (t := 67) ?hr ?_; (case hd => rfl); (case hg => rfl); (case hr => first | (go_simp; done) | (go_simp; rfl))
                intro gb328 hg w148 hbox hb
                replace HO_271004 := Aside0.mk (Kd.R_below (rpR HO_271004.out) hb); replace HO_279004 := Aside0.mk (Kd.R_below (rpR HO_279004.out) hb); replace HO_293004 := Aside0.mk (Kd.R_below (rpR HO_293004.out) hb); replace HO314 := Aside0.mk (Kd.R_below (rpR HO314.out) hb); have BK328 := Aside0.mk hbox; have GW328 := gw (w := w) hg; have GE328 := gw (w := w) hg; replace HB := bs (w := w) hb; have NB246_328 := nl BK246 hg; have NB328_246 := nr BK246 hg; replace BK246 := bv BK246 hb; have NB247_328 := nl BK247 hg; have NB328_247 := nr BK247 hg; replace BK247 := bv BK247 hb; have NB270_328 := nl BK270 hg; have NB328_270 := nr BK270 hg; replace BK270 := bv BK270 hb; have NB278_328 := nl BK278 hg; have NB328_278 := nr BK278 hg; replace BK278 := bv BK278 hb; have NB292_328 := nl BK292 hg; have NB328_292 := nr BK292 hg; replace BK292 := bv BK292 hb; clear hb hbox hg
                obtain ⟨Ao149, co149, eo149⟩ := Kd.R_slice HO314.out
                (first | subst eo149 | (injection eo149 with f1_ f2_ f3_; have f4_ := f1_.symm; have f5_ := f3_.symm; clear f1_ f2_ f3_; subst f4_; subst f5_))
                refine hK.out _ _ ⟨cb 0 BK246, cb 1 BK246, cb 2 BK246, cb 3 BK246, cb 4 BK246, cb 0 BK247, cb 1 BK247, cb 2 BK247, cb 3 BK247, cb 4 BK247⟩ (fun hHeld => ?_)
                clear hK K
                refine norm_ (a' := ?_) ?_ ?_
                rotate_left
                ·show Act.put _ (some 14) _ = _
                 simp only [Act.put, List.setIfInBounds_toArray, List.set_cons_zero, List.set_cons_succ, i64_w, i32_w]
                 rfl
                refine one_ (i := 4) (N := some 89) (bo 11 287) rfl rfl (one_of HT_.out (by kernel_rfl)) (by decide) (fun K hK => ?_)
                refine goes_ Try.func69 (by kernel_rfl) rfl #[.agg #[.int .i64 t308, .int .i64 t309, .int .i64 t310, .int .i64 t311, .slice Ao149 t312.length co149], .agg #[.int .i64 t315, .int .i64 t316, .int .i64 t317, .int .i64 t318, .string t319]] (by rfl) rfl rfl sa ?_
                with_reducible refine (impl_WalStep.calls kj93 t308 t309 t310 t311 _ _ t312 t315 t316 t317 t318 t319 t320 t321 t322 t323 t324 t327 _ ?side1 ?side2 A135.out).mono ?_
                (case side1 => exact ca ((Kd.R_reads' HO314.out).2.2))
                (case side2 => exact (Kd.R_reads' HO314.out).2.1)
                rintro e w150 ⟨v325, rfl, ho0, hb⟩
                refine ⟨_, rfl, ?_⟩
                have HO326 := Aside0.mk (Kd.R_lower (Kd.R_new' (Kd.R_new' (Kd.R_new' (Kd.R_new' ho0 (Kd.R_lt (rpR HO_271004.out))) (Kd.R_lt (rpR HO_279004.out))) (Kd.R_lt (rpR HO_293004.out))) (Kd.R_lt (rpR HO314.out))) (below_size bl)); replace HO_271004 := Aside0.mk (Kd.R_elder' (rpR HO_271004.out) (Kd.R_base ho0) hb); replace HO_279004 := Aside0.mk (Kd.R_elder' (rpR HO_279004.out) (Kd.R_base ho0) hb); replace HO_293004 := Aside0.mk (Kd.R_elder' (rpR HO_293004.out) (Kd.R_base ho0) hb); replace HO314 := Aside0.mk (Kd.R_elder' (rpR HO314.out) (Kd.R_base ho0) hb); replace BK246 := bv BK246 hb; replace BK247 := bv BK247 hb; replace BK270 := bv BK270 hb; replace BK278 := bv BK278 hb; replace BK292 := bv BK292 hb; replace BK328 := bv BK328 hb; replace HB := bs (w := w) hb; (try clear hb hb2 hk hi ho0)
                refine hK.out _ _ ⟨cb 0 BK246, cb 1 BK246, cb 2 BK246, cb 3 BK246, cb 4 BK246, cb 0 BK247, cb 1 BK247, cb 2 BK247, cb 3 BK247, cb 4 BK247⟩ (fun hHeld => ?_)
                clear hK K
                refine norm_ (a' := ?_) ?_ ?_
                rotate_left
                ·show Act.put _ (some 89) _ = _
                 simp only [Act.put, List.setIfInBounds_toArray, List.set_cons_zero, List.set_cons_succ, i64_w, i32_w]
                 rfl
                refine pV 5 84 (bo 11 319) ?_
                refine pV 6 90 (bo 11 383) ?_
                refine pV 7 91 (bo 11 511) ?_
                exact norm_ (by simp only [putAll, Act.put, List.setIfInBounds_toArray, List.set_cons_zero, List.set_cons_succ]) (hCont (.slice Ao149 t312.length co149, v325, gb328) _ ⟨hHeld, (rpR (Kd.R_mono HO314.out (fun _ hk => ⟨hk.2, ⟨hk.1.1.1.2, ⟨hk.1.1.2, hk.1.2⟩⟩⟩))), (rpR (Kd.R_mono HO326.out (fun _ hk => ⟨hk.2, ⟨hk.1.1.1.2, ⟨hk.1.1.2, hk.1.2⟩⟩⟩))), (rpR (Kd.R_mono HO_271004.out (fun _ hk => ⟨hk.1.2, ⟨hk.2, ⟨hk.1.1.1, hk.1.1.2⟩⟩⟩))), (rpR (Kd.R_mono HO_279004.out (fun _ hk => ⟨hk.1.2, ⟨hk.2, ⟨hk.1.1.1, hk.1.1.2⟩⟩⟩))), (rpR (Kd.R_mono HO_293004.out (fun _ hk => ⟨hk.1.2, ⟨hk.2, ⟨hk.1.1.1, hk.1.1.2⟩⟩⟩))), bk, bk, bk, bk, bk, bk, GW328.out, GE328.out, NB246_328.out, NB328_246.out, NB247_328.out, NB328_247.out, NB270_328.out, NB328_270.out, NB278_328.out, NB328_278.out, NB292_328.out, NB328_292.out, bl⟩)
              ·skip
               refine box_step ?hg (N := 14) ?hd (cs := #[.int .i64 0, .int .i64 0, .int .i64 0, .int .i64 0, .slice none 0 0]) (t := 67) ?hr ?_; (case hd => rfl); (case hg => rfl); (case hr => first | (go_simp; done) | (go_simp; rfl))
               intro gb328 hg w147 hbox hb
               replace HO_271004 := Aside0.mk (Kd.R_below (rpR HO_271004.out) hb); replace HO_279004 := Aside0.mk (Kd.R_below (rpR HO_279004.out) hb); replace HO_293004 := Aside0.mk (Kd.R_below (rpR HO_293004.out) hb); replace HO314 := Aside0.mk (Kd.R_below (rpR HO314.out) hb); have BK328 := Aside0.mk hbox; have GW328 := gw (w := w) hg; have GE328 := gw (w := w) hg; replace HB := bs (w := w) hb; have NB246_328 := nl BK246 hg; have NB328_246 := nr BK246 hg; replace BK246 := bv BK246 hb; have NB247_328 := nl BK247 hg; have NB328_247 := nr BK247 hg; replace BK247 := bv BK247 hb; have NB270_328 := nl BK270 hg; have NB328_270 := nr BK270 hg; replace BK270 := bv BK270 hb; have NB278_328 := nl BK278 hg; have NB328_278 := nr BK278 hg; replace BK278 := bv BK278 hb; have NB292_328 := nl BK292 hg; have NB328_292 := nr BK292 hg; replace BK292 := bv BK292 hb; clear hb hbox hg
               refine hK.out _ _ ⟨cb 0 BK246, cb 1 BK246, cb 2 BK246, cb 3 BK246, cb 4 BK246, cb 0 BK247, cb 1 BK247, cb 2 BK247, cb 3 BK247, cb 4 BK247⟩ (fun hHeld => ?_)
               clear hK K
               refine norm_ (a' := ?_) ?_ ?_
               rotate_left
               ·show Act.put _ (some 14) _ = _
                simp only [Act.put, List.setIfInBounds_toArray, List.set_cons_zero, List.set_cons_succ, i64_w, i32_w]
                rfl
               refine one_ (i := 3) (N := some 88) (bo 11 271) rfl rfl (one_of HT_.out (by kernel_rfl)) (by decide) (fun K hK => ?_)
               refine goes_ Try.func68 (by kernel_rfl) rfl #[.agg #[.int .i64 a1_0, .int .i64 a1_1, .int .i64 a1_2, .int .i64 a1_3, .string a1_4]] (by rfl) rfl rfl sa ?_
               with_reducible refine (laws_toRec.calls a1_0 a1_1 a1_2 a1_3 a1_4 t315 t316 t317 t318 t319 _ A134.out).mono ?_
               rintro e w148 ⟨rfl, hb⟩
               refine ⟨_, rfl, ?_⟩
               replace HO_271004 := Aside0.mk (Kd.R_below (rpR HO_271004.out) hb); replace HO_279004 := Aside0.mk (Kd.R_below (rpR HO_279004.out) hb); replace HO_293004 := Aside0.mk (Kd.R_below (rpR HO_293004.out) hb); replace HO314 := Aside0.mk (Kd.R_below (rpR HO314.out) hb); replace BK246 := bv BK246 hb; replace BK247 := bv BK247 hb; replace BK270 := bv BK270 hb; replace BK278 := bv BK278 hb; replace BK292 := bv BK292 hb; replace BK328 := bv BK328 hb; replace HB := bs (w := w) hb; (try clear hb hb2 hk hi)
               obtain ⟨Ao149, co149, eo149⟩ := Kd.R_slice HO314.out
               (first | subst eo149 | (injection eo149 with f1_ f2_ f3_; have f4_ := f1_.symm; have f5_ := f3_.symm; clear f1_ f2_ f3_; subst f4_; subst f5_))
               refine hK.out _ _ ⟨cb 0 BK246, cb 1 BK246, cb 2 BK246, cb 3 BK246, cb 4 BK246, cb 0 BK247, cb 1 BK247, cb 2 BK247, cb 3 BK247, cb 4 BK247⟩ (fun hHeld => ?_)
               clear hK K
               refine norm_ (a' := ?_) ?_ ?_
               rotate_left
               ·show Act.put _ (some 88) _ = _
                simp only [Act.put, List.setIfInBounds_toArray, List.set_cons_zero, List.set_cons_succ, i64_w, i32_w]
                rfl
               refine one_ (i := 4) (N := some 89) (bo 11 287) rfl rfl (one_of HT_.out (by kernel_rfl)) (by decide) (fun K hK => ?_)
               refine goes_ Try.func69 (by kernel_rfl) rfl #[.agg #[.int .i64 t308, .int .i64 t309, .int .i64 t310, .int .i64 t311, .slice Ao149 t312.length co149], .agg #[.int .i64 t315, .int .i64 t316, .int .i64 t317, .int .i64 t318, .string t319]] (by rfl) rfl rfl sa ?_
               with_reducible refine (impl_WalStep.calls kj93 t308 t309 t310 t311 _ _ t312 t315 t316 t317 t318 t319 t320 t321 t322 t323 t324 t327 _ ?side1 ?side2 A135.out).mono ?_
               (case side1 => exact ca ((Kd.R_reads' HO314.out).2.2))
               (case side2 => exact (Kd.R_reads' HO314.out).2.1)
               rintro e w150 ⟨v325, rfl, ho0, hb⟩
               refine ⟨_, rfl, ?_⟩
               have HO326 := Aside0.mk (Kd.R_lower (Kd.R_new' (Kd.R_new' (Kd.R_new' (Kd.R_new' ho0 (Kd.R_lt (rpR HO_271004.out))) (Kd.R_lt (rpR HO_279004.out))) (Kd.R_lt (rpR HO_293004.out))) (Kd.R_lt (rpR HO314.out))) (below_size bl)); replace HO_271004 := Aside0.mk (Kd.R_elder' (rpR HO_271004.out) (Kd.R_base ho0) hb); replace HO_279004 := Aside0.mk (Kd.R_elder' (rpR HO_279004.out) (Kd.R_base ho0) hb); replace HO_293004 := Aside0.mk (Kd.R_elder' (rpR HO_293004.out) (Kd.R_base ho0) hb); replace HO314 := Aside0.mk (Kd.R_elder' (rpR HO314.out) (Kd.R_base ho0) hb); replace BK246 := bv BK246 hb; replace BK247 := bv BK247 hb; replace BK270 := bv BK270 hb; replace BK278 := bv BK278 hb; replace BK292 := bv BK292 hb; replace BK328 := bv BK328 hb; replace HB := bs (w := w) hb; (try clear hb hb2 hk hi ho0)
               refine hK.out _ _ ⟨cb 0 BK246, cb 1 BK246, cb 2 BK246, cb 3 BK246, cb 4 BK246, cb 0 BK247, cb 1 BK247, cb 2 BK247, cb 3 BK247, cb 4 BK247⟩ (fun hHeld => ?_)
               clear hK K
               refine norm_ (a' := ?_) ?_ ?_
               rotate_left
               ·show Act.put _ (some 89) _ = _
                simp only [Act.put, List.setIfInBounds_toArray, List.set_cons_zero, List.set_cons_succ, i64_w, i32_w]
                rfl
               refine pV 5 84 (bo 11 319) ?_
               refine pV 6 90 (bo 11 383) ?_
               refine pV 7 91 (bo 11 511) ?_
               exact norm_ (by simp only [putAll, Act.put, List.setIfInBounds_toArray, List.set_cons_zero, List.set_cons_succ]) (hCont (.slice Ao149 t312.length co149, v325, gb328) _ ⟨hHeld, (rpR (Kd.R_mono HO314.out (fun _ hk => ⟨hk.2, ⟨hk.1.1.1.2, ⟨hk.1.1.2, hk.1.2⟩⟩⟩))), (rpR (Kd.R_mono HO326.out (fun _ hk => ⟨hk.2, ⟨hk.1.1.1.2, ⟨hk.1.1.2, hk.1.2⟩⟩⟩))), (rpR (Kd.R_mono HO_271004.out (fun _ hk => ⟨hk.1.2, ⟨hk.2, ⟨hk.1.1.1, hk.1.1.2⟩⟩⟩))), (rpR (Kd.R_mono HO_279004.out (fun _ hk => ⟨hk.1.2, ⟨hk.2, ⟨hk.1.1.1, hk.1.1.2⟩⟩⟩))), (rpR (Kd.R_mono HO_293004.out (fun _ hk => ⟨hk.1.2, ⟨hk.2, ⟨hk.1.1.1, hk.1.1.2⟩⟩⟩))), bk, bk, bk, bk, bk, bk, GW328.out, GE328.out, NB246_328.out, NB328_246.out, NB247_328.out, NB328_247.out, NB270_328.out, NB328_270.out, NB278_328.out, NB328_278.out, NB292_328.out, NB328_292.out, bl⟩)
             ·skip
              refine box_step ?hg (N := 14) ?hd (cs := #[.int .i64 0, .int .i64 0, .int .i64 0, .int .i64 0, .slice none 0 0]) (t := 67) ?hr ?_; (case hd => rfl); (case hg => rfl); (case hr => first | (go_simp; done) | (go_simp; rfl))
              intro gb328 hg w146 hbox hb
              replace HO_271004 := Aside0.mk (Kd.R_below (rpR HO_271004.out) hb); replace HO_279004 := Aside0.mk (Kd.R_below (rpR HO_279004.out) hb); replace HO_293004 := Aside0.mk (Kd.R_below (rpR HO_293004.out) hb); have BK328 := Aside0.mk hbox; have GW328 := gw (w := w) hg; have GE328 := gw (w := w) hg; replace HB := bs (w := w) hb; have NB246_328 := nl BK246 hg; have NB328_246 := nr BK246 hg; replace BK246 := bv BK246 hb; have NB247_328 := nl BK247 hg; have NB328_247 := nr BK247 hg; replace BK247 := bv BK247 hb; have NB270_328 := nl BK270 hg; have NB328_270 := nr BK270 hg; replace BK270 := bv BK270 hb; have NB278_328 := nl BK278 hg; have NB328_278 := nr BK278 hg; replace BK278 := bv BK278 hb; have NB292_328 := nl BK292 hg; have NB328_292 := nr BK292 hg; replace BK292 := bv BK292 hb; clear hb hbox hg
              refine hK.out _ _ ⟨cb 0 BK246, cb 1 BK246, cb 2 BK246, cb 3 BK246, cb 4 BK246, cb 0 BK247, cb 1 BK247, cb 2 BK247, cb 3 BK247, cb 4 BK247⟩ (fun hHeld => ?_)
              clear hK K
              refine norm_ (a' := ?_) ?_ ?_
              rotate_left
              ·show Act.put _ (some 14) _ = _
               simp only [Act.put, List.setIfInBounds_toArray, List.set_cons_zero, List.set_cons_succ, i64_w, i32_w]
               rfl
              refine one_ (i := 1) (N := some 86) (bo 11 263) rfl rfl (one_of HT_.out (by kernel_rfl)) (by decide) (fun K hK => ?_)
              refine goes_ Try.func57 (by kernel_rfl) rfl #[.agg #[.int .i64 a0_0, .int .i64 a0_1, .int .i64 a0_2, .int .i64 a0_3, .slice A0_4 l0_4.length c0_4]] (by rfl) rfl rfl sa ?_
              with_reducible refine (laws_toWal.calls kj93 a0_0 a0_1 a0_2 a0_3 _ _ l0_4 t308 t309 t310 t311 t312 _ ?side1 ?side2 A133.out).mono ?_
              (case side1 => exact ca (Kd.C_below HR0_4.out HB.out))
              (case side2 => exact HC0_4.out)
              rintro e w147 ⟨v313, rfl, ho0, hb⟩
              refine ⟨_, rfl, ?_⟩
              have HO314 := Aside0.mk (Kd.R_lower (Kd.R_new' (Kd.R_new' (Kd.R_new' ho0 (Kd.R_lt (rpR HO_271004.out))) (Kd.R_lt (rpR HO_279004.out))) (Kd.R_lt (rpR HO_293004.out))) (below_size bl)); replace HO_271004 := Aside0.mk (Kd.R_elder' (rpR HO_271004.out) (Kd.R_base ho0) hb); replace HO_279004 := Aside0.mk (Kd.R_elder' (rpR HO_279004.out) (Kd.R_base ho0) hb); replace HO_293004 := Aside0.mk (Kd.R_elder' (rpR HO_293004.out) (Kd.R_base ho0) hb); replace BK246 := bv BK246 hb; replace BK247 := bv BK247 hb; replace BK270 := bv BK270 hb; replace BK278 := bv BK278 hb; replace BK292 := bv BK292 hb; replace BK328 := bv BK328 hb; replace HB := bs (w := w) hb; (try clear hb hb2 hk hi ho0)
              refine hK.out _ _ ⟨cb 0 BK246, cb 1 BK246, cb 2 BK246, cb 3 BK246, cb 4 BK246, cb 0 BK247, cb 1 BK247, cb 2 BK247, cb 3 BK247, cb 4 BK247⟩ (fun hHeld => ?_)
              clear hK K
              refine norm_ (a' := ?_) ?_ ?_
              rotate_left
              ·show Act.put _ (some 86) _ = _
               simp only [Act.put, List.setIfInBounds_toArray, List.set_cons_zero, List.set_cons_succ, i64_w, i32_w]
               rfl
              refine one_ (i := 3) (N := some 88) (bo 11 271) rfl rfl (one_of HT_.out (by kernel_rfl)) (by decide) (fun K hK => ?_)
              refine goes_ Try.func68 (by kernel_rfl) rfl #[.agg #[.int .i64 a1_0, .int .i64 a1_1, .int .i64 a1_2, .int .i64 a1_3, .string a1_4]] (by rfl) rfl rfl sa ?_
              with_reducible refine (laws_toRec.calls a1_0 a1_1 a1_2 a1_3 a1_4 t315 t316 t317 t318 t319 _ A134.out).mono ?_
              rintro e w148 ⟨rfl, hb⟩
              refine ⟨_, rfl, ?_⟩
              replace HO_271004 := Aside0.mk (Kd.R_below (rpR HO_271004.out) hb); replace HO_279004 := Aside0.mk (Kd.R_below (rpR HO_279004.out) hb); replace HO_293004 := Aside0.mk (Kd.R_below (rpR HO_293004.out) hb); replace HO314 := Aside0.mk (Kd.R_below (rpR HO314.out) hb); replace BK246 := bv BK246 hb; replace BK247 := bv BK247 hb; replace BK270 := bv BK270 hb; replace BK278 := bv BK278 hb; replace BK292 := bv BK292 hb; replace BK328 := bv BK328 hb; replace HB := bs (w := w) hb; (try clear hb hb2 hk hi)
              obtain ⟨Ao149, co149, eo149⟩ := Kd.R_slice HO314.out
              (first | subst eo149 | (injection eo149 with f1_ f2_ f3_; have f4_ := f1_.symm; have f5_ := f3_.symm; clear f1_ f2_ f3_; subst f4_; subst f5_))
              refine hK.out _ _ ⟨cb 0 BK246, cb 1 BK246, cb 2 BK246, cb 3 BK246, cb 4 BK246, cb 0 BK247, cb 1 BK247, cb 2 BK247, cb 3 BK247, cb 4 BK247⟩ (fun hHeld => ?_)
              clear hK K
              refine norm_ (a' := ?_) ?_ ?_
              rotate_left
              ·show Act.put _ (some 88) _ = _
               simp only [Act.put, List.setIfInBounds_toArray, List.set_cons_zero, List.set_cons_succ, i64_w, i32_w]
               rfl
              refine one_ (i := 4) (N := some 89) (bo 11 287) rfl rfl (one_of HT_.out (by kernel_rfl)) (by decide) (fun K hK => ?_)
              refine goes_ Try.func69 (by kernel_rfl) rfl #[.agg #[.int .i64 t308, .int .i64 t309, .int .i64 t310, .int .i64 t311, .slice Ao149 t312.length co149], .agg #[.int .i64 t315, .int .i64 t316, .int .i64 t317, .int .i64 t318, .string t319]] (by rfl) rfl rfl sa ?_
              with_reducible refine (impl_WalStep.calls kj93 t308 t309 t310 t311 _ _ t312 t315 t316 t317 t318 t319 t320 t321 t322 t323 t324 t327 _ ?side1 ?side2 A135.out).mono ?_
              (case side1 => exact ca ((Kd.R_reads' HO314.out).2.2))
              (case side2 => exact (Kd.R_reads' HO314.out).2.1)
              rintro e w150 ⟨v325, rfl, ho0, hb⟩
              refine ⟨_, rfl, ?_⟩
              have HO326 := Aside0.mk (Kd.R_lower (Kd.R_new' (Kd.R_new' (Kd.R_new' (Kd.R_new' ho0 (Kd.R_lt (rpR HO_271004.out))) (Kd.R_lt (rpR HO_279004.out))) (Kd.R_lt (rpR HO_293004.out))) (Kd.R_lt (rpR HO314.out))) (below_size bl)); replace HO_271004 := Aside0.mk (Kd.R_elder' (rpR HO_271004.out) (Kd.R_base ho0) hb); replace HO_279004 := Aside0.mk (Kd.R_elder' (rpR HO_279004.out) (Kd.R_base ho0) hb); replace HO_293004 := Aside0.mk (Kd.R_elder' (rpR HO_293004.out) (Kd.R_base ho0) hb); replace HO314 := Aside0.mk (Kd.R_elder' (rpR HO314.out) (Kd.R_base ho0) hb); replace BK246 := bv BK246 hb; replace BK247 := bv BK247 hb; replace BK270 := bv BK270 hb; replace BK278 := bv BK278 hb; replace BK292 := bv BK292 hb; replace BK328 := bv BK328 hb; replace HB := bs (w := w) hb; (try clear hb hb2 hk hi ho0)
              refine hK.out _ _ ⟨cb 0 BK246, cb 1 BK246, cb 2 BK246, cb 3 BK246, cb 4 BK246, cb 0 BK247, cb 1 BK247, cb 2 BK247, cb 3 BK247, cb 4 BK247⟩ (fun hHeld => ?_)
              clear hK K
              refine norm_ (a' := ?_) ?_ ?_
              rotate_left
              ·show Act.put _ (some 89) _ = _
               simp only [Act.put, List.setIfInBounds_toArray, List.set_cons_zero, List.set_cons_succ, i64_w, i32_w]
               rfl
              refine pV 5 84 (bo 11 319) ?_
              refine pV 6 90 (bo 11 383) ?_
              refine pV 7 91 (bo 11 511) ?_
              exact norm_ (by simp only [putAll, Act.put, List.setIfInBounds_toArray, List.set_cons_zero, List.set_cons_succ]) (hCont (.slice Ao149 t312.length co149, v325, gb328) _ ⟨hHeld, (rpR (Kd.R_mono HO314.out (fun _ hk => ⟨hk.2, ⟨hk.1.1.1.2, ⟨hk.1.1.2, hk.1.2⟩⟩⟩))), (rpR (Kd.R_mono HO326.out (fun _ hk => ⟨hk.2, ⟨hk.1.1.1.2, ⟨hk.1.1.2, hk.1.2⟩⟩⟩))), (rpR (Kd.R_mono HO_271004.out (fun _ hk => ⟨hk.1.2, ⟨hk.2, ⟨hk.1.1.1, hk.1.1.2⟩⟩⟩))), (rpR (Kd.R_mono HO_279004.out (fun _ hk => ⟨hk.1.2, ⟨hk.2, ⟨hk.1.1.1, hk.1.1.2⟩⟩⟩))), (rpR (Kd.R_mono HO_293004.out (fun _ hk => ⟨hk.1.2, ⟨hk.2, ⟨hk.1.1.1, hk.1.1.2⟩⟩⟩))), bk, bk, bk, bk, bk, bk, GW328.out, GE328.out, NB246_328.out, NB328_246.out, NB247_328.out, NB328_247.out, NB270_328.out, NB328_270.out, NB278_328.out, NB328_278.out, NB292_328.out, NB328_292.out, bl⟩)
            rintro ⟨v313, v325, gb328⟩ w151 ⟨hS_, h0_, h1_, h2_, h3_, h4_, h5_, h6_, h7_, h8_, h9_, h10_, h11_, h12_, h13_, h14_, h15_, h16_, h17_, h18_, h19_, h20_, h21_, h22_, h23_⟩
            have n0_ : Aside0 (Kd.R k117 117 w151 w.heap.size (fun k_ => some k_ ≠ (v325 : Value).ownBlock ∧ some k_ ≠ (.slice Ao44 t266.length co44 : Value).ownBlock ∧ some k_ ≠ (.slice Ao54 t303.length co54 : Value).ownBlock ∧ some k_ ≠ (.slice Ao65 t288.length co65 : Value).ownBlock) v313 t312) := ⟨h0_⟩
            have n1_ : Aside0 (Kd.R k117 117 w151 w.heap.size (fun k_ => some k_ ≠ (v313 : Value).ownBlock ∧ some k_ ≠ (.slice Ao44 t266.length co44 : Value).ownBlock ∧ some k_ ≠ (.slice Ao54 t303.length co54 : Value).ownBlock ∧ some k_ ≠ (.slice Ao65 t288.length co65 : Value).ownBlock) v325 t324) := ⟨h1_⟩
            have n2_ : Aside0 (Kd.R k117 117 w151 w.heap.size (fun k_ => some k_ ≠ (v313 : Value).ownBlock ∧ some k_ ≠ (v325 : Value).ownBlock ∧ some k_ ≠ (.slice Ao54 t303.length co54 : Value).ownBlock ∧ some k_ ≠ (.slice Ao65 t288.length co65 : Value).ownBlock) (.slice Ao44 t266.length co44) t266) := ⟨h2_⟩
            have n3_ : Aside0 (Kd.R k117 117 w151 w.heap.size (fun k_ => some k_ ≠ (v313 : Value).ownBlock ∧ some k_ ≠ (v325 : Value).ownBlock ∧ some k_ ≠ (.slice Ao44 t266.length co44 : Value).ownBlock ∧ some k_ ≠ (.slice Ao65 t288.length co65 : Value).ownBlock) (.slice Ao54 t303.length co54) t303) := ⟨h3_⟩
            have n4_ : Aside0 (Kd.R k117 117 w151 w.heap.size (fun k_ => some k_ ≠ (v313 : Value).ownBlock ∧ some k_ ≠ (v325 : Value).ownBlock ∧ some k_ ≠ (.slice Ao44 t266.length co44 : Value).ownBlock ∧ some k_ ≠ (.slice Ao54 t303.length co54 : Value).ownBlock) (.slice Ao65 t288.length co65) t306) := ⟨h4_⟩
            have n5_ : Aside0 (w151.heap[gb246]? = some (.cells #[.int .i64 a0_0, .int .i64 a0_1, .int .i64 a0_2, .int .i64 a0_3, .slice A0_4 l0_4.length c0_4] 62 (0, 0))) := ⟨h5_⟩
            have n6_ : Aside0 (w151.heap[gb247]? = some (.cells #[.int .i64 a1_0, .int .i64 a1_1, .int .i64 a1_2, .int .i64 a1_3, .string a1_4] 79 (0, 0))) := ⟨h6_⟩
            have n7_ : Aside0 (w151.heap[gb270]? = some (.cells #[.int .i64 t262, .int .i64 t263, .int .i64 t264, .int .i64 t265, .slice Ao44 t266.length co44] 67 (0, 0))) := ⟨h7_⟩
            have n8_ : Aside0 (w151.heap[gb278]? = some (.cells #[.int .i64 t271, .int .i64 t272, .int .i64 t273, .int .i64 t274, .slice Ao54 t303.length co54] 67 (0, 0))) := ⟨h8_⟩
            have n9_ : Aside0 (w151.heap[gb292]? = some (.cells #[.int .i64 t284, .int .i64 t285, .int .i64 t286, .int .i64 t287, .slice Ao65 t288.length co65] 67 (0, 0))) := ⟨h9_⟩
            have n10_ : Aside0 (w151.heap[gb328]? = some (.cells #[.int .i64 0, .int .i64 0, .int .i64 0, .int .i64 0, .slice none 0 0] 67 (0, 0))) := ⟨h10_⟩
            have n11_ : Aside0 (w.heap.size ≤ gb328) := ⟨h11_⟩
            have n12_ : Aside0 (w.heap.size ≤ gb328) := ⟨h12_⟩
            have n13_ : Aside0 (gb246 ≠ gb328) := ⟨h13_⟩
            have n14_ : Aside0 (gb328 ≠ gb246) := ⟨h14_⟩
            have n15_ : Aside0 (gb247 ≠ gb328) := ⟨h15_⟩
            have n16_ : Aside0 (gb328 ≠ gb247) := ⟨h16_⟩
            have n17_ : Aside0 (gb270 ≠ gb328) := ⟨h17_⟩
            have n18_ : Aside0 (gb328 ≠ gb270) := ⟨h18_⟩
            have n19_ : Aside0 (gb278 ≠ gb328) := ⟨h19_⟩
            have n20_ : Aside0 (gb328 ≠ gb278) := ⟨h20_⟩
            have n21_ : Aside0 (gb292 ≠ gb328) := ⟨h21_⟩
            have n22_ : Aside0 (gb328 ≠ gb292) := ⟨h22_⟩
            have n23_ : Aside0 (Below w.heap.size w w151) := ⟨h23_⟩
            clear HO_271004
            clear HO_279004
            clear HO_293004
            clear BK246
            clear BK247
            clear BK270
            clear BK278
            clear BK292
            clear HB
            clear h0_ h1_ h2_ h3_ h4_ h5_ h6_ h7_ h8_ h9_ h10_ h11_ h12_ h13_ h14_ h15_ h16_ h17_ h18_ h19_ h20_ h21_ h22_ h23_
            have HO314 := n0_
            have HO326 := n1_
            have HO_271004 := n2_
            have HO_279004 := n3_
            have HO_293004 := n4_
            have BK246 := n5_
            have BK247 := n6_
            have BK270 := n7_
            have BK278 := n8_
            have BK292 := n9_
            have BK328 := n10_
            have GW328 := n11_
            have GE328 := n12_
            have NB246_328 := n13_
            have NB328_246 := n14_
            have NB247_328 := n15_
            have NB328_247 := n16_
            have NB270_328 := n17_
            have NB328_270 := n18_
            have NB278_328 := n19_
            have NB328_278 := n20_
            have NB292_328 := n21_
            have NB328_292 := n22_
            have HB := n23_
            clear n0_ n1_ n2_ n3_ n4_ n5_ n6_ n7_ n8_ n9_ n10_ n11_ n12_ n13_ n14_ n15_ n16_ n17_ n18_ n19_ n20_ n21_ n22_ n23_
            have hHeld : w151.cell? ⟨gb246, 0, none⟩ = some (.int .i64 a0_0) ∧ w151.cell? ⟨gb246, 1, none⟩ = some (.int .i64 a0_1) ∧ w151.cell? ⟨gb246, 2, none⟩ = some (.int .i64 a0_2) ∧ w151.cell? ⟨gb246, 3, none⟩ = some (.int .i64 a0_3) ∧ w151.cell? ⟨gb246, 4, none⟩ = some (.slice A0_4 l0_4.length c0_4) ∧ w151.cell? ⟨gb247, 0, none⟩ = some (.int .i64 a1_0) ∧ w151.cell? ⟨gb247, 1, none⟩ = some (.int .i64 a1_1) ∧ w151.cell? ⟨gb247, 2, none⟩ = some (.int .i64 a1_2) ∧ w151.cell? ⟨gb247, 3, none⟩ = some (.int .i64 a1_3) ∧ w151.cell? ⟨gb247, 4, none⟩ = some (.string a1_4) := hS_
            obtain ⟨Ao156, co156, eo156⟩ := Kd.R_slice HO326.out
            (first | subst eo156 | (injection eo156 with f1_ f2_ f3_; have f4_ := f1_.symm; have f5_ := f3_.symm; clear f1_ f2_ f3_; subst f4_; subst f5_))
            refine norm_ (a' := ?_) ?_ ?_
            rotate_left
            ·simp only [putAll, Act.put, List.setIfInBounds_toArray, List.set_cons_zero, List.set_cons_succ]
             rfl
            refine one_ (i := 9) (N := none) (bo 11 1023) rfl rfl (one_of HT_.out (by kernel_rfl)) (by decide) (fun K hK => ?_)
            have hs152 : w151.cell? ⟨gb328, 0, none⟩ = some (.int .i64 0) := cb 0 BK328
            have hfs152 := blk_frozen BK328.out 0
            have hns152_0 := NB246_328.out
            have hns152_1 := NB247_328.out
            have hns152_2 := NB270_328.out
            have hns152_3 := NB278_328.out
            have hns152_4 := NB292_328.out
            have hms152_0 := NB328_246.out
            have hms152_1 := NB328_247.out
            have hms152_2 := NB328_270.out
            have hms152_3 := NB328_278.out
            have hms152_4 := NB328_292.out
            have hs153 : w151.cell? ⟨gb328, 1, none⟩ = some (.int .i64 0) := cb 1 BK328
            have hfs153 := blk_frozen BK328.out 1
            have hns153_0 := NB246_328.out
            have hns153_1 := NB247_328.out
            have hns153_2 := NB270_328.out
            have hns153_3 := NB278_328.out
            have hns153_4 := NB292_328.out
            have hms153_0 := NB328_246.out
            have hms153_1 := NB328_247.out
            have hms153_2 := NB328_270.out
            have hms153_3 := NB328_278.out
            have hms153_4 := NB328_292.out
            have hs154 : w151.cell? ⟨gb328, 2, none⟩ = some (.int .i64 0) := cb 2 BK328
            have hfs154 := blk_frozen BK328.out 2
            have hns154_0 := NB246_328.out
            have hns154_1 := NB247_328.out
            have hns154_2 := NB270_328.out
            have hns154_3 := NB278_328.out
            have hns154_4 := NB292_328.out
            have hms154_0 := NB328_246.out
            have hms154_1 := NB328_247.out
            have hms154_2 := NB328_270.out
            have hms154_3 := NB328_278.out
            have hms154_4 := NB328_292.out
            have hs155 : w151.cell? ⟨gb328, 3, none⟩ = some (.int .i64 0) := cb 3 BK328
            have hfs155 := blk_frozen BK328.out 3
            have hns155_0 := NB246_328.out
            have hns155_1 := NB247_328.out
            have hns155_2 := NB270_328.out
            have hns155_3 := NB278_328.out
            have hns155_4 := NB292_328.out
            have hms155_0 := NB328_246.out
            have hms155_1 := NB328_247.out
            have hms155_2 := NB328_270.out
            have hms155_3 := NB328_278.out
            have hms155_4 := NB328_292.out
            have hs157 : w151.cell? ⟨gb328, 4, none⟩ = some (.slice none 0 0) := cb 4 BK328
            have hfs157 := blk_frozen BK328.out 4
            have hns157_0 := NB246_328.out
            have hns157_1 := NB247_328.out
            have hns157_2 := NB270_328.out
            have hns157_3 := NB278_328.out
            have hns157_4 := NB292_328.out
            have hms157_0 := NB328_246.out
            have hms157_1 := NB328_247.out
            have hms157_2 := NB328_270.out
            have hms157_3 := NB328_278.out
            have hms157_4 := NB328_292.out
            refine skip_ (w1 := ?_) (by rfl) rfl ?_ ?_
            rotate_left
            ·go_simp
             rfl
            refine hK.out _ _ ⟨((cell_far (p := ⟨gb328, _, none⟩) NB246_328.out _).trans (((cell_far (p := ⟨gb328, _, none⟩) NB246_328.out _).trans (((cell_far (p := ⟨gb328, _, none⟩) NB246_328.out _).trans (((cell_far (p := ⟨gb328, _, none⟩) NB246_328.out _).trans (((cell_far (p := ⟨gb328, _, none⟩) NB246_328.out _).trans (hHeld.1)))))))))), ((cell_far (p := ⟨gb328, _, none⟩) NB246_328.out _).trans (((cell_far (p := ⟨gb328, _, none⟩) NB246_328.out _).trans (((cell_far (p := ⟨gb328, _, none⟩) NB246_328.out _).trans (((cell_far (p := ⟨gb328, _, none⟩) NB246_328.out _).trans (((cell_far (p := ⟨gb328, _, none⟩) NB246_328.out _).trans (hHeld.2.1)))))))))), ((cell_far (p := ⟨gb328, _, none⟩) NB246_328.out _).trans (((cell_far (p := ⟨gb328, _, none⟩) NB246_328.out _).trans (((cell_far (p := ⟨gb328, _, none⟩) NB246_328.out _).trans (((cell_far (p := ⟨gb328, _, none⟩) NB246_328.out _).trans (((cell_far (p := ⟨gb328, _, none⟩) NB246_328.out _).trans (hHeld.2.2.1)))))))))), ((cell_far (p := ⟨gb328, _, none⟩) NB246_328.out _).trans (((cell_far (p := ⟨gb328, _, none⟩) NB246_328.out _).trans (((cell_far (p := ⟨gb328, _, none⟩) NB246_328.out _).trans (((cell_far (p := ⟨gb328, _, none⟩) NB246_328.out _).trans (((cell_far (p := ⟨gb328, _, none⟩) NB246_328.out _).trans (hHeld.2.2.2.1)))))))))), ((cell_far (p := ⟨gb328, _, none⟩) NB246_328.out _).trans (((cell_far (p := ⟨gb328, _, none⟩) NB246_328.out _).trans (((cell_far (p := ⟨gb328, _, none⟩) NB246_328.out _).trans (((cell_far (p := ⟨gb328, _, none⟩) NB246_328.out _).trans (((cell_far (p := ⟨gb328, _, none⟩) NB246_328.out _).trans (hHeld.2.2.2.2.1)))))))))), ((cell_far (p := ⟨gb328, _, none⟩) NB247_328.out _).trans (((cell_far (p := ⟨gb328, _, none⟩) NB247_328.out _).trans (((cell_far (p := ⟨gb328, _, none⟩) NB247_328.out _).trans (((cell_far (p := ⟨gb328, _, none⟩) NB247_328.out _).trans (((cell_far (p := ⟨gb328, _, none⟩) NB247_328.out _).trans (hHeld.2.2.2.2.2.1)))))))))), ((cell_far (p := ⟨gb328, _, none⟩) NB247_328.out _).trans (((cell_far (p := ⟨gb328, _, none⟩) NB247_328.out _).trans (((cell_far (p := ⟨gb328, _, none⟩) NB247_328.out _).trans (((cell_far (p := ⟨gb328, _, none⟩) NB247_328.out _).trans (((cell_far (p := ⟨gb328, _, none⟩) NB247_328.out _).trans (hHeld.2.2.2.2.2.2.1)))))))))), ((cell_far (p := ⟨gb328, _, none⟩) NB247_328.out _).trans (((cell_far (p := ⟨gb328, _, none⟩) NB247_328.out _).trans (((cell_far (p := ⟨gb328, _, none⟩) NB247_328.out _).trans (((cell_far (p := ⟨gb328, _, none⟩) NB247_328.out _).trans (((cell_far (p := ⟨gb328, _, none⟩) NB247_328.out _).trans (hHeld.2.2.2.2.2.2.2.1)))))))))), ((cell_far (p := ⟨gb328, _, none⟩) NB247_328.out _).trans (((cell_far (p := ⟨gb328, _, none⟩) NB247_328.out _).trans (((cell_far (p := ⟨gb328, _, none⟩) NB247_328.out _).trans (((cell_far (p := ⟨gb328, _, none⟩) NB247_328.out _).trans (((cell_far (p := ⟨gb328, _, none⟩) NB247_328.out _).trans (hHeld.2.2.2.2.2.2.2.2.1)))))))))), ((cell_far (p := ⟨gb328, _, none⟩) NB247_328.out _).trans (((cell_far (p := ⟨gb328, _, none⟩) NB247_328.out _).trans (((cell_far (p := ⟨gb328, _, none⟩) NB247_328.out _).trans (((cell_far (p := ⟨gb328, _, none⟩) NB247_328.out _).trans (((cell_far (p := ⟨gb328, _, none⟩) NB247_328.out _).trans (hHeld.2.2.2.2.2.2.2.2.2))))))))))⟩ (fun hHeld => ?_)
            clear hK K
            refine pV 10 15 (bo 11 2047) ?_
            refine done_ (done_of HT_.out (by kernel_rfl)) ?_
            go_upto_region 28 with (fail)
            go_cut [100] (fun v100 wc => ∃ (kq : Nat) (x100_135 : Bool), v100 = .bool x100_135 ∧ Aside0 (laws_FnExactWalStep.j2 kq t305 x100_135 t284 t285 t286 t287 t306 = some r) ∧ Aside0 (kq ≤ kj93) ∧ Aside0 (Kd.R k117 117 wc w.heap.size (fun k_ => some k_ ≠ ((.slice Ao54 t303.length co54) : Value).ownBlock ∧ some k_ ≠ ((.slice Ao65 t288.length co65) : Value).ownBlock ∧ some k_ ≠ ((.slice Ao156 t324.length co156) : Value).ownBlock) (.slice Ao44 t266.length co44) t266) ∧ Aside0 (Kd.R k117 117 wc w.heap.size (fun k_ => some k_ ≠ ((.slice Ao44 t266.length co44) : Value).ownBlock ∧ some k_ ≠ ((.slice Ao65 t288.length co65) : Value).ownBlock ∧ some k_ ≠ ((.slice Ao156 t324.length co156) : Value).ownBlock) (.slice Ao54 t303.length co54) t303) ∧ Aside0 (Kd.R k117 117 wc w.heap.size (fun k_ => some k_ ≠ ((.slice Ao44 t266.length co44) : Value).ownBlock ∧ some k_ ≠ ((.slice Ao54 t303.length co54) : Value).ownBlock ∧ some k_ ≠ ((.slice Ao156 t324.length co156) : Value).ownBlock) (.slice Ao65 t288.length co65) t306) ∧ Aside0 (Kd.R k117 117 wc w.heap.size (fun k_ => some k_ ≠ ((.slice Ao44 t266.length co44) : Value).ownBlock ∧ some k_ ≠ ((.slice Ao54 t303.length co54) : Value).ownBlock ∧ some k_ ≠ ((.slice Ao65 t288.length co65) : Value).ownBlock) (.slice Ao156 t324.length co156) t324) ∧ Aside0 (wc.heap[gb246]? = some (.cells #[.int .i64 a0_0, .int .i64 a0_1, .int .i64 a0_2, .int .i64 a0_3, (.slice A0_4 l0_4.length c0_4)] 62 (0, 0))) ∧ Aside0 (wc.heap[gb247]? = some (.cells #[.int .i64 a1_0, .int .i64 a1_1, .int .i64 a1_2, .int .i64 a1_3, .string a1_4] 79 (0, 0))) ∧ Aside0 (wc.heap[gb270]? = some (.cells #[.int .i64 t262, .int .i64 t263, .int .i64 t264, .int .i64 t265, (.slice Ao44 t266.length co44)] 67 (0, 0))) ∧ Aside0 (wc.heap[gb278]? = some (.cells #[.int .i64 t271, .int .i64 t272, .int .i64 t273, .int .i64 t274, (.slice Ao54 t303.length co54)] 67 (0, 0))) ∧ Aside0 (wc.heap[gb292]? = some (.cells #[.int .i64 t284, .int .i64 t285, .int .i64 t286, .int .i64 t287, (.slice Ao65 t288.length co65)] 67 (0, 0))) ∧ Aside0 (wc.heap[gb328]? = some (.cells #[.int .i64 t320, .int .i64 t321, .int .i64 t322, .int .i64 t323, (.slice Ao156 t324.length co156)] 67 (0, 0))) ∧ Aside0 (Below w.heap.size w wc))
            case first =>
             have H := HC136.out
             clear HC136
             obtain ⟨t329, A158, H⟩ := bd H
             by_cases c159 : t329 = true
             ·subst c159
              replace H := iT H
              have H' := Aside0.mk H
              clear H
              have hnb160 := NB328_246.out
              have hnc160 := NB246_328.out
              have hnb161 := NB328_247.out
              have hnc161 := NB247_328.out
              have hnb162 := NB328_270.out
              have hnc162 := NB270_328.out
              have hnb163 := NB328_278.out
              have hnc163 := NB278_328.out
              have hnb164 := NB328_292.out
              have hnc164 := NB292_328.out
              obtain ⟨Z165_0, Z165_1, Z165_2, Z165_3, Z165_4, Y165_0, Y165_1, Y165_2, Y165_3, Y165_4⟩ := cf5 BK328
              have hnb166 := NB270_246.out
              have hnc166 := NB246_270.out
              have hnb167 := NB270_247.out
              have hnc167 := NB247_270.out
              have hnb168 := NB270_278.out
              have hnc168 := NB278_270.out
              have hnb169 := NB270_292.out
              have hnc169 := NB292_270.out
              obtain ⟨Z170_0, Z170_1, Z170_2, Z170_3, Z170_4, Y170_0, Y170_1, Y170_2, Y170_3, Y170_4⟩ := cf5 BK270
              go_wp2_with (first | ((with_reducible refine gC 59 rfl ?_); refine goesZ (some 94) rfl Try.func59 #[.agg #[.int .i64 t320, .int .i64 t321, .int .i64 t322, .int .i64 t323, .slice Ao156 t324.length co156], .agg #[.int .i64 t262, .int .i64 t263, .int .i64 t264, .int .i64 t265, .slice Ao44 t266.length co44]] ?_; (with_reducible refine (laws_eqWal.calls kj93 t320 t321 t322 t323 _ _ t324 t262 t263 t264 t265 _ _ t266 true _ ?side1 ?side2 ?side3 ?side4 A158.out).mono ?_); (case side1 => refine (Kd.R_reads' (e := 117) (base := w.heap.size) (ok := fun k_ => (some k_ ≠ (v313 : Value).ownBlock ∧ (some k_ ≠ (.slice Ao44 t266.length co44 : Value).ownBlock ∧ (some k_ ≠ (.slice Ao54 t303.length co54 : Value).ownBlock ∧ some k_ ≠ (.slice Ao65 t288.length co65 : Value).ownBlock)))) (n := t324.length) (c := co156) ?_).2.2; exact (rpR (Kd.R_mono (Kd.R_far (p := ⟨gb328, 4, none⟩) (Kd.R_far (p := ⟨gb328, 3, none⟩) (Kd.R_far (p := ⟨gb328, 2, none⟩) (Kd.R_far (p := ⟨gb328, 1, none⟩) (Kd.R_far (p := ⟨gb328, 0, none⟩) (Kd.R_types HO326.out BK328.out (by decide)) (fun _ hk => hk.2) (.int .i64 t320)) (fun _ hk => hk.2) (.int .i64 t321)) (fun _ hk => hk.2) (.int .i64 t322)) (fun _ hk => hk.2) (.int .i64 t323)) (fun _ hk => hk.2) (.slice Ao156 t324.length co156)) (fun _ h_ => h_.1)))); (case side2 => exact (Kd.R_reads' HO326.out).2.1); (case side3 => refine (Kd.R_reads' (e := 117) (base := w.heap.size) (ok := fun k_ => (some k_ ≠ (v313 : Value).ownBlock ∧ (some k_ ≠ (.slice Ao156 t324.length co156 : Value).ownBlock ∧ (some k_ ≠ (.slice Ao54 t303.length co54 : Value).ownBlock ∧ some k_ ≠ (.slice Ao65 t288.length co65 : Value).ownBlock)))) (n := t266.length) (c := co44) ?_).2.2; exact (rpR (Kd.R_mono (Kd.R_far (p := ⟨gb328, 4, none⟩) (Kd.R_far (p := ⟨gb328, 3, none⟩) (Kd.R_far (p := ⟨gb328, 2, none⟩) (Kd.R_far (p := ⟨gb328, 1, none⟩) (Kd.R_far (p := ⟨gb328, 0, none⟩) (Kd.R_types HO_271004.out BK328.out (by decide)) (fun _ hk => hk.2) (.int .i64 t320)) (fun _ hk => hk.2) (.int .i64 t321)) (fun _ hk => hk.2) (.int .i64 t322)) (fun _ hk => hk.2) (.int .i64 t323)) (fun _ hk => hk.2) (.slice Ao156 t324.length co156)) (fun _ h_ => h_.1)))); (case side4 => exact (Kd.R_reads' HO_271004.out).2.1); rintro e w171 ⟨rfl, hb⟩; refine ⟨_, rfl, ?_⟩; replace HO_271004 := Aside0.mk (Kd.R_below (rpR (Kd.R_mono (Kd.R_far (p := ⟨gb328, 4, none⟩) (Kd.R_far (p := ⟨gb328, 3, none⟩) (Kd.R_far (p := ⟨gb328, 2, none⟩) (Kd.R_far (p := ⟨gb328, 1, none⟩) (Kd.R_far (p := ⟨gb328, 0, none⟩) (Kd.R_types HO_271004.out BK328.out (by decide)) (fun _ hk => hk.2) (.int .i64 t320)) (fun _ hk => hk.2) (.int .i64 t321)) (fun _ hk => hk.2) (.int .i64 t322)) (fun _ hk => hk.2) (.int .i64 t323)) (fun _ hk => hk.2) (.slice Ao156 t324.length co156)) (fun _ h_ => h_.1))) hb); replace HO_279004 := Aside0.mk (Kd.R_below (rpR (Kd.R_mono (Kd.R_far (p := ⟨gb328, 4, none⟩) (Kd.R_far (p := ⟨gb328, 3, none⟩) (Kd.R_far (p := ⟨gb328, 2, none⟩) (Kd.R_far (p := ⟨gb328, 1, none⟩) (Kd.R_far (p := ⟨gb328, 0, none⟩) (Kd.R_types HO_279004.out BK328.out (by decide)) (fun _ hk => hk.2) (.int .i64 t320)) (fun _ hk => hk.2) (.int .i64 t321)) (fun _ hk => hk.2) (.int .i64 t322)) (fun _ hk => hk.2) (.int .i64 t323)) (fun _ hk => hk.2) (.slice Ao156 t324.length co156)) (fun _ h_ => h_.1))) hb); replace HO_293004 := Aside0.mk (Kd.R_below (rpR (Kd.R_mono (Kd.R_far (p := ⟨gb328, 4, none⟩) (Kd.R_far (p := ⟨gb328, 3, none⟩) (Kd.R_far (p := ⟨gb328, 2, none⟩) (Kd.R_far (p := ⟨gb328, 1, none⟩) (Kd.R_far (p := ⟨gb328, 0, none⟩) (Kd.R_types HO_293004.out BK328.out (by decide)) (fun _ hk => hk.2) (.int .i64 t320)) (fun _ hk => hk.2) (.int .i64 t321)) (fun _ hk => hk.2) (.int .i64 t322)) (fun _ hk => hk.2) (.int .i64 t323)) (fun _ hk => hk.2) (.slice Ao156 t324.length co156)) (fun _ h_ => h_.1))) hb); replace HO314 := Aside0.mk (Kd.R_below (rpR (Kd.R_mono (Kd.R_far (p := ⟨gb328, 4, none⟩) (Kd.R_far (p := ⟨gb328, 3, none⟩) (Kd.R_far (p := ⟨gb328, 2, none⟩) (Kd.R_far (p := ⟨gb328, 1, none⟩) (Kd.R_far (p := ⟨gb328, 0, none⟩) (Kd.R_types HO314.out BK328.out (by decide)) (fun _ hk => hk.2) (.int .i64 t320)) (fun _ hk => hk.2) (.int .i64 t321)) (fun _ hk => hk.2) (.int .i64 t322)) (fun _ hk => hk.2) (.int .i64 t323)) (fun _ hk => hk.2) (.slice Ao156 t324.length co156)) (fun _ h_ => h_.1))) hb); replace HO326 := Aside0.mk (Kd.R_below (rpR (Kd.R_mono (Kd.R_far (p := ⟨gb328, 4, none⟩) (Kd.R_far (p := ⟨gb328, 3, none⟩) (Kd.R_far (p := ⟨gb328, 2, none⟩) (Kd.R_far (p := ⟨gb328, 1, none⟩) (Kd.R_far (p := ⟨gb328, 0, none⟩) (Kd.R_types HO326.out BK328.out (by decide)) (fun _ hk => hk.2) (.int .i64 t320)) (fun _ hk => hk.2) (.int .i64 t321)) (fun _ hk => hk.2) (.int .i64 t322)) (fun _ hk => hk.2) (.int .i64 t323)) (fun _ hk => hk.2) (.slice Ao156 t324.length co156)) (fun _ h_ => h_.1))) hb); replace BK246 := Aside0.mk (blk_below (g := gb246) (o := .cells #[.int .i64 a0_0, .int .i64 a0_1, .int .i64 a0_2, .int .i64 a0_3, .slice A0_4 l0_4.length c0_4] 62 (0, 0)) bkk hb); replace BK247 := Aside0.mk (blk_below (g := gb247) (o := .cells #[.int .i64 a1_0, .int .i64 a1_1, .int .i64 a1_2, .int .i64 a1_3, .string a1_4] 79 (0, 0)) bkk hb); replace BK270 := Aside0.mk (blk_below (g := gb270) (o := .cells #[.int .i64 t262, .int .i64 t263, .int .i64 t264, .int .i64 t265, .slice Ao44 t266.length co44] 67 (0, 0)) bkk hb); replace BK278 := Aside0.mk (blk_below (g := gb278) (o := .cells #[.int .i64 t271, .int .i64 t272, .int .i64 t273, .int .i64 t274, .slice Ao54 t303.length co54] 67 (0, 0)) bkk hb); replace BK292 := Aside0.mk (blk_below (g := gb292) (o := .cells #[.int .i64 t284, .int .i64 t285, .int .i64 t286, .int .i64 t287, .slice Ao65 t288.length co65] 67 (0, 0)) bkk hb); replace BK328 := Aside0.mk (blk_below (g := gb328) (o := .cells #[.int .i64 t320, .int .i64 t321, .int .i64 t322, .int .i64 t323, .slice Ao156 t324.length co156] 67 (0, 0)) bkk hb); replace HB := bs (w := w) hb; (try clear hb)))
              go_meet
              case rel => exact ⟨_, ((t327 != t269)), fa, H', ⟨by have := HJ24.out; have := HJ93.out; first | omega | exact Nat.le_refl _⟩, ⟨by (try simp only [hl279004_93]); (with_reducible repeat (first | apply Kd.R_alloc | apply Kd.R_drewN | apply Kd.R_drew)); exact Kd.R_mono HO_271004.out (fun _ hk => ⟨hk.2.2.1, ⟨hk.2.2.2, hk.2.1⟩⟩)⟩, ⟨by (try simp only [hl279004_93]); (with_reducible repeat (first | apply Kd.R_alloc | apply Kd.R_drewN | apply Kd.R_drew)); exact Kd.R_mono HO_279004.out (fun _ hk => ⟨hk.2.2.1, ⟨hk.2.2.2, hk.2.1⟩⟩)⟩, ⟨by (try simp only [hl279004_93]); (with_reducible repeat (first | apply Kd.R_alloc | apply Kd.R_drewN | apply Kd.R_drew)); exact Kd.R_mono HO_293004.out (fun _ hk => ⟨hk.2.2.1, ⟨hk.2.2.2, hk.2.1⟩⟩)⟩, ⟨by (try simp only [hl279004_93]); (with_reducible repeat (first | apply Kd.R_alloc | apply Kd.R_drewN | apply Kd.R_drew)); exact Kd.R_mono HO326.out (fun _ hk => ⟨hk.2.1, ⟨hk.2.2.1, hk.2.2.2⟩⟩)⟩, ⟨by (try simp only [hl279004_93]); (with_reducible repeat (first | refine blk_drewN ?_ _ | refine blk_drew ?_ | refine blk_alloc ?_ _)); exact BK246.out⟩, ⟨by (try simp only [hl279004_93]); (with_reducible repeat (first | refine blk_drewN ?_ _ | refine blk_drew ?_ | refine blk_alloc ?_ _)); exact BK247.out⟩, ⟨by (try simp only [hl279004_93]); (with_reducible repeat (first | refine blk_drewN ?_ _ | refine blk_drew ?_ | refine blk_alloc ?_ _)); exact BK270.out⟩, ⟨by (try simp only [hl279004_93]); (with_reducible repeat (first | refine blk_drewN ?_ _ | refine blk_drew ?_ | refine blk_alloc ?_ _)); exact BK278.out⟩, ⟨by (try simp only [hl279004_93]); (with_reducible repeat (first | refine blk_drewN ?_ _ | refine blk_drew ?_ | refine blk_alloc ?_ _)); exact BK292.out⟩, ⟨by (try simp only [hl279004_93]); (with_reducible repeat (first | refine blk_drewN ?_ _ | refine blk_drew ?_ | refine blk_alloc ?_ _)); exact BK328.out⟩, ⟨bl⟩⟩
             ·replace c159 := Bool.eq_false_iff.mpr c159
              subst c159
              replace H := iF H
              have H' := Aside0.mk H
              clear H
              have hnb172 := NB328_246.out
              have hnc172 := NB246_328.out
              have hnb173 := NB328_247.out
              have hnc173 := NB247_328.out
              have hnb174 := NB328_270.out
              have hnc174 := NB270_328.out
              have hnb175 := NB328_278.out
              have hnc175 := NB278_328.out
              have hnb176 := NB328_292.out
              have hnc176 := NB292_328.out
              obtain ⟨Z177_0, Z177_1, Z177_2, Z177_3, Z177_4, Y177_0, Y177_1, Y177_2, Y177_3, Y177_4⟩ := cf5 BK328
              have hnb178 := NB270_246.out
              have hnc178 := NB246_270.out
              have hnb179 := NB270_247.out
              have hnc179 := NB247_270.out
              have hnb180 := NB270_278.out
              have hnc180 := NB278_270.out
              have hnb181 := NB270_292.out
              have hnc181 := NB292_270.out
              obtain ⟨Z182_0, Z182_1, Z182_2, Z182_3, Z182_4, Y182_0, Y182_1, Y182_2, Y182_3, Y182_4⟩ := cf5 BK270
              go_wp2_with (first | ((with_reducible refine gC 59 rfl ?_); refine goesZ (some 94) rfl Try.func59 #[.agg #[.int .i64 t320, .int .i64 t321, .int .i64 t322, .int .i64 t323, .slice Ao156 t324.length co156], .agg #[.int .i64 t262, .int .i64 t263, .int .i64 t264, .int .i64 t265, .slice Ao44 t266.length co44]] ?_; (with_reducible refine (laws_eqWal.calls kj93 t320 t321 t322 t323 _ _ t324 t262 t263 t264 t265 _ _ t266 false _ ?side1 ?side2 ?side3 ?side4 A158.out).mono ?_); (case side1 => refine (Kd.R_reads' (e := 117) (base := w.heap.size) (ok := fun k_ => (some k_ ≠ (v313 : Value).ownBlock ∧ (some k_ ≠ (.slice Ao44 t266.length co44 : Value).ownBlock ∧ (some k_ ≠ (.slice Ao54 t303.length co54 : Value).ownBlock ∧ some k_ ≠ (.slice Ao65 t288.length co65 : Value).ownBlock)))) (n := t324.length) (c := co156) ?_).2.2; exact (rpR (Kd.R_mono (Kd.R_far (p := ⟨gb328, 4, none⟩) (Kd.R_far (p := ⟨gb328, 3, none⟩) (Kd.R_far (p := ⟨gb328, 2, none⟩) (Kd.R_far (p := ⟨gb328, 1, none⟩) (Kd.R_far (p := ⟨gb328, 0, none⟩) (Kd.R_types HO326.out BK328.out (by decide)) (fun _ hk => hk.2) (.int .i64 t320)) (fun _ hk => hk.2) (.int .i64 t321)) (fun _ hk => hk.2) (.int .i64 t322)) (fun _ hk => hk.2) (.int .i64 t323)) (fun _ hk => hk.2) (.slice Ao156 t324.length co156)) (fun _ h_ => h_.1)))); (case side2 => exact (Kd.R_reads' HO326.out).2.1); (case side3 => refine (Kd.R_reads' (e := 117) (base := w.heap.size) (ok := fun k_ => (some k_ ≠ (v313 : Value).ownBlock ∧ (some k_ ≠ (.slice Ao156 t324.length co156 : Value).ownBlock ∧ (some k_ ≠ (.slice Ao54 t303.length co54 : Value).ownBlock ∧ some k_ ≠ (.slice Ao65 t288.length co65 : Value).ownBlock)))) (n := t266.length) (c := co44) ?_).2.2; exact (rpR (Kd.R_mono (Kd.R_far (p := ⟨gb328, 4, none⟩) (Kd.R_far (p := ⟨gb328, 3, none⟩) (Kd.R_far (p := ⟨gb328, 2, none⟩) (Kd.R_far (p := ⟨gb328, 1, none⟩) (Kd.R_far (p := ⟨gb328, 0, none⟩) (Kd.R_types HO_271004.out BK328.out (by decide)) (fun _ hk => hk.2) (.int .i64 t320)) (fun _ hk => hk.2) (.int .i64 t321)) (fun _ hk => hk.2) (.int .i64 t322)) (fun _ hk => hk.2) (.int .i64 t323)) (fun _ hk => hk.2) (.slice Ao156 t324.length co156)) (fun _ h_ => h_.1)))); (case side4 => exact (Kd.R_reads' HO_271004.out).2.1); rintro e w183 ⟨rfl, hb⟩; refine ⟨_, rfl, ?_⟩; replace HO_271004 := Aside0.mk (Kd.R_below (rpR (Kd.R_mono (Kd.R_far (p := ⟨gb328, 4, none⟩) (Kd.R_far (p := ⟨gb328, 3, none⟩) (Kd.R_far (p := ⟨gb328, 2, none⟩) (Kd.R_far (p := ⟨gb328, 1, none⟩) (Kd.R_far (p := ⟨gb328, 0, none⟩) (Kd.R_types HO_271004.out BK328.out (by decide)) (fun _ hk => hk.2) (.int .i64 t320)) (fun _ hk => hk.2) (.int .i64 t321)) (fun _ hk => hk.2) (.int .i64 t322)) (fun _ hk => hk.2) (.int .i64 t323)) (fun _ hk => hk.2) (.slice Ao156 t324.length co156)) (fun _ h_ => h_.1))) hb); replace HO_279004 := Aside0.mk (Kd.R_below (rpR (Kd.R_mono (Kd.R_far (p := ⟨gb328, 4, none⟩) (Kd.R_far (p := ⟨gb328, 3, none⟩) (Kd.R_far (p := ⟨gb328, 2, none⟩) (Kd.R_far (p := ⟨gb328, 1, none⟩) (Kd.R_far (p := ⟨gb328, 0, none⟩) (Kd.R_types HO_279004.out BK328.out (by decide)) (fun _ hk => hk.2) (.int .i64 t320)) (fun _ hk => hk.2) (.int .i64 t321)) (fun _ hk => hk.2) (.int .i64 t322)) (fun _ hk => hk.2) (.int .i64 t323)) (fun _ hk => hk.2) (.slice Ao156 t324.length co156)) (fun _ h_ => h_.1))) hb); replace HO_293004 := Aside0.mk (Kd.R_below (rpR (Kd.R_mono (Kd.R_far (p := ⟨gb328, 4, none⟩) (Kd.R_far (p := ⟨gb328, 3, none⟩) (Kd.R_far (p := ⟨gb328, 2, none⟩) (Kd.R_far (p := ⟨gb328, 1, none⟩) (Kd.R_far (p := ⟨gb328, 0, none⟩) (Kd.R_types HO_293004.out BK328.out (by decide)) (fun _ hk => hk.2) (.int .i64 t320)) (fun _ hk => hk.2) (.int .i64 t321)) (fun _ hk => hk.2) (.int .i64 t322)) (fun _ hk => hk.2) (.int .i64 t323)) (fun _ hk => hk.2) (.slice Ao156 t324.length co156)) (fun _ h_ => h_.1))) hb); replace HO314 := Aside0.mk (Kd.R_below (rpR (Kd.R_mono (Kd.R_far (p := ⟨gb328, 4, none⟩) (Kd.R_far (p := ⟨gb328, 3, none⟩) (Kd.R_far (p := ⟨gb328, 2, none⟩) (Kd.R_far (p := ⟨gb328, 1, none⟩) (Kd.R_far (p := ⟨gb328, 0, none⟩) (Kd.R_types HO314.out BK328.out (by decide)) (fun _ hk => hk.2) (.int .i64 t320)) (fun _ hk => hk.2) (.int .i64 t321)) (fun _ hk => hk.2) (.int .i64 t322)) (fun _ hk => hk.2) (.int .i64 t323)) (fun _ hk => hk.2) (.slice Ao156 t324.length co156)) (fun _ h_ => h_.1))) hb); replace HO326 := Aside0.mk (Kd.R_below (rpR (Kd.R_mono (Kd.R_far (p := ⟨gb328, 4, none⟩) (Kd.R_far (p := ⟨gb328, 3, none⟩) (Kd.R_far (p := ⟨gb328, 2, none⟩) (Kd.R_far (p := ⟨gb328, 1, none⟩) (Kd.R_far (p := ⟨gb328, 0, none⟩) (Kd.R_types HO326.out BK328.out (by decide)) (fun _ hk => hk.2) (.int .i64 t320)) (fun _ hk => hk.2) (.int .i64 t321)) (fun _ hk => hk.2) (.int .i64 t322)) (fun _ hk => hk.2) (.int .i64 t323)) (fun _ hk => hk.2) (.slice Ao156 t324.length co156)) (fun _ h_ => h_.1))) hb); replace BK246 := Aside0.mk (blk_below (g := gb246) (o := .cells #[.int .i64 a0_0, .int .i64 a0_1, .int .i64 a0_2, .int .i64 a0_3, .slice A0_4 l0_4.length c0_4] 62 (0, 0)) bkk hb); replace BK247 := Aside0.mk (blk_below (g := gb247) (o := .cells #[.int .i64 a1_0, .int .i64 a1_1, .int .i64 a1_2, .int .i64 a1_3, .string a1_4] 79 (0, 0)) bkk hb); replace BK270 := Aside0.mk (blk_below (g := gb270) (o := .cells #[.int .i64 t262, .int .i64 t263, .int .i64 t264, .int .i64 t265, .slice Ao44 t266.length co44] 67 (0, 0)) bkk hb); replace BK278 := Aside0.mk (blk_below (g := gb278) (o := .cells #[.int .i64 t271, .int .i64 t272, .int .i64 t273, .int .i64 t274, .slice Ao54 t303.length co54] 67 (0, 0)) bkk hb); replace BK292 := Aside0.mk (blk_below (g := gb292) (o := .cells #[.int .i64 t284, .int .i64 t285, .int .i64 t286, .int .i64 t287, .slice Ao65 t288.length co65] 67 (0, 0)) bkk hb); replace BK328 := Aside0.mk (blk_below (g := gb328) (o := .cells #[.int .i64 t320, .int .i64 t321, .int .i64 t322, .int .i64 t323, .slice Ao156 t324.length co156] 67 (0, 0)) bkk hb); replace HB := bs (w := w) hb; (try clear hb)))
              go_meet
              case rel => exact ⟨_, (true), fa, H', ⟨by have := HJ24.out; have := HJ93.out; first | omega | exact Nat.le_refl _⟩, ⟨by (try simp only [hl279004_93]); (with_reducible repeat (first | apply Kd.R_alloc | apply Kd.R_drewN | apply Kd.R_drew)); exact Kd.R_mono HO_271004.out (fun _ hk => ⟨hk.2.2.1, ⟨hk.2.2.2, hk.2.1⟩⟩)⟩, ⟨by (try simp only [hl279004_93]); (with_reducible repeat (first | apply Kd.R_alloc | apply Kd.R_drewN | apply Kd.R_drew)); exact Kd.R_mono HO_279004.out (fun _ hk => ⟨hk.2.2.1, ⟨hk.2.2.2, hk.2.1⟩⟩)⟩, ⟨by (try simp only [hl279004_93]); (with_reducible repeat (first | apply Kd.R_alloc | apply Kd.R_drewN | apply Kd.R_drew)); exact Kd.R_mono HO_293004.out (fun _ hk => ⟨hk.2.2.1, ⟨hk.2.2.2, hk.2.1⟩⟩)⟩, ⟨by (try simp only [hl279004_93]); (with_reducible repeat (first | apply Kd.R_alloc | apply Kd.R_drewN | apply Kd.R_drew)); exact Kd.R_mono HO326.out (fun _ hk => ⟨hk.2.1, ⟨hk.2.2.1, hk.2.2.2⟩⟩)⟩, ⟨by (try simp only [hl279004_93]); (with_reducible repeat (first | refine blk_drewN ?_ _ | refine blk_drew ?_ | refine blk_alloc ?_ _)); exact BK246.out⟩, ⟨by (try simp only [hl279004_93]); (with_reducible repeat (first | refine blk_drewN ?_ _ | refine blk_drew ?_ | refine blk_alloc ?_ _)); exact BK247.out⟩, ⟨by (try simp only [hl279004_93]); (with_reducible repeat (first | refine blk_drewN ?_ _ | refine blk_drew ?_ | refine blk_alloc ?_ _)); exact BK270.out⟩, ⟨by (try simp only [hl279004_93]); (with_reducible repeat (first | refine blk_drewN ?_ _ | refine blk_drew ?_ | refine blk_alloc ?_ _)); exact BK278.out⟩, ⟨by (try simp only [hl279004_93]); (with_reducible repeat (first | refine blk_drewN ?_ _ | refine blk_drew ?_ | refine blk_alloc ?_ _)); exact BK292.out⟩, ⟨by (try simp only [hl279004_93]); (with_reducible repeat (first | refine blk_drewN ?_ _ | refine blk_drew ?_ | refine blk_alloc ?_ _)); exact BK328.out⟩, ⟨bl⟩⟩
            case rest =>
             clear HC136
             try clear c1
             try clear p2
             try clear c5
             try clear c6
             try clear c15
             try clear c16
             try clear c17
             try clear c18
             try clear c57
             try clear c59
             try clear c68
             try clear c69
             try clear c159
             try clear c160
             try clear c161
             try clear c162
             try clear c163
             try clear c164
             try clear c166
             try clear c167
             try clear c168
             try clear c169
             try clear c172
             try clear c173
             try clear c174
             try clear c175
             try clear c176
             try clear c178
             try clear c179
             try clear c180
             try clear c181
             try clear Z165_0 Z165_1 Z165_2 Z165_3 Z165_4
             try clear Z170_0 Z170_1 Z170_2 Z170_3 Z170_4
             try clear Z177_0 Z177_1 Z177_2 Z177_3 Z177_4
             try clear Z182_0 Z182_1 Z182_2 Z182_3 Z182_4
             try clear Y165_0 Y165_1 Y165_2 Y165_3 Y165_4
             try clear Y170_0 Y170_1 Y170_2 Y170_3 Y170_4
             try clear Y177_0 Y177_1 Y177_2 Y177_3 Y177_4
             try clear Y182_0 Y182_1 Y182_2 Y182_3 Y182_4
             obtain ⟨kq, x100_135, rfl, HA, HJ135, HO_271004, HO_279004, HO_293004, HO_329004, BK246, BK247, BK270, BK278, BK292, BK328, HB⟩ := hcut
             have hl293004_135 := (Kd.R_reads' HO_293004.out).1
             rw [hl293004_135] at HO_293004
             (try simp only [hl293004_135])
             (try simp only [hl293004_135] at BK246)
             (try simp only [hl293004_135] at BK247)
             (try simp only [hl293004_135] at BK270)
             (try simp only [hl293004_135] at BK278)
             (try simp only [hl293004_135] at BK292)
             (try simp only [hl293004_135] at BK328)
             (try simp only [hl293004_135] at HO_271004)
             (try simp only [hl293004_135] at HO_279004)
             (try simp only [hl293004_135] at HO_329004)
             cases kq with
             | zero => exact absurd HA.out (by simp [laws_FnExactWalStep.j2])
             | succ kj135 =>
              have H := HA.out
              clear HA
              simp only [laws_FnExactWalStep.j2] at H
              by_cases c184 : x100_135 = true
              ·subst c184
               replace H := iT H
               exact absurd ((Option.some.inj H).trans hr_) (by decide)
              ·replace c184 := Bool.eq_false_iff.mpr c184
               subst c184
               replace H := iF H
               obtain ⟨t330, A185, H⟩ := bd H
               by_cases c186 : t330 < 0
               ·rw [if_pos c186] at H
                have c186b0 : decide (t330 < 0) = true := decide_eq_true c186
                clear c186
                exact absurd ((Option.some.inj H).trans hr_) (by decide)
               ·rw [if_neg c186] at H
                have c186b0 : decide (t330 < 0) = false := decide_eq_false c186
                clear c186
                by_cases c187 : t330 = t305
                ·rw [if_pos c187] at H
                 have c187b0 : (t330 == t305) = true := beq_iff_eq.mpr c187
                 have c187b1 : (t330 != t305) = false := bne_eq_false_iff_eq.mpr c187
                 clear c187
                 obtain rfl := Option.some.inj H
                 have hnb188 := NB292_246.out
                 have hnc188 := NB246_292.out
                 have hnb189 := NB292_247.out
                 have hnc189 := NB247_292.out
                 have hnb190 := NB292_270.out
                 have hnc190 := NB270_292.out
                 have hnb191 := NB292_278.out
                 have hnc191 := NB278_292.out
                 have hnb192 := NB292_328.out
                 have hnc192 := NB328_292.out
                 obtain ⟨Z193_0, Z193_1, Z193_2, Z193_3, Z193_4, Y193_0, Y193_1, Y193_2, Y193_3, Y193_4⟩ := cf5 BK292
                 go_wp2_with (first | ((with_reducible refine gC 70 rfl ?_); refine goesZ (some 103) rfl Try.func70 #[.agg #[.int .i64 t284, .int .i64 t285, .int .i64 t286, .int .i64 t287, .slice Ao65 t306.length co65], .int .i64 1] ?_; (with_reducible refine (laws_heldWal.calls kj135 t284 t285 t286 t287 _ _ t306 1 t330 _ ?side1 ?side2 A185.out).mono ?_); (case side1 => exact ca ((Kd.R_reads' HO_293004.out).2.2)); (case side2 => exact (Kd.R_reads' HO_293004.out).2.1); rintro e w194 ⟨rfl, hb⟩; refine ⟨_, rfl, ?_⟩; replace HO_271004 := Aside0.mk (Kd.R_below (rpR HO_271004.out) hb); replace HO_279004 := Aside0.mk (Kd.R_below (rpR HO_279004.out) hb); replace HO_293004 := Aside0.mk (Kd.R_below (rpR HO_293004.out) hb); replace HO_329004 := Aside0.mk (Kd.R_below (rpR HO_329004.out) hb); replace BK246 := bv BK246 hb; replace BK247 := bv BK247 hb; replace BK270 := bv BK270 hb; replace BK278 := bv BK278 hb; replace BK292 := bv BK292 hb; replace BK328 := bv BK328 hb; replace HB := bs (w := w) hb; (try clear hb)))
                 go_ret
                 exact ⟨fe, bl⟩
                ·rw [if_neg c187] at H
                 have c187b0 : (t330 == t305) = false := beq_eq_false_iff_ne.mpr c187
                 have c187b1 : (t330 != t305) = true := bne_iff_ne.mpr c187
                 exact absurd ((Option.some.inj H).trans hr_) (by decide)
           ·rw [if_neg c132] at H
            have c132b0 : (t307 == t305) = false := beq_eq_false_iff_ne.mpr c132
            have c132b1 : (t307 != t305) = true := bne_iff_ne.mpr c132
            exact absurd ((Option.some.inj H).trans hr_) (by decide)
      ·replace c92 := Bool.eq_false_iff.mpr c92
       subst c92
       replace H := iF H
       exact absurd ((Option.some.inj H).trans hr_) (by decide)

end Go.Proofs.Ytfmddjbekophnaa.PFnExactWalStep
