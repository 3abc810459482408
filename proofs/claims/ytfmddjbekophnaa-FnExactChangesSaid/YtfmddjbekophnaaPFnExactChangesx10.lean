-- PRINTED by print.py (a twelfth state) out of the translation. Not trusted: Lean checks it.
import Derived.Test.YtfmddjbekophnaaPFnExactChangesx0
import Derived.Test.YtfmddjbekophnaaPFnExactChangesx2
import Derived.Test.YtfmddjbekophnaaPFnExactChangesx3
import Derived.Test.YtfmddjbekophnaaPFnExactChangesx5
import Derived.Test.YtfmddjbekophnaaPFnExactChangesx7
import Derived.Test.YtfmddjbekophnaaPFnExactChangesx8
import Derived.Test.YtfmddjbekophnaaPFnExactChangesx9
import Derived.Test.YtfmddjbekophnaaZip
namespace Go.Proofs.Ytfmddjbekophnaa.PFnExactChanges
open Go.RowKit Go.Proofs.YtfmddjbekophnaaW.PrintWords Go.Proofs.YtfmddjbekophnaaW.PrintLast Go.Proofs.YtfmddjbekophnaaW.PrintMore Go.Proofs.Ytfmddjbekophnaa.Zip
attribute [local go_sem] max2_int min2_int max_two min_two max_three min_three max_four min_four   -- for this text's walks alone
set_option linter.unusedVariables false
set_option linter.unusedSimpArgs false

/-! ### laws_FnExactChanges: function 12 -/
mutual
def laws_FnExactChanges.j0 : Nat → List (S83) → Bool → List (S83) → Bool → Bool → Int → Int → Int → Int → List (S139) → Int → Int → Int → Int → List (S139) → Int → Int → Int → Int → List (S117) → Int → Int → Int → Int → List (S117) → Option (Bool)
 | 0, _, _, _, _, _, _, _, _, _, _, _, _, _, _, _, _, _, _, _, _, _, _, _, _, _ => none
 | k + 1, x6, x7, x10, x11, x53, x264000, x264001, x264002, x264003, x264004, x265000, x265001, x265002, x265003, x265004, x293000, x293001, x293002, x293003, x293004, x301000, x301001, x301002, x301003, x301004 => if x53 = true then (some false) else ((laws_toWal.f k x264000 x264001 x264002 x264003 x264004).bind fun bt306 => ((laws_eqWal.f k x293000 x293001 x293002 x293003 x293004 bt306.1 bt306.2.1 bt306.2.2.1 bt306.2.2.2.1 bt306.2.2.2.2).bind fun t313 => (if t313 = true then ((laws_toWal.f k x265000 x265001 x265002 x265003 x265004).bind fun bt314 => ((laws_eqWal.f k x301000 x301001 x301002 x301003 x301004 bt314.1 bt314.2.1 bt314.2.2.1 bt314.2.2.2.1 bt314.2.2.2.2).bind fun t321 => (if t321 = true then ((laws_markWal.f k x293000 x293001 x293002 x293003 x293004 1).bind fun bt322 => ((laws_markWal.f k x301000 x301001 x301002 x301003 x301004 bt322.1).bind fun bt324 => (if bt324.1 < 0 then (laws_FnExactChanges.j1 k x6 x7 x10 true x264000 x264001 x264002 x264003 x264004 x265000 x265001 x265002 x265003 x265004) else ((laws_eqRecS.f k x10 x6).bind fun t326 => (if t326 = true then (laws_FnExactChanges.j1 k x6 x7 x10 (x11 != x7) x264000 x264001 x264002 x264003 x264004 x265000 x265001 x265002 x265003 x265004) else (laws_FnExactChanges.j1 k x6 x7 x10 true x264000 x264001 x264002 x264003 x264004 x265000 x265001 x265002 x265003 x265004)))))) else (some false)))) else (some false))))
def laws_FnExactChanges.j1 : Nat → List (S83) → Bool → List (S83) → Bool → Int → Int → Int → Int → List (S139) → Int → Int → Int → Int → List (S139) → Option (Bool)
 | 0, _, _, _, _, _, _, _, _, _, _, _, _, _, _ => none
 | k + 1, x6, x7, x10, x82, x264000, x264001, x264002, x264003, x264004, x265000, x265001, x265002, x265003, x265004 => if x82 = true then (some false) else ((laws_markRecS.f k x10 1).bind fun bt327 => ((laws_heldRecS.f k bt327.2 1).bind fun t329 => (if t329 < 0 then (some false) else (if t329 = bt327.1 then ((laws_toWal.f k x264000 x264001 x264002 x264003 x264004).bind fun bt330 => ((laws_toWal.f k x265000 x265001 x265002 x265003 x265004).bind fun bt337 => ((impl_Changes.f k bt330.1 bt330.2.1 bt330.2.2.1 bt330.2.2.2.1 bt330.2.2.2.2 bt337.1 bt337.2.1 bt337.2.2.1 bt337.2.2.2.1 bt337.2.2.2.2).bind fun bt344 => ((laws_eqRecS.f k bt344.1 x6).bind fun t348 => (if t348 = true then (laws_FnExactChanges.j2 k bt327.2 bt327.1 (bt344.2 != x7)) else (laws_FnExactChanges.j2 k bt327.2 bt327.1 true)))))) else (some false)))))
def laws_FnExactChanges.j2 : Nat → List (S83) → Int → Bool → Option (Bool)
 | 0, _, _, _ => none
 | k + 1, x10, x13, x110 => if x110 = true then (some false) else ((laws_heldRecS.f k x10 1).bind fun t349 => (if t349 < 0 then (some false) else (if t349 = x13 then (some true) else (some false))))
end
def laws_FnExactChanges.f (k : Nat) (a0_0 : Int) (a0_1 : Int) (a0_2 : Int) (a0_3 : Int) (l0_4 : List (S139)) (a1_0 : Int) (a1_1 : Int) (a1_2 : Int) (a1_3 : Int) (l1_4 : List (S139)) : Option (Bool) := (laws_szWal.f k a0_0 a0_1 a0_2 a0_3 l0_4 1048576).bind fun t265 => (if t265 < 0 then (some true) else ((laws_szWal.f k a1_0 a1_1 a1_2 a1_3 l1_4 t265).bind fun t266 => (if t266 < 0 then (some true) else ((laws_toWal.f k a0_0 a0_1 a0_2 a0_3 l0_4).bind fun bt267 => ((laws_toWal.f k a1_0 a1_1 a1_2 a1_3 l1_4).bind fun bt274 => ((spec_Changes.f k bt267.1 bt267.2.1 bt267.2.2.1 bt267.2.2.2.1 bt267.2.2.2.2 bt274.1 bt274.2.1 bt274.2.2.1 bt274.2.2.2.1 bt274.2.2.2.2).bind fun bt281 => ((laws_toWal.f k a0_0 a0_1 a0_2 a0_3 l0_4).bind fun bt285 => ((laws_toWal.f k a1_0 a1_1 a1_2 a1_3 l1_4).bind fun bt293 => ((impl_Changes.f k bt285.1 bt285.2.1 bt285.2.2.1 bt285.2.2.2.1 bt285.2.2.2.2 bt293.1 bt293.2.1 bt293.2.2.1 bt293.2.2.2.1 bt293.2.2.2.2).bind fun bt301 => ((laws_eqRecS.f k bt301.1 bt281.1).bind fun t305 => (if t305 = true then (laws_FnExactChanges.j0 k bt281.1 bt281.2 bt301.1 bt301.2 (bt301.2 != bt281.2) a0_0 a0_1 a0_2 a0_3 l0_4 a1_0 a1_1 a1_2 a1_3 l1_4 bt285.1 bt285.2.1 bt285.2.2.1 bt285.2.2.2.1 bt285.2.2.2.2 bt293.1 bt293.2.1 bt293.2.2.1 bt293.2.2.2.1 bt293.2.2.2.2) else (laws_FnExactChanges.j0 k bt281.1 bt281.2 bt301.1 bt301.2 true a0_0 a0_1 a0_2 a0_3 l0_4 a1_0 a1_1 a1_2 a1_3 l1_4 bt285.1 bt285.2.1 bt285.2.2.1 bt285.2.2.2.1 bt285.2.2.2.2 bt293.1 bt293.2.1 bt293.2.2.1 bt293.2.2.2.1 bt293.2.2.2.2))))))))))))
theorem laws_FnExactChanges.mono_l : ∀ k, (∀ y0 y1 y2 y3 y4 y5 y6 y7 y8 y9 y10 y11 y12 y13 y14 y15 y16 y17 y18 y19 y20 y21 y22 y23 y24, LeO (laws_FnExactChanges.j0 k y0 y1 y2 y3 y4 y5 y6 y7 y8 y9 y10 y11 y12 y13 y14 y15 y16 y17 y18 y19 y20 y21 y22 y23 y24) (laws_FnExactChanges.j0 (k + 1) y0 y1 y2 y3 y4 y5 y6 y7 y8 y9 y10 y11 y12 y13 y14 y15 y16 y17 y18 y19 y20 y21 y22 y23 y24)) ∧ (∀ y0 y1 y2 y3 y4 y5 y6 y7 y8 y9 y10 y11 y12 y13, LeO (laws_FnExactChanges.j1 k y0 y1 y2 y3 y4 y5 y6 y7 y8 y9 y10 y11 y12 y13) (laws_FnExactChanges.j1 (k + 1) y0 y1 y2 y3 y4 y5 y6 y7 y8 y9 y10 y11 y12 y13)) ∧ (∀ y0 y1 y2, LeO (laws_FnExactChanges.j2 k y0 y1 y2) (laws_FnExactChanges.j2 (k + 1) y0 y1 y2))
 | 0 => ⟨fun _ _ _ _ _ _ _ _ _ _ _ _ _ _ _ _ _ _ _ _ _ _ _ _ _ r h => by simp [laws_FnExactChanges.j0] at h, fun _ _ _ _ _ _ _ _ _ _ _ _ _ _ r h => by simp [laws_FnExactChanges.j1] at h, fun _ _ _ r h => by simp [laws_FnExactChanges.j2] at h⟩
 | k + 1 => by
  obtain ⟨ih0, ih1, ih2⟩ := laws_FnExactChanges.mono_l k
  refine ⟨?_, ?_, ?_⟩
  ·intro y0 y1 y2 y3 y4 y5 y6 y7 y8 y9 y10 y11 y12 y13 y14 y15 y16 y17 y18 y19 y20 y21 y22 y23 y24
   unfold laws_FnExactChanges.j0
   repeat' first
   | (with_reducible exact ih0 _ _ _ _ _ _ _ _ _ _ _ _ _ _ _ _ _ _ _ _ _ _ _ _ _)
   | (with_reducible exact ih1 _ _ _ _ _ _ _ _ _ _ _ _ _ _)
   | (with_reducible exact ih2 _ _ _)
   | (with_reducible exact impl_Changes.mono _ _ _ _ _ _ _ _ _ _ _)
   | (with_reducible exact laws_eqRecS.mono _ _ _)
   | (with_reducible exact laws_eqWal.mono _ _ _ _ _ _ _ _ _ _ _)
   | (with_reducible exact laws_heldRecS.mono _ _ _)
   | (with_reducible exact laws_markRecS.mono _ _ _)
   | (with_reducible exact laws_markWal.mono _ _ _ _ _ _ _)
   | (with_reducible exact laws_szWal.mono _ _ _ _ _ _ _)
   | (with_reducible exact laws_toWal.mono _ _ _ _ _ _)
   | (with_reducible exact spec_Changes.mono _ _ _ _ _ _ _ _ _ _ _)
   | (with_reducible exact LeO.refl _)
   | (with_reducible exact LeO.none _)
   | (with_reducible refine LeO.ite ?_ ?_)
   | (with_reducible refine LeO.bind ?_ (fun _ => ?_))
   | exact ih0 _ _ _ _ _ _ _ _ _ _ _ _ _ _ _ _ _ _ _ _ _ _ _ _ _
   | exact ih1 _ _ _ _ _ _ _ _ _ _ _ _ _ _
   | exact ih2 _ _ _
   | exact impl_Changes.mono _ _ _ _ _ _ _ _ _ _ _
   | exact laws_eqRecS.mono _ _ _
   | exact laws_eqWal.mono _ _ _ _ _ _ _ _ _ _ _
   | exact laws_heldRecS.mono _ _ _
   | exact laws_markRecS.mono _ _ _
   | exact laws_markWal.mono _ _ _ _ _ _ _
   | exact laws_szWal.mono _ _ _ _ _ _ _
   | exact laws_toWal.mono _ _ _ _ _ _
   | exact spec_Changes.mono _ _ _ _ _ _ _ _ _ _ _
   | exact LeO.none _
   | refine LeO.ite ?_ ?_
   | refine LeO.bind ?_ (fun _ => ?_)
  ·intro y0 y1 y2 y3 y4 y5 y6 y7 y8 y9 y10 y11 y12 y13
   unfold laws_FnExactChanges.j1
   repeat' first
   | (with_reducible exact ih0 _ _ _ _ _ _ _ _ _ _ _ _ _ _ _ _ _ _ _ _ _ _ _ _ _)
   | (with_reducible exact ih1 _ _ _ _ _ _ _ _ _ _ _ _ _ _)
   | (with_reducible exact ih2 _ _ _)
   | (with_reducible exact impl_Changes.mono _ _ _ _ _ _ _ _ _ _ _)
   | (with_reducible exact laws_eqRecS.mono _ _ _)
   | (with_reducible exact laws_eqWal.mono _ _ _ _ _ _ _ _ _ _ _)
   | (with_reducible exact laws_heldRecS.mono _ _ _)
   | (with_reducible exact laws_markRecS.mono _ _ _)
   | (with_reducible exact laws_markWal.mono _ _ _ _ _ _ _)
   | (with_reducible exact laws_szWal.mono _ _ _ _ _ _ _)
   | (with_reducible exact laws_toWal.mono _ _ _ _ _ _)
   | (with_reducible exact spec_Changes.mono _ _ _ _ _ _ _ _ _ _ _)
   | (with_reducible exact LeO.refl _)
   | (with_reducible exact LeO.none _)
   | (with_reducible refine LeO.ite ?_ ?_)
   | (with_reducible refine LeO.bind ?_ (fun _ => ?_))
   | exact ih0 _ _ _ _ _ _ _ _ _ _ _ _ _ _ _ _ _ _ _ _ _ _ _ _ _
   | exact ih1 _ _ _ _ _ _ _ _ _ _ _ _ _ _
   | exact ih2 _ _ _
   | exact impl_Changes.mono _ _ _ _ _ _ _ _ _ _ _
   | exact laws_eqRecS.mono _ _ _
   | exact laws_eqWal.mono _ _ _ _ _ _ _ _ _ _ _
   | exact laws_heldRecS.mono _ _ _
   | exact laws_markRecS.mono _ _ _
   | exact laws_markWal.mono _ _ _ _ _ _ _
   | exact laws_szWal.mono _ _ _ _ _ _ _
   | exact laws_toWal.mono _ _ _ _ _ _
   | exact spec_Changes.mono _ _ _ _ _ _ _ _ _ _ _
   | exact LeO.none _
   | refine LeO.ite ?_ ?_
   | refine LeO.bind ?_ (fun _ => ?_)
  ·intro y0 y1 y2
   unfold laws_FnExactChanges.j2
   repeat' first
   | (with_reducible exact ih0 _ _ _ _ _ _ _ _ _ _ _ _ _ _ _ _ _ _ _ _ _ _ _ _ _)
   | (with_reducible exact ih1 _ _ _ _ _ _ _ _ _ _ _ _ _ _)
   | (with_reducible exact ih2 _ _ _)
   | (with_reducible exact impl_Changes.mono _ _ _ _ _ _ _ _ _ _ _)
   | (with_reducible exact laws_eqRecS.mono _ _ _)
   | (with_reducible exact laws_eqWal.mono _ _ _ _ _ _ _ _ _ _ _)
   | (with_reducible exact laws_heldRecS.mono _ _ _)
   | (with_reducible exact laws_markRecS.mono _ _ _)
   | (with_reducible exact laws_markWal.mono _ _ _ _ _ _ _)
   | (with_reducible exact laws_szWal.mono _ _ _ _ _ _ _)
   | (with_reducible exact laws_toWal.mono _ _ _ _ _ _)
   | (with_reducible exact spec_Changes.mono _ _ _ _ _ _ _ _ _ _ _)
   | (with_reducible exact LeO.refl _)
   | (with_reducible exact LeO.none _)
   | (with_reducible refine LeO.ite ?_ ?_)
   | (with_reducible refine LeO.bind ?_ (fun _ => ?_))
   | exact ih0 _ _ _ _ _ _ _ _ _ _ _ _ _ _ _ _ _ _ _ _ _ _ _ _ _
   | exact ih1 _ _ _ _ _ _ _ _ _ _ _ _ _ _
   | exact ih2 _ _ _
   | exact impl_Changes.mono _ _ _ _ _ _ _ _ _ _ _
   | exact laws_eqRecS.mono _ _ _
   | exact laws_eqWal.mono _ _ _ _ _ _ _ _ _ _ _
   | exact laws_heldRecS.mono _ _ _
   | exact laws_markRecS.mono _ _ _
   | exact laws_markWal.mono _ _ _ _ _ _ _
   | exact laws_szWal.mono _ _ _ _ _ _ _
   | exact laws_toWal.mono _ _ _ _ _ _
   | exact spec_Changes.mono _ _ _ _ _ _ _ _ _ _ _
   | exact LeO.none _
   | refine LeO.ite ?_ ?_
   | refine LeO.bind ?_ (fun _ => ?_)
theorem laws_FnExactChanges.mono : ∀ a0 a1 a2 a3 a4 a5 a6 a7 a8 a9 k, LeO (laws_FnExactChanges.f k a0 a1 a2 a3 a4 a5 a6 a7 a8 a9) (laws_FnExactChanges.f (k + 1) a0 a1 a2 a3 a4 a5 a6 a7 a8 a9) := by
 intro a0 a1 a2 a3 a4 a5 a6 a7 a8 a9 k
 obtain ⟨ih0, ih1, ih2⟩ := laws_FnExactChanges.mono_l k
 unfold laws_FnExactChanges.f
 repeat' first
  | (with_reducible exact ih0 _ _ _ _ _ _ _ _ _ _ _ _ _ _ _ _ _ _ _ _ _ _ _ _ _)
  | (with_reducible exact ih1 _ _ _ _ _ _ _ _ _ _ _ _ _ _)
  | (with_reducible exact ih2 _ _ _)
  | (with_reducible exact impl_Changes.mono _ _ _ _ _ _ _ _ _ _ _)
  | (with_reducible exact laws_eqRecS.mono _ _ _)
  | (with_reducible exact laws_eqWal.mono _ _ _ _ _ _ _ _ _ _ _)
  | (with_reducible exact laws_heldRecS.mono _ _ _)
  | (with_reducible exact laws_markRecS.mono _ _ _)
  | (with_reducible exact laws_markWal.mono _ _ _ _ _ _ _)
  | (with_reducible exact laws_szWal.mono _ _ _ _ _ _ _)
  | (with_reducible exact laws_toWal.mono _ _ _ _ _ _)
  | (with_reducible exact spec_Changes.mono _ _ _ _ _ _ _ _ _ _ _)
  | (with_reducible exact LeO.refl _)
  | (with_reducible exact LeO.none _)
  | (with_reducible refine LeO.ite ?_ ?_)
  | (with_reducible refine LeO.bind ?_ (fun _ => ?_))
  | exact ih0 _ _ _ _ _ _ _ _ _ _ _ _ _ _ _ _ _ _ _ _ _ _ _ _ _
  | exact ih1 _ _ _ _ _ _ _ _ _ _ _ _ _ _
  | exact ih2 _ _ _
  | exact impl_Changes.mono _ _ _ _ _ _ _ _ _ _ _
  | exact laws_eqRecS.mono _ _ _
  | exact laws_eqWal.mono _ _ _ _ _ _ _ _ _ _ _
  | exact laws_heldRecS.mono _ _ _
  | exact laws_markRecS.mono _ _ _
  | exact laws_markWal.mono _ _ _ _ _ _ _
  | exact laws_szWal.mono _ _ _ _ _ _ _
  | exact laws_toWal.mono _ _ _ _ _ _
  | exact spec_Changes.mono _ _ _ _ _ _ _ _ _ _ _
  | exact LeO.none _
  | refine LeO.ite ?_ ?_
  | refine LeO.bind ?_ (fun _ => ?_)
def laws_FnExactChanges.T8 : Bool × List (List Nat × List Nat) := (true, [([], []), ([0], [0]), ([], []), ([2, 1], [2]), ([1, 3, 3], [1, 3]), ([4], [4]), ([5], [5]), ([5], [5]), ([6, 4, 0, 1, 2, 3, 4, 5, 6], [6]), ([7, 8, 0, 1, 2, 3, 4, 5, 6, 7, 8], [7])])
def laws_FnExactChanges.B8 : List Nat := [0, 1, 0, 7, 15, 31, 63, 63, 127, 511]
theorem laws_FnExactChanges.tab8 : rtab .any (opsOf Try.f12 8) = laws_FnExactChanges.T8 := by kernel_rfl
theorem laws_FnExactChanges.bits8 : waitsOk laws_FnExactChanges.T8.2 laws_FnExactChanges.B8 = true := by kernel_rfl
def laws_FnExactChanges.T31 : Bool × List (List Nat × List Nat) := (true, [([], []), ([0], [0]), ([], []), ([2, 1], [2]), ([1, 3, 3], [1, 3]), ([4], [4]), ([5], [5]), ([5], [5]), ([6, 4, 0, 1, 2, 3, 4, 5, 6], [6]), ([7, 8, 0, 1, 2, 3, 4, 5, 6, 7, 8], [7])])
def laws_FnExactChanges.B31 : List Nat := [0, 1, 0, 7, 15, 31, 63, 63, 127, 511]
theorem laws_FnExactChanges.tab31 : rtab .any (opsOf Try.f12 31) = laws_FnExactChanges.T31 := by kernel_rfl
theorem laws_FnExactChanges.bits31 : waitsOk laws_FnExactChanges.T31.2 laws_FnExactChanges.B31 = true := by kernel_rfl
set_option maxHeartbeats 8000000 in
set_option maxRecDepth 100000 in
theorem laws_FnExactChanges.calls (k : Nat) (a0_0 : Int) (a0_1 : Int) (a0_2 : Int) (a0_3 : Int) (A0_4 : Option Addr) (c0_4 : Nat) (l0_4 : List (S139)) (a1_0 : Int) (a1_1 : Int) (a1_2 : Int) (a1_3 : Int) (A1_4 : Option Addr) (c1_4 : Nat) (l1_4 : List (S139)) (r : Bool) (w : World) (hr0_4 : Kd.C k139 w A0_4 l0_4.length l0_4) (hc0_4 : l0_4.length ≤ c0_4) (hr1_4 : Kd.C k139 w A1_4 l1_4.length l1_4) (hc1_4 : l1_4.length ≤ c1_4) (h : laws_FnExactChanges.f k a0_0 a0_1 a0_2 a0_3 l0_4 a1_0 a1_1 a1_2 a1_3 l1_4 = some r) (hr_ : r = true) :
 Calls Try.prog 12 #[.agg #[.int .i64 a0_0, .int .i64 a0_1, .int .i64 a0_2, .int .i64 a0_3, .slice A0_4 l0_4.length c0_4], .agg #[.int .i64 a1_0, .int .i64 a1_1, .int .i64 a1_2, .int .i64 a1_3, .slice A1_4 l1_4.length c1_4]] w fun e w' => e = .returned (.bool r) ∧ Below w.heap.size w w' := by
 have hu62 := Try.underlying62
 have hu67 := Try.underlying67
 have HR0_4 := Aside0.mk hr0_4
 have HC0_4 := Aside0.mk hc0_4
 clear hr0_4 hc0_4
 have HR1_4 := Aside0.mk hr1_4
 have HC1_4 := Aside0.mk hc1_4
 clear hr1_4 hc1_4
 have HB := Aside0.mk (Below.refl w.heap.size w)
 have H : ((laws_szWal.f k a0_0 a0_1 a0_2 a0_3 l0_4 1048576).bind fun t265 => (if t265 < 0 then (some true) else ((laws_szWal.f k a1_0 a1_1 a1_2 a1_3 l1_4 t265).bind fun t266 => (if t266 < 0 then (some true) else ((laws_toWal.f k a0_0 a0_1 a0_2 a0_3 l0_4).bind fun bt267 => ((laws_toWal.f k a1_0 a1_1 a1_2 a1_3 l1_4).bind fun bt274 => ((spec_Changes.f k bt267.1 bt267.2.1 bt267.2.2.1 bt267.2.2.2.1 bt267.2.2.2.2 bt274.1 bt274.2.1 bt274.2.2.1 bt274.2.2.2.1 bt274.2.2.2.2).bind fun bt281 => ((laws_toWal.f k a0_0 a0_1 a0_2 a0_3 l0_4).bind fun bt285 => ((laws_toWal.f k a1_0 a1_1 a1_2 a1_3 l1_4).bind fun bt293 => ((impl_Changes.f k bt285.1 bt285.2.1 bt285.2.2.1 bt285.2.2.2.1 bt285.2.2.2.2 bt293.1 bt293.2.1 bt293.2.2.1 bt293.2.2.2.1 bt293.2.2.2.2).bind fun bt301 => ((laws_eqRecS.f k bt301.1 bt281.1).bind fun t305 => (if t305 = true then (laws_FnExactChanges.j0 k bt281.1 bt281.2 bt301.1 bt301.2 (bt301.2 != bt281.2) a0_0 a0_1 a0_2 a0_3 l0_4 a1_0 a1_1 a1_2 a1_3 l1_4 bt285.1 bt285.2.1 bt285.2.2.1 bt285.2.2.2.1 bt285.2.2.2.2 bt293.1 bt293.2.1 bt293.2.2.1 bt293.2.2.2.1 bt293.2.2.2.2) else (laws_FnExactChanges.j0 k bt281.1 bt281.2 bt301.1 bt301.2 true a0_0 a0_1 a0_2 a0_3 l0_4 a1_0 a1_1 a1_2 a1_3 l1_4 bt285.1 bt285.2.1 bt285.2.2.1 bt285.2.2.2.1 bt285.2.2.2.2 bt293.1 bt293.2.1 bt293.2.2.1 bt293.2.2.2.1 bt293.2.2.2.2))))))))))))) = some r := h
 clear h
 obtain ⟨t265, A3, H⟩ := bd H
 by_cases c4 : t265 < 0
 ·rw [if_pos c4] at H
  have c4b0 : decide (t265 < 0) = true := decide_eq_true c4
  clear c4
  obtain rfl := Option.some.inj H
  go_enter Try.func12, Try.ntmps12
  go_wp2_with (first | ((with_reducible refine gD 2 rfl ?_); refine boxZ 2 #[.int .i64 a0_0, .int .i64 a0_1, .int .i64 a0_2, .int .i64 a0_3, .slice A0_4 l0_4.length c0_4] 62 ?_; intro gb263 hg w5 hbox hb; have BK263 := Aside0.mk hbox; have GW263 := gw (w := w) hg; have GE263 := gw (w := w) hg; replace HB := bs (w := w) hb; clear hb hbox hg) | ((with_reducible refine gD 3 rfl ?_); refine boxZ 3 #[.int .i64 a1_0, .int .i64 a1_1, .int .i64 a1_2, .int .i64 a1_3, .slice A1_4 l1_4.length c1_4] 62 ?_; intro gb264 hg w6 hbox hb; have BK264 := Aside0.mk hbox; have GW264 := gw (w := w) hg; have GE264 := gw (w := w) hg; replace HB := bs (w := w) hb; have NB263_264 := nl BK263 hg; have NB264_263 := nr BK263 hg; replace BK263 := bv BK263 hb; clear hb hbox hg; have hnb7 := NB263_264.out; have hnc7 := NB264_263.out; obtain ⟨hcz8_0, hcz8_1, hcz8_2, hcz8_3, hcz8_4, hfz8_0, hfz8_1, hfz8_2, hfz8_3, hfz8_4⟩ := cf5 BK263) | ((with_reducible refine gC 55 rfl ?_); refine goesZ (some 19) rfl Try.func55 #[.agg #[.int .i64 a0_0, .int .i64 a0_1, .int .i64 a0_2, .int .i64 a0_3, .slice A0_4 l0_4.length c0_4], .int .i64 1048576] ?_; (with_reducible refine (laws_szWal.calls k a0_0 a0_1 a0_2 a0_3 _ _ l0_4 1048576 t265 _ ?side1 ?side2 A3.out).mono ?_); (case side1 => repeat (first | exact (Kd.C_below HR0_4.out HB.out) | (with_reducible refine Kd.C_alloc ?_ _) | (with_reducible refine Kd.C_drewN ?_ _) | (with_reducible refine Kd.C_drew ?_))); (case side2 => exact HC0_4.out); rintro e w9 ⟨rfl, hb⟩; refine ⟨_, rfl, ?_⟩; replace BK263 := bv BK263 hb; replace BK264 := bv BK264 hb; replace HB := bs (w := w) hb; (try clear hb); (try clear hb2); (try clear hk); (try clear hi)))
  go_ret
  exact ⟨fe, bl⟩
 ·rw [if_neg c4] at H
  have c4b0 : decide (t265 < 0) = false := decide_eq_false c4
  clear c4
  obtain ⟨t266, A10, H⟩ := bd H
  by_cases c11 : t266 < 0
  ·rw [if_pos c11] at H
   have c11b0 : decide (t266 < 0) = true := decide_eq_true c11
   clear c11
   obtain rfl := Option.some.inj H
   go_enter Try.func12, Try.ntmps12
   go_wp2_with (first | ((with_reducible refine gD 2 rfl ?_); refine boxZ 2 #[.int .i64 a0_0, .int .i64 a0_1, .int .i64 a0_2, .int .i64 a0_3, .slice A0_4 l0_4.length c0_4] 62 ?_; intro gb263 hg w12 hbox hb; have BK263 := Aside0.mk hbox; have GW263 := gw (w := w) hg; have GE263 := gw (w := w) hg; replace HB := bs (w := w) hb; clear hb hbox hg) | ((with_reducible refine gD 3 rfl ?_); refine boxZ 3 #[.int .i64 a1_0, .int .i64 a1_1, .int .i64 a1_2, .int .i64 a1_3, .slice A1_4 l1_4.length c1_4] 62 ?_; intro gb264 hg w13 hbox hb; have BK264 := Aside0.mk hbox; have GW264 := gw (w := w) hg; have GE264 := gw (w := w) hg; replace HB := bs (w := w) hb; have NB263_264 := nl BK263 hg; have NB264_263 := nr BK263 hg; replace BK263 := bv BK263 hb; clear hb hbox hg; have hnb14 := NB263_264.out; have hnc14 := NB264_263.out; obtain ⟨hcz15_0, hcz15_1, hcz15_2, hcz15_3, hcz15_4, hfz15_0, hfz15_1, hfz15_2, hfz15_3, hfz15_4⟩ := cf5 BK263) | ((with_reducible refine gC 55 rfl ?_); refine goesZ (some 19) rfl Try.func55 #[.agg #[.int .i64 a0_0, .int .i64 a0_1, .int .i64 a0_2, .int .i64 a0_3, .slice A0_4 l0_4.length c0_4], .int .i64 1048576] ?_; (with_reducible refine (laws_szWal.calls k a0_0 a0_1 a0_2 a0_3 _ _ l0_4 1048576 t265 _ ?side1 ?side2 A3.out).mono ?_); (case side1 => repeat (first | exact (Kd.C_below HR0_4.out HB.out) | (with_reducible refine Kd.C_alloc ?_ _) | (with_reducible refine Kd.C_drewN ?_ _) | (with_reducible refine Kd.C_drew ?_))); (case side2 => exact HC0_4.out); rintro e w16 ⟨rfl, hb⟩; refine ⟨_, rfl, ?_⟩; replace BK263 := bv BK263 hb; replace BK264 := bv BK264 hb; replace HB := bs (w := w) hb; (try clear hb); (try clear hb2); (try clear hk); (try clear hi); obtain ⟨hcz17_0, hcz17_1, hcz17_2, hcz17_3, hcz17_4, hfz17_0, hfz17_1, hfz17_2, hfz17_3, hfz17_4⟩ := cf5 BK264) | ((with_reducible refine gC 55 rfl ?_); refine goesZ (some 24) rfl Try.func55 #[.agg #[.int .i64 a1_0, .int .i64 a1_1, .int .i64 a1_2, .int .i64 a1_3, .slice A1_4 l1_4.length c1_4], .int .i64 t265] ?_; (with_reducible refine (laws_szWal.calls k a1_0 a1_1 a1_2 a1_3 _ _ l1_4 t265 t266 _ ?side1 ?side2 A10.out).mono ?_); (case side1 => repeat (first | exact (Kd.C_below HR1_4.out HB.out) | (with_reducible refine Kd.C_alloc ?_ _) | (with_reducible refine Kd.C_drewN ?_ _) | (with_reducible refine Kd.C_drew ?_))); (case side2 => exact HC1_4.out); rintro e w18 ⟨rfl, hb⟩; refine ⟨_, rfl, ?_⟩; replace BK263 := bv BK263 hb; replace BK264 := bv BK264 hb; replace HB := bs (w := w) hb; (try clear hb); (try clear hb2); (try clear hk); (try clear hi)))
   go_ret
   exact ⟨fe, bl⟩
  ·rw [if_neg c11] at H
   have c11b0 : decide (t266 < 0) = false := decide_eq_false c11
   clear c11
   replace H := Option.bind_eq_some_iff.mp H
   obtain ⟨⟨t267, t268, t269, t270, t271⟩, A190, H⟩ := H
   replace H : ((laws_toWal.f k a1_0 a1_1 a1_2 a1_3 l1_4).bind fun bt274 => ((spec_Changes.f k t267 t268 t269 t270 t271 bt274.1 bt274.2.1 bt274.2.2.1 bt274.2.2.2.1 bt274.2.2.2.2).bind fun bt281 => ((laws_toWal.f k a0_0 a0_1 a0_2 a0_3 l0_4).bind fun bt285 => ((laws_toWal.f k a1_0 a1_1 a1_2 a1_3 l1_4).bind fun bt293 => ((impl_Changes.f k bt285.1 bt285.2.1 bt285.2.2.1 bt285.2.2.2.1 bt285.2.2.2.2 bt293.1 bt293.2.1 bt293.2.2.1 bt293.2.2.2.1 bt293.2.2.2.2).bind fun bt301 => ((laws_eqRecS.f k bt301.1 bt281.1).bind fun t305 => (if t305 = true then (laws_FnExactChanges.j0 k bt281.1 bt281.2 bt301.1 bt301.2 (bt301.2 != bt281.2) a0_0 a0_1 a0_2 a0_3 l0_4 a1_0 a1_1 a1_2 a1_3 l1_4 bt285.1 bt285.2.1 bt285.2.2.1 bt285.2.2.2.1 bt285.2.2.2.2 bt293.1 bt293.2.1 bt293.2.2.1 bt293.2.2.2.1 bt293.2.2.2.2) else (laws_FnExactChanges.j0 k bt281.1 bt281.2 bt301.1 bt301.2 true a0_0 a0_1 a0_2 a0_3 l0_4 a1_0 a1_1 a1_2 a1_3 l1_4 bt285.1 bt285.2.1 bt285.2.2.1 bt285.2.2.2.1 bt285.2.2.2.2 bt293.1 bt293.2.1 bt293.2.2.1 bt293.2.2.2.1 bt293.2.2.2.2)))))))) = some r := H
   have A19 := Aside0.mk A190
   clear A190
   replace H := Option.bind_eq_some_iff.mp H
   obtain ⟨⟨t274, t275, t276, t277, t278⟩, A200, H⟩ := H
   replace H : ((spec_Changes.f k t267 t268 t269 t270 t271 t274 t275 t276 t277 t278).bind fun bt281 => ((laws_toWal.f k a0_0 a0_1 a0_2 a0_3 l0_4).bind fun bt285 => ((laws_toWal.f k a1_0 a1_1 a1_2 a1_3 l1_4).bind fun bt293 => ((impl_Changes.f k bt285.1 bt285.2.1 bt285.2.2.1 bt285.2.2.2.1 bt285.2.2.2.2 bt293.1 bt293.2.1 bt293.2.2.1 bt293.2.2.2.1 bt293.2.2.2.2).bind fun bt301 => ((laws_eqRecS.f k bt301.1 bt281.1).bind fun t305 => (if t305 = true then (laws_FnExactChanges.j0 k bt281.1 bt281.2 bt301.1 bt301.2 (bt301.2 != bt281.2) a0_0 a0_1 a0_2 a0_3 l0_4 a1_0 a1_1 a1_2 a1_3 l1_4 bt285.1 bt285.2.1 bt285.2.2.1 bt285.2.2.2.1 bt285.2.2.2.2 bt293.1 bt293.2.1 bt293.2.2.1 bt293.2.2.2.1 bt293.2.2.2.2) else (laws_FnExactChanges.j0 k bt281.1 bt281.2 bt301.1 bt301.2 true a0_0 a0_1 a0_2 a0_3 l0_4 a1_0 a1_1 a1_2 a1_3 l1_4 bt285.1 bt285.2.1 bt285.2.2.1 bt285.2.2.2.1 bt285.2.2.2.2 bt293.1 bt293.2.1 bt293.2.2.1 bt293.2.2.2.1 bt293.2.2.2.2))))))) = some r := H
   have A20 := Aside0.mk A200
   clear A200
   replace H := Option.bind_eq_some_iff.mp H
   obtain ⟨⟨t281, t284⟩, A210, H⟩ := H
   replace H : ((laws_toWal.f k a0_0 a0_1 a0_2 a0_3 l0_4).bind fun bt285 => ((laws_toWal.f k a1_0 a1_1 a1_2 a1_3 l1_4).bind fun bt293 => ((impl_Changes.f k bt285.1 bt285.2.1 bt285.2.2.1 bt285.2.2.2.1 bt285.2.2.2.2 bt293.1 bt293.2.1 bt293.2.2.1 bt293.2.2.2.1 bt293.2.2.2.2).bind fun bt301 => ((laws_eqRecS.f k bt301.1 t281).bind fun t305 => (if t305 = true then (laws_FnExactChanges.j0 k t281 t284 bt301.1 bt301.2 (bt301.2 != t284) a0_0 a0_1 a0_2 a0_3 l0_4 a1_0 a1_1 a1_2 a1_3 l1_4 bt285.1 bt285.2.1 bt285.2.2.1 bt285.2.2.2.1 bt285.2.2.2.2 bt293.1 bt293.2.1 bt293.2.2.1 bt293.2.2.2.1 bt293.2.2.2.2) else (laws_FnExactChanges.j0 k t281 t284 bt301.1 bt301.2 true a0_0 a0_1 a0_2 a0_3 l0_4 a1_0 a1_1 a1_2 a1_3 l1_4 bt285.1 bt285.2.1 bt285.2.2.1 bt285.2.2.2.1 bt285.2.2.2.2 bt293.1 bt293.2.1 bt293.2.2.1 bt293.2.2.2.1 bt293.2.2.2.2)))))) = some r := H
   have A21 := Aside0.mk A210
   clear A210
   replace H := Option.bind_eq_some_iff.mp H
   obtain ⟨⟨t285, t286, t287, t288, t289⟩, A220, H⟩ := H
   replace H : ((laws_toWal.f k a1_0 a1_1 a1_2 a1_3 l1_4).bind fun bt293 => ((impl_Changes.f k t285 t286 t287 t288 t289 bt293.1 bt293.2.1 bt293.2.2.1 bt293.2.2.2.1 bt293.2.2.2.2).bind fun bt301 => ((laws_eqRecS.f k bt301.1 t281).bind fun t305 => (if t305 = true then (laws_FnExactChanges.j0 k t281 t284 bt301.1 bt301.2 (bt301.2 != t284) a0_0 a0_1 a0_2 a0_3 l0_4 a1_0 a1_1 a1_2 a1_3 l1_4 t285 t286 t287 t288 t289 bt293.1 bt293.2.1 bt293.2.2.1 bt293.2.2.2.1 bt293.2.2.2.2) else (laws_FnExactChanges.j0 k t281 t284 bt301.1 bt301.2 true a0_0 a0_1 a0_2 a0_3 l0_4 a1_0 a1_1 a1_2 a1_3 l1_4 t285 t286 t287 t288 t289 bt293.1 bt293.2.1 bt293.2.2.1 bt293.2.2.2.1 bt293.2.2.2.2))))) = some r := H
   have A22 := Aside0.mk A220
   clear A220
   replace H := Option.bind_eq_some_iff.mp H
   obtain ⟨⟨t293, t294, t295, t296, t297⟩, A230, H⟩ := H
   replace H : ((impl_Changes.f k t285 t286 t287 t288 t289 t293 t294 t295 t296 t297).bind fun bt301 => ((laws_eqRecS.f k bt301.1 t281).bind fun t305 => (if t305 = true then (laws_FnExactChanges.j0 k t281 t284 bt301.1 bt301.2 (bt301.2 != t284) a0_0 a0_1 a0_2 a0_3 l0_4 a1_0 a1_1 a1_2 a1_3 l1_4 t285 t286 t287 t288 t289 t293 t294 t295 t296 t297) else (laws_FnExactChanges.j0 k t281 t284 bt301.1 bt301.2 true a0_0 a0_1 a0_2 a0_3 l0_4 a1_0 a1_1 a1_2 a1_3 l1_4 t285 t286 t287 t288 t289 t293 t294 t295 t296 t297)))) = some r := H
   have A23 := Aside0.mk A230
   clear A230
   replace H := Option.bind_eq_some_iff.mp H
   obtain ⟨⟨t301, t304⟩, A240, H⟩ := H
   replace H : ((laws_eqRecS.f k t301 t281).bind fun t305 => (if t305 = true then (laws_FnExactChanges.j0 k t281 t284 t301 t304 (t304 != t284) a0_0 a0_1 a0_2 a0_3 l0_4 a1_0 a1_1 a1_2 a1_3 l1_4 t285 t286 t287 t288 t289 t293 t294 t295 t296 t297) else (laws_FnExactChanges.j0 k t281 t284 t301 t304 true a0_0 a0_1 a0_2 a0_3 l0_4 a1_0 a1_1 a1_2 a1_3 l1_4 t285 t286 t287 t288 t289 t293 t294 t295 t296 t297))) = some r := H
   have A24 := Aside0.mk A240
   clear A240
   have HC25 := Aside0.mk H
   clear H
   go_enter Try.func12, Try.ntmps12
   try go_wp2_with (first | ((with_reducible refine gD 2 rfl ?_); refine boxZ 2 #[.int .i64 a0_0, .int .i64 a0_1, .int .i64 a0_2, .int .i64 a0_3, .slice A0_4 l0_4.length c0_4] 62 ?_; intro gb263 hg w26 hbox hb; have BK263 := Aside0.mk hbox; have GW263 := gw (w := w) hg; have GE263 := gw (w := w) hg; replace HB := bs (w := w) hb; clear hb hbox hg) | ((with_reducible refine gD 3 rfl ?_); refine boxZ 3 #[.int .i64 a1_0, .int .i64 a1_1, .int .i64 a1_2, .int .i64 a1_3, .slice A1_4 l1_4.length c1_4] 62 ?_; intro gb264 hg w27 hbox hb; have BK264 := Aside0.mk hbox; have GW264 := gw (w := w) hg; have GE264 := gw (w := w) hg; replace HB := bs (w := w) hb; have NB263_264 := nl BK263 hg; have NB264_263 := nr BK263 hg; replace BK263 := bv BK263 hb; clear hb hbox hg; have hnb28 := NB263_264.out; have hnc28 := NB264_263.out; obtain ⟨hcz29_0, hcz29_1, hcz29_2, hcz29_3, hcz29_4, hfz29_0, hfz29_1, hfz29_2, hfz29_3, hfz29_4⟩ := cf5 BK263) | ((with_reducible refine gC 55 rfl ?_); refine goesZ (some 19) rfl Try.func55 #[.agg #[.int .i64 a0_0, .int .i64 a0_1, .int .i64 a0_2, .int .i64 a0_3, .slice A0_4 l0_4.length c0_4], .int .i64 1048576] ?_; (with_reducible refine (laws_szWal.calls k a0_0 a0_1 a0_2 a0_3 _ _ l0_4 1048576 t265 _ ?side1 ?side2 A3.out).mono ?_); (case side1 => repeat (first | exact (Kd.C_below HR0_4.out HB.out) | (with_reducible refine Kd.C_alloc ?_ _) | (with_reducible refine Kd.C_drewN ?_ _) | (with_reducible refine Kd.C_drew ?_))); (case side2 => exact HC0_4.out); rintro e w30 ⟨rfl, hb⟩; refine ⟨_, rfl, ?_⟩; replace BK263 := bv BK263 hb; replace BK264 := bv BK264 hb; replace HB := bs (w := w) hb; (try clear hb); (try clear hb2); (try clear hk); (try clear hi); obtain ⟨hcz31_0, hcz31_1, hcz31_2, hcz31_3, hcz31_4, hfz31_0, hfz31_1, hfz31_2, hfz31_3, hfz31_4⟩ := cf5 BK264) | ((with_reducible refine gC 55 rfl ?_); refine goesZ (some 24) rfl Try.func55 #[.agg #[.int .i64 a1_0, .int .i64 a1_1, .int .i64 a1_2, .int .i64 a1_3, .slice A1_4 l1_4.length c1_4], .int .i64 t265] ?_; (with_reducible refine (laws_szWal.calls k a1_0 a1_1 a1_2 a1_3 _ _ l1_4 t265 t266 _ ?side1 ?side2 A10.out).mono ?_); (case side1 => repeat (first | exact (Kd.C_below HR1_4.out HB.out) | (with_reducible refine Kd.C_alloc ?_ _) | (with_reducible refine Kd.C_drewN ?_ _) | (with_reducible refine Kd.C_drew ?_))); (case side2 => exact HC1_4.out); rintro e w32 ⟨rfl, hb⟩; refine ⟨_, rfl, ?_⟩; replace BK263 := bv BK263 hb; replace BK264 := bv BK264 hb; replace HB := bs (w := w) hb; (try clear hb); (try clear hb2); (try clear hk); (try clear hi)))
   have n0_ := Aside0.mk (blk_drew BK263.out)
   have n1_ := Aside0.mk (blk_drew BK264.out)
   have n2_ := Aside0.mk (below_drew1 HB.out)
   clear BK263
   clear BK264
   clear HB
   have BK263 := n0_
   have BK264 := n1_
   have HB := n2_
   clear n0_ n1_ n2_
   refine start_ (n := 10) (S := fun w' => w'.cell? ⟨gb263, 0, none⟩ = some (.int .i64 a0_0) ∧ w'.cell? ⟨gb263, 1, none⟩ = some (.int .i64 a0_1) ∧ w'.cell? ⟨gb263, 2, none⟩ = some (.int .i64 a0_2) ∧ w'.cell? ⟨gb263, 3, none⟩ = some (.int .i64 a0_3) ∧ w'.cell? ⟨gb263, 4, none⟩ = some (.slice A0_4 l0_4.length c0_4) ∧ w'.cell? ⟨gb264, 0, none⟩ = some (.int .i64 a1_0) ∧ w'.cell? ⟨gb264, 1, none⟩ = some (.int .i64 a1_1) ∧ w'.cell? ⟨gb264, 2, none⟩ = some (.int .i64 a1_2) ∧ w'.cell? ⟨gb264, 3, none⟩ = some (.int .i64 a1_3) ∧ w'.cell? ⟨gb264, 4, none⟩ = some (.slice A1_4 l1_4.length c1_4)) (ds := []) (bo 10 0) (by kernel_rfl) rfl rfl ⟨(blk_cell BK263.out 0).trans rfl, (blk_cell BK263.out 1).trans rfl, (blk_cell BK263.out 2).trans rfl, (blk_cell BK263.out 3).trans rfl, (blk_cell BK263.out 4).trans rfl, (blk_cell BK264.out 0).trans rfl, (blk_cell BK264.out 1).trans rfl, (blk_cell BK264.out 2).trans rfl, (blk_cell BK264.out 3).trans rfl, (blk_cell BK264.out 4).trans rfl⟩ (fun hHeld => ?_); refine with_tabW laws_FnExactChanges.tab8 laws_FnExactChanges.bits8 (fun HT_ HW_ => ?_)
   generalize w32.drew = w33 at BK263 BK264 HB hHeld ⊢
   refine take_ (i := 0) (N := some 28) (v := ?_) (a' := ?_) (bo 10 1) rfl rfl (take_ofW HT_.out HW_.out (by kernel_rfl)) (fun _ _ _ h => h) (Or.inl ⟨by rfl, ?_⟩) hHeld ?_ ?_
   rotate_left
   ·rintro w' ⟨s0, s1, s2, s3, s4, s5, s6, s7, s8, s9⟩
    go_simp
    with_reducible rfl
   rotate_left
   ·simp only [Act.put, List.setIfInBounds_toArray, List.set_cons_zero, List.set_cons_succ, i64_w, i32_w]
    rfl
   refine take_ (i := 2) (N := some 30) (v := ?_) (a' := ?_) (bo 10 5) rfl rfl (take_ofW HT_.out HW_.out (by kernel_rfl)) (fun _ _ _ h => h) (Or.inl ⟨by rfl, ?_⟩) hHeld ?_ ?_
   rotate_left
   ·rintro w' ⟨s0, s1, s2, s3, s4, s5, s6, s7, s8, s9⟩
    go_simp
    with_reducible rfl
   rotate_left
   ·simp only [Act.put, List.setIfInBounds_toArray, List.set_cons_zero, List.set_cons_succ, i64_w, i32_w]
    rfl
   refine one_ (i := 1) (N := some 29) (bo 10 7) rfl rfl (one_of HT_.out (by kernel_rfl)) (by decide) (fun K hK => ?_)
   refine goes_ Try.func57 (by kernel_rfl) rfl #[.agg #[.int .i64 a0_0, .int .i64 a0_1, .int .i64 a0_2, .int .i64 a0_3, .slice A0_4 l0_4.length c0_4]] (by rfl) rfl rfl sa ?_
   with_reducible refine (laws_toWal.calls k a0_0 a0_1 a0_2 a0_3 _ _ l0_4 t267 t268 t269 t270 t271 _ ?side1 ?side2 A19.out).mono ?_
   (case side1 => repeat (first | exact (Kd.C_below HR0_4.out HB.out) | (with_reducible refine Kd.C_alloc ?_ _) | (with_reducible refine Kd.C_drewN ?_ _) | (with_reducible refine Kd.C_drew ?_)))
   (case side2 => exact HC0_4.out)
   rintro e w34 ⟨v272, rfl, ho0, hb⟩
   refine ⟨_, rfl, ?_⟩
   have n0_ := Aside0.mk (Kd.R_lower ho0 (below_size bl))
   have n1_ := Aside0.mk (blk_below (g := gb263) (o := .cells #[.int .i64 a0_0, .int .i64 a0_1, .int .i64 a0_2, .int .i64 a0_3, .slice A0_4 l0_4.length c0_4] 62 (0, 0)) bk hb)
   have n2_ := Aside0.mk (blk_below (g := gb264) (o := .cells #[.int .i64 a1_0, .int .i64 a1_1, .int .i64 a1_2, .int .i64 a1_3, .slice A1_4 l1_4.length c1_4] 62 (0, 0)) bk hb)
   have n3_ := Aside0.mk (below_step bl hb)
   clear BK263
   clear BK264
   clear HB
   have HO273 := n0_
   have BK263 := n1_
   have BK264 := n2_
   have HB := n3_
   clear n0_ n1_ n2_ n3_
   (try clear hb)
   (try clear hb2)
   (try clear hk)
   (try clear hi)
   (try clear ho0)
   refine hK.out _ _ ⟨(blk_cell BK263.out 0).trans rfl, (blk_cell BK263.out 1).trans rfl, (blk_cell BK263.out 2).trans rfl, (blk_cell BK263.out 3).trans rfl, (blk_cell BK263.out 4).trans rfl, (blk_cell BK264.out 0).trans rfl, (blk_cell BK264.out 1).trans rfl, (blk_cell BK264.out 2).trans rfl, (blk_cell BK264.out 3).trans rfl, (blk_cell BK264.out 4).trans rfl⟩ (fun hHeld => ?_)
   clear hK K
   refine norm_ (a' := ?_) ?_ ?_
   rotate_left
   ·show Act.put _ (some 29) _ = _
    simp only [Act.put, List.setIfInBounds_toArray, List.set_cons_zero, List.set_cons_succ, i64_w, i32_w]
    rfl
   refine one_ (i := 3) (N := some 31) (bo 10 15) rfl rfl (one_of HT_.out (by kernel_rfl)) (by decide) (fun K hK => ?_)
   refine goes_ Try.func57 (by kernel_rfl) rfl #[.agg #[.int .i64 a1_0, .int .i64 a1_1, .int .i64 a1_2, .int .i64 a1_3, .slice A1_4 l1_4.length c1_4]] (by rfl) rfl rfl sa ?_
   with_reducible refine (laws_toWal.calls k a1_0 a1_1 a1_2 a1_3 _ _ l1_4 t274 t275 t276 t277 t278 _ ?side1 ?side2 A20.out).mono ?_
   (case side1 => repeat (first | exact (Kd.C_below HR1_4.out HB.out) | (with_reducible refine Kd.C_alloc ?_ _) | (with_reducible refine Kd.C_drewN ?_ _) | (with_reducible refine Kd.C_drew ?_)))
   (case side2 => exact HC1_4.out)
   rintro e w35 ⟨v279, rfl, ho0, hb⟩
   refine ⟨_, rfl, ?_⟩
   have n0_ := Aside0.mk (Kd.R_elder' (by (with_reducible repeat (first | apply Kd.R_alloc | apply Kd.R_drewN | apply Kd.R_drew)); exact HO273.out) (Kd.R_base ho0) hb)
   have n1_ := Aside0.mk (Kd.R_lower (Kd.R_new' ho0 (Kd.R_lt (by (with_reducible repeat (first | apply Kd.R_alloc | apply Kd.R_drewN | apply Kd.R_drew)); exact HO273.out))) (below_size bl))
   have n2_ := Aside0.mk (blk_below (g := gb263) (o := .cells #[.int .i64 a0_0, .int .i64 a0_1, .int .i64 a0_2, .int .i64 a0_3, .slice A0_4 l0_4.length c0_4] 62 (0, 0)) bk hb)
   have n3_ := Aside0.mk (blk_below (g := gb264) (o := .cells #[.int .i64 a1_0, .int .i64 a1_1, .int .i64 a1_2, .int .i64 a1_3, .slice A1_4 l1_4.length c1_4] 62 (0, 0)) bk hb)
   have n4_ := Aside0.mk (below_step bl hb)
   clear HO273
   clear BK263
   clear BK264
   clear HB
   have HO273 := n0_
   have HO280 := n1_
   have BK263 := n2_
   have BK264 := n3_
   have HB := n4_
   clear n0_ n1_ n2_ n3_ n4_
   (try clear hb)
   (try clear hb2)
   (try clear hk)
   (try clear hi)
   (try clear ho0)
   obtain ⟨Ao36, co36, eo36⟩ := Kd.R_slice HO273.out
   (first | subst eo36 | (injection eo36 with f1_ f2_ f3_; have f4_ := f1_.symm; have f5_ := f3_.symm; clear f1_ f2_ f3_; subst f4_; subst f5_))
   obtain ⟨Ao37, co37, eo37⟩ := Kd.R_slice HO280.out
   (first | subst eo37 | (injection eo37 with f1_ f2_ f3_; have f4_ := f1_.symm; have f5_ := f3_.symm; clear f1_ f2_ f3_; subst f4_; subst f5_))
   refine hK.out _ _ ⟨(blk_cell BK263.out 0).trans rfl, (blk_cell BK263.out 1).trans rfl, (blk_cell BK263.out 2).trans rfl, (blk_cell BK263.out 3).trans rfl, (blk_cell BK263.out 4).trans rfl, (blk_cell BK264.out 0).trans rfl, (blk_cell BK264.out 1).trans rfl, (blk_cell BK264.out 2).trans rfl, (blk_cell BK264.out 3).trans rfl, (blk_cell BK264.out 4).trans rfl⟩ (fun hHeld => ?_)
   clear hK K
   refine norm_ (a' := ?_) ?_ ?_
   rotate_left
   ·show Act.put _ (some 31) _ = _
    simp only [Act.put, List.setIfInBounds_toArray, List.set_cons_zero, List.set_cons_succ, i64_w, i32_w]
    rfl
   refine one_ (i := 4) (N := some 32) (bo 10 31) rfl rfl (one_of HT_.out (by kernel_rfl)) (by decide) (fun K hK => ?_)
   refine goes_ Try.func60 (by kernel_rfl) rfl #[.agg #[.int .i64 t267, .int .i64 t268, .int .i64 t269, .int .i64 t270, .slice Ao36 t271.length co36], .agg #[.int .i64 t274, .int .i64 t275, .int .i64 t276, .int .i64 t277, .slice Ao37 t278.length co37]] (by rfl) rfl rfl sa ?_
   with_reducible refine (spec_Changes.calls k t267 t268 t269 t270 _ _ t271 t274 t275 t276 t277 _ _ t278 t281 t284 _ ?side1 ?side2 ?side3 ?side4 A21.out).mono ?_
   (case side1 => repeat (first | exact (Kd.R_reads' HO273.out).2.2 | (with_reducible refine Kd.C_alloc ?_ _) | (with_reducible refine Kd.C_drewN ?_ _) | (with_reducible refine Kd.C_drew ?_)))
   (case side2 => exact (Kd.R_reads' HO273.out).2.1)
   (case side3 => repeat (first | exact (Kd.R_reads' HO280.out).2.2 | (with_reducible refine Kd.C_alloc ?_ _) | (with_reducible refine Kd.C_drewN ?_ _) | (with_reducible refine Kd.C_drew ?_)))
   (case side4 => exact (Kd.R_reads' HO280.out).2.1)
   rintro e w38 ⟨v282, rfl, ho0, hb⟩
   refine ⟨_, rfl, ?_⟩
   have n0_ := Aside0.mk (Kd.R_below (by (with_reducible repeat (first | apply Kd.R_alloc | apply Kd.R_drewN | apply Kd.R_drew)); exact HO273.out) hb)
   have n1_ := Aside0.mk (Kd.R_below (by (with_reducible repeat (first | apply Kd.R_alloc | apply Kd.R_drewN | apply Kd.R_drew)); exact HO280.out) hb)
   have n2_ := Aside0.mk (Kd.R_lower ho0 (below_size bl))
   have n3_ := Aside0.mk (blk_below (g := gb263) (o := .cells #[.int .i64 a0_0, .int .i64 a0_1, .int .i64 a0_2, .int .i64 a0_3, .slice A0_4 l0_4.length c0_4] 62 (0, 0)) bk hb)
   have n4_ := Aside0.mk (blk_below (g := gb264) (o := .cells #[.int .i64 a1_0, .int .i64 a1_1, .int .i64 a1_2, .int .i64 a1_3, .slice A1_4 l1_4.length c1_4] 62 (0, 0)) bk hb)
   have n5_ := Aside0.mk (below_step bl hb)
   clear HO273
   clear HO280
   clear BK263
   clear BK264
   clear HB
   have HO273 := n0_
   have HO280 := n1_
   have HO283 := n2_
   have BK263 := n3_
   have BK264 := n4_
   have HB := n5_
   clear n0_ n1_ n2_ n3_ n4_ n5_
   (try clear hb)
   (try clear hb2)
   (try clear hk)
   (try clear hi)
   (try clear ho0)
   refine hK.out _ _ ⟨(blk_cell BK263.out 0).trans rfl, (blk_cell BK263.out 1).trans rfl, (blk_cell BK263.out 2).trans rfl, (blk_cell BK263.out 3).trans rfl, (blk_cell BK263.out 4).trans rfl, (blk_cell BK264.out 0).trans rfl, (blk_cell BK264.out 1).trans rfl, (blk_cell BK264.out 2).trans rfl, (blk_cell BK264.out 3).trans rfl, (blk_cell BK264.out 4).trans rfl⟩ (fun hHeld => ?_)
   clear hK K
   refine norm_ (a' := ?_) ?_ ?_
   rotate_left
   ·show Act.put _ (some 32) _ = _
    simp only [Act.put, List.setIfInBounds_toArray, List.set_cons_zero, List.set_cons_succ, i64_w, i32_w]
    rfl
   refine pure_ (i := 5) (N := some 27) (v := ?_) (a' := ?_) (bo 10 63) rfl rfl (any_of HT_.out (by kernel_rfl)) (fun _ _ _ h => h) (Or.inl ⟨by rfl, ?_⟩) ?_ ?_
   rotate_left
   ·intro w'
    go_simp
    with_reducible rfl
   rotate_left
   ·simp only [Act.put, List.setIfInBounds_toArray, List.set_cons_zero, List.set_cons_succ, i64_w, i32_w]
    rfl
   refine pure_ (i := 6) (N := some 33) (v := ?_) (a' := ?_) (bo 10 127) rfl rfl (any_of HT_.out (by kernel_rfl)) (fun _ _ _ h => h) (Or.inl ⟨by rfl, ?_⟩) ?_ ?_
   rotate_left
   ·intro w'
    go_simp
    with_reducible rfl
   rotate_left
   ·simp only [Act.put, List.setIfInBounds_toArray, List.set_cons_zero, List.set_cons_succ, i64_w, i32_w]
    rfl
   refine pure_ (i := 7) (N := some 34) (v := ?_) (a' := ?_) (bo 10 255) rfl rfl (any_of HT_.out (by kernel_rfl)) (fun _ _ _ h => h) (Or.inl ⟨by rfl, ?_⟩) ?_ ?_
   rotate_left
   ·intro w'
    go_simp
    with_reducible rfl
   rotate_left
   ·simp only [Act.put, List.setIfInBounds_toArray, List.set_cons_zero, List.set_cons_succ, i64_w, i32_w]
    rfl
   refine pure_ (i := 8) (N := some 6) (v := ?_) (a' := ?_) (bo 10 511) rfl rfl (any_of HT_.out (by kernel_rfl)) (fun _ _ _ h => h) (Or.inl ⟨by rfl, ?_⟩) ?_ ?_
   rotate_left
   ·intro w'
    go_simp
    with_reducible rfl
   rotate_left
   ·simp only [Act.put, List.setIfInBounds_toArray, List.set_cons_zero, List.set_cons_succ, i64_w, i32_w]
    rfl
   refine pure_ (i := 9) (N := some 7) (v := ?_) (a' := ?_) (bo 10 1023) rfl rfl (any_of HT_.out (by kernel_rfl)) (fun _ _ _ h => h) (Or.inl ⟨by rfl, ?_⟩) ?_ ?_
   rotate_left
   ·intro w'
    go_simp
    with_reducible rfl
   rotate_left
   ·simp only [Act.put, List.setIfInBounds_toArray, List.set_cons_zero, List.set_cons_succ, i64_w, i32_w]
    rfl
   refine done_ (done_of HT_.out (by kernel_rfl)) ?_
   have hcz39_0 : w38.cell? ⟨gb263, 0, none⟩ = some (.int .i64 a0_0) := (blk_cell BK263.out 0).trans rfl
   have hcz39_1 : w38.cell? ⟨gb263, 1, none⟩ = some (.int .i64 a0_1) := (blk_cell BK263.out 1).trans rfl
   have hcz39_2 : w38.cell? ⟨gb263, 2, none⟩ = some (.int .i64 a0_2) := (blk_cell BK263.out 2).trans rfl
   have hcz39_3 : w38.cell? ⟨gb263, 3, none⟩ = some (.int .i64 a0_3) := (blk_cell BK263.out 3).trans rfl
   have hcz39_4 : w38.cell? ⟨gb263, 4, none⟩ = some (.slice A0_4 l0_4.length c0_4) := (blk_cell BK263.out 4).trans rfl
   have hfz39_0 := blk_frozen BK263.out 0
   have hfz39_1 := blk_frozen BK263.out 1
   have hfz39_2 := blk_frozen BK263.out 2
   have hfz39_3 := blk_frozen BK263.out 3
   have hfz39_4 := blk_frozen BK263.out 4
   go_upto_region 12 with (first | ((with_reducible refine gC 57 rfl ?_); refine goesZ (some 36) rfl Try.func57 #[.agg #[.int .i64 a0_0, .int .i64 a0_1, .int .i64 a0_2, .int .i64 a0_3, .slice A0_4 l0_4.length c0_4]] ?_; (with_reducible refine (laws_toWal.calls k a0_0 a0_1 a0_2 a0_3 _ _ l0_4 t285 t286 t287 t288 t289 _ ?side1 ?side2 A22.out).mono ?_); (case side1 => repeat (first | exact (Kd.C_below HR0_4.out HB.out) | (with_reducible refine Kd.C_alloc ?_ _) | (with_reducible refine Kd.C_drewN ?_ _) | (with_reducible refine Kd.C_drew ?_))); (case side2 => exact HC0_4.out); rintro e w40 ⟨v290, rfl, ho0, hb⟩; refine ⟨_, rfl, ?_⟩; replace HO283 := Aside0.mk (Kd.R_below (by (with_reducible repeat (first | apply Kd.R_alloc | apply Kd.R_drewN | apply Kd.R_drew)); exact HO283.out) hb); have HO291 := Aside0.mk (Kd.R_lower (Kd.R_new' (Kd.R_new' ho0 (Kd.R_lt (by (with_reducible repeat (first | apply Kd.R_alloc | apply Kd.R_drewN | apply Kd.R_drew)); exact HO273.out))) (Kd.R_lt (by (with_reducible repeat (first | apply Kd.R_alloc | apply Kd.R_drewN | apply Kd.R_drew)); exact HO280.out))) (below_size bl)); replace HO273 := Aside0.mk (Kd.R_elder' (by (with_reducible repeat (first | apply Kd.R_alloc | apply Kd.R_drewN | apply Kd.R_drew)); exact HO273.out) (Kd.R_base ho0) hb); replace HO280 := Aside0.mk (Kd.R_elder' (by (with_reducible repeat (first | apply Kd.R_alloc | apply Kd.R_drewN | apply Kd.R_drew)); exact HO280.out) (Kd.R_base ho0) hb); replace BK263 := bv BK263 hb; replace BK264 := bv BK264 hb; replace HB := bs (w := w) hb; (try clear hb); (try clear hb2); (try clear hk); (try clear hi); (try clear ho0)) | ((with_reducible refine gD 8 rfl ?_); refine boxZ 8 #[.int .i64 0, .int .i64 0, .int .i64 0, .int .i64 0, .slice none 0 0] 67 ?_; intro gb292 hg w41 hbox hb; have n0_ := Aside0.mk (Kd.R_below (by (with_reducible repeat (first | apply Kd.R_alloc | apply Kd.R_drewN | apply Kd.R_drew)); exact HO273.out) hb); have n1_ := Aside0.mk (Kd.R_below (by (with_reducible repeat (first | apply Kd.R_alloc | apply Kd.R_drewN | apply Kd.R_drew)); exact HO280.out) hb); have n2_ := Aside0.mk (Kd.R_below (by (with_reducible repeat (first | apply Kd.R_alloc | apply Kd.R_drewN | apply Kd.R_drew)); exact HO283.out) hb); have n3_ := Aside0.mk (Kd.R_below (by (with_reducible repeat (first | apply Kd.R_alloc | apply Kd.R_drewN | apply Kd.R_drew)); exact HO291.out) hb); have n4_ := bv BK263 hb; have n5_ := bv BK264 hb; have n6_ := bs (w := w) hb; have n7_ := Aside0.mk hbox; have n8_ := gw (w := w) hg; have n9_ := gw (w := w) hg; have n10_ := nl BK263 hg; have n11_ := nr BK263 hg; have n12_ := nl BK264 hg; have n13_ := nr BK264 hg; clear HO273; clear HO280; clear HO283; clear HO291; clear BK263; clear BK264; clear HB; have HO273 := n0_; have HO280 := n1_; have HO283 := n2_; have HO291 := n3_; have BK263 := n4_; have BK264 := n5_; have HB := n6_; have BK292 := n7_; have GW292 := n8_; have GE292 := n9_; have NB263_292 := n10_; have NB292_263 := n11_; have NB264_292 := n12_; have NB292_264 := n13_; clear n0_ n1_ n2_ n3_ n4_ n5_ n6_ n7_ n8_ n9_ n10_ n11_ n12_ n13_; clear hb hbox hg; have hnb42 := NB292_263.out; have hnc42 := NB263_292.out; have hnb43 := NB292_264.out; have hnc43 := NB264_292.out; have hcz44_0 : w41.cell? ⟨gb292, 0, none⟩ = some (.int .i64 0) := (blk_cell BK292.out 0).trans rfl; have hcz44_1 : w41.cell? ⟨gb292, 1, none⟩ = some (.int .i64 0) := (blk_cell BK292.out 1).trans rfl; have hcz44_2 : w41.cell? ⟨gb292, 2, none⟩ = some (.int .i64 0) := (blk_cell BK292.out 2).trans rfl; have hcz44_3 : w41.cell? ⟨gb292, 3, none⟩ = some (.int .i64 0) := (blk_cell BK292.out 3).trans rfl; have hcz44_4 : w41.cell? ⟨gb292, 4, none⟩ = some (.slice none 0 0) := (blk_cell BK292.out 4).trans rfl; have hfz44_0 := blk_frozen BK292.out 0; have hfz44_1 := blk_frozen BK292.out 1; have hfz44_2 := blk_frozen BK292.out 2; have hfz44_3 := blk_frozen BK292.out 3; have hfz44_4 := blk_frozen BK292.out 4; obtain ⟨Ao45, co45, eo45⟩ := Kd.R_slice HO291.out; subst eo45; have hcz46_0 : w41.cell? ⟨gb264, 0, none⟩ = some (.int .i64 a1_0) := (blk_cell BK264.out 0).trans rfl; have hcz46_1 : w41.cell? ⟨gb264, 1, none⟩ = some (.int .i64 a1_1) := (blk_cell BK264.out 1).trans rfl; have hcz46_2 : w41.cell? ⟨gb264, 2, none⟩ = some (.int .i64 a1_2) := (blk_cell BK264.out 2).trans rfl; have hcz46_3 : w41.cell? ⟨gb264, 3, none⟩ = some (.int .i64 a1_3) := (blk_cell BK264.out 3).trans rfl; have hcz46_4 : w41.cell? ⟨gb264, 4, none⟩ = some (.slice A1_4 l1_4.length c1_4) := (blk_cell BK264.out 4).trans rfl; have hfz46_0 := blk_frozen BK264.out 0; have hfz46_1 := blk_frozen BK264.out 1; have hfz46_2 := blk_frozen BK264.out 2; have hfz46_3 := blk_frozen BK264.out 3; have hfz46_4 := blk_frozen BK264.out 4) | ((with_reducible refine gC 57 rfl ?_); refine goesL_ (some 38) rfl rfl Try.func57 (by kernel_rfl) rfl #[.agg #[.int .i64 a1_0, .int .i64 a1_1, .int .i64 a1_2, .int .i64 a1_3, .slice A1_4 l1_4.length c1_4]] rfl sa ?_; (with_reducible refine (laws_toWal.calls k a1_0 a1_1 a1_2 a1_3 _ _ l1_4 t293 t294 t295 t296 t297 _ ?side1 ?side2 A23.out).mono ?_); (case side1 => exact Kd.C_below HR1_4.out bl); (case side2 => exact HC1_4.out); rintro e w47 ⟨v298, rfl, ho0, hb⟩; refine ⟨_, rfl, ?_⟩; have n0_ := Aside0.mk (Kd.R_elder' (by (with_reducible repeat (first | apply Kd.R_alloc | apply Kd.R_drewN | apply Kd.R_drew)); exact (Kd.R_mono (Kd.R_far (p := ⟨gb292, 4, none⟩) (Kd.R_far (p := ⟨gb292, 3, none⟩) (Kd.R_far (p := ⟨gb292, 2, none⟩) (Kd.R_far (p := ⟨gb292, 1, none⟩) (Kd.R_far (p := ⟨gb292, 0, none⟩) (Kd.R_types HO273.out BK292.out (by decide)) (fun _ hk => hk.2) (.int .i64 t285)) (fun _ hk => hk.2) (.int .i64 t286)) (fun _ hk => hk.2) (.int .i64 t287)) (fun _ hk => hk.2) (.int .i64 t288)) (fun _ hk => hk.2) (.slice Ao45 t289.length co45)) (fun _ h_ => h_.1))) (Kd.R_base ho0) hb); have n1_ := Aside0.mk (Kd.R_elder' (by (with_reducible repeat (first | apply Kd.R_alloc | apply Kd.R_drewN | apply Kd.R_drew)); exact (Kd.R_mono (Kd.R_far (p := ⟨gb292, 4, none⟩) (Kd.R_far (p := ⟨gb292, 3, none⟩) (Kd.R_far (p := ⟨gb292, 2, none⟩) (Kd.R_far (p := ⟨gb292, 1, none⟩) (Kd.R_far (p := ⟨gb292, 0, none⟩) (Kd.R_types HO280.out BK292.out (by decide)) (fun _ hk => hk.2) (.int .i64 t285)) (fun _ hk => hk.2) (.int .i64 t286)) (fun _ hk => hk.2) (.int .i64 t287)) (fun _ hk => hk.2) (.int .i64 t288)) (fun _ hk => hk.2) (.slice Ao45 t289.length co45)) (fun _ h_ => h_.1))) (Kd.R_base ho0) hb); have n2_ := Aside0.mk (Kd.R_below (by (with_reducible repeat (first | apply Kd.R_alloc | apply Kd.R_drewN | apply Kd.R_drew)); exact (Kd.R_mono (Kd.R_far (p := ⟨gb292, 4, none⟩) (Kd.R_far (p := ⟨gb292, 3, none⟩) (Kd.R_far (p := ⟨gb292, 2, none⟩) (Kd.R_far (p := ⟨gb292, 1, none⟩) (Kd.R_far (p := ⟨gb292, 0, none⟩) (Kd.R_types HO283.out BK292.out (by decide)) (fun _ hk => hk.2) (.int .i64 t285)) (fun _ hk => hk.2) (.int .i64 t286)) (fun _ hk => hk.2) (.int .i64 t287)) (fun _ hk => hk.2) (.int .i64 t288)) (fun _ hk => hk.2) (.slice Ao45 t289.length co45)) (fun _ h_ => h_.1))) hb); have n3_ := Aside0.mk (Kd.R_elder' (by (with_reducible repeat (first | apply Kd.R_alloc | apply Kd.R_drewN | apply Kd.R_drew)); exact (Kd.R_mono (Kd.R_far (p := ⟨gb292, 4, none⟩) (Kd.R_far (p := ⟨gb292, 3, none⟩) (Kd.R_far (p := ⟨gb292, 2, none⟩) (Kd.R_far (p := ⟨gb292, 1, none⟩) (Kd.R_far (p := ⟨gb292, 0, none⟩) (Kd.R_types HO291.out BK292.out (by decide)) (fun _ hk => hk.2) (.int .i64 t285)) (fun _ hk => hk.2) (.int .i64 t286)) (fun _ hk => hk.2) (.int .i64 t287)) (fun _ hk => hk.2) (.int .i64 t288)) (fun _ hk => hk.2) (.slice Ao45 t289.length co45)) (fun _ h_ => h_.1))) (Kd.R_base ho0) hb); have n4_ := Aside0.mk (Kd.R_lower (Kd.R_new' (Kd.R_new' (Kd.R_new' ho0 (Kd.R_lt (by (with_reducible repeat (first | apply Kd.R_alloc | apply Kd.R_drewN | apply Kd.R_drew)); exact (Kd.R_mono (Kd.R_far (p := ⟨gb292, 4, none⟩) (Kd.R_far (p := ⟨gb292, 3, none⟩) (Kd.R_far (p := ⟨gb292, 2, none⟩) (Kd.R_far (p := ⟨gb292, 1, none⟩) (Kd.R_far (p := ⟨gb292, 0, none⟩) (Kd.R_types HO273.out BK292.out (by decide)) (fun _ hk => hk.2) (.int .i64 t285)) (fun _ hk => hk.2) (.int .i64 t286)) (fun _ hk => hk.2) (.int .i64 t287)) (fun _ hk => hk.2) (.int .i64 t288)) (fun _ hk => hk.2) (.slice Ao45 t289.length co45)) (fun _ h_ => h_.1))))) (Kd.R_lt (by (with_reducible repeat (first | apply Kd.R_alloc | apply Kd.R_drewN | apply Kd.R_drew)); exact (Kd.R_mono (Kd.R_far (p := ⟨gb292, 4, none⟩) (Kd.R_far (p := ⟨gb292, 3, none⟩) (Kd.R_far (p := ⟨gb292, 2, none⟩) (Kd.R_far (p := ⟨gb292, 1, none⟩) (Kd.R_far (p := ⟨gb292, 0, none⟩) (Kd.R_types HO280.out BK292.out (by decide)) (fun _ hk => hk.2) (.int .i64 t285)) (fun _ hk => hk.2) (.int .i64 t286)) (fun _ hk => hk.2) (.int .i64 t287)) (fun _ hk => hk.2) (.int .i64 t288)) (fun _ hk => hk.2) (.slice Ao45 t289.length co45)) (fun _ h_ => h_.1))))) (Kd.R_lt (by (with_reducible repeat (first | apply Kd.R_alloc | apply Kd.R_drewN | apply Kd.R_drew)); exact (Kd.R_mono (Kd.R_far (p := ⟨gb292, 4, none⟩) (Kd.R_far (p := ⟨gb292, 3, none⟩) (Kd.R_far (p := ⟨gb292, 2, none⟩) (Kd.R_far (p := ⟨gb292, 1, none⟩) (Kd.R_far (p := ⟨gb292, 0, none⟩) (Kd.R_types HO291.out BK292.out (by decide)) (fun _ hk => hk.2) (.int .i64 t285)) (fun _ hk => hk.2) (.int .i64 t286)) (fun _ hk => hk.2) (.int .i64 t287)) (fun _ hk => hk.2) (.int .i64 t288)) (fun _ hk => hk.2) (.slice Ao45 t289.length co45)) (fun _ h_ => h_.1))))) (below_size bl)); have n5_ := Aside0.mk (blk_below (g := gb263) (o := .cells #[.int .i64 a0_0, .int .i64 a0_1, .int .i64 a0_2, .int .i64 a0_3, .slice A0_4 l0_4.length c0_4] 62 (0, 0)) (by (with_reducible repeat (first | refine blk_drewN ?_ _ | refine blk_drew ?_ | refine blk_alloc ?_ _)); refine blk_far ?_ NB263_292.out _; (with_reducible repeat (first | refine blk_drewN ?_ _ | refine blk_drew ?_ | refine blk_alloc ?_ _)); refine blk_far ?_ NB263_292.out _; (with_reducible repeat (first | refine blk_drewN ?_ _ | refine blk_drew ?_ | refine blk_alloc ?_ _)); refine blk_far ?_ NB263_292.out _; (with_reducible repeat (first | refine blk_drewN ?_ _ | refine blk_drew ?_ | refine blk_alloc ?_ _)); refine blk_far ?_ NB263_292.out _; (with_reducible repeat (first | refine blk_drewN ?_ _ | refine blk_drew ?_ | refine blk_alloc ?_ _)); refine blk_far ?_ NB263_292.out _; (with_reducible repeat (first | refine blk_drewN ?_ _ | refine blk_drew ?_ | refine blk_alloc ?_ _)); exact BK263.out) hb); have n6_ := Aside0.mk (blk_below (g := gb264) (o := .cells #[.int .i64 a1_0, .int .i64 a1_1, .int .i64 a1_2, .int .i64 a1_3, .slice A1_4 l1_4.length c1_4] 62 (0, 0)) (by (with_reducible repeat (first | refine blk_drewN ?_ _ | refine blk_drew ?_ | refine blk_alloc ?_ _)); refine blk_far ?_ NB264_292.out _; (with_reducible repeat (first | refine blk_drewN ?_ _ | refine blk_drew ?_ | refine blk_alloc ?_ _)); refine blk_far ?_ NB264_292.out _; (with_reducible repeat (first | refine blk_drewN ?_ _ | refine blk_drew ?_ | refine blk_alloc ?_ _)); refine blk_far ?_ NB264_292.out _; (with_reducible repeat (first | refine blk_drewN ?_ _ | refine blk_drew ?_ | refine blk_alloc ?_ _)); refine blk_far ?_ NB264_292.out _; (with_reducible repeat (first | refine blk_drewN ?_ _ | refine blk_drew ?_ | refine blk_alloc ?_ _)); refine blk_far ?_ NB264_292.out _; (with_reducible repeat (first | refine blk_drewN ?_ _ | refine blk_drew ?_ | refine blk_alloc ?_ _)); exact BK264.out) hb); have n7_ := Aside0.mk (blk_below (g := gb292) (o := .cells #[.int .i64 t285, .int .i64 t286, .int .i64 t287, .int .i64 t288, .slice Ao45 t289.length co45] 67 (0, 0)) (by (with_reducible repeat (first | refine blk_drewN ?_ _ | refine blk_drew ?_ | refine blk_alloc ?_ _)); refine blk_put (cs := #[.int .i64 t285, .int .i64 t286, .int .i64 t287, .int .i64 t288, .slice none 0 0]) ?_ 4 _ rfl; (with_reducible repeat (first | refine blk_drewN ?_ _ | refine blk_drew ?_ | refine blk_alloc ?_ _)); refine blk_put (cs := #[.int .i64 t285, .int .i64 t286, .int .i64 t287, .int .i64 0, .slice none 0 0]) ?_ 3 _ rfl; (with_reducible repeat (first | refine blk_drewN ?_ _ | refine blk_drew ?_ | refine blk_alloc ?_ _)); refine blk_put (cs := #[.int .i64 t285, .int .i64 t286, .int .i64 0, .int .i64 0, .slice none 0 0]) ?_ 2 _ rfl; (with_reducible repeat (first | refine blk_drewN ?_ _ | refine blk_drew ?_ | refine blk_alloc ?_ _)); refine blk_put (cs := #[.int .i64 t285, .int .i64 0, .int .i64 0, .int .i64 0, .slice none 0 0]) ?_ 1 _ rfl; (with_reducible repeat (first | refine blk_drewN ?_ _ | refine blk_drew ?_ | refine blk_alloc ?_ _)); refine blk_put (cs := #[.int .i64 0, .int .i64 0, .int .i64 0, .int .i64 0, .slice none 0 0]) ?_ 0 _ rfl; (with_reducible repeat (first | refine blk_drewN ?_ _ | refine blk_drew ?_ | refine blk_alloc ?_ _)); exact BK292.out) hb); have n8_ := bs (w := w) hb; clear HO273; clear HO280; clear HO283; clear HO291; clear BK263; clear BK264; clear BK292; clear HB; have HO273 := n0_; have HO280 := n1_; have HO283 := n2_; have HO291 := n3_; have HO299 := n4_; have BK263 := n5_; have BK264 := n6_; have BK292 := n7_; have HB := n8_; clear n0_ n1_ n2_ n3_ n4_ n5_ n6_ n7_ n8_; (try clear hb); (try clear hb2); (try clear hk); (try clear hi); (try clear ho0)) | ((with_reducible refine gD 9 rfl ?_); refine box_event ?hg (N := 9) ?hd (cs := #[.int .i64 0, .int .i64 0, .int .i64 0, .int .i64 0, .slice none 0 0]) (t := 67) ?hr ?_; (case hd => rfl); (case hg => rfl); (case hr => first | (go_simp; done) | (go_simp; rfl)); intro gb300 hg w48 hbox hb; have n0_ := Aside0.mk (Kd.R_below (by (with_reducible repeat (first | apply Kd.R_alloc | apply Kd.R_drewN | apply Kd.R_drew)); exact HO273.out) hb); have n1_ := Aside0.mk (Kd.R_below (by (with_reducible repeat (first | apply Kd.R_alloc | apply Kd.R_drewN | apply Kd.R_drew)); exact HO280.out) hb); have n2_ := Aside0.mk (Kd.R_below (by (with_reducible repeat (first | apply Kd.R_alloc | apply Kd.R_drewN | apply Kd.R_drew)); exact HO283.out) hb); have n3_ := Aside0.mk (Kd.R_below (by (with_reducible repeat (first | apply Kd.R_alloc | apply Kd.R_drewN | apply Kd.R_drew)); exact HO291.out) hb); have n4_ := Aside0.mk (Kd.R_below (by (with_reducible repeat (first | apply Kd.R_alloc | apply Kd.R_drewN | apply Kd.R_drew)); exact HO299.out) hb); have n5_ := bv BK263 hb; have n6_ := bv BK264 hb; have n7_ := bv BK292 hb; have n8_ := bs (w := w) hb; have n9_ := Aside0.mk hbox; have n10_ := gw (w := w) hg; have n11_ := gw (w := w) hg; have n12_ := nl BK263 hg; have n13_ := nr BK263 hg; have n14_ := nl BK264 hg; have n15_ := nr BK264 hg; have n16_ := nl BK292 hg; have n17_ := nr BK292 hg; clear HO273; clear HO280; clear HO283; clear HO291; clear HO299; clear BK263; clear BK264; clear BK292; clear HB; have HO273 := n0_; have HO280 := n1_; have HO283 := n2_; have HO291 := n3_; have HO299 := n4_; have BK263 := n5_; have BK264 := n6_; have BK292 := n7_; have HB := n8_; have BK300 := n9_; have GW300 := n10_; have GE300 := n11_; have NB263_300 := n12_; have NB300_263 := n13_; have NB264_300 := n14_; have NB300_264 := n15_; have NB292_300 := n16_; have NB300_292 := n17_; clear n0_ n1_ n2_ n3_ n4_ n5_ n6_ n7_ n8_ n9_ n10_ n11_ n12_ n13_ n14_ n15_ n16_ n17_; clear hb hbox hg; have hnb49 := NB300_263.out; have hnc49 := NB263_300.out; have hnb50 := NB300_264.out; have hnc50 := NB264_300.out; have hnb51 := NB300_292.out; have hnc51 := NB292_300.out; have hcz52_0 : w48.cell? ⟨gb300, 0, none⟩ = some (.int .i64 0) := (blk_cell BK300.out 0).trans rfl; have hcz52_1 : w48.cell? ⟨gb300, 1, none⟩ = some (.int .i64 0) := (blk_cell BK300.out 1).trans rfl; have hcz52_2 : w48.cell? ⟨gb300, 2, none⟩ = some (.int .i64 0) := (blk_cell BK300.out 2).trans rfl; have hcz52_3 : w48.cell? ⟨gb300, 3, none⟩ = some (.int .i64 0) := (blk_cell BK300.out 3).trans rfl; have hcz52_4 : w48.cell? ⟨gb300, 4, none⟩ = some (.slice none 0 0) := (blk_cell BK300.out 4).trans rfl; have hfz52_0 := blk_frozen BK300.out 0; have hfz52_1 := blk_frozen BK300.out 1; have hfz52_2 := blk_frozen BK300.out 2; have hfz52_3 := blk_frozen BK300.out 3; have hfz52_4 := blk_frozen BK300.out 4; obtain ⟨Ao53, co53, eo53⟩ := Kd.R_slice HO299.out; subst eo53; have hcz54_0 : w48.cell? ⟨gb292, 0, none⟩ = some (.int .i64 t285) := (blk_cell BK292.out 0).trans rfl; have hcz54_1 : w48.cell? ⟨gb292, 1, none⟩ = some (.int .i64 t286) := (blk_cell BK292.out 1).trans rfl; have hcz54_2 : w48.cell? ⟨gb292, 2, none⟩ = some (.int .i64 t287) := (blk_cell BK292.out 2).trans rfl; have hcz54_3 : w48.cell? ⟨gb292, 3, none⟩ = some (.int .i64 t288) := (blk_cell BK292.out 3).trans rfl; have hcz54_4 : w48.cell? ⟨gb292, 4, none⟩ = some (.slice Ao45 t289.length co45) := (blk_cell BK292.out 4).trans rfl; have hfz54_0 := blk_frozen BK292.out 0; have hfz54_1 := blk_frozen BK292.out 1; have hfz54_2 := blk_frozen BK292.out 2; have hfz54_3 := blk_frozen BK292.out 3; have hfz54_4 := blk_frozen BK292.out 4) | ((with_reducible refine gC 61 rfl ?_); refine goesL_ (some 42) rfl rfl Try.func61 (by kernel_rfl) rfl #[.agg #[.int .i64 t285, .int .i64 t286, .int .i64 t287, .int .i64 t288, .slice Ao45 t289.length co45], .agg #[.int .i64 t293, .int .i64 t294, .int .i64 t295, .int .i64 t296, .slice Ao53 t297.length co53]] rfl sa ?_; (with_reducible refine (impl_Changes.calls k t285 t286 t287 t288 _ _ t289 t293 t294 t295 t296 _ _ t297 t301 t304 _ ?side1 ?side2 ?side3 ?side4 A24.out).mono ?_); (case side1 => refine (Kd.R_reads' (e := 117) (base := w.heap.size) (ok := fun k_ => (((True ∧ some k_ ≠ (.slice Ao36 t271.length co36 : Value).ownBlock) ∧ some k_ ≠ (.slice Ao37 t278.length co37 : Value).ownBlock) ∧ some k_ ≠ (.slice Ao53 t297.length co53 : Value).ownBlock)) (n := t289.length) (c := co45) ?_).2.2; exact (by (with_reducible repeat (first | apply Kd.R_alloc | apply Kd.R_drewN | apply Kd.R_drew)); exact (Kd.R_mono (Kd.R_far (p := ⟨gb300, 4, none⟩) (Kd.R_far (p := ⟨gb300, 3, none⟩) (Kd.R_far (p := ⟨gb300, 2, none⟩) (Kd.R_far (p := ⟨gb300, 1, none⟩) (Kd.R_far (p := ⟨gb300, 0, none⟩) (Kd.R_types HO291.out BK300.out (by decide)) (fun _ hk => hk.2) (.int .i64 t293)) (fun _ hk => hk.2) (.int .i64 t294)) (fun _ hk => hk.2) (.int .i64 t295)) (fun _ hk => hk.2) (.int .i64 t296)) (fun _ hk => hk.2) (.slice Ao53 t297.length co53)) (fun _ h_ => h_.1)))); (case side2 => exact (Kd.R_reads' HO291.out).2.1); (case side3 => refine (Kd.R_reads' (e := 117) (base := w.heap.size) (ok := fun k_ => (((True ∧ some k_ ≠ (.slice Ao36 t271.length co36 : Value).ownBlock) ∧ some k_ ≠ (.slice Ao37 t278.length co37 : Value).ownBlock) ∧ some k_ ≠ (.slice Ao45 t289.length co45 : Value).ownBlock)) (n := t297.length) (c := co53) ?_).2.2; exact (by (with_reducible repeat (first | apply Kd.R_alloc | apply Kd.R_drewN | apply Kd.R_drew)); exact (Kd.R_mono (Kd.R_far (p := ⟨gb300, 4, none⟩) (Kd.R_far (p := ⟨gb300, 3, none⟩) (Kd.R_far (p := ⟨gb300, 2, none⟩) (Kd.R_far (p := ⟨gb300, 1, none⟩) (Kd.R_far (p := ⟨gb300, 0, none⟩) (Kd.R_types HO299.out BK300.out (by decide)) (fun _ hk => hk.2) (.int .i64 t293)) (fun _ hk => hk.2) (.int .i64 t294)) (fun _ hk => hk.2) (.int .i64 t295)) (fun _ hk => hk.2) (.int .i64 t296)) (fun _ hk => hk.2) (.slice Ao53 t297.length co53)) (fun _ h_ => h_.1)))); (case side4 => exact (Kd.R_reads' HO299.out).2.1); rintro e w55 ⟨v302, rfl, ho0, hb⟩; refine ⟨_, rfl, ?_⟩; have n0_ := Aside0.mk (Kd.R_below (by (with_reducible repeat (first | apply Kd.R_alloc | apply Kd.R_drewN | apply Kd.R_drew)); exact (Kd.R_mono (Kd.R_far (p := ⟨gb300, 4, none⟩) (Kd.R_far (p := ⟨gb300, 3, none⟩) (Kd.R_far (p := ⟨gb300, 2, none⟩) (Kd.R_far (p := ⟨gb300, 1, none⟩) (Kd.R_far (p := ⟨gb300, 0, none⟩) (Kd.R_types HO273.out BK300.out (by decide)) (fun _ hk => hk.2) (.int .i64 t293)) (fun _ hk => hk.2) (.int .i64 t294)) (fun _ hk => hk.2) (.int .i64 t295)) (fun _ hk => hk.2) (.int .i64 t296)) (fun _ hk => hk.2) (.slice Ao53 t297.length co53)) (fun _ h_ => h_.1))) hb); have n1_ := Aside0.mk (Kd.R_below (by (with_reducible repeat (first | apply Kd.R_alloc | apply Kd.R_drewN | apply Kd.R_drew)); exact (Kd.R_mono (Kd.R_far (p := ⟨gb300, 4, none⟩) (Kd.R_far (p := ⟨gb300, 3, none⟩) (Kd.R_far (p := ⟨gb300, 2, none⟩) (Kd.R_far (p := ⟨gb300, 1, none⟩) (Kd.R_far (p := ⟨gb300, 0, none⟩) (Kd.R_types HO280.out BK300.out (by decide)) (fun _ hk => hk.2) (.int .i64 t293)) (fun _ hk => hk.2) (.int .i64 t294)) (fun _ hk => hk.2) (.int .i64 t295)) (fun _ hk => hk.2) (.int .i64 t296)) (fun _ hk => hk.2) (.slice Ao53 t297.length co53)) (fun _ h_ => h_.1))) hb); have n2_ := Aside0.mk (Kd.R_elder' (by (with_reducible repeat (first | apply Kd.R_alloc | apply Kd.R_drewN | apply Kd.R_drew)); exact (Kd.R_mono (Kd.R_far (p := ⟨gb300, 4, none⟩) (Kd.R_far (p := ⟨gb300, 3, none⟩) (Kd.R_far (p := ⟨gb300, 2, none⟩) (Kd.R_far (p := ⟨gb300, 1, none⟩) (Kd.R_far (p := ⟨gb300, 0, none⟩) (Kd.R_types HO283.out BK300.out (by decide)) (fun _ hk => hk.2) (.int .i64 t293)) (fun _ hk => hk.2) (.int .i64 t294)) (fun _ hk => hk.2) (.int .i64 t295)) (fun _ hk => hk.2) (.int .i64 t296)) (fun _ hk => hk.2) (.slice Ao53 t297.length co53)) (fun _ h_ => h_.1))) (Kd.R_base ho0) hb); have n3_ := Aside0.mk (Kd.R_below (by (with_reducible repeat (first | apply Kd.R_alloc | apply Kd.R_drewN | apply Kd.R_drew)); exact (Kd.R_mono (Kd.R_far (p := ⟨gb300, 4, none⟩) (Kd.R_far (p := ⟨gb300, 3, none⟩) (Kd.R_far (p := ⟨gb300, 2, none⟩) (Kd.R_far (p := ⟨gb300, 1, none⟩) (Kd.R_far (p := ⟨gb300, 0, none⟩) (Kd.R_types HO291.out BK300.out (by decide)) (fun _ hk => hk.2) (.int .i64 t293)) (fun _ hk => hk.2) (.int .i64 t294)) (fun _ hk => hk.2) (.int .i64 t295)) (fun _ hk => hk.2) (.int .i64 t296)) (fun _ hk => hk.2) (.slice Ao53 t297.length co53)) (fun _ h_ => h_.1))) hb); have n4_ := Aside0.mk (Kd.R_below (by (with_reducible repeat (first | apply Kd.R_alloc | apply Kd.R_drewN | apply Kd.R_drew)); exact (Kd.R_mono (Kd.R_far (p := ⟨gb300, 4, none⟩) (Kd.R_far (p := ⟨gb300, 3, none⟩) (Kd.R_far (p := ⟨gb300, 2, none⟩) (Kd.R_far (p := ⟨gb300, 1, none⟩) (Kd.R_far (p := ⟨gb300, 0, none⟩) (Kd.R_types HO299.out BK300.out (by decide)) (fun _ hk => hk.2) (.int .i64 t293)) (fun _ hk => hk.2) (.int .i64 t294)) (fun _ hk => hk.2) (.int .i64 t295)) (fun _ hk => hk.2) (.int .i64 t296)) (fun _ hk => hk.2) (.slice Ao53 t297.length co53)) (fun _ h_ => h_.1))) hb); have n5_ := Aside0.mk (Kd.R_lower (Kd.R_new' ho0 (Kd.R_lt (by (with_reducible repeat (first | apply Kd.R_alloc | apply Kd.R_drewN | apply Kd.R_drew)); exact (Kd.R_mono (Kd.R_far (p := ⟨gb300, 4, none⟩) (Kd.R_far (p := ⟨gb300, 3, none⟩) (Kd.R_far (p := ⟨gb300, 2, none⟩) (Kd.R_far (p := ⟨gb300, 1, none⟩) (Kd.R_far (p := ⟨gb300, 0, none⟩) (Kd.R_types HO283.out BK300.out (by decide)) (fun _ hk => hk.2) (.int .i64 t293)) (fun _ hk => hk.2) (.int .i64 t294)) (fun _ hk => hk.2) (.int .i64 t295)) (fun _ hk => hk.2) (.int .i64 t296)) (fun _ hk => hk.2) (.slice Ao53 t297.length co53)) (fun _ h_ => h_.1))))) (below_size bl)); have n6_ := Aside0.mk (blk_below (g := gb263) (o := .cells #[.int .i64 a0_0, .int .i64 a0_1, .int .i64 a0_2, .int .i64 a0_3, .slice A0_4 l0_4.length c0_4] 62 (0, 0)) (by (with_reducible repeat (first | refine blk_drewN ?_ _ | refine blk_drew ?_ | refine blk_alloc ?_ _)); refine blk_far ?_ NB263_300.out _; (with_reducible repeat (first | refine blk_drewN ?_ _ | refine blk_drew ?_ | refine blk_alloc ?_ _)); refine blk_far ?_ NB263_300.out _; (with_reducible repeat (first | refine blk_drewN ?_ _ | refine blk_drew ?_ | refine blk_alloc ?_ _)); refine blk_far ?_ NB263_300.out _; (with_reducible repeat (first | refine blk_drewN ?_ _ | refine blk_drew ?_ | refine blk_alloc ?_ _)); refine blk_far ?_ NB263_300.out _; (with_reducible repeat (first | refine blk_drewN ?_ _ | refine blk_drew ?_ | refine blk_alloc ?_ _)); refine blk_far ?_ NB263_300.out _; (with_reducible repeat (first | refine blk_drewN ?_ _ | refine blk_drew ?_ | refine blk_alloc ?_ _)); exact BK263.out) hb); have n7_ := Aside0.mk (blk_below (g := gb264) (o := .cells #[.int .i64 a1_0, .int .i64 a1_1, .int .i64 a1_2, .int .i64 a1_3, .slice A1_4 l1_4.length c1_4] 62 (0, 0)) (by (with_reducible repeat (first | refine blk_drewN ?_ _ | refine blk_drew ?_ | refine blk_alloc ?_ _)); refine blk_far ?_ NB264_300.out _; (with_reducible repeat (first | refine blk_drewN ?_ _ | refine blk_drew ?_ | refine blk_alloc ?_ _)); refine blk_far ?_ NB264_300.out _; (with_reducible repeat (first | refine blk_drewN ?_ _ | refine blk_drew ?_ | refine blk_alloc ?_ _)); refine blk_far ?_ NB264_300.out _; (with_reducible repeat (first | refine blk_drewN ?_ _ | refine blk_drew ?_ | refine blk_alloc ?_ _)); refine blk_far ?_ NB264_300.out _; (with_reducible repeat (first | refine blk_drewN ?_ _ | refine blk_drew ?_ | refine blk_alloc ?_ _)); refine blk_far ?_ NB264_300.out _; (with_reducible repeat (first | refine blk_drewN ?_ _ | refine blk_drew ?_ | refine blk_alloc ?_ _)); exact BK264.out) hb); have n8_ := Aside0.mk (blk_below (g := gb292) (o := .cells #[.int .i64 t285, .int .i64 t286, .int .i64 t287, .int .i64 t288, .slice Ao45 t289.length co45] 67 (0, 0)) (by (with_reducible repeat (first | refine blk_drewN ?_ _ | refine blk_drew ?_ | refine blk_alloc ?_ _)); refine blk_far ?_ NB292_300.out _; (with_reducible repeat (first | refine blk_drewN ?_ _ | refine blk_drew ?_ | refine blk_alloc ?_ _)); refine blk_far ?_ NB292_300.out _; (with_reducible repeat (first | refine blk_drewN ?_ _ | refine blk_drew ?_ | refine blk_alloc ?_ _)); refine blk_far ?_ NB292_300.out _; (with_reducible repeat (first | refine blk_drewN ?_ _ | refine blk_drew ?_ | refine blk_alloc ?_ _)); refine blk_far ?_ NB292_300.out _; (with_reducible repeat (first | refine blk_drewN ?_ _ | refine blk_drew ?_ | refine blk_alloc ?_ _)); refine blk_far ?_ NB292_300.out _; (with_reducible repeat (first | refine blk_drewN ?_ _ | refine blk_drew ?_ | refine blk_alloc ?_ _)); exact BK292.out) hb); have n9_ := Aside0.mk (blk_below (g := gb300) (o := .cells #[.int .i64 t293, .int .i64 t294, .int .i64 t295, .int .i64 t296, .slice Ao53 t297.length co53] 67 (0, 0)) (by (with_reducible repeat (first | refine blk_drewN ?_ _ | refine blk_drew ?_ | refine blk_alloc ?_ _)); refine blk_put (cs := #[.int .i64 t293, .int .i64 t294, .int .i64 t295, .int .i64 t296, .slice none 0 0]) ?_ 4 _ rfl; (with_reducible repeat (first | refine blk_drewN ?_ _ | refine blk_drew ?_ | refine blk_alloc ?_ _)); refine blk_put (cs := #[.int .i64 t293, .int .i64 t294, .int .i64 t295, .int .i64 0, .slice none 0 0]) ?_ 3 _ rfl; (with_reducible repeat (first | refine blk_drewN ?_ _ | refine blk_drew ?_ | refine blk_alloc ?_ _)); refine blk_put (cs := #[.int .i64 t293, .int .i64 t294, .int .i64 0, .int .i64 0, .slice none 0 0]) ?_ 2 _ rfl; (with_reducible repeat (first | refine blk_drewN ?_ _ | refine blk_drew ?_ | refine blk_alloc ?_ _)); refine blk_put (cs := #[.int .i64 t293, .int .i64 0, .int .i64 0, .int .i64 0, .slice none 0 0]) ?_ 1 _ rfl; (with_reducible repeat (first | refine blk_drewN ?_ _ | refine blk_drew ?_ | refine blk_alloc ?_ _)); refine blk_put (cs := #[.int .i64 0, .int .i64 0, .int .i64 0, .int .i64 0, .slice none 0 0]) ?_ 0 _ rfl; (with_reducible repeat (first | refine blk_drewN ?_ _ | refine blk_drew ?_ | refine blk_alloc ?_ _)); exact BK300.out) hb); have n10_ := bs (w := w) hb; clear HO273; clear HO280; clear HO283; clear HO291; clear HO299; clear BK263; clear BK264; clear BK292; clear BK300; clear HB; have HO273 := n0_; have HO280 := n1_; have HO283 := n2_; have HO291 := n3_; have HO299 := n4_; have HO303 := n5_; have BK263 := n6_; have BK264 := n7_; have BK292 := n8_; have BK300 := n9_; have HB := n10_; clear n0_ n1_ n2_ n3_ n4_ n5_ n6_ n7_ n8_ n9_ n10_; (try clear hb); (try clear hb2); (try clear hk); (try clear hi); (try clear ho0)))
   (try simp only [Act.put, List.setIfInBounds_toArray, List.set_cons_zero, List.set_cons_succ])
   go_cut [53] (fun v53 wc => ∃ (kq : Nat) (x53_24 : Bool), v53 = .bool x53_24 ∧ Aside0 (laws_FnExactChanges.j0 kq t281 t284 t301 t304 x53_24 a0_0 a0_1 a0_2 a0_3 l0_4 a1_0 a1_1 a1_2 a1_3 l1_4 t285 t286 t287 t288 t289 t293 t294 t295 t296 t297 = some r) ∧ Aside0 (kq ≤ k) ∧ Aside0 (Kd.R k83 83 wc w.heap.size (fun k_ => some k_ ≠ (v302 : Value).ownBlock) v282 t281) ∧ Aside0 (Kd.R k83 83 wc w.heap.size (fun k_ => some k_ ≠ (v282 : Value).ownBlock) v302 t301) ∧ Aside0 (Kd.R k117 117 wc w.heap.size (fun k_ => some k_ ≠ ((.slice Ao53 t297.length co53) : Value).ownBlock) (.slice Ao45 t289.length co45) t289) ∧ Aside0 (Kd.R k117 117 wc w.heap.size (fun k_ => some k_ ≠ ((.slice Ao45 t289.length co45) : Value).ownBlock) (.slice Ao53 t297.length co53) t297) ∧ Aside0 (wc.heap[gb263]? = some (.cells #[.int .i64 a0_0, .int .i64 a0_1, .int .i64 a0_2, .int .i64 a0_3, (.slice A0_4 l0_4.length c0_4)] 62 (0, 0))) ∧ Aside0 (wc.heap[gb264]? = some (.cells #[.int .i64 a1_0, .int .i64 a1_1, .int .i64 a1_2, .int .i64 a1_3, (.slice A1_4 l1_4.length c1_4)] 62 (0, 0))) ∧ Aside0 (wc.heap[gb292]? = some (.cells #[.int .i64 t285, .int .i64 t286, .int .i64 t287, .int .i64 t288, (.slice Ao45 t289.length co45)] 67 (0, 0))) ∧ Aside0 (wc.heap[gb300]? = some (.cells #[.int .i64 t293, .int .i64 t294, .int .i64 t295, .int .i64 t296, (.slice Ao53 t297.length co53)] 67 (0, 0))) ∧ Aside0 (Below w.heap.size w wc))
   case first =>
    have H := HC25.out
    clear HC25
    obtain ⟨t305, A56, H⟩ := bd H
    by_cases c57 : t305 = true
    ·subst c57
     replace H := iT H
     have H' := Aside0.mk H
     clear H
     obtain ⟨Ao58, co58, eo58⟩ := Kd.R_slice HO303.out
     subst eo58
     obtain ⟨Ao59, co59, eo59⟩ := Kd.R_slice HO283.out
     subst eo59
     go_wp2_with (first | ((with_reducible refine gC 62 rfl ?_); refine goesZ (some 47) rfl Try.func62 #[.slice Ao58 t301.length co58, .slice Ao59 t281.length co59] ?_; (with_reducible refine (laws_eqRecS.calls k _ _ t301 _ _ t281 true _ ?side1 ?side2 ?side3 ?side4 A56.out).mono ?_); (case side1 => repeat (first | exact (Kd.R_reads' HO303.out).2.2 | (with_reducible refine Kd.C_alloc ?_ _) | (with_reducible refine Kd.C_drewN ?_ _) | (with_reducible refine Kd.C_drew ?_))); (case side2 => exact (Kd.R_reads' HO303.out).2.1); (case side3 => repeat (first | exact (Kd.R_reads' HO283.out).2.2 | (with_reducible refine Kd.C_alloc ?_ _) | (with_reducible refine Kd.C_drewN ?_ _) | (with_reducible refine Kd.C_drew ?_))); (case side4 => exact (Kd.R_reads' HO283.out).2.1); rintro e w60 ⟨rfl, hb⟩; refine ⟨_, rfl, ?_⟩; replace HO273 := Aside0.mk (Kd.R_below (by (with_reducible repeat (first | apply Kd.R_alloc | apply Kd.R_drewN | apply Kd.R_drew)); exact HO273.out) hb); replace HO280 := Aside0.mk (Kd.R_below (by (with_reducible repeat (first | apply Kd.R_alloc | apply Kd.R_drewN | apply Kd.R_drew)); exact HO280.out) hb); replace HO283 := Aside0.mk (Kd.R_below (by (with_reducible repeat (first | apply Kd.R_alloc | apply Kd.R_drewN | apply Kd.R_drew)); exact HO283.out) hb); replace HO291 := Aside0.mk (Kd.R_below (by (with_reducible repeat (first | apply Kd.R_alloc | apply Kd.R_drewN | apply Kd.R_drew)); exact HO291.out) hb); replace HO299 := Aside0.mk (Kd.R_below (by (with_reducible repeat (first | apply Kd.R_alloc | apply Kd.R_drewN | apply Kd.R_drew)); exact HO299.out) hb); replace HO303 := Aside0.mk (Kd.R_below (by (with_reducible repeat (first | apply Kd.R_alloc | apply Kd.R_drewN | apply Kd.R_drew)); exact HO303.out) hb); replace BK263 := bv BK263 hb; replace BK264 := bv BK264 hb; replace BK292 := bv BK292 hb; replace BK300 := bv BK300 hb; replace HB := bs (w := w) hb; (try clear hb); (try clear hb2); (try clear hk); (try clear hi)))
     go_meet
     case rel => exact ⟨_, ((t304 != t284)), fa, H', ⟨by first | omega | exact Nat.le_refl _⟩, ⟨by (with_reducible repeat (first | apply Kd.R_alloc | apply Kd.R_drewN | apply Kd.R_drew)); exact Kd.R_mono HO283.out (fun _ hk => hk.2)⟩, ⟨by (with_reducible repeat (first | apply Kd.R_alloc | apply Kd.R_drewN | apply Kd.R_drew)); exact Kd.R_mono HO303.out (fun _ hk => hk.2)⟩, ⟨by (with_reducible repeat (first | apply Kd.R_alloc | apply Kd.R_drewN | apply Kd.R_drew)); exact Kd.R_mono HO291.out (fun _ hk => hk.2)⟩, ⟨by (with_reducible repeat (first | apply Kd.R_alloc | apply Kd.R_drewN | apply Kd.R_drew)); exact Kd.R_mono HO299.out (fun _ hk => hk.2)⟩, ⟨by (with_reducible repeat (first | refine blk_drewN ?_ _ | refine blk_drew ?_ | refine blk_alloc ?_ _)); exact BK263.out⟩, ⟨by (with_reducible repeat (first | refine blk_drewN ?_ _ | refine blk_drew ?_ | refine blk_alloc ?_ _)); exact BK264.out⟩, ⟨by (with_reducible repeat (first | refine blk_drewN ?_ _ | refine blk_drew ?_ | refine blk_alloc ?_ _)); exact BK292.out⟩, ⟨by (with_reducible repeat (first | refine blk_drewN ?_ _ | refine blk_drew ?_ | refine blk_alloc ?_ _)); exact BK300.out⟩, ⟨bl⟩⟩
    ·replace c57 := Bool.eq_false_iff.mpr c57
     subst c57
     replace H := iF H
     have H' := Aside0.mk H
     clear H
     obtain ⟨Ao61, co61, eo61⟩ := Kd.R_slice HO303.out
     subst eo61
     obtain ⟨Ao62, co62, eo62⟩ := Kd.R_slice HO283.out
     subst eo62
     go_wp2_with (first | ((with_reducible refine gC 62 rfl ?_); refine goesZ (some 47) rfl Try.func62 #[.slice Ao61 t301.length co61, .slice Ao62 t281.length co62] ?_; (with_reducible refine (laws_eqRecS.calls k _ _ t301 _ _ t281 false _ ?side1 ?side2 ?side3 ?side4 A56.out).mono ?_); (case side1 => repeat (first | exact (Kd.R_reads' HO303.out).2.2 | (with_reducible refine Kd.C_alloc ?_ _) | (with_reducible refine Kd.C_drewN ?_ _) | (with_reducible refine Kd.C_drew ?_))); (case side2 => exact (Kd.R_reads' HO303.out).2.1); (case side3 => repeat (first | exact (Kd.R_reads' HO283.out).2.2 | (with_reducible refine Kd.C_alloc ?_ _) | (with_reducible refine Kd.C_drewN ?_ _) | (with_reducible refine Kd.C_drew ?_))); (case side4 => exact (Kd.R_reads' HO283.out).2.1); rintro e w63 ⟨rfl, hb⟩; refine ⟨_, rfl, ?_⟩; replace HO273 := Aside0.mk (Kd.R_below (by (with_reducible repeat (first | apply Kd.R_alloc | apply Kd.R_drewN | apply Kd.R_drew)); exact HO273.out) hb); replace HO280 := Aside0.mk (Kd.R_below (by (with_reducible repeat (first | apply Kd.R_alloc | apply Kd.R_drewN | apply Kd.R_drew)); exact HO280.out) hb); replace HO283 := Aside0.mk (Kd.R_below (by (with_reducible repeat (first | apply Kd.R_alloc | apply Kd.R_drewN | apply Kd.R_drew)); exact HO283.out) hb); replace HO291 := Aside0.mk (Kd.R_below (by (with_reducible repeat (first | apply Kd.R_alloc | apply Kd.R_drewN | apply Kd.R_drew)); exact HO291.out) hb); replace HO299 := Aside0.mk (Kd.R_below (by (with_reducible repeat (first | apply Kd.R_alloc | apply Kd.R_drewN | apply Kd.R_drew)); exact HO299.out) hb); replace HO303 := Aside0.mk (Kd.R_below (by (with_reducible repeat (first | apply Kd.R_alloc | apply Kd.R_drewN | apply Kd.R_drew)); exact HO303.out) hb); replace BK263 := bv BK263 hb; replace BK264 := bv BK264 hb; replace BK292 := bv BK292 hb; replace BK300 := bv BK300 hb; replace HB := bs (w := w) hb; (try clear hb); (try clear hb2); (try clear hk); (try clear hi)))
     go_meet
     case rel => exact ⟨_, (true), fa, H', ⟨by first | omega | exact Nat.le_refl _⟩, ⟨by (with_reducible repeat (first | apply Kd.R_alloc | apply Kd.R_drewN | apply Kd.R_drew)); exact Kd.R_mono HO283.out (fun _ hk => hk.2)⟩, ⟨by (with_reducible repeat (first | apply Kd.R_alloc | apply Kd.R_drewN | apply Kd.R_drew)); exact Kd.R_mono HO303.out (fun _ hk => hk.2)⟩, ⟨by (with_reducible repeat (first | apply Kd.R_alloc | apply Kd.R_drewN | apply Kd.R_drew)); exact Kd.R_mono HO291.out (fun _ hk => hk.2)⟩, ⟨by (with_reducible repeat (first | apply Kd.R_alloc | apply Kd.R_drewN | apply Kd.R_drew)); exact Kd.R_mono HO299.out (fun _ hk => hk.2)⟩, ⟨by (with_reducible repeat (first | refine blk_drewN ?_ _ | refine blk_drew ?_ | refine blk_alloc ?_ _)); exact BK263.out⟩, ⟨by (with_reducible repeat (first | refine blk_drewN ?_ _ | refine blk_drew ?_ | refine blk_alloc ?_ _)); exact BK264.out⟩, ⟨by (with_reducible repeat (first | refine blk_drewN ?_ _ | refine blk_drew ?_ | refine blk_alloc ?_ _)); exact BK292.out⟩, ⟨by (with_reducible repeat (first | refine blk_drewN ?_ _ | refine blk_drew ?_ | refine blk_alloc ?_ _)); exact BK300.out⟩, ⟨bl⟩⟩
   case rest =>
    clear HC25
    try clear c1
    try clear c2
    try clear p2
    try clear c4
    try clear c4b0
    try clear c5
    try clear c6
    try clear c7
    try clear c11
    try clear c11b0
    try clear c12
    try clear c14
    try clear c28
    try clear c42
    try clear c43
    try clear c49
    try clear c50
    try clear c51
    try clear c55
    try clear c57
    try clear c60
    try clear c61
    try clear c62
    try clear hcz15_0
    try clear hcz15_1
    try clear hcz15_2
    try clear hcz15_3
    try clear hcz15_4
    try clear hcz17_0
    try clear hcz17_1
    try clear hcz17_2
    try clear hcz17_3
    try clear hcz17_4
    try clear hcz29_0
    try clear hcz29_1
    try clear hcz29_2
    try clear hcz29_3
    try clear hcz29_4
    try clear hcz31_0
    try clear hcz31_1
    try clear hcz31_2
    try clear hcz31_3
    try clear hcz31_4
    try clear hcz39_0
    try clear hcz39_1
    try clear hcz39_2
    try clear hcz39_3
    try clear hcz39_4
    try clear hcz44_0
    try clear hcz44_1
    try clear hcz44_2
    try clear hcz44_3
    try clear hcz44_4
    try clear hcz46_0
    try clear hcz46_1
    try clear hcz46_2
    try clear hcz46_3
    try clear hcz46_4
    try clear hcz52_0
    try clear hcz52_1
    try clear hcz52_2
    try clear hcz52_3
    try clear hcz52_4
    try clear hcz54_0
    try clear hcz54_1
    try clear hcz54_2
    try clear hcz54_3
    try clear hcz54_4
    try clear hcz8_0
    try clear hcz8_1
    try clear hcz8_2
    try clear hcz8_3
    try clear hcz8_4
    try clear hfz15_0
    try clear hfz15_1
    try clear hfz15_2
    try clear hfz15_3
    try clear hfz15_4
    try clear hfz17_0
    try clear hfz17_1
    try clear hfz17_2
    try clear hfz17_3
    try clear hfz17_4
    try clear hfz29_0
    try clear hfz29_1
    try clear hfz29_2
    try clear hfz29_3
    try clear hfz29_4
    try clear hfz31_0
    try clear hfz31_1
    try clear hfz31_2
    try clear hfz31_3
    try clear hfz31_4
    try clear hfz39_0
    try clear hfz39_1
    try clear hfz39_2
    try clear hfz39_3
    try clear hfz39_4
    try clear hfz44_0
    try clear hfz44_1
    try clear hfz44_2
    try clear hfz44_3
    try clear hfz44_4
    try clear hfz46_0
    try clear hfz46_1
    try clear hfz46_2
    try clear hfz46_3
    try clear hfz46_4
    try clear hfz52_0
    try clear hfz52_1
    try clear hfz52_2
    try clear hfz52_3
    try clear hfz52_4
    try clear hfz54_0
    try clear hfz54_1
    try clear hfz54_2
    try clear hfz54_3
    try clear hfz54_4
    try clear hfz8_0
    try clear hfz8_1
    try clear hfz8_2
    try clear hfz8_3
    try clear hfz8_4
    obtain ⟨kq, x53_24, rfl, HA, HJ24, HO_6, HO_10, HO_293004, HO_301004, BK263, BK264, BK292, BK300, HB⟩ := hcut
    cases kq with
    | zero => exact absurd HA.out (by simp [laws_FnExactChanges.j0])
    | succ kj24 =>
     have H := HA.out
     clear HA
     simp only [laws_FnExactChanges.j0] at H
     by_cases c64 : x53_24 = true
     ·subst c64
      replace H := iT H
      exact absurd ((Option.some.inj H).trans hr_) (by decide)
     ·replace c64 := Bool.eq_false_iff.mpr c64
      subst c64
      replace H := iF H
      replace H := Option.bind_eq_some_iff.mp H
      obtain ⟨⟨t306, t307, t308, t309, t310⟩, A650, H⟩ := H
      replace H : ((laws_eqWal.f kj24 t285 t286 t287 t288 t289 t306 t307 t308 t309 t310).bind fun t313 => (if t313 = true then ((laws_toWal.f kj24 a1_0 a1_1 a1_2 a1_3 l1_4).bind fun bt314 => ((laws_eqWal.f kj24 t293 t294 t295 t296 t297 bt314.1 bt314.2.1 bt314.2.2.1 bt314.2.2.2.1 bt314.2.2.2.2).bind fun t321 => (if t321 = true then ((laws_markWal.f kj24 t285 t286 t287 t288 t289 1).bind fun bt322 => ((laws_markWal.f kj24 t293 t294 t295 t296 t297 bt322.1).bind fun bt324 => (if bt324.1 < 0 then (laws_FnExactChanges.j1 kj24 t281 t284 t301 true a0_0 a0_1 a0_2 a0_3 l0_4 a1_0 a1_1 a1_2 a1_3 l1_4) else ((laws_eqRecS.f kj24 t301 t281).bind fun t326 => (if t326 = true then (laws_FnExactChanges.j1 kj24 t281 t284 t301 (t304 != t284) a0_0 a0_1 a0_2 a0_3 l0_4 a1_0 a1_1 a1_2 a1_3 l1_4) else (laws_FnExactChanges.j1 kj24 t281 t284 t301 true a0_0 a0_1 a0_2 a0_3 l0_4 a1_0 a1_1 a1_2 a1_3 l1_4)))))) else (some false)))) else (some false))) = some r := H
      have A65 := Aside0.mk A650
      clear A650
      obtain ⟨t313, A66, H⟩ := bd H
      by_cases c67 : t313 = true
      ·subst c67
       replace H := iT H
       replace H := Option.bind_eq_some_iff.mp H
       obtain ⟨⟨t314, t315, t316, t317, t318⟩, A680, H⟩ := H
       replace H : ((laws_eqWal.f kj24 t293 t294 t295 t296 t297 t314 t315 t316 t317 t318).bind fun t321 => (if t321 = true then ((laws_markWal.f kj24 t285 t286 t287 t288 t289 1).bind fun bt322 => ((laws_markWal.f kj24 t293 t294 t295 t296 t297 bt322.1).bind fun bt324 => (if bt324.1 < 0 then (laws_FnExactChanges.j1 kj24 t281 t284 t301 true a0_0 a0_1 a0_2 a0_3 l0_4 a1_0 a1_1 a1_2 a1_3 l1_4) else ((laws_eqRecS.f kj24 t301 t281).bind fun t326 => (if t326 = true then (laws_FnExactChanges.j1 kj24 t281 t284 t301 (t304 != t284) a0_0 a0_1 a0_2 a0_3 l0_4 a1_0 a1_1 a1_2 a1_3 l1_4) else (laws_FnExactChanges.j1 kj24 t281 t284 t301 true a0_0 a0_1 a0_2 a0_3 l0_4 a1_0 a1_1 a1_2 a1_3 l1_4)))))) else (some false))) = some r := H
       have A68 := Aside0.mk A680
       clear A680
       obtain ⟨t321, A69, H⟩ := bd H
       by_cases c70 : t321 = true
       ·subst c70
        replace H := iT H
        replace H := Option.bind_eq_some_iff.mp H
        obtain ⟨⟨t322, t323⟩, A710, H⟩ := H
        replace H : ((laws_markWal.f kj24 t293 t294 t295 t296 t297 t322).bind fun bt324 => (if bt324.1 < 0 then (laws_FnExactChanges.j1 kj24 t281 t284 t301 true a0_0 a0_1 a0_2 a0_3 l0_4 a1_0 a1_1 a1_2 a1_3 l1_4) else ((laws_eqRecS.f kj24 t301 t281).bind fun t326 => (if t326 = true then (laws_FnExactChanges.j1 kj24 t281 t284 t301 (t304 != t284) a0_0 a0_1 a0_2 a0_3 l0_4 a1_0 a1_1 a1_2 a1_3 l1_4) else (laws_FnExactChanges.j1 kj24 t281 t284 t301 true a0_0 a0_1 a0_2 a0_3 l0_4 a1_0 a1_1 a1_2 a1_3 l1_4))))) = some r := H
        have A71 := Aside0.mk A710
        clear A710
        replace H := Option.bind_eq_some_iff.mp H
        obtain ⟨⟨t324, t325⟩, A720, H⟩ := H
        replace H : (if t324 < 0 then (laws_FnExactChanges.j1 kj24 t281 t284 t301 true a0_0 a0_1 a0_2 a0_3 l0_4 a1_0 a1_1 a1_2 a1_3 l1_4) else ((laws_eqRecS.f kj24 t301 t281).bind fun t326 => (if t326 = true then (laws_FnExactChanges.j1 kj24 t281 t284 t301 (t304 != t284) a0_0 a0_1 a0_2 a0_3 l0_4 a1_0 a1_1 a1_2 a1_3 l1_4) else (laws_FnExactChanges.j1 kj24 t281 t284 t301 true a0_0 a0_1 a0_2 a0_3 l0_4 a1_0 a1_1 a1_2 a1_3 l1_4)))) = some r := H
        have A72 := Aside0.mk A720
        clear A720
        have HC73 := Aside0.mk H
        clear H
        try go_wp2
        have n0_ := Aside0.mk (Kd.R_drew HO_6.out)
        have n1_ := Aside0.mk (Kd.R_drew HO_10.out)
        have n2_ := Aside0.mk (Kd.R_drew HO_293004.out)
        have n3_ := Aside0.mk (Kd.R_drew HO_301004.out)
        have n4_ := Aside0.mk (blk_drew BK263.out)
        have n5_ := Aside0.mk (blk_drew BK264.out)
        have n6_ := Aside0.mk (blk_drew BK292.out)
        have n7_ := Aside0.mk (blk_drew BK300.out)
        have n8_ := Aside0.mk (below_drew1 HB.out)
        clear HO_6
        clear HO_10
        clear HO_293004
        clear HO_301004
        clear BK263
        clear BK264
        clear BK292
        clear BK300
        clear HB
        have HO_6 := n0_
        have HO_10 := n1_
        have HO_293004 := n2_
        have HO_301004 := n3_
        have BK263 := n4_
        have BK264 := n5_
        have BK292 := n6_
        have BK300 := n7_
        have HB := n8_
        clear n0_ n1_ n2_ n3_ n4_ n5_ n6_ n7_ n8_
        refine start_ (n := 5) (S := fun w' => w'.cell? ⟨gb292, 0, none⟩ = some (.int .i64 t285) ∧ w'.cell? ⟨gb292, 1, none⟩ = some (.int .i64 t286) ∧ w'.cell? ⟨gb292, 2, none⟩ = some (.int .i64 t287) ∧ w'.cell? ⟨gb292, 3, none⟩ = some (.int .i64 t288) ∧ w'.cell? ⟨gb292, 4, none⟩ = some (.slice Ao45 t289.length co45) ∧ w'.cell? ⟨gb263, 0, none⟩ = some (.int .i64 a0_0) ∧ w'.cell? ⟨gb263, 1, none⟩ = some (.int .i64 a0_1) ∧ w'.cell? ⟨gb263, 2, none⟩ = some (.int .i64 a0_2) ∧ w'.cell? ⟨gb263, 3, none⟩ = some (.int .i64 a0_3) ∧ w'.cell? ⟨gb263, 4, none⟩ = some (.slice A0_4 l0_4.length c0_4)) (ds := []) #[false, false, false, false, false] (by kernel_rfl) rfl rfl ⟨(blk_cell BK292.out 0).trans rfl, (blk_cell BK292.out 1).trans rfl, (blk_cell BK292.out 2).trans rfl, (blk_cell BK292.out 3).trans rfl, (blk_cell BK292.out 4).trans rfl, (blk_cell BK263.out 0).trans rfl, (blk_cell BK263.out 1).trans rfl, (blk_cell BK263.out 2).trans rfl, (blk_cell BK263.out 3).trans rfl, (blk_cell BK263.out 4).trans rfl⟩ (fun hHeld => ?_)
        generalize wc.drew = w74 at HO_6 HO_10 HO_293004 HO_301004 BK263 BK264 BK292 BK300 HB hHeld ⊢
        refine take_ (i := 0) (N := some 54) (v := ?_) (a' := ?_) #[true, false, false, false, false] rfl rfl (by kernel_rfl) (fun _ _ _ h => h) (Or.inl ⟨by rfl, ?_⟩) hHeld ?_ ?_
        rotate_left
        ·rintro w' ⟨s0, s1, s2, s3, s4, s5, s6, s7, s8, s9⟩
         go_simp
         with_reducible rfl
        rotate_left
        ·simp only [Act.put, List.setIfInBounds_toArray, List.set_cons_zero, List.set_cons_succ, i64_w, i32_w]
         rfl
        refine take_ (i := 1) (N := some 55) (v := ?_) (a' := ?_) #[true, true, false, false, false] rfl rfl (by kernel_rfl) (fun _ _ _ h => h) (Or.inl ⟨by rfl, ?_⟩) hHeld ?_ ?_
        rotate_left
        ·rintro w' ⟨s0, s1, s2, s3, s4, s5, s6, s7, s8, s9⟩
         go_simp
         with_reducible rfl
        rotate_left
        ·simp only [Act.put, List.setIfInBounds_toArray, List.set_cons_zero, List.set_cons_succ, i64_w, i32_w]
         rfl
        refine one_ (i := 2) (N := some 56) #[true, true, true, false, false] rfl rfl (by kernel_rfl) (by decide) (fun K hK => ?_)
        refine goes_ Try.func57 (by kernel_rfl) rfl #[.agg #[.int .i64 a0_0, .int .i64 a0_1, .int .i64 a0_2, .int .i64 a0_3, .slice A0_4 l0_4.length c0_4]] (by rfl) rfl rfl sa ?_
        with_reducible refine (laws_toWal.calls kj24 a0_0 a0_1 a0_2 a0_3 _ _ l0_4 t306 t307 t308 t309 t310 _ ?side1 ?side2 A65.out).mono ?_
        (case side1 => repeat (first | exact (Kd.C_below HR0_4.out HB.out) | (with_reducible refine Kd.C_alloc ?_ _) | (with_reducible refine Kd.C_drewN ?_ _) | (with_reducible refine Kd.C_drew ?_)))
        (case side2 => exact HC0_4.out)
        rintro e w75 ⟨v311, rfl, ho0, hb⟩
        refine ⟨_, rfl, ?_⟩
        have n0_ := Aside0.mk (Kd.R_below (by (with_reducible repeat (first | apply Kd.R_alloc | apply Kd.R_drewN | apply Kd.R_drew)); exact HO_6.out) hb)
        have n1_ := Aside0.mk (Kd.R_below (by (with_reducible repeat (first | apply Kd.R_alloc | apply Kd.R_drewN | apply Kd.R_drew)); exact HO_10.out) hb)
        have n2_ := Aside0.mk (Kd.R_elder' (by (with_reducible repeat (first | apply Kd.R_alloc | apply Kd.R_drewN | apply Kd.R_drew)); exact HO_293004.out) (Kd.R_base ho0) hb)
        have n3_ := Aside0.mk (Kd.R_elder' (by (with_reducible repeat (first | apply Kd.R_alloc | apply Kd.R_drewN | apply Kd.R_drew)); exact HO_301004.out) (Kd.R_base ho0) hb)
        have n4_ := Aside0.mk (Kd.R_lower (Kd.R_new' (Kd.R_new' ho0 (Kd.R_lt (by (with_reducible repeat (first | apply Kd.R_alloc | apply Kd.R_drewN | apply Kd.R_drew)); exact HO_293004.out))) (Kd.R_lt (by (with_reducible repeat (first | apply Kd.R_alloc | apply Kd.R_drewN | apply Kd.R_drew)); exact HO_301004.out))) (below_size bl))
        have n5_ := Aside0.mk (blk_below (g := gb263) (o := .cells #[.int .i64 a0_0, .int .i64 a0_1, .int .i64 a0_2, .int .i64 a0_3, .slice A0_4 l0_4.length c0_4] 62 (0, 0)) bk hb)
        have n6_ := Aside0.mk (blk_below (g := gb264) (o := .cells #[.int .i64 a1_0, .int .i64 a1_1, .int .i64 a1_2, .int .i64 a1_3, .slice A1_4 l1_4.length c1_4] 62 (0, 0)) bk hb)
        have n7_ := Aside0.mk (blk_below (g := gb292) (o := .cells #[.int .i64 t285, .int .i64 t286, .int .i64 t287, .int .i64 t288, .slice Ao45 t289.length co45] 67 (0, 0)) bk hb)
        have n8_ := Aside0.mk (blk_below (g := gb300) (o := .cells #[.int .i64 t293, .int .i64 t294, .int .i64 t295, .int .i64 t296, .slice Ao53 t297.length co53] 67 (0, 0)) bk hb)
        have n9_ := Aside0.mk (below_step bl hb)
        clear HO_6
        clear HO_10
        clear HO_293004
        clear HO_301004
        clear BK263
        clear BK264
        clear BK292
        clear BK300
        clear HB
        have HO_6 := n0_
        have HO_10 := n1_
        have HO_293004 := n2_
        have HO_301004 := n3_
        have HO312 := n4_
        have BK263 := n5_
        have BK264 := n6_
        have BK292 := n7_
        have BK300 := n8_
        have HB := n9_
        clear n0_ n1_ n2_ n3_ n4_ n5_ n6_ n7_ n8_ n9_
        (try clear hb)
        (try clear hb2)
        (try clear hk)
        (try clear hi)
        (try clear ho0)
        obtain ⟨Ao76, co76, eo76⟩ := Kd.R_slice HO312.out
        (first | subst eo76 | (injection eo76 with f1_ f2_ f3_; have f4_ := f1_.symm; have f5_ := f3_.symm; clear f1_ f2_ f3_; subst f4_; subst f5_))
        refine hK.out _ _ ⟨(blk_cell BK292.out 0).trans rfl, (blk_cell BK292.out 1).trans rfl, (blk_cell BK292.out 2).trans rfl, (blk_cell BK292.out 3).trans rfl, (blk_cell BK292.out 4).trans rfl, (blk_cell BK263.out 0).trans rfl, (blk_cell BK263.out 1).trans rfl, (blk_cell BK263.out 2).trans rfl, (blk_cell BK263.out 3).trans rfl, (blk_cell BK263.out 4).trans rfl⟩ (fun hHeld => ?_)
        clear hK K
        refine norm_ (a' := ?_) ?_ ?_
        rotate_left
        ·show Act.put _ (some 56) _ = _
         simp only [Act.put, List.setIfInBounds_toArray, List.set_cons_zero, List.set_cons_succ, i64_w, i32_w]
         rfl
        refine one_ (i := 3) (N := some 57) #[true, true, true, true, false] rfl rfl (by kernel_rfl) (by decide) (fun K hK => ?_)
        refine goes_ Try.func59 (by kernel_rfl) rfl #[.agg #[.int .i64 t285, .int .i64 t286, .int .i64 t287, .int .i64 t288, .slice Ao45 t289.length co45], .agg #[.int .i64 t306, .int .i64 t307, .int .i64 t308, .int .i64 t309, .slice Ao76 t310.length co76]] (by rfl) rfl rfl sa ?_
        with_reducible refine (laws_eqWal.calls kj24 t285 t286 t287 t288 _ _ t289 t306 t307 t308 t309 _ _ t310 true _ ?side1 ?side2 ?side3 ?side4 A66.out).mono ?_
        (case side1 => repeat (first | exact (Kd.R_reads' HO_293004.out).2.2 | (with_reducible refine Kd.C_alloc ?_ _) | (with_reducible refine Kd.C_drewN ?_ _) | (with_reducible refine Kd.C_drew ?_)))
        (case side2 => exact (Kd.R_reads' HO_293004.out).2.1)
        (case side3 => repeat (first | exact (Kd.R_reads' HO312.out).2.2 | (with_reducible refine Kd.C_alloc ?_ _) | (with_reducible refine Kd.C_drewN ?_ _) | (with_reducible refine Kd.C_drew ?_)))
        (case side4 => exact (Kd.R_reads' HO312.out).2.1)
        rintro e w77 ⟨rfl, hb⟩
        refine ⟨_, rfl, ?_⟩
        have n0_ := Aside0.mk (Kd.R_below (by (with_reducible repeat (first | apply Kd.R_alloc | apply Kd.R_drewN | apply Kd.R_drew)); exact HO_6.out) hb)
        have n1_ := Aside0.mk (Kd.R_below (by (with_reducible repeat (first | apply Kd.R_alloc | apply Kd.R_drewN | apply Kd.R_drew)); exact HO_10.out) hb)
        have n2_ := Aside0.mk (Kd.R_below (by (with_reducible repeat (first | apply Kd.R_alloc | apply Kd.R_drewN | apply Kd.R_drew)); exact HO_293004.out) hb)
        have n3_ := Aside0.mk (Kd.R_below (by (with_reducible repeat (first | apply Kd.R_alloc | apply Kd.R_drewN | apply Kd.R_drew)); exact HO_301004.out) hb)
        have n4_ := Aside0.mk (Kd.R_below (by (with_reducible repeat (first | apply Kd.R_alloc | apply Kd.R_drewN | apply Kd.R_drew)); exact HO312.out) hb)
        have n5_ := Aside0.mk (blk_below (g := gb263) (o := .cells #[.int .i64 a0_0, .int .i64 a0_1, .int .i64 a0_2, .int .i64 a0_3, .slice A0_4 l0_4.length c0_4] 62 (0, 0)) bk hb)
        have n6_ := Aside0.mk (blk_below (g := gb264) (o := .cells #[.int .i64 a1_0, .int .i64 a1_1, .int .i64 a1_2, .int .i64 a1_3, .slice A1_4 l1_4.length c1_4] 62 (0, 0)) bk hb)
        have n7_ := Aside0.mk (blk_below (g := gb292) (o := .cells #[.int .i64 t285, .int .i64 t286, .int .i64 t287, .int .i64 t288, .slice Ao45 t289.length co45] 67 (0, 0)) bk hb)
        have n8_ := Aside0.mk (blk_below (g := gb300) (o := .cells #[.int .i64 t293, .int .i64 t294, .int .i64 t295, .int .i64 t296, .slice Ao53 t297.length co53] 67 (0, 0)) bk hb)
        have n9_ := Aside0.mk (below_step bl hb)
        clear HO_6
        clear HO_10
        clear HO_293004
        clear HO_301004
        clear HO312
        clear BK263
        clear BK264
        clear BK292
        clear BK300
        clear HB
        have HO_6 := n0_
        have HO_10 := n1_
        have HO_293004 := n2_
        have HO_301004 := n3_
        have HO312 := n4_
        have BK263 := n5_
        have BK264 := n6_
        have BK292 := n7_
        have BK300 := n8_
        have HB := n9_
        clear n0_ n1_ n2_ n3_ n4_ n5_ n6_ n7_ n8_ n9_
        (try clear hb)
        (try clear hb2)
        (try clear hk)
        (try clear hi)
        refine hK.out _ _ ⟨(blk_cell BK292.out 0).trans rfl, (blk_cell BK292.out 1).trans rfl, (blk_cell BK292.out 2).trans rfl, (blk_cell BK292.out 3).trans rfl, (blk_cell BK292.out 4).trans rfl, (blk_cell BK263.out 0).trans rfl, (blk_cell BK263.out 1).trans rfl, (blk_cell BK263.out 2).trans rfl, (blk_cell BK263.out 3).trans rfl, (blk_cell BK263.out 4).trans rfl⟩ (fun hHeld => ?_)
        clear hK K
        refine norm_ (a' := ?_) ?_ ?_
        rotate_left
        ·show Act.put _ (some 57) _ = _
         simp only [Act.put, List.setIfInBounds_toArray, List.set_cons_zero, List.set_cons_succ, i64_w, i32_w]
         rfl
        refine pure_ (i := 4) (N := some 58) (v := ?_) (a' := ?_) #[true, true, true, true, true] rfl rfl (by kernel_rfl) (fun _ _ _ h => h) (Or.inl ⟨by rfl, ?_⟩) ?_ ?_
        rotate_left
        ·intro w'
         go_simp
         with_reducible rfl
        rotate_left
        ·simp only [Act.put, List.setIfInBounds_toArray, List.set_cons_zero, List.set_cons_succ, i64_w, i32_w]
         rfl
        refine done_ (by kernel_rfl) ?_
        try go_wp2
        have n0_ := Aside0.mk (Kd.R_drew HO_6.out)
        have n1_ := Aside0.mk (Kd.R_drew HO_10.out)
        have n2_ := Aside0.mk (Kd.R_drew HO_293004.out)
        have n3_ := Aside0.mk (Kd.R_drew HO_301004.out)
        have n4_ := Aside0.mk (Kd.R_drew HO312.out)
        have n5_ := Aside0.mk (blk_drew BK263.out)
        have n6_ := Aside0.mk (blk_drew BK264.out)
        have n7_ := Aside0.mk (blk_drew BK292.out)
        have n8_ := Aside0.mk (blk_drew BK300.out)
        have n9_ := Aside0.mk (below_drew1 HB.out)
        clear HO_6
        clear HO_10
        clear HO_293004
        clear HO_301004
        clear HO312
        clear BK263
        clear BK264
        clear BK292
        clear BK300
        clear HB
        have HO_6 := n0_
        have HO_10 := n1_
        have HO_293004 := n2_
        have HO_301004 := n3_
        have HO312 := n4_
        have BK263 := n5_
        have BK264 := n6_
        have BK292 := n7_
        have BK300 := n8_
        have HB := n9_
        clear n0_ n1_ n2_ n3_ n4_ n5_ n6_ n7_ n8_ n9_
        refine start_ (n := 5) (S := fun w' => w'.cell? ⟨gb300, 0, none⟩ = some (.int .i64 t293) ∧ w'.cell? ⟨gb300, 1, none⟩ = some (.int .i64 t294) ∧ w'.cell? ⟨gb300, 2, none⟩ = some (.int .i64 t295) ∧ w'.cell? ⟨gb300, 3, none⟩ = some (.int .i64 t296) ∧ w'.cell? ⟨gb300, 4, none⟩ = some (.slice Ao53 t297.length co53) ∧ w'.cell? ⟨gb264, 0, none⟩ = some (.int .i64 a1_0) ∧ w'.cell? ⟨gb264, 1, none⟩ = some (.int .i64 a1_1) ∧ w'.cell? ⟨gb264, 2, none⟩ = some (.int .i64 a1_2) ∧ w'.cell? ⟨gb264, 3, none⟩ = some (.int .i64 a1_3) ∧ w'.cell? ⟨gb264, 4, none⟩ = some (.slice A1_4 l1_4.length c1_4)) (ds := []) #[false, false, false, false, false] (by kernel_rfl) rfl rfl ⟨(blk_cell BK300.out 0).trans rfl, (blk_cell BK300.out 1).trans rfl, (blk_cell BK300.out 2).trans rfl, (blk_cell BK300.out 3).trans rfl, (blk_cell BK300.out 4).trans rfl, (blk_cell BK264.out 0).trans rfl, (blk_cell BK264.out 1).trans rfl, (blk_cell BK264.out 2).trans rfl, (blk_cell BK264.out 3).trans rfl, (blk_cell BK264.out 4).trans rfl⟩ (fun hHeld => ?_)
        generalize w77.drew = w78 at HO_6 HO_10 HO_293004 HO_301004 HO312 BK263 BK264 BK292 BK300 HB hHeld ⊢
        refine take_ (i := 0) (N := some 59) (v := ?_) (a' := ?_) #[true, false, false, false, false] rfl rfl (by kernel_rfl) (fun _ _ _ h => h) (Or.inl ⟨by rfl, ?_⟩) hHeld ?_ ?_
        rotate_left
        ·rintro w' ⟨s0, s1, s2, s3, s4, s5, s6, s7, s8, s9⟩
         go_simp
         with_reducible rfl
        rotate_left
        ·simp only [Act.put, List.setIfInBounds_toArray, List.set_cons_zero, List.set_cons_succ, i64_w, i32_w]
         rfl
        refine take_ (i := 1) (N := some 60) (v := ?_) (a' := ?_) #[true, true, false, false, false] rfl rfl (by kernel_rfl) (fun _ _ _ h => h) (Or.inl ⟨by rfl, ?_⟩) hHeld ?_ ?_
        rotate_left
        ·rintro w' ⟨s0, s1, s2, s3, s4, s5, s6, s7, s8, s9⟩
         go_simp
         with_reducible rfl
        rotate_left
        ·simp only [Act.put, List.setIfInBounds_toArray, List.set_cons_zero, List.set_cons_succ, i64_w, i32_w]
         rfl
        refine one_ (i := 2) (N := some 61) #[true, true, true, false, false] rfl rfl (by kernel_rfl) (by decide) (fun K hK => ?_)
        refine goes_ Try.func57 (by kernel_rfl) rfl #[.agg #[.int .i64 a1_0, .int .i64 a1_1, .int .i64 a1_2, .int .i64 a1_3, .slice A1_4 l1_4.length c1_4]] (by rfl) rfl rfl sa ?_
        with_reducible refine (laws_toWal.calls kj24 a1_0 a1_1 a1_2 a1_3 _ _ l1_4 t314 t315 t316 t317 t318 _ ?side1 ?side2 A68.out).mono ?_
        (case side1 => repeat (first | exact (Kd.C_below HR1_4.out HB.out) | (with_reducible refine Kd.C_alloc ?_ _) | (with_reducible refine Kd.C_drewN ?_ _) | (with_reducible refine Kd.C_drew ?_)))
        (case side2 => exact HC1_4.out)
        rintro e w79 ⟨v319, rfl, ho0, hb⟩
        refine ⟨_, rfl, ?_⟩
        have n0_ := Aside0.mk (Kd.R_below (by (with_reducible repeat (first | apply Kd.R_alloc | apply Kd.R_drewN | apply Kd.R_drew)); exact HO_6.out) hb)
        have n1_ := Aside0.mk (Kd.R_below (by (with_reducible repeat (first | apply Kd.R_alloc | apply Kd.R_drewN | apply Kd.R_drew)); exact HO_10.out) hb)
        have n2_ := Aside0.mk (Kd.R_elder' (by (with_reducible repeat (first | apply Kd.R_alloc | apply Kd.R_drewN | apply Kd.R_drew)); exact HO_293004.out) (Kd.R_base ho0) hb)
        have n3_ := Aside0.mk (Kd.R_elder' (by (with_reducible repeat (first | apply Kd.R_alloc | apply Kd.R_drewN | apply Kd.R_drew)); exact HO_301004.out) (Kd.R_base ho0) hb)
        have n4_ := Aside0.mk (Kd.R_elder' (by (with_reducible repeat (first | apply Kd.R_alloc | apply Kd.R_drewN | apply Kd.R_drew)); exact HO312.out) (Kd.R_base ho0) hb)
        have n5_ := Aside0.mk (Kd.R_lower (Kd.R_new' (Kd.R_new' (Kd.R_new' ho0 (Kd.R_lt (by (with_reducible repeat (first | apply Kd.R_alloc | apply Kd.R_drewN | apply Kd.R_drew)); exact HO_293004.out))) (Kd.R_lt (by (with_reducible repeat (first | apply Kd.R_alloc | apply Kd.R_drewN | apply Kd.R_drew)); exact HO_301004.out))) (Kd.R_lt (by (with_reducible repeat (first | apply Kd.R_alloc | apply Kd.R_drewN | apply Kd.R_drew)); exact HO312.out))) (below_size bl))
        have n6_ := Aside0.mk (blk_below (g := gb263) (o := .cells #[.int .i64 a0_0, .int .i64 a0_1, .int .i64 a0_2, .int .i64 a0_3, .slice A0_4 l0_4.length c0_4] 62 (0, 0)) bk hb)
        have n7_ := Aside0.mk (blk_below (g := gb264) (o := .cells #[.int .i64 a1_0, .int .i64 a1_1, .int .i64 a1_2, .int .i64 a1_3, .slice A1_4 l1_4.length c1_4] 62 (0, 0)) bk hb)
        have n8_ := Aside0.mk (blk_below (g := gb292) (o := .cells #[.int .i64 t285, .int .i64 t286, .int .i64 t287, .int .i64 t288, .slice Ao45 t289.length co45] 67 (0, 0)) bk hb)
        have n9_ := Aside0.mk (blk_below (g := gb300) (o := .cells #[.int .i64 t293, .int .i64 t294, .int .i64 t295, .int .i64 t296, .slice Ao53 t297.length co53] 67 (0, 0)) bk hb)
        have n10_ := Aside0.mk (below_step bl hb)
        clear HO_6
        clear HO_10
        clear HO_293004
        clear HO_301004
        clear HO312
        clear BK263
        clear BK264
        clear BK292
        clear BK300
        clear HB
        have HO_6 := n0_
        have HO_10 := n1_
        have HO_293004 := n2_
        have HO_301004 := n3_
        have HO312 := n4_
        have HO320 := n5_
        have BK263 := n6_
        have BK264 := n7_
        have BK292 := n8_
        have BK300 := n9_
        have HB := n10_
        clear n0_ n1_ n2_ n3_ n4_ n5_ n6_ n7_ n8_ n9_ n10_
        (try clear hb)
        (try clear hb2)
        (try clear hk)
        (try clear hi)
        (try clear ho0)
        obtain ⟨Ao80, co80, eo80⟩ := Kd.R_slice HO320.out
        (first | subst eo80 | (injection eo80 with f1_ f2_ f3_; have f4_ := f1_.symm; have f5_ := f3_.symm; clear f1_ f2_ f3_; subst f4_; subst f5_))
        refine hK.out _ _ ⟨(blk_cell BK300.out 0).trans rfl, (blk_cell BK300.out 1).trans rfl, (blk_cell BK300.out 2).trans rfl, (blk_cell BK300.out 3).trans rfl, (blk_cell BK300.out 4).trans rfl, (blk_cell BK264.out 0).trans rfl, (blk_cell BK264.out 1).trans rfl, (blk_cell BK264.out 2).trans rfl, (blk_cell BK264.out 3).trans rfl, (blk_cell BK264.out 4).trans rfl⟩ (fun hHeld => ?_)
        clear hK K
        refine norm_ (a' := ?_) ?_ ?_
        rotate_left
        ·show Act.put _ (some 61) _ = _
         simp only [Act.put, List.setIfInBounds_toArray, List.set_cons_zero, List.set_cons_succ, i64_w, i32_w]
         rfl
        refine one_ (i := 3) (N := some 62) #[true, true, true, true, false] rfl rfl (by kernel_rfl) (by decide) (fun K hK => ?_)
        refine goes_ Try.func59 (by kernel_rfl) rfl #[.agg #[.int .i64 t293, .int .i64 t294, .int .i64 t295, .int .i64 t296, .slice Ao53 t297.length co53], .agg #[.int .i64 t314, .int .i64 t315, .int .i64 t316, .int .i64 t317, .slice Ao80 t318.length co80]] (by rfl) rfl rfl sa ?_
        with_reducible refine (laws_eqWal.calls kj24 t293 t294 t295 t296 _ _ t297 t314 t315 t316 t317 _ _ t318 true _ ?side1 ?side2 ?side3 ?side4 A69.out).mono ?_
        (case side1 => repeat (first | exact (Kd.R_reads' HO_301004.out).2.2 | (with_reducible refine Kd.C_alloc ?_ _) | (with_reducible refine Kd.C_drewN ?_ _) | (with_reducible refine Kd.C_drew ?_)))
        (case side2 => exact (Kd.R_reads' HO_301004.out).2.1)
        (case side3 => repeat (first | exact (Kd.R_reads' HO320.out).2.2 | (with_reducible refine Kd.C_alloc ?_ _) | (with_reducible refine Kd.C_drewN ?_ _) | (with_reducible refine Kd.C_drew ?_)))
        (case side4 => exact (Kd.R_reads' HO320.out).2.1)
        rintro e w81 ⟨rfl, hb⟩
        refine ⟨_, rfl, ?_⟩
        have n0_ := Aside0.mk (Kd.R_below (by (with_reducible repeat (first | apply Kd.R_alloc | apply Kd.R_drewN | apply Kd.R_drew)); exact HO_6.out) hb)
        have n1_ := Aside0.mk (Kd.R_below (by (with_reducible repeat (first | apply Kd.R_alloc | apply Kd.R_drewN | apply Kd.R_drew)); exact HO_10.out) hb)
        have n2_ := Aside0.mk (Kd.R_below (by (with_reducible repeat (first | apply Kd.R_alloc | apply Kd.R_drewN | apply Kd.R_drew)); exact HO_293004.out) hb)
        have n3_ := Aside0.mk (Kd.R_below (by (with_reducible repeat (first | apply Kd.R_alloc | apply Kd.R_drewN | apply Kd.R_drew)); exact HO_301004.out) hb)
        have n4_ := Aside0.mk (Kd.R_below (by (with_reducible repeat (first | apply Kd.R_alloc | apply Kd.R_drewN | apply Kd.R_drew)); exact HO312.out) hb)
        have n5_ := Aside0.mk (Kd.R_below (by (with_reducible repeat (first | apply Kd.R_alloc | apply Kd.R_drewN | apply Kd.R_drew)); exact HO320.out) hb)
        have n6_ := Aside0.mk (blk_below (g := gb263) (o := .cells #[.int .i64 a0_0, .int .i64 a0_1, .int .i64 a0_2, .int .i64 a0_3, .slice A0_4 l0_4.length c0_4] 62 (0, 0)) bk hb)
        have n7_ := Aside0.mk (blk_below (g := gb264) (o := .cells #[.int .i64 a1_0, .int .i64 a1_1, .int .i64 a1_2, .int .i64 a1_3, .slice A1_4 l1_4.length c1_4] 62 (0, 0)) bk hb)
        have n8_ := Aside0.mk (blk_below (g := gb292) (o := .cells #[.int .i64 t285, .int .i64 t286, .int .i64 t287, .int .i64 t288, .slice Ao45 t289.length co45] 67 (0, 0)) bk hb)
        have n9_ := Aside0.mk (blk_below (g := gb300) (o := .cells #[.int .i64 t293, .int .i64 t294, .int .i64 t295, .int .i64 t296, .slice Ao53 t297.length co53] 67 (0, 0)) bk hb)
        have n10_ := Aside0.mk (below_step bl hb)
        clear HO_6
        clear HO_10
        clear HO_293004
        clear HO_301004
        clear HO312
        clear HO320
        clear BK263
        clear BK264
        clear BK292
        clear BK300
        clear HB
        have HO_6 := n0_
        have HO_10 := n1_
        have HO_293004 := n2_
        have HO_301004 := n3_
        have HO312 := n4_
        have HO320 := n5_
        have BK263 := n6_
        have BK264 := n7_
        have BK292 := n8_
        have BK300 := n9_
        have HB := n10_
        clear n0_ n1_ n2_ n3_ n4_ n5_ n6_ n7_ n8_ n9_ n10_
        (try clear hb)
        (try clear hb2)
        (try clear hk)
        (try clear hi)
        refine hK.out _ _ ⟨(blk_cell BK300.out 0).trans rfl, (blk_cell BK300.out 1).trans rfl, (blk_cell BK300.out 2).trans rfl, (blk_cell BK300.out 3).trans rfl, (blk_cell BK300.out 4).trans rfl, (blk_cell BK264.out 0).trans rfl, (blk_cell BK264.out 1).trans rfl, (blk_cell BK264.out 2).trans rfl, (blk_cell BK264.out 3).trans rfl, (blk_cell BK264.out 4).trans rfl⟩ (fun hHeld => ?_)
        clear hK K
        refine norm_ (a' := ?_) ?_ ?_
        rotate_left
        ·show Act.put _ (some 62) _ = _
         simp only [Act.put, List.setIfInBounds_toArray, List.set_cons_zero, List.set_cons_succ, i64_w, i32_w]
         rfl
        refine pure_ (i := 4) (N := some 63) (v := ?_) (a' := ?_) #[true, true, true, true, true] rfl rfl (by kernel_rfl) (fun _ _ _ h => h) (Or.inl ⟨by rfl, ?_⟩) ?_ ?_
        rotate_left
        ·intro w'
         go_simp
         with_reducible rfl
        rotate_left
        ·simp only [Act.put, List.setIfInBounds_toArray, List.set_cons_zero, List.set_cons_succ, i64_w, i32_w]
         rfl
        refine done_ (by kernel_rfl) ?_
        have hnb82 := NB292_263.out
        have hnc82 := NB263_292.out
        have hnb83 := NB292_264.out
        have hnc83 := NB264_292.out
        have hnb84 := NB292_300.out
        have hnc84 := NB300_292.out
        have hcz85_0 : w81.cell? ⟨gb292, 0, none⟩ = some (.int .i64 t285) := (blk_cell BK292.out 0).trans rfl
        have hcz85_1 : w81.cell? ⟨gb292, 1, none⟩ = some (.int .i64 t286) := (blk_cell BK292.out 1).trans rfl
        have hcz85_2 : w81.cell? ⟨gb292, 2, none⟩ = some (.int .i64 t287) := (blk_cell BK292.out 2).trans rfl
        have hcz85_3 : w81.cell? ⟨gb292, 3, none⟩ = some (.int .i64 t288) := (blk_cell BK292.out 3).trans rfl
        have hcz85_4 : w81.cell? ⟨gb292, 4, none⟩ = some (.slice Ao45 t289.length co45) := (blk_cell BK292.out 4).trans rfl
        have hfz85_0 := blk_frozen BK292.out 0
        have hfz85_1 := blk_frozen BK292.out 1
        have hfz85_2 := blk_frozen BK292.out 2
        have hfz85_3 := blk_frozen BK292.out 3
        have hfz85_4 := blk_frozen BK292.out 4
        go_upto_region 21 with (first | ((with_reducible refine gC 63 rfl ?_); refine goesZ (some 66) rfl Try.func63 #[.agg #[.int .i64 t285, .int .i64 t286, .int .i64 t287, .int .i64 t288, .slice Ao45 t289.length co45], .int .i64 1] ?_; (with_reducible refine (laws_markWal.calls kj24 t285 t286 t287 t288 (fun k_ => some k_ = (.slice Ao45 t289.length co45 : Value).ownBlock) (.slice Ao45 t289.length co45) t289 1 t322 t323 w _ ?side1 ?side2 A71.out).mono ?_); (case side1 => repeat (first | (with_reducible first | exact HB.out | apply below_alloc | apply pw_below_drewN | apply below_drew1 | refine below_set ?_ GE263.out | refine below_set ?_ GE264.out | refine below_set ?_ GE292.out | refine below_set ?_ GE300.out) | exact HB.out)); (case side2 => exact Kd.R_tight rfl HO_293004.out); rintro e w86 ⟨rfl, hy0, hb, hkp⟩; refine ⟨_, rfl, ?_⟩; replace HO_6 := Aside0.mk (Kd.R_mono (ok' := fun k_ => some k_ ≠ (v302 : Value).ownBlock) (Kd.R_keptB ((Kd.R_apart' HO_6.out (Kd.R_typed HO_293004.out) (by decide))) hkp (fun k_ hk_ hs_ => (hk_.2) hs_)) (fun k_ hk_ => hk_.1.1)); replace HO_10 := Aside0.mk (Kd.R_mono (ok' := fun k_ => some k_ ≠ (v282 : Value).ownBlock) (Kd.R_keptB ((Kd.R_apart' HO_10.out (Kd.R_typed HO_293004.out) (by decide))) hkp (fun k_ hk_ hs_ => (hk_.2) hs_)) (fun k_ hk_ => hk_.1.1)); replace HO_301004 := Aside0.mk (Kd.R_mono (ok' := fun k_ => some k_ ≠ (.slice Ao45 t289.length co45 : Value).ownBlock ∧ some k_ ≠ (.slice Ao76 t310.length co76 : Value).ownBlock ∧ some k_ ≠ (.slice Ao80 t318.length co80 : Value).ownBlock) (Kd.R_keptB (HO_301004.out) hkp (fun k_ hk_ hs_ => (hk_.1.1) hs_)) (fun k_ hk_ => ⟨hk_.1.1.1, hk_.1.1.2, hk_.1.2⟩)); replace BK263 := Aside0.mk (blk_kept bk hkp (fun hs_ => (fun e_ => (Kd.R_ne HO_293004.out BK263.out (by decide)) e_) hs_)); replace BK264 := Aside0.mk (blk_kept bk hkp (fun hs_ => (fun e_ => (Kd.R_ne HO_293004.out BK264.out (by decide)) e_) hs_)); replace BK292 := Aside0.mk (blk_kept bk hkp (fun hs_ => (fun e_ => (Kd.R_ne HO_293004.out BK292.out (by decide)) e_) hs_)); replace BK300 := Aside0.mk (blk_kept bk hkp (fun hs_ => (fun e_ => (Kd.R_ne HO_293004.out BK300.out (by decide)) e_) hs_)); replace HO_293004 := Aside0.mk (Kd.R_reok rfl hy0 (fun k_ e_ => HO_293004.out.1 k_ e_)); replace HO312 := Aside0.mk (Kd.R_mono (ok' := fun k_ => some k_ ≠ (.slice Ao45 t289.length co45 : Value).ownBlock ∧ some k_ ≠ (.slice Ao53 t297.length co53 : Value).ownBlock ∧ some k_ ≠ (.slice Ao80 t318.length co80 : Value).ownBlock) (Kd.R_keptB (HO312.out) hkp (fun k_ hk_ hs_ => (hk_.1.1.2) hs_)) (fun k_ hk_ => ⟨hk_.1.1.1.2, hk_.1.1.2, hk_.1.2⟩)); replace HO320 := Aside0.mk (Kd.R_mono (ok' := fun k_ => some k_ ≠ (.slice Ao45 t289.length co45 : Value).ownBlock ∧ some k_ ≠ (.slice Ao53 t297.length co53 : Value).ownBlock ∧ some k_ ≠ (.slice Ao76 t310.length co76 : Value).ownBlock) (Kd.R_keptB (HO320.out) hkp (fun k_ hk_ hs_ => (hk_.1.1.2) hs_)) (fun k_ hk_ => ⟨hk_.1.1.1.2, hk_.1.1.2, hk_.1.2⟩)); replace HB := Aside0.mk (hb); (try clear hb); (try clear hkp); (try clear hy0); have hnb87 := NB300_263.out; have hnc87 := NB263_300.out; have hnb88 := NB300_264.out; have hnc88 := NB264_300.out; have hcz89_0 : w86.cell? ⟨gb300, 0, none⟩ = some (.int .i64 t293) := (blk_cell BK300.out 0).trans rfl; have hcz89_1 : w86.cell? ⟨gb300, 1, none⟩ = some (.int .i64 t294) := (blk_cell BK300.out 1).trans rfl; have hcz89_2 : w86.cell? ⟨gb300, 2, none⟩ = some (.int .i64 t295) := (blk_cell BK300.out 2).trans rfl; have hcz89_3 : w86.cell? ⟨gb300, 3, none⟩ = some (.int .i64 t296) := (blk_cell BK300.out 3).trans rfl; have hcz89_4 : w86.cell? ⟨gb300, 4, none⟩ = some (.slice Ao53 t297.length co53) := (blk_cell BK300.out 4).trans rfl; have hfz89_0 := blk_frozen BK300.out 0; have hfz89_1 := blk_frozen BK300.out 1; have hfz89_2 := blk_frozen BK300.out 2; have hfz89_3 := blk_frozen BK300.out 3; have hfz89_4 := blk_frozen BK300.out 4) | ((with_reducible refine gC 63 rfl ?_); refine goesL_ (some 69) rfl rfl Try.func63 (by kernel_rfl) rfl #[.agg #[.int .i64 t293, .int .i64 t294, .int .i64 t295, .int .i64 t296, .slice Ao53 t297.length co53], .int .i64 t322] rfl sa ?_; (with_reducible refine (laws_markWal.calls kj24 t293 t294 t295 t296 (fun k_ => some k_ = (.slice Ao53 t297.length co53 : Value).ownBlock) (.slice Ao53 t297.length co53) t297 t322 t324 t325 w _ ?side1 ?side2 A72.out).mono ?_); (case side1 => repeat (first | (with_reducible first | exact HB.out | apply below_alloc | apply pw_below_drewN | apply below_drew1 | refine below_set ?_ GE263.out | refine below_set ?_ GE264.out | refine below_set ?_ GE292.out | refine below_set ?_ GE300.out) | exact HB.out)); (case side2 => exact Kd.R_tight rfl HO_301004.out); rintro e w90 ⟨rfl, hy0, hb, hkp⟩; refine ⟨_, rfl, ?_⟩; have n0_ := Aside0.mk (Kd.R_mono (ok' := fun k_ => some k_ ≠ (v302 : Value).ownBlock) (Kd.R_keptB ((Kd.R_apart' HO_6.out (Kd.R_typed HO_301004.out) (by decide))) hkp (fun k_ hk_ hs_ => (hk_.2) hs_)) (fun k_ hk_ => hk_.1.1)); have n1_ := Aside0.mk (Kd.R_mono (ok' := fun k_ => some k_ ≠ (v282 : Value).ownBlock) (Kd.R_keptB ((Kd.R_apart' HO_10.out (Kd.R_typed HO_301004.out) (by decide))) hkp (fun k_ hk_ hs_ => (hk_.2) hs_)) (fun k_ hk_ => hk_.1.1)); have n2_ := Aside0.mk (Kd.R_mono (ok' := fun k_ => some k_ ≠ (.slice Ao53 t297.length co53 : Value).ownBlock ∧ some k_ ≠ (.slice Ao76 t310.length co76 : Value).ownBlock ∧ some k_ ≠ (.slice Ao80 t318.length co80 : Value).ownBlock) (Kd.R_keptB (HO_293004.out) hkp (fun k_ hk_ hs_ => (hk_.1.1) hs_)) (fun k_ hk_ => ⟨hk_.1.1.1, hk_.1.1.2, hk_.1.2⟩)); have n3_ := Aside0.mk (Kd.R_reok rfl hy0 (fun k_ e_ => HO_301004.out.1 k_ e_)); have n4_ := Aside0.mk (blk_kept bk hkp (fun hs_ => (fun e_ => (Kd.R_ne HO_301004.out BK263.out (by decide)) e_) hs_)); have n5_ := Aside0.mk (blk_kept bk hkp (fun hs_ => (fun e_ => (Kd.R_ne HO_301004.out BK264.out (by decide)) e_) hs_)); have n6_ := Aside0.mk (blk_kept bk hkp (fun hs_ => (fun e_ => (Kd.R_ne HO_301004.out BK292.out (by decide)) e_) hs_)); have n7_ := Aside0.mk (blk_kept bk hkp (fun hs_ => (fun e_ => (Kd.R_ne HO_301004.out BK300.out (by decide)) e_) hs_)); have n8_ := Aside0.mk (Kd.R_mono (ok' := fun k_ => some k_ ≠ (.slice Ao45 t289.length co45 : Value).ownBlock ∧ some k_ ≠ (.slice Ao53 t297.length co53 : Value).ownBlock ∧ some k_ ≠ (.slice Ao80 t318.length co80 : Value).ownBlock) (Kd.R_keptB (HO312.out) hkp (fun k_ hk_ hs_ => (hk_.2.1) hs_)) (fun k_ hk_ => ⟨hk_.1.1, hk_.1.2.1, hk_.1.2.2⟩)); have n9_ := Aside0.mk (Kd.R_mono (ok' := fun k_ => some k_ ≠ (.slice Ao45 t289.length co45 : Value).ownBlock ∧ some k_ ≠ (.slice Ao53 t297.length co53 : Value).ownBlock ∧ some k_ ≠ (.slice Ao76 t310.length co76 : Value).ownBlock) (Kd.R_keptB (HO320.out) hkp (fun k_ hk_ hs_ => (hk_.2.1) hs_)) (fun k_ hk_ => ⟨hk_.1.1, hk_.1.2.1, hk_.1.2.2⟩)); have n10_ := Aside0.mk (hb); clear HO_6; clear HO_10; clear HO_293004; clear HO_301004; clear BK263; clear BK264; clear BK292; clear BK300; clear HO312; clear HO320; clear HB; have HO_6 := n0_; have HO_10 := n1_; have HO_293004 := n2_; have HO_301004 := n3_; have BK263 := n4_; have BK264 := n5_; have BK292 := n6_; have BK300 := n7_; have HO312 := n8_; have HO320 := n9_; have HB := n10_; clear n0_ n1_ n2_ n3_ n4_ n5_ n6_ n7_ n8_ n9_ n10_; (try clear hb); (try clear hkp); (try clear hy0)))
        (try simp only [Act.put, List.setIfInBounds_toArray, List.set_cons_zero, List.set_cons_succ])
        go_cut [82] (fun v82 wc => ∃ (kq : Nat) (x82_72 : Bool), v82 = .bool x82_72 ∧ Aside0 (laws_FnExactChanges.j1 kq t281 t284 t301 x82_72 a0_0 a0_1 a0_2 a0_3 l0_4 a1_0 a1_1 a1_2 a1_3 l1_4 = some r) ∧ Aside0 (kq ≤ kj24) ∧ Aside0 (Kd.R k83 83 wc w.heap.size (fun k_ => some k_ ≠ (v302 : Value).ownBlock) v282 t281) ∧ Aside0 (Kd.R k83 83 wc w.heap.size (fun k_ => some k_ ≠ (v282 : Value).ownBlock) v302 t301) ∧ Aside0 (Kd.R k117 117 wc w.heap.size (fun k_ => some k_ ≠ ((.slice Ao53 t297.length co53) : Value).ownBlock) (.slice Ao45 t289.length co45) t323) ∧ Aside0 (Kd.R k117 117 wc w.heap.size (fun k_ => some k_ ≠ ((.slice Ao45 t289.length co45) : Value).ownBlock) (.slice Ao53 t297.length co53) t325) ∧ Aside0 (wc.heap[gb263]? = some (.cells #[.int .i64 a0_0, .int .i64 a0_1, .int .i64 a0_2, .int .i64 a0_3, (.slice A0_4 l0_4.length c0_4)] 62 (0, 0))) ∧ Aside0 (wc.heap[gb264]? = some (.cells #[.int .i64 a1_0, .int .i64 a1_1, .int .i64 a1_2, .int .i64 a1_3, (.slice A1_4 l1_4.length c1_4)] 62 (0, 0))) ∧ Aside0 (wc.heap[gb292]? = some (.cells #[.int .i64 t285, .int .i64 t286, .int .i64 t287, .int .i64 t288, (.slice Ao45 t289.length co45)] 67 (0, 0))) ∧ Aside0 (wc.heap[gb300]? = some (.cells #[.int .i64 t293, .int .i64 t294, .int .i64 t295, .int .i64 t296, (.slice Ao53 t297.length co53)] 67 (0, 0))) ∧ Aside0 (Below w.heap.size w wc))
        case first =>
         have H := HC73.out
         clear HC73
         by_cases c91 : t324 < 0
         ·rw [if_pos c91] at H
          have c91b0 : decide (t324 < 0) = true := decide_eq_true c91
          clear c91
          (first | rw [c91b0] | (simp only [i64_w, i32_w]; rw [c91b0]) | skip)
          have H' := Aside0.mk H
          clear H
          go_wp2
          go_meet
          case rel => exact ⟨_, (true), fa, H', ⟨by have := HJ24.out; first | omega | exact Nat.le_refl _⟩, ⟨by (with_reducible repeat (first | apply Kd.R_alloc | apply Kd.R_drewN | apply Kd.R_drew)); exact HO_6.out⟩, ⟨by (with_reducible repeat (first | apply Kd.R_alloc | apply Kd.R_drewN | apply Kd.R_drew)); exact HO_10.out⟩, ⟨by (with_reducible repeat (first | apply Kd.R_alloc | apply Kd.R_drewN | apply Kd.R_drew)); exact Kd.R_mono HO_293004.out (fun _ hk => hk.1)⟩, ⟨by (with_reducible repeat (first | apply Kd.R_alloc | apply Kd.R_drewN | apply Kd.R_drew)); exact Kd.R_mono HO_301004.out (fun _ hk => hk.1)⟩, ⟨by (with_reducible repeat (first | refine blk_drewN ?_ _ | refine blk_drew ?_ | refine blk_alloc ?_ _)); exact BK263.out⟩, ⟨by (with_reducible repeat (first | refine blk_drewN ?_ _ | refine blk_drew ?_ | refine blk_alloc ?_ _)); exact BK264.out⟩, ⟨by (with_reducible repeat (first | refine blk_drewN ?_ _ | refine blk_drew ?_ | refine blk_alloc ?_ _)); exact BK292.out⟩, ⟨by (with_reducible repeat (first | refine blk_drewN ?_ _ | refine blk_drew ?_ | refine blk_alloc ?_ _)); exact BK300.out⟩, ⟨bl⟩⟩
         ·rw [if_neg c91] at H
          have c91b0 : decide (t324 < 0) = false := decide_eq_false c91
          clear c91
          (first | rw [c91b0] | (simp only [i64_w, i32_w]; rw [c91b0]) | skip)
          obtain ⟨t326, A92, H⟩ := bd H
          by_cases c93 : t326 = true
          ·subst c93
           replace H := iT H
           have H' := Aside0.mk H
           clear H
           obtain ⟨Ao94, co94, eo94⟩ := Kd.R_slice HO_10.out
           subst eo94
           obtain ⟨Ao95, co95, eo95⟩ := Kd.R_slice HO_6.out
           subst eo95
           go_wp2_with (first | (go_at_call 62; (with_reducible refine (laws_eqRecS.calls kj24 _ _ t301 _ _ t281 true _ ?side1 ?side2 ?side3 ?side4 A92.out).mono ?_); (case side1 => repeat (first | exact (Kd.R_reads' HO_10.out).2.2 | (with_reducible refine Kd.C_alloc ?_ _) | (with_reducible refine Kd.C_drewN ?_ _) | (with_reducible refine Kd.C_drew ?_))); (case side2 => exact (Kd.R_reads' HO_10.out).2.1); (case side3 => repeat (first | exact (Kd.R_reads' HO_6.out).2.2 | (with_reducible refine Kd.C_alloc ?_ _) | (with_reducible refine Kd.C_drewN ?_ _) | (with_reducible refine Kd.C_drew ?_))); (case side4 => exact (Kd.R_reads' HO_6.out).2.1); rintro e w96 ⟨rfl, hb⟩; replace HO_6 := Aside0.mk (Kd.R_below (by (with_reducible repeat (first | apply Kd.R_alloc | apply Kd.R_drewN | apply Kd.R_drew)); exact HO_6.out) hb); replace HO_10 := Aside0.mk (Kd.R_below (by (with_reducible repeat (first | apply Kd.R_alloc | apply Kd.R_drewN | apply Kd.R_drew)); exact HO_10.out) hb); replace HO_293004 := Aside0.mk (Kd.R_below (by (with_reducible repeat (first | apply Kd.R_alloc | apply Kd.R_drewN | apply Kd.R_drew)); exact HO_293004.out) hb); replace HO_301004 := Aside0.mk (Kd.R_below (by (with_reducible repeat (first | apply Kd.R_alloc | apply Kd.R_drewN | apply Kd.R_drew)); exact HO_301004.out) hb); replace HO312 := Aside0.mk (Kd.R_below (by (with_reducible repeat (first | apply Kd.R_alloc | apply Kd.R_drewN | apply Kd.R_drew)); exact HO312.out) hb); replace HO320 := Aside0.mk (Kd.R_below (by (with_reducible repeat (first | apply Kd.R_alloc | apply Kd.R_drewN | apply Kd.R_drew)); exact HO320.out) hb); replace BK263 := bv BK263 hb; replace BK264 := bv BK264 hb; replace BK292 := bv BK292 hb; replace BK300 := bv BK300 hb; replace HB := bs (w := w) hb; (try clear hb); (try clear hb2); (try clear hk); (try clear hi)))
           go_meet
           case rel => exact ⟨_, ((t304 != t284)), fa, H', ⟨by have := HJ24.out; first | omega | exact Nat.le_refl _⟩, ⟨by (with_reducible repeat (first | apply Kd.R_alloc | apply Kd.R_drewN | apply Kd.R_drew)); exact HO_6.out⟩, ⟨by (with_reducible repeat (first | apply Kd.R_alloc | apply Kd.R_drewN | apply Kd.R_drew)); exact HO_10.out⟩, ⟨by (with_reducible repeat (first | apply Kd.R_alloc | apply Kd.R_drewN | apply Kd.R_drew)); exact Kd.R_mono HO_293004.out (fun _ hk => hk.1)⟩, ⟨by (with_reducible repeat (first | apply Kd.R_alloc | apply Kd.R_drewN | apply Kd.R_drew)); exact Kd.R_mono HO_301004.out (fun _ hk => hk.1)⟩, ⟨by (with_reducible repeat (first | refine blk_drewN ?_ _ | refine blk_drew ?_ | refine blk_alloc ?_ _)); exact BK263.out⟩, ⟨by (with_reducible repeat (first | refine blk_drewN ?_ _ | refine blk_drew ?_ | refine blk_alloc ?_ _)); exact BK264.out⟩, ⟨by (with_reducible repeat (first | refine blk_drewN ?_ _ | refine blk_drew ?_ | refine blk_alloc ?_ _)); exact BK292.out⟩, ⟨by (with_reducible repeat (first | refine blk_drewN ?_ _ | refine blk_drew ?_ | refine blk_alloc ?_ _)); exact BK300.out⟩, ⟨bl⟩⟩
          ·replace c93 := Bool.eq_false_iff.mpr c93
           subst c93
           replace H := iF H
           have H' := Aside0.mk H
           clear H
           obtain ⟨Ao97, co97, eo97⟩ := Kd.R_slice HO_10.out
           subst eo97
           obtain ⟨Ao98, co98, eo98⟩ := Kd.R_slice HO_6.out
           subst eo98
           go_wp2_with (first | (go_at_call 62; (with_reducible refine (laws_eqRecS.calls kj24 _ _ t301 _ _ t281 false _ ?side1 ?side2 ?side3 ?side4 A92.out).mono ?_); (case side1 => repeat (first | exact (Kd.R_reads' HO_10.out).2.2 | (with_reducible refine Kd.C_alloc ?_ _) | (with_reducible refine Kd.C_drewN ?_ _) | (with_reducible refine Kd.C_drew ?_))); (case side2 => exact (Kd.R_reads' HO_10.out).2.1); (case side3 => repeat (first | exact (Kd.R_reads' HO_6.out).2.2 | (with_reducible refine Kd.C_alloc ?_ _) | (with_reducible refine Kd.C_drewN ?_ _) | (with_reducible refine Kd.C_drew ?_))); (case side4 => exact (Kd.R_reads' HO_6.out).2.1); rintro e w99 ⟨rfl, hb⟩; replace HO_6 := Aside0.mk (Kd.R_below (by (with_reducible repeat (first | apply Kd.R_alloc | apply Kd.R_drewN | apply Kd.R_drew)); exact HO_6.out) hb); replace HO_10 := Aside0.mk (Kd.R_below (by (with_reducible repeat (first | apply Kd.R_alloc | apply Kd.R_drewN | apply Kd.R_drew)); exact HO_10.out) hb); replace HO_293004 := Aside0.mk (Kd.R_below (by (with_reducible repeat (first | apply Kd.R_alloc | apply Kd.R_drewN | apply Kd.R_drew)); exact HO_293004.out) hb); replace HO_301004 := Aside0.mk (Kd.R_below (by (with_reducible repeat (first | apply Kd.R_alloc | apply Kd.R_drewN | apply Kd.R_drew)); exact HO_301004.out) hb); replace HO312 := Aside0.mk (Kd.R_below (by (with_reducible repeat (first | apply Kd.R_alloc | apply Kd.R_drewN | apply Kd.R_drew)); exact HO312.out) hb); replace HO320 := Aside0.mk (Kd.R_below (by (with_reducible repeat (first | apply Kd.R_alloc | apply Kd.R_drewN | apply Kd.R_drew)); exact HO320.out) hb); replace BK263 := bv BK263 hb; replace BK264 := bv BK264 hb; replace BK292 := bv BK292 hb; replace BK300 := bv BK300 hb; replace HB := bs (w := w) hb; (try clear hb); (try clear hb2); (try clear hk); (try clear hi)))
           go_meet
           case rel => exact ⟨_, (true), fa, H', ⟨by have := HJ24.out; first | omega | exact Nat.le_refl _⟩, ⟨by (with_reducible repeat (first | apply Kd.R_alloc | apply Kd.R_drewN | apply Kd.R_drew)); exact HO_6.out⟩, ⟨by (with_reducible repeat (first | apply Kd.R_alloc | apply Kd.R_drewN | apply Kd.R_drew)); exact HO_10.out⟩, ⟨by (with_reducible repeat (first | apply Kd.R_alloc | apply Kd.R_drewN | apply Kd.R_drew)); exact Kd.R_mono HO_293004.out (fun _ hk => hk.1)⟩, ⟨by (with_reducible repeat (first | apply Kd.R_alloc | apply Kd.R_drewN | apply Kd.R_drew)); exact Kd.R_mono HO_301004.out (fun _ hk => hk.1)⟩, ⟨by (with_reducible repeat (first | refine blk_drewN ?_ _ | refine blk_drew ?_ | refine blk_alloc ?_ _)); exact BK263.out⟩, ⟨by (with_reducible repeat (first | refine blk_drewN ?_ _ | refine blk_drew ?_ | refine blk_alloc ?_ _)); exact BK264.out⟩, ⟨by (with_reducible repeat (first | refine blk_drewN ?_ _ | refine blk_drew ?_ | refine blk_alloc ?_ _)); exact BK292.out⟩, ⟨by (with_reducible repeat (first | refine blk_drewN ?_ _ | refine blk_drew ?_ | refine blk_alloc ?_ _)); exact BK300.out⟩, ⟨bl⟩⟩
        case rest =>
         clear HC73
         try clear c1
         try clear c2
         try clear p2
         try clear c4
         try clear c4b0
         try clear c5
         try clear c6
         try clear c7
         try clear c8
         try clear c9
         try clear c11
         try clear c11b0
         try clear c12
         try clear c14
         try clear c28
         try clear c42
         try clear c43
         try clear c49
         try clear c50
         try clear c51
         try clear c55
         try clear c57
         try clear c59
         try clear c60
         try clear c61
         try clear c62
         try clear c63
         try clear c64
         try clear c67
         try clear c70
         try clear c82
         try clear c83
         try clear c84
         try clear c87
         try clear c88
         try clear c91
         try clear c91b0
         try clear c93
         try clear hcz15_0
         try clear hcz15_1
         try clear hcz15_2
         try clear hcz15_3
         try clear hcz15_4
         try clear hcz17_0
         try clear hcz17_1
         try clear hcz17_2
         try clear hcz17_3
         try clear hcz17_4
         try clear hcz29_0
         try clear hcz29_1
         try clear hcz29_2
         try clear hcz29_3
         try clear hcz29_4
         try clear hcz31_0
         try clear hcz31_1
         try clear hcz31_2
         try clear hcz31_3
         try clear hcz31_4
         try clear hcz39_0
         try clear hcz39_1
         try clear hcz39_2
         try clear hcz39_3
         try clear hcz39_4
         try clear hcz44_0
         try clear hcz44_1
         try clear hcz44_2
         try clear hcz44_3
         try clear hcz44_4
         try clear hcz46_0
         try clear hcz46_1
         try clear hcz46_2
         try clear hcz46_3
         try clear hcz46_4
         try clear hcz52_0
         try clear hcz52_1
         try clear hcz52_2
         try clear hcz52_3
         try clear hcz52_4
         try clear hcz54_0
         try clear hcz54_1
         try clear hcz54_2
         try clear hcz54_3
         try clear hcz54_4
         try clear hcz85_0
         try clear hcz85_1
         try clear hcz85_2
         try clear hcz85_3
         try clear hcz85_4
         try clear hcz89_0
         try clear hcz89_1
         try clear hcz89_2
         try clear hcz89_3
         try clear hcz89_4
         try clear hcz8_0
         try clear hcz8_1
         try clear hcz8_2
         try clear hcz8_3
         try clear hcz8_4
         try clear hfz15_0
         try clear hfz15_1
         try clear hfz15_2
         try clear hfz15_3
         try clear hfz15_4
         try clear hfz17_0
         try clear hfz17_1
         try clear hfz17_2
         try clear hfz17_3
         try clear hfz17_4
         try clear hfz29_0
         try clear hfz29_1
         try clear hfz29_2
         try clear hfz29_3
         try clear hfz29_4
         try clear hfz31_0
         try clear hfz31_1
         try clear hfz31_2
         try clear hfz31_3
         try clear hfz31_4
         try clear hfz39_0
         try clear hfz39_1
         try clear hfz39_2
         try clear hfz39_3
         try clear hfz39_4
         try clear hfz44_0
         try clear hfz44_1
         try clear hfz44_2
         try clear hfz44_3
         try clear hfz44_4
         try clear hfz46_0
         try clear hfz46_1
         try clear hfz46_2
         try clear hfz46_3
         try clear hfz46_4
         try clear hfz52_0
         try clear hfz52_1
         try clear hfz52_2
         try clear hfz52_3
         try clear hfz52_4
         try clear hfz54_0
         try clear hfz54_1
         try clear hfz54_2
         try clear hfz54_3
         try clear hfz54_4
         try clear hfz85_0
         try clear hfz85_1
         try clear hfz85_2
         try clear hfz85_3
         try clear hfz85_4
         try clear hfz89_0
         try clear hfz89_1
         try clear hfz89_2
         try clear hfz89_3
         try clear hfz89_4
         try clear hfz8_0
         try clear hfz8_1
         try clear hfz8_2
         try clear hfz8_3
         try clear hfz8_4
         try clear p2
         obtain ⟨kq, x82_72, rfl, HA, HJ72, HO_6, HO_10, HO_293004, HO_301004, BK263, BK264, BK292, BK300, HB⟩ := hcut
         have hl293004_72 := (Kd.R_reads' HO_293004.out).1
         rw [hl293004_72] at HO_293004
         (try simp only [hl293004_72])
         (try simp only [hl293004_72] at BK263)
         (try simp only [hl293004_72] at BK264)
         (try simp only [hl293004_72] at BK292)
         (try simp only [hl293004_72] at BK300)
         (try simp only [hl293004_72] at HO_6)
         (try simp only [hl293004_72] at HO_10)
         (try simp only [hl293004_72] at HO_301004)
         have hl301004_72 := (Kd.R_reads' HO_301004.out).1
         rw [hl301004_72] at HO_301004
         (try simp only [hl301004_72])
         (try simp only [hl301004_72] at BK263)
         (try simp only [hl301004_72] at BK264)
         (try simp only [hl301004_72] at BK292)
         (try simp only [hl301004_72] at BK300)
         (try simp only [hl301004_72] at HO_6)
         (try simp only [hl301004_72] at HO_10)
         (try simp only [hl301004_72] at HO_293004)
         cases kq with
         | zero => exact absurd HA.out (by simp [laws_FnExactChanges.j1])
         | succ kj72 =>
          have H := HA.out
          clear HA
          simp only [laws_FnExactChanges.j1] at H
          by_cases c100 : x82_72 = true
          ·subst c100
           replace H := iT H
           exact absurd ((Option.some.inj H).trans hr_) (by decide)
          ·replace c100 := Bool.eq_false_iff.mpr c100
           subst c100
           replace H := iF H
           replace H := Option.bind_eq_some_iff.mp H
           obtain ⟨⟨t327, t328⟩, A1010, H⟩ := H
           replace H : ((laws_heldRecS.f kj72 t328 1).bind fun t329 => (if t329 < 0 then (some false) else (if t329 = t327 then ((laws_toWal.f kj72 a0_0 a0_1 a0_2 a0_3 l0_4).bind fun bt330 => ((laws_toWal.f kj72 a1_0 a1_1 a1_2 a1_3 l1_4).bind fun bt337 => ((impl_Changes.f kj72 bt330.1 bt330.2.1 bt330.2.2.1 bt330.2.2.2.1 bt330.2.2.2.2 bt337.1 bt337.2.1 bt337.2.2.1 bt337.2.2.2.1 bt337.2.2.2.2).bind fun bt344 => ((laws_eqRecS.f kj72 bt344.1 t281).bind fun t348 => (if t348 = true then (laws_FnExactChanges.j2 kj72 t328 t327 (bt344.2 != t284)) else (laws_FnExactChanges.j2 kj72 t328 t327 true)))))) else (some false)))) = some r := H
           have A101 := Aside0.mk A1010
           clear A1010
           obtain ⟨t329, A102, H⟩ := bd H
           by_cases c103 : t329 < 0
           ·rw [if_pos c103] at H
            have c103b0 : decide (t329 < 0) = true := decide_eq_true c103
            clear c103
            exact absurd ((Option.some.inj H).trans hr_) (by decide)
           ·rw [if_neg c103] at H
            have c103b0 : decide (t329 < 0) = false := decide_eq_false c103
            clear c103
            by_cases c104 : t329 = t327
            ·rw [if_pos c104] at H
             have c104b0 : (t329 == t327) = true := beq_iff_eq.mpr c104
             have c104b1 : (t329 != t327) = false := bne_eq_false_iff_eq.mpr c104
             clear c104
             replace H := Option.bind_eq_some_iff.mp H
             obtain ⟨⟨t330, t331, t332, t333, t334⟩, A1050, H⟩ := H
             replace H : ((laws_toWal.f kj72 a1_0 a1_1 a1_2 a1_3 l1_4).bind fun bt337 => ((impl_Changes.f kj72 t330 t331 t332 t333 t334 bt337.1 bt337.2.1 bt337.2.2.1 bt337.2.2.2.1 bt337.2.2.2.2).bind fun bt344 => ((laws_eqRecS.f kj72 bt344.1 t281).bind fun t348 => (if t348 = true then (laws_FnExactChanges.j2 kj72 t328 t327 (bt344.2 != t284)) else (laws_FnExactChanges.j2 kj72 t328 t327 true))))) = some r := H
             have A105 := Aside0.mk A1050
             clear A1050
             replace H := Option.bind_eq_some_iff.mp H
             obtain ⟨⟨t337, t338, t339, t340, t341⟩, A1060, H⟩ := H
             replace H : ((impl_Changes.f kj72 t330 t331 t332 t333 t334 t337 t338 t339 t340 t341).bind fun bt344 => ((laws_eqRecS.f kj72 bt344.1 t281).bind fun t348 => (if t348 = true then (laws_FnExactChanges.j2 kj72 t328 t327 (bt344.2 != t284)) else (laws_FnExactChanges.j2 kj72 t328 t327 true)))) = some r := H
             have A106 := Aside0.mk A1060
             clear A1060
             replace H := Option.bind_eq_some_iff.mp H
             obtain ⟨⟨t344, t347⟩, A1070, H⟩ := H
             replace H : ((laws_eqRecS.f kj72 t344 t281).bind fun t348 => (if t348 = true then (laws_FnExactChanges.j2 kj72 t328 t327 (t347 != t284)) else (laws_FnExactChanges.j2 kj72 t328 t327 true))) = some r := H
             have A107 := Aside0.mk A1070
             clear A1070
             have HC108 := Aside0.mk H
             clear H
             obtain ⟨Ao109, co109, eo109⟩ := Kd.R_slice HO_10.out
             subst eo109
             try go_wp2_with (first | ((with_reducible refine gC 64 rfl ?_); refine goesZ (some 85) rfl Try.func64 #[.slice Ao109 t301.length co109, .int .i64 1] ?_; (with_reducible refine (laws_markRecS.calls kj72 (fun k_ => some k_ = (.slice Ao109 t301.length co109 : Value).ownBlock) (.slice Ao109 t301.length co109) t301 1 t327 t328 w _ ?side1 ?side2 A101.out).mono ?_); (case side1 => repeat (first | (with_reducible first | exact HB.out | apply below_alloc | apply pw_below_drewN | apply below_drew1 | refine below_set ?_ GE263.out | refine below_set ?_ GE264.out | refine below_set ?_ GE292.out | refine below_set ?_ GE300.out) | exact HB.out)); (case side2 => exact Kd.R_tight rfl HO_10.out); rintro e w110 ⟨rfl, hy0, hb, hkp⟩; refine ⟨_, rfl, ?_⟩; replace HO_6 := Aside0.mk (Kd.R_mono (ok' := fun k_ => some k_ ≠ (.slice Ao109 t301.length co109 : Value).ownBlock) (Kd.R_keptB (HO_6.out) hkp (fun k_ hk_ hs_ => (hk_) hs_)) (fun k_ hk_ => hk_.1)); replace HO_293004 := Aside0.mk (Kd.R_mono (ok' := fun k_ => some k_ ≠ (.slice Ao53 t325.length co53 : Value).ownBlock) (Kd.R_keptB ((Kd.R_apart' HO_293004.out (Kd.R_typed HO_10.out) (by decide))) hkp (fun k_ hk_ hs_ => (hk_.2) hs_)) (fun k_ hk_ => hk_.1.1)); replace HO_301004 := Aside0.mk (Kd.R_mono (ok' := fun k_ => some k_ ≠ (.slice Ao45 t323.length co45 : Value).ownBlock) (Kd.R_keptB ((Kd.R_apart' HO_301004.out (Kd.R_typed HO_10.out) (by decide))) hkp (fun k_ hk_ hs_ => (hk_.2) hs_)) (fun k_ hk_ => hk_.1.1)); replace BK263 := Aside0.mk (blk_kept bk hkp (fun hs_ => (fun e_ => (Kd.R_ne HO_10.out BK263.out (by decide)) e_) hs_)); replace BK264 := Aside0.mk (blk_kept bk hkp (fun hs_ => (fun e_ => (Kd.R_ne HO_10.out BK264.out (by decide)) e_) hs_)); replace BK292 := Aside0.mk (blk_kept bk hkp (fun hs_ => (fun e_ => (Kd.R_ne HO_10.out BK292.out (by decide)) e_) hs_)); replace BK300 := Aside0.mk (blk_kept bk hkp (fun hs_ => (fun e_ => (Kd.R_ne HO_10.out BK300.out (by decide)) e_) hs_)); replace HO_10 := Aside0.mk (Kd.R_reok rfl hy0 (fun k_ e_ => HO_10.out.1 k_ e_)); replace HB := Aside0.mk (hb); (try clear hb); (try clear hkp); (try clear hy0)) | ((with_reducible refine gC 65 rfl ?_); refine goesL_ (some 88) rfl rfl Try.func65 (by kernel_rfl) rfl #[.slice Ao109 t328.length co109, .int .i64 1] rfl (by (try simp only [List.map_toArray, List.map_cons, List.map_nil]); first | done | (rw [show t328.length = t301.length from (Kd.R_reads' HO_10.out).1.symm] <;> rfl) | rfl | (simp only [List.length_drop, List.length_take]; rfl)) ?_; (with_reducible refine (laws_heldRecS.calls kj72 _ _ t328 1 t329 _ ?side1 ?side2 A102.out).mono ?_); (case side1 => repeat (first | exact (Kd.R_reads' HO_10.out).2.2 | (with_reducible refine Kd.C_alloc ?_ _) | (with_reducible refine Kd.C_drewN ?_ _) | (with_reducible refine Kd.C_drew ?_))); (case side2 => rw [show t328.length = t301.length from (Kd.R_reads' HO_10.out).1.symm]; exact (Kd.R_reads' HO_10.out).2.1); rintro e w111 ⟨rfl, hb⟩; refine ⟨_, rfl, ?_⟩; replace HO_6 := Aside0.mk (Kd.R_below (by (with_reducible repeat (first | apply Kd.R_alloc | apply Kd.R_drewN | apply Kd.R_drew)); exact HO_6.out) hb); replace HO_10 := Aside0.mk (Kd.R_below (by (with_reducible repeat (first | apply Kd.R_alloc | apply Kd.R_drewN | apply Kd.R_drew)); exact HO_10.out) hb); replace HO_293004 := Aside0.mk (Kd.R_below (by (with_reducible repeat (first | apply Kd.R_alloc | apply Kd.R_drewN | apply Kd.R_drew)); exact HO_293004.out) hb); replace HO_301004 := Aside0.mk (Kd.R_below (by (with_reducible repeat (first | apply Kd.R_alloc | apply Kd.R_drewN | apply Kd.R_drew)); exact HO_301004.out) hb); replace BK263 := bv BK263 hb; replace BK264 := bv BK264 hb; replace BK292 := bv BK292 hb; replace BK300 := bv BK300 hb; replace HB := bs (w := w) hb; (try clear hb); (try clear hb2); (try clear hk); (try clear hi)))
             have n0_ := Aside0.mk (Kd.R_drew HO_6.out)
             have n1_ := Aside0.mk (Kd.R_drew HO_10.out)
             have n2_ := Aside0.mk (Kd.R_drew HO_293004.out)
             have n3_ := Aside0.mk (Kd.R_drew HO_301004.out)
             have n4_ := Aside0.mk (blk_drew BK263.out)
             have n5_ := Aside0.mk (blk_drew BK264.out)
             have n6_ := Aside0.mk (blk_drew BK292.out)
             have n7_ := Aside0.mk (blk_drew BK300.out)
             have n8_ := Aside0.mk (below_drew1 HB.out)
             clear HO_6
             clear HO_10
             clear HO_293004
             clear HO_301004
             clear BK263
             clear BK264
             clear BK292
             clear BK300
             clear HB
             have HO_6 := n0_
             have HO_10 := n1_
             have HO_293004 := n2_
             have HO_301004 := n3_
             have BK263 := n4_
             have BK264 := n5_
             have BK292 := n6_
             have BK300 := n7_
             have HB := n8_
             clear n0_ n1_ n2_ n3_ n4_ n5_ n6_ n7_ n8_
             refine start_ (n := 10) (S := fun w' => w'.cell? ⟨gb263, 0, none⟩ = some (.int .i64 a0_0) ∧ w'.cell? ⟨gb263, 1, none⟩ = some (.int .i64 a0_1) ∧ w'.cell? ⟨gb263, 2, none⟩ = some (.int .i64 a0_2) ∧ w'.cell? ⟨gb263, 3, none⟩ = some (.int .i64 a0_3) ∧ w'.cell? ⟨gb263, 4, none⟩ = some (.slice A0_4 l0_4.length c0_4) ∧ w'.cell? ⟨gb264, 0, none⟩ = some (.int .i64 a1_0) ∧ w'.cell? ⟨gb264, 1, none⟩ = some (.int .i64 a1_1) ∧ w'.cell? ⟨gb264, 2, none⟩ = some (.int .i64 a1_2) ∧ w'.cell? ⟨gb264, 3, none⟩ = some (.int .i64 a1_3) ∧ w'.cell? ⟨gb264, 4, none⟩ = some (.slice A1_4 l1_4.length c1_4)) (ds := []) (bo 10 0) (by kernel_rfl) rfl rfl ⟨(blk_cell BK263.out 0).trans rfl, (blk_cell BK263.out 1).trans rfl, (blk_cell BK263.out 2).trans rfl, (blk_cell BK263.out 3).trans rfl, (blk_cell BK263.out 4).trans rfl, (blk_cell BK264.out 0).trans rfl, (blk_cell BK264.out 1).trans rfl, (blk_cell BK264.out 2).trans rfl, (blk_cell BK264.out 3).trans rfl, (blk_cell BK264.out 4).trans rfl⟩ (fun hHeld => ?_); refine with_tabW laws_FnExactChanges.tab31 laws_FnExactChanges.bits31 (fun HT_ HW_ => ?_)
             generalize w111.drew = w112 at HO_6 HO_10 HO_293004 HO_301004 BK263 BK264 BK292 BK300 HB hHeld ⊢
             refine take_ (i := 0) (N := some 95) (v := ?_) (a' := ?_) (bo 10 1) rfl rfl (take_ofW HT_.out HW_.out (by kernel_rfl)) (fun _ _ _ h => h) (Or.inl ⟨by rfl, ?_⟩) hHeld ?_ ?_
             rotate_left
             ·rintro w' ⟨s0, s1, s2, s3, s4, s5, s6, s7, s8, s9⟩
              go_simp
              with_reducible rfl
             rotate_left
             ·simp only [Act.put, List.setIfInBounds_toArray, List.set_cons_zero, List.set_cons_succ, i64_w, i32_w]
              rfl
             refine take_ (i := 2) (N := some 97) (v := ?_) (a' := ?_) (bo 10 5) rfl rfl (take_ofW HT_.out HW_.out (by kernel_rfl)) (fun _ _ _ h => h) (Or.inl ⟨by rfl, ?_⟩) hHeld ?_ ?_
             rotate_left
             ·rintro w' ⟨s0, s1, s2, s3, s4, s5, s6, s7, s8, s9⟩
              go_simp
              with_reducible rfl
             rotate_left
             ·simp only [Act.put, List.setIfInBounds_toArray, List.set_cons_zero, List.set_cons_succ, i64_w, i32_w]
              rfl
             refine one_ (i := 1) (N := some 96) (bo 10 7) rfl rfl (one_of HT_.out (by kernel_rfl)) (by decide) (fun K hK => ?_)
             refine goes_ Try.func57 (by kernel_rfl) rfl #[.agg #[.int .i64 a0_0, .int .i64 a0_1, .int .i64 a0_2, .int .i64 a0_3, .slice A0_4 l0_4.length c0_4]] (by rfl) rfl rfl sa ?_
             with_reducible refine (laws_toWal.calls kj72 a0_0 a0_1 a0_2 a0_3 _ _ l0_4 t330 t331 t332 t333 t334 _ ?side1 ?side2 A105.out).mono ?_
             (case side1 => repeat (first | exact (Kd.C_below HR0_4.out HB.out) | (with_reducible refine Kd.C_alloc ?_ _) | (with_reducible refine Kd.C_drewN ?_ _) | (with_reducible refine Kd.C_drew ?_)))
             (case side2 => exact HC0_4.out)
             rintro e w113 ⟨v335, rfl, ho0, hb⟩
             refine ⟨_, rfl, ?_⟩
             have n0_ := Aside0.mk (Kd.R_below (by (with_reducible repeat (first | apply Kd.R_alloc | apply Kd.R_drewN | apply Kd.R_drew)); exact HO_6.out) hb)
             have n1_ := Aside0.mk (Kd.R_below (by (with_reducible repeat (first | apply Kd.R_alloc | apply Kd.R_drewN | apply Kd.R_drew)); exact HO_10.out) hb)
             have n2_ := Aside0.mk (Kd.R_elder' (by (with_reducible repeat (first | apply Kd.R_alloc | apply Kd.R_drewN | apply Kd.R_drew)); exact HO_293004.out) (Kd.R_base ho0) hb)
             have n3_ := Aside0.mk (Kd.R_elder' (by (with_reducible repeat (first | apply Kd.R_alloc | apply Kd.R_drewN | apply Kd.R_drew)); exact HO_301004.out) (Kd.R_base ho0) hb)
             have n4_ := Aside0.mk (Kd.R_lower (Kd.R_new' (Kd.R_new' ho0 (Kd.R_lt (by (with_reducible repeat (first | apply Kd.R_alloc | apply Kd.R_drewN | apply Kd.R_drew)); exact HO_293004.out))) (Kd.R_lt (by (with_reducible repeat (first | apply Kd.R_alloc | apply Kd.R_drewN | apply Kd.R_drew)); exact HO_301004.out))) (below_size bl))
             have n5_ := Aside0.mk (blk_below (g := gb263) (o := .cells #[.int .i64 a0_0, .int .i64 a0_1, .int .i64 a0_2, .int .i64 a0_3, .slice A0_4 l0_4.length c0_4] 62 (0, 0)) bk hb)
             have n6_ := Aside0.mk (blk_below (g := gb264) (o := .cells #[.int .i64 a1_0, .int .i64 a1_1, .int .i64 a1_2, .int .i64 a1_3, .slice A1_4 l1_4.length c1_4] 62 (0, 0)) bk hb)
             have n7_ := Aside0.mk (blk_below (g := gb292) (o := .cells #[.int .i64 t285, .int .i64 t286, .int .i64 t287, .int .i64 t288, .slice Ao45 t323.length co45] 67 (0, 0)) bk hb)
             have n8_ := Aside0.mk (blk_below (g := gb300) (o := .cells #[.int .i64 t293, .int .i64 t294, .int .i64 t295, .int .i64 t296, .slice Ao53 t325.length co53] 67 (0, 0)) bk hb)
             have n9_ := Aside0.mk (below_step bl hb)
             clear HO_6
             clear HO_10
             clear HO_293004
             clear HO_301004
             clear BK263
             clear BK264
             clear BK292
             clear BK300
             clear HB
             have HO_6 := n0_
             have HO_10 := n1_
             have HO_293004 := n2_
             have HO_301004 := n3_
             have HO336 := n4_
             have BK263 := n5_
             have BK264 := n6_
             have BK292 := n7_
             have BK300 := n8_
             have HB := n9_
             clear n0_ n1_ n2_ n3_ n4_ n5_ n6_ n7_ n8_ n9_
             (try clear hb)
             (try clear hb2)
             (try clear hk)
             (try clear hi)
             (try clear ho0)
             refine hK.out _ _ ⟨(blk_cell BK263.out 0).trans rfl, (blk_cell BK263.out 1).trans rfl, (blk_cell BK263.out 2).trans rfl, (blk_cell BK263.out 3).trans rfl, (blk_cell BK263.out 4).trans rfl, (blk_cell BK264.out 0).trans rfl, (blk_cell BK264.out 1).trans rfl, (blk_cell BK264.out 2).trans rfl, (blk_cell BK264.out 3).trans rfl, (blk_cell BK264.out 4).trans rfl⟩ (fun hHeld => ?_)
             clear hK K
             refine norm_ (a' := ?_) ?_ ?_
             rotate_left
             ·show Act.put _ (some 96) _ = _
              simp only [Act.put, List.setIfInBounds_toArray, List.set_cons_zero, List.set_cons_succ, i64_w, i32_w]
              rfl
             refine one_ (i := 3) (N := some 98) (bo 10 15) rfl rfl (one_of HT_.out (by kernel_rfl)) (by decide) (fun K hK => ?_)
             refine goes_ Try.func57 (by kernel_rfl) rfl #[.agg #[.int .i64 a1_0, .int .i64 a1_1, .int .i64 a1_2, .int .i64 a1_3, .slice A1_4 l1_4.length c1_4]] (by rfl) rfl rfl sa ?_
             with_reducible refine (laws_toWal.calls kj72 a1_0 a1_1 a1_2 a1_3 _ _ l1_4 t337 t338 t339 t340 t341 _ ?side1 ?side2 A106.out).mono ?_
             (case side1 => repeat (first | exact (Kd.C_below HR1_4.out HB.out) | (with_reducible refine Kd.C_alloc ?_ _) | (with_reducible refine Kd.C_drewN ?_ _) | (with_reducible refine Kd.C_drew ?_)))
             (case side2 => exact HC1_4.out)
             rintro e w114 ⟨v342, rfl, ho0, hb⟩
             refine ⟨_, rfl, ?_⟩
             have n0_ := Aside0.mk (Kd.R_below (by (with_reducible repeat (first | apply Kd.R_alloc | apply Kd.R_drewN | apply Kd.R_drew)); exact HO_6.out) hb)
             have n1_ := Aside0.mk (Kd.R_below (by (with_reducible repeat (first | apply Kd.R_alloc | apply Kd.R_drewN | apply Kd.R_drew)); exact HO_10.out) hb)
             have n2_ := Aside0.mk (Kd.R_elder' (by (with_reducible repeat (first | apply Kd.R_alloc | apply Kd.R_drewN | apply Kd.R_drew)); exact HO_293004.out) (Kd.R_base ho0) hb)
             have n3_ := Aside0.mk (Kd.R_elder' (by (with_reducible repeat (first | apply Kd.R_alloc | apply Kd.R_drewN | apply Kd.R_drew)); exact HO_301004.out) (Kd.R_base ho0) hb)
             have n4_ := Aside0.mk (Kd.R_elder' (by (with_reducible repeat (first | apply Kd.R_alloc | apply Kd.R_drewN | apply Kd.R_drew)); exact HO336.out) (Kd.R_base ho0) hb)
             have n5_ := Aside0.mk (Kd.R_lower (Kd.R_new' (Kd.R_new' (Kd.R_new' ho0 (Kd.R_lt (by (with_reducible repeat (first | apply Kd.R_alloc | apply Kd.R_drewN | apply Kd.R_drew)); exact HO_293004.out))) (Kd.R_lt (by (with_reducible repeat (first | apply Kd.R_alloc | apply Kd.R_drewN | apply Kd.R_drew)); exact HO_301004.out))) (Kd.R_lt (by (with_reducible repeat (first | apply Kd.R_alloc | apply Kd.R_drewN | apply Kd.R_drew)); exact HO336.out))) (below_size bl))
             have n6_ := Aside0.mk (blk_below (g := gb263) (o := .cells #[.int .i64 a0_0, .int .i64 a0_1, .int .i64 a0_2, .int .i64 a0_3, .slice A0_4 l0_4.length c0_4] 62 (0, 0)) bk hb)
             have n7_ := Aside0.mk (blk_below (g := gb264) (o := .cells #[.int .i64 a1_0, .int .i64 a1_1, .int .i64 a1_2, .int .i64 a1_3, .slice A1_4 l1_4.length c1_4] 62 (0, 0)) bk hb)
             have n8_ := Aside0.mk (blk_below (g := gb292) (o := .cells #[.int .i64 t285, .int .i64 t286, .int .i64 t287, .int .i64 t288, .slice Ao45 t323.length co45] 67 (0, 0)) bk hb)
             have n9_ := Aside0.mk (blk_below (g := gb300) (o := .cells #[.int .i64 t293, .int .i64 t294, .int .i64 t295, .int .i64 t296, .slice Ao53 t325.length co53] 67 (0, 0)) bk hb)
             have n10_ := Aside0.mk (below_step bl hb)
             clear HO_6
             clear HO_10
             clear HO_293004
             clear HO_301004
             clear HO336
             clear BK263
             clear BK264
             clear BK292
             clear BK300
             clear HB
             have HO_6 := n0_
             have HO_10 := n1_
             have HO_293004 := n2_
             have HO_301004 := n3_
             have HO336 := n4_
             have HO343 := n5_
             have BK263 := n6_
             have BK264 := n7_
             have BK292 := n8_
             have BK300 := n9_
             have HB := n10_
             clear n0_ n1_ n2_ n3_ n4_ n5_ n6_ n7_ n8_ n9_ n10_
             (try clear hb)
             (try clear hb2)
             (try clear hk)
             (try clear hi)
             (try clear ho0)
             obtain ⟨Ao115, co115, eo115⟩ := Kd.R_slice HO336.out
             (first | subst eo115 | (injection eo115 with f1_ f2_ f3_; have f4_ := f1_.symm; have f5_ := f3_.symm; clear f1_ f2_ f3_; subst f4_; subst f5_))
             obtain ⟨Ao116, co116, eo116⟩ := Kd.R_slice HO343.out
             (first | subst eo116 | (injection eo116 with f1_ f2_ f3_; have f4_ := f1_.symm; have f5_ := f3_.symm; clear f1_ f2_ f3_; subst f4_; subst f5_))
             refine hK.out _ _ ⟨(blk_cell BK263.out 0).trans rfl, (blk_cell BK263.out 1).trans rfl, (blk_cell BK263.out 2).trans rfl, (blk_cell BK263.out 3).trans rfl, (blk_cell BK263.out 4).trans rfl, (blk_cell BK264.out 0).trans rfl, (blk_cell BK264.out 1).trans rfl, (blk_cell BK264.out 2).trans rfl, (blk_cell BK264.out 3).trans rfl, (blk_cell BK264.out 4).trans rfl⟩ (fun hHeld => ?_)
             clear hK K
             refine norm_ (a' := ?_) ?_ ?_
             rotate_left
             ·show Act.put _ (some 98) _ = _
              simp only [Act.put, List.setIfInBounds_toArray, List.set_cons_zero, List.set_cons_succ, i64_w, i32_w]
              rfl
             refine one_ (i := 4) (N := some 99) (bo 10 31) rfl rfl (one_of HT_.out (by kernel_rfl)) (by decide) (fun K hK => ?_)
             refine goes_ Try.func61 (by kernel_rfl) rfl #[.agg #[.int .i64 t330, .int .i64 t331, .int .i64 t332, .int .i64 t333, .slice Ao115 t334.length co115], .agg #[.int .i64 t337, .int .i64 t338, .int .i64 t339, .int .i64 t340, .slice Ao116 t341.length co116]] (by rfl) rfl rfl sa ?_
             with_reducible refine (impl_Changes.calls kj72 t330 t331 t332 t333 _ _ t334 t337 t338 t339 t340 _ _ t341 t344 t347 _ ?side1 ?side2 ?side3 ?side4 A107.out).mono ?_
             (case side1 => repeat (first | exact (Kd.R_reads' HO336.out).2.2 | (with_reducible refine Kd.C_alloc ?_ _) | (with_reducible refine Kd.C_drewN ?_ _) | (with_reducible refine Kd.C_drew ?_)))
             (case side2 => exact (Kd.R_reads' HO336.out).2.1)
             (case side3 => repeat (first | exact (Kd.R_reads' HO343.out).2.2 | (with_reducible refine Kd.C_alloc ?_ _) | (with_reducible refine Kd.C_drewN ?_ _) | (with_reducible refine Kd.C_drew ?_)))
             (case side4 => exact (Kd.R_reads' HO343.out).2.1)
             rintro e w117 ⟨v345, rfl, ho0, hb⟩
             refine ⟨_, rfl, ?_⟩
             have n0_ := Aside0.mk (Kd.R_elder' (by (with_reducible repeat (first | apply Kd.R_alloc | apply Kd.R_drewN | apply Kd.R_drew)); exact HO_6.out) (Kd.R_base ho0) hb)
             have n1_ := Aside0.mk (Kd.R_elder' (by (with_reducible repeat (first | apply Kd.R_alloc | apply Kd.R_drewN | apply Kd.R_drew)); exact HO_10.out) (Kd.R_base ho0) hb)
             have n2_ := Aside0.mk (Kd.R_below (by (with_reducible repeat (first | apply Kd.R_alloc | apply Kd.R_drewN | apply Kd.R_drew)); exact HO_293004.out) hb)
             have n3_ := Aside0.mk (Kd.R_below (by (with_reducible repeat (first | apply Kd.R_alloc | apply Kd.R_drewN | apply Kd.R_drew)); exact HO_301004.out) hb)
             have n4_ := Aside0.mk (Kd.R_below (by (with_reducible repeat (first | apply Kd.R_alloc | apply Kd.R_drewN | apply Kd.R_drew)); exact HO336.out) hb)
             have n5_ := Aside0.mk (Kd.R_below (by (with_reducible repeat (first | apply Kd.R_alloc | apply Kd.R_drewN | apply Kd.R_drew)); exact HO343.out) hb)
             have n6_ := Aside0.mk (Kd.R_lower (Kd.R_new' (Kd.R_new' ho0 (Kd.R_lt (by (with_reducible repeat (first | apply Kd.R_alloc | apply Kd.R_drewN | apply Kd.R_drew)); exact HO_6.out))) (Kd.R_lt (by (with_reducible repeat (first | apply Kd.R_alloc | apply Kd.R_drewN | apply Kd.R_drew)); exact HO_10.out))) (below_size bl))
             have n7_ := Aside0.mk (blk_below (g := gb263) (o := .cells #[.int .i64 a0_0, .int .i64 a0_1, .int .i64 a0_2, .int .i64 a0_3, .slice A0_4 l0_4.length c0_4] 62 (0, 0)) bk hb)
             have n8_ := Aside0.mk (blk_below (g := gb264) (o := .cells #[.int .i64 a1_0, .int .i64 a1_1, .int .i64 a1_2, .int .i64 a1_3, .slice A1_4 l1_4.length c1_4] 62 (0, 0)) bk hb)
             have n9_ := Aside0.mk (blk_below (g := gb292) (o := .cells #[.int .i64 t285, .int .i64 t286, .int .i64 t287, .int .i64 t288, .slice Ao45 t323.length co45] 67 (0, 0)) bk hb)
             have n10_ := Aside0.mk (blk_below (g := gb300) (o := .cells #[.int .i64 t293, .int .i64 t294, .int .i64 t295, .int .i64 t296, .slice Ao53 t325.length co53] 67 (0, 0)) bk hb)
             have n11_ := Aside0.mk (below_step bl hb)
             clear HO_6
             clear HO_10
             clear HO_293004
             clear HO_301004
             clear HO336
             clear HO343
             clear BK263
             clear BK264
             clear BK292
             clear BK300
             clear HB
             have HO_6 := n0_
             have HO_10 := n1_
             have HO_293004 := n2_
             have HO_301004 := n3_
             have HO336 := n4_
             have HO343 := n5_
             have HO346 := n6_
             have BK263 := n7_
             have BK264 := n8_
             have BK292 := n9_
             have BK300 := n10_
             have HB := n11_
             clear n0_ n1_ n2_ n3_ n4_ n5_ n6_ n7_ n8_ n9_ n10_ n11_
             (try clear hb)
             (try clear hb2)
             (try clear hk)
             (try clear hi)
             (try clear ho0)
             refine hK.out _ _ ⟨(blk_cell BK263.out 0).trans rfl, (blk_cell BK263.out 1).trans rfl, (blk_cell BK263.out 2).trans rfl, (blk_cell BK263.out 3).trans rfl, (blk_cell BK263.out 4).trans rfl, (blk_cell BK264.out 0).trans rfl, (blk_cell BK264.out 1).trans rfl, (blk_cell BK264.out 2).trans rfl, (blk_cell BK264.out 3).trans rfl, (blk_cell BK264.out 4).trans rfl⟩ (fun hHeld => ?_)
             clear hK K
             refine norm_ (a' := ?_) ?_ ?_
             rotate_left
             ·show Act.put _ (some 99) _ = _
              simp only [Act.put, List.setIfInBounds_toArray, List.set_cons_zero, List.set_cons_succ, i64_w, i32_w]
              rfl
             refine pure_ (i := 5) (N := some 94) (v := ?_) (a' := ?_) (bo 10 63) rfl rfl (any_of HT_.out (by kernel_rfl)) (fun _ _ _ h => h) (Or.inl ⟨by rfl, ?_⟩) ?_ ?_
             rotate_left
             ·intro w'
              go_simp
              with_reducible rfl
             rotate_left
             ·simp only [Act.put, List.setIfInBounds_toArray, List.set_cons_zero, List.set_cons_succ, i64_w, i32_w]
              rfl
             refine pure_ (i := 6) (N := some 100) (v := ?_) (a' := ?_) (bo 10 127) rfl rfl (any_of HT_.out (by kernel_rfl)) (fun _ _ _ h => h) (Or.inl ⟨by rfl, ?_⟩) ?_ ?_
             rotate_left
             ·intro w'
              go_simp
              with_reducible rfl
             rotate_left
             ·simp only [Act.put, List.setIfInBounds_toArray, List.set_cons_zero, List.set_cons_succ, i64_w, i32_w]
              rfl
             refine pure_ (i := 7) (N := some 101) (v := ?_) (a' := ?_) (bo 10 255) rfl rfl (any_of HT_.out (by kernel_rfl)) (fun _ _ _ h => h) (Or.inl ⟨by rfl, ?_⟩) ?_ ?_
             rotate_left
             ·intro w'
              go_simp
              with_reducible rfl
             rotate_left
             ·simp only [Act.put, List.setIfInBounds_toArray, List.set_cons_zero, List.set_cons_succ, i64_w, i32_w]
              rfl
             refine pure_ (i := 8) (N := some 15) (v := ?_) (a' := ?_) (bo 10 511) rfl rfl (any_of HT_.out (by kernel_rfl)) (fun _ _ _ h => h) (Or.inl ⟨by rfl, ?_⟩) ?_ ?_
             rotate_left
             ·intro w'
              go_simp
              with_reducible rfl
             rotate_left
             ·simp only [Act.put, List.setIfInBounds_toArray, List.set_cons_zero, List.set_cons_succ, i64_w, i32_w]
              rfl
             refine pure_ (i := 9) (N := some 16) (v := ?_) (a' := ?_) (bo 10 1023) rfl rfl (any_of HT_.out (by kernel_rfl)) (fun _ _ _ h => h) (Or.inl ⟨by rfl, ?_⟩) ?_ ?_
             rotate_left
             ·intro w'
              go_simp
              with_reducible rfl
             rotate_left
             ·simp only [Act.put, List.setIfInBounds_toArray, List.set_cons_zero, List.set_cons_succ, i64_w, i32_w]
              rfl
             refine done_ (done_of HT_.out (by kernel_rfl)) ?_
             go_upto_region 32 with (fail)
             go_cut [110] (fun v110 wc => ∃ (kq : Nat) (x110_107 : Bool), v110 = .bool x110_107 ∧ Aside0 (laws_FnExactChanges.j2 kq t328 t327 x110_107 = some r) ∧ Aside0 (kq ≤ kj72) ∧ Aside0 (Kd.R k83 83 wc w.heap.size (fun _ => True) (.slice Ao109 t301.length co109) t328) ∧ Aside0 (Kd.R k117 117 wc w.heap.size (fun k_ => some k_ ≠ ((.slice Ao53 t325.length co53) : Value).ownBlock) (.slice Ao45 t323.length co45) t323) ∧ Aside0 (Kd.R k117 117 wc w.heap.size (fun k_ => some k_ ≠ ((.slice Ao45 t323.length co45) : Value).ownBlock) (.slice Ao53 t325.length co53) t325) ∧ Aside0 (wc.heap[gb263]? = some (.cells #[.int .i64 a0_0, .int .i64 a0_1, .int .i64 a0_2, .int .i64 a0_3, (.slice A0_4 l0_4.length c0_4)] 62 (0, 0))) ∧ Aside0 (wc.heap[gb264]? = some (.cells #[.int .i64 a1_0, .int .i64 a1_1, .int .i64 a1_2, .int .i64 a1_3, (.slice A1_4 l1_4.length c1_4)] 62 (0, 0))) ∧ Aside0 (wc.heap[gb292]? = some (.cells #[.int .i64 t285, .int .i64 t286, .int .i64 t287, .int .i64 t288, (.slice Ao45 t323.length co45)] 67 (0, 0))) ∧ Aside0 (wc.heap[gb300]? = some (.cells #[.int .i64 t293, .int .i64 t294, .int .i64 t295, .int .i64 t296, (.slice Ao53 t325.length co53)] 67 (0, 0))) ∧ Aside0 (Below w.heap.size w wc))
             case first =>
              have H := HC108.out
              clear HC108
              obtain ⟨t348, A118, H⟩ := bd H
              by_cases c119 : t348 = true
              ·subst c119
               replace H := iT H
               have H' := Aside0.mk H
               clear H
               obtain ⟨Ao120, co120, eo120⟩ := Kd.R_slice HO346.out
               subst eo120
               obtain ⟨Ao121, co121, eo121⟩ := Kd.R_slice HO_6.out
               subst eo121
               go_wp2_with (first | ((with_reducible refine gC 62 rfl ?_); refine goesZ (some 104) rfl Try.func62 #[.slice Ao120 t344.length co120, .slice Ao121 t281.length co121] ?_; (with_reducible refine (laws_eqRecS.calls kj72 _ _ t344 _ _ t281 true _ ?side1 ?side2 ?side3 ?side4 A118.out).mono ?_); (case side1 => repeat (first | exact (Kd.R_reads' HO346.out).2.2 | (with_reducible refine Kd.C_alloc ?_ _) | (with_reducible refine Kd.C_drewN ?_ _) | (with_reducible refine Kd.C_drew ?_))); (case side2 => exact (Kd.R_reads' HO346.out).2.1); (case side3 => repeat (first | exact (Kd.R_reads' HO_6.out).2.2 | (with_reducible refine Kd.C_alloc ?_ _) | (with_reducible refine Kd.C_drewN ?_ _) | (with_reducible refine Kd.C_drew ?_))); (case side4 => exact (Kd.R_reads' HO_6.out).2.1); rintro e w122 ⟨rfl, hb⟩; refine ⟨_, rfl, ?_⟩; replace HO_6 := Aside0.mk (Kd.R_below (by (with_reducible repeat (first | apply Kd.R_alloc | apply Kd.R_drewN | apply Kd.R_drew)); exact HO_6.out) hb); replace HO_10 := Aside0.mk (Kd.R_below (by (with_reducible repeat (first | apply Kd.R_alloc | apply Kd.R_drewN | apply Kd.R_drew)); exact HO_10.out) hb); replace HO_293004 := Aside0.mk (Kd.R_below (by (with_reducible repeat (first | apply Kd.R_alloc | apply Kd.R_drewN | apply Kd.R_drew)); exact HO_293004.out) hb); replace HO_301004 := Aside0.mk (Kd.R_below (by (with_reducible repeat (first | apply Kd.R_alloc | apply Kd.R_drewN | apply Kd.R_drew)); exact HO_301004.out) hb); replace HO336 := Aside0.mk (Kd.R_below (by (with_reducible repeat (first | apply Kd.R_alloc | apply Kd.R_drewN | apply Kd.R_drew)); exact HO336.out) hb); replace HO343 := Aside0.mk (Kd.R_below (by (with_reducible repeat (first | apply Kd.R_alloc | apply Kd.R_drewN | apply Kd.R_drew)); exact HO343.out) hb); replace HO346 := Aside0.mk (Kd.R_below (by (with_reducible repeat (first | apply Kd.R_alloc | apply Kd.R_drewN | apply Kd.R_drew)); exact HO346.out) hb); replace BK263 := bv BK263 hb; replace BK264 := bv BK264 hb; replace BK292 := bv BK292 hb; replace BK300 := bv BK300 hb; replace HB := bs (w := w) hb; (try clear hb); (try clear hb2); (try clear hk); (try clear hi)))
               go_meet
               case rel => exact ⟨_, ((t347 != t284)), fa, H', ⟨by have := HJ24.out; have := HJ72.out; first | omega | exact Nat.le_refl _⟩, ⟨by (try simp only [hl293004_72]); (try simp only [hl301004_72]); (with_reducible repeat (first | apply Kd.R_alloc | apply Kd.R_drewN | apply Kd.R_drew)); exact Kd.R_mono HO_10.out (fun _ hk => trivial)⟩, ⟨by (try simp only [hl293004_72]); (try simp only [hl301004_72]); (with_reducible repeat (first | apply Kd.R_alloc | apply Kd.R_drewN | apply Kd.R_drew)); exact Kd.R_mono HO_293004.out (fun _ hk => hk.1.1)⟩, ⟨by (try simp only [hl293004_72]); (try simp only [hl301004_72]); (with_reducible repeat (first | apply Kd.R_alloc | apply Kd.R_drewN | apply Kd.R_drew)); exact Kd.R_mono HO_301004.out (fun _ hk => hk.1.1)⟩, ⟨by (try simp only [hl293004_72]); (try simp only [hl301004_72]); (with_reducible repeat (first | refine blk_drewN ?_ _ | refine blk_drew ?_ | refine blk_alloc ?_ _)); exact BK263.out⟩, ⟨by (try simp only [hl293004_72]); (try simp only [hl301004_72]); (with_reducible repeat (first | refine blk_drewN ?_ _ | refine blk_drew ?_ | refine blk_alloc ?_ _)); exact BK264.out⟩, ⟨by (try simp only [hl293004_72]); (try simp only [hl301004_72]); (with_reducible repeat (first | refine blk_drewN ?_ _ | refine blk_drew ?_ | refine blk_alloc ?_ _)); exact BK292.out⟩, ⟨by (try simp only [hl293004_72]); (try simp only [hl301004_72]); (with_reducible repeat (first | refine blk_drewN ?_ _ | refine blk_drew ?_ | refine blk_alloc ?_ _)); exact BK300.out⟩, ⟨bl⟩⟩
              ·replace c119 := Bool.eq_false_iff.mpr c119
               subst c119
               replace H := iF H
               have H' := Aside0.mk H
               clear H
               obtain ⟨Ao123, co123, eo123⟩ := Kd.R_slice HO346.out
               subst eo123
               obtain ⟨Ao124, co124, eo124⟩ := Kd.R_slice HO_6.out
               subst eo124
               go_wp2_with (first | ((with_reducible refine gC 62 rfl ?_); refine goesZ (some 104) rfl Try.func62 #[.slice Ao123 t344.length co123, .slice Ao124 t281.length co124] ?_; (with_reducible refine (laws_eqRecS.calls kj72 _ _ t344 _ _ t281 false _ ?side1 ?side2 ?side3 ?side4 A118.out).mono ?_); (case side1 => repeat (first | exact (Kd.R_reads' HO346.out).2.2 | (with_reducible refine Kd.C_alloc ?_ _) | (with_reducible refine Kd.C_drewN ?_ _) | (with_reducible refine Kd.C_drew ?_))); (case side2 => exact (Kd.R_reads' HO346.out).2.1); (case side3 => repeat (first | exact (Kd.R_reads' HO_6.out).2.2 | (with_reducible refine Kd.C_alloc ?_ _) | (with_reducible refine Kd.C_drewN ?_ _) | (with_reducible refine Kd.C_drew ?_))); (case side4 => exact (Kd.R_reads' HO_6.out).2.1); rintro e w125 ⟨rfl, hb⟩; refine ⟨_, rfl, ?_⟩; replace HO_6 := Aside0.mk (Kd.R_below (by (with_reducible repeat (first | apply Kd.R_alloc | apply Kd.R_drewN | apply Kd.R_drew)); exact HO_6.out) hb); replace HO_10 := Aside0.mk (Kd.R_below (by (with_reducible repeat (first | apply Kd.R_alloc | apply Kd.R_drewN | apply Kd.R_drew)); exact HO_10.out) hb); replace HO_293004 := Aside0.mk (Kd.R_below (by (with_reducible repeat (first | apply Kd.R_alloc | apply Kd.R_drewN | apply Kd.R_drew)); exact HO_293004.out) hb); replace HO_301004 := Aside0.mk (Kd.R_below (by (with_reducible repeat (first | apply Kd.R_alloc | apply Kd.R_drewN | apply Kd.R_drew)); exact HO_301004.out) hb); replace HO336 := Aside0.mk (Kd.R_below (by (with_reducible repeat (first | apply Kd.R_alloc | apply Kd.R_drewN | apply Kd.R_drew)); exact HO336.out) hb); replace HO343 := Aside0.mk (Kd.R_below (by (with_reducible repeat (first | apply Kd.R_alloc | apply Kd.R_drewN | apply Kd.R_drew)); exact HO343.out) hb); replace HO346 := Aside0.mk (Kd.R_below (by (with_reducible repeat (first | apply Kd.R_alloc | apply Kd.R_drewN | apply Kd.R_drew)); exact HO346.out) hb); replace BK263 := bv BK263 hb; replace BK264 := bv BK264 hb; replace BK292 := bv BK292 hb; replace BK300 := bv BK300 hb; replace HB := bs (w := w) hb; (try clear hb); (try clear hb2); (try clear hk); (try clear hi)))
               go_meet
               case rel => exact ⟨_, (true), fa, H', ⟨by have := HJ24.out; have := HJ72.out; first | omega | exact Nat.le_refl _⟩, ⟨by (try simp only [hl293004_72]); (try simp only [hl301004_72]); (with_reducible repeat (first | apply Kd.R_alloc | apply Kd.R_drewN | apply Kd.R_drew)); exact Kd.R_mono HO_10.out (fun _ hk => trivial)⟩, ⟨by (try simp only [hl293004_72]); (try simp only [hl301004_72]); (with_reducible repeat (first | apply Kd.R_alloc | apply Kd.R_drewN | apply Kd.R_drew)); exact Kd.R_mono HO_293004.out (fun _ hk => hk.1.1)⟩, ⟨by (try simp only [hl293004_72]); (try simp only [hl301004_72]); (with_reducible repeat (first | apply Kd.R_alloc | apply Kd.R_drewN | apply Kd.R_drew)); exact Kd.R_mono HO_301004.out (fun _ hk => hk.1.1)⟩, ⟨by (try simp only [hl293004_72]); (try simp only [hl301004_72]); (with_reducible repeat (first | refine blk_drewN ?_ _ | refine blk_drew ?_ | refine blk_alloc ?_ _)); exact BK263.out⟩, ⟨by (try simp only [hl293004_72]); (try simp only [hl301004_72]); (with_reducible repeat (first | refine blk_drewN ?_ _ | refine blk_drew ?_ | refine blk_alloc ?_ _)); exact BK264.out⟩, ⟨by (try simp only [hl293004_72]); (try simp only [hl301004_72]); (with_reducible repeat (first | refine blk_drewN ?_ _ | refine blk_drew ?_ | refine blk_alloc ?_ _)); exact BK292.out⟩, ⟨by (try simp only [hl293004_72]); (try simp only [hl301004_72]); (with_reducible repeat (first | refine blk_drewN ?_ _ | refine blk_drew ?_ | refine blk_alloc ?_ _)); exact BK300.out⟩, ⟨bl⟩⟩
             case rest =>
              clear HC108
              try clear c1
              try clear c2
              try clear p2
              try clear c4
              try clear c4b0
              try clear c5
              try clear c6
              try clear c7
              try clear c8
              try clear c9
              try clear c10
              try clear c11
              try clear c11b0
              try clear c12
              try clear c14
              try clear c28
              try clear c42
              try clear c43
              try clear c49
              try clear c50
              try clear c51
              try clear c55
              try clear c57
              try clear c59
              try clear c60
              try clear c61
              try clear c62
              try clear c63
              try clear c64
              try clear c65
              try clear c67
              try clear c70
              try clear c82
              try clear c83
              try clear c84
              try clear c87
              try clear c88
              try clear c91
              try clear c91b0
              try clear c93
              try clear c100
              try clear c103
              try clear c103b0
              try clear c104
              try clear c104b0
              try clear c104b1
              try clear c119
              try clear hcz15_0
              try clear hcz15_1
              try clear hcz15_2
              try clear hcz15_3
              try clear hcz15_4
              try clear hcz17_0
              try clear hcz17_1
              try clear hcz17_2
              try clear hcz17_3
              try clear hcz17_4
              try clear hcz29_0
              try clear hcz29_1
              try clear hcz29_2
              try clear hcz29_3
              try clear hcz29_4
              try clear hcz31_0
              try clear hcz31_1
              try clear hcz31_2
              try clear hcz31_3
              try clear hcz31_4
              try clear hcz39_0
              try clear hcz39_1
              try clear hcz39_2
              try clear hcz39_3
              try clear hcz39_4
              try clear hcz44_0
              try clear hcz44_1
              try clear hcz44_2
              try clear hcz44_3
              try clear hcz44_4
              try clear hcz46_0
              try clear hcz46_1
              try clear hcz46_2
              try clear hcz46_3
              try clear hcz46_4
              try clear hcz52_0
              try clear hcz52_1
              try clear hcz52_2
              try clear hcz52_3
              try clear hcz52_4
              try clear hcz54_0
              try clear hcz54_1
              try clear hcz54_2
              try clear hcz54_3
              try clear hcz54_4
              try clear hcz85_0
              try clear hcz85_1
              try clear hcz85_2
              try clear hcz85_3
              try clear hcz85_4
              try clear hcz89_0
              try clear hcz89_1
              try clear hcz89_2
              try clear hcz89_3
              try clear hcz89_4
              try clear hcz8_0
              try clear hcz8_1
              try clear hcz8_2
              try clear hcz8_3
              try clear hcz8_4
              try clear hfz15_0
              try clear hfz15_1
              try clear hfz15_2
              try clear hfz15_3
              try clear hfz15_4
              try clear hfz17_0
              try clear hfz17_1
              try clear hfz17_2
              try clear hfz17_3
              try clear hfz17_4
              try clear hfz29_0
              try clear hfz29_1
              try clear hfz29_2
              try clear hfz29_3
              try clear hfz29_4
              try clear hfz31_0
              try clear hfz31_1
              try clear hfz31_2
              try clear hfz31_3
              try clear hfz31_4
              try clear hfz39_0
              try clear hfz39_1
              try clear hfz39_2
              try clear hfz39_3
              try clear hfz39_4
              try clear hfz44_0
              try clear hfz44_1
              try clear hfz44_2
              try clear hfz44_3
              try clear hfz44_4
              try clear hfz46_0
              try clear hfz46_1
              try clear hfz46_2
              try clear hfz46_3
              try clear hfz46_4
              try clear hfz52_0
              try clear hfz52_1
              try clear hfz52_2
              try clear hfz52_3
              try clear hfz52_4
              try clear hfz54_0
              try clear hfz54_1
              try clear hfz54_2
              try clear hfz54_3
              try clear hfz54_4
              try clear hfz85_0
              try clear hfz85_1
              try clear hfz85_2
              try clear hfz85_3
              try clear hfz85_4
              try clear hfz89_0
              try clear hfz89_1
              try clear hfz89_2
              try clear hfz89_3
              try clear hfz89_4
              try clear hfz8_0
              try clear hfz8_1
              try clear hfz8_2
              try clear hfz8_3
              try clear hfz8_4
              try clear p2
              obtain ⟨kq, x110_107, rfl, HA, HJ107, HO_10, HO_293004, HO_301004, BK263, BK264, BK292, BK300, HB⟩ := hcut
              have hl10_107 := (Kd.R_reads' HO_10.out).1
              rw [hl10_107] at HO_10
              (try simp only [hl10_107])
              (try simp only [hl10_107] at BK263)
              (try simp only [hl10_107] at BK264)
              (try simp only [hl10_107] at BK292)
              (try simp only [hl10_107] at BK300)
              (try simp only [hl10_107] at HO_293004)
              (try simp only [hl10_107] at HO_301004)
              cases kq with
              | zero => exact absurd HA.out (by simp [laws_FnExactChanges.j2])
              | succ kj107 =>
               have H := HA.out
               clear HA
               simp only [laws_FnExactChanges.j2] at H
               by_cases c126 : x110_107 = true
               ·subst c126
                replace H := iT H
                exact absurd ((Option.some.inj H).trans hr_) (by decide)
               ·replace c126 := Bool.eq_false_iff.mpr c126
                subst c126
                replace H := iF H
                obtain ⟨t349, A127, H⟩ := bd H
                by_cases c128 : t349 < 0
                ·rw [if_pos c128] at H
                 have c128b0 : decide (t349 < 0) = true := decide_eq_true c128
                 clear c128
                 exact absurd ((Option.some.inj H).trans hr_) (by decide)
                ·rw [if_neg c128] at H
                 have c128b0 : decide (t349 < 0) = false := decide_eq_false c128
                 clear c128
                 by_cases c129 : t349 = t327
                 ·rw [if_pos c129] at H
                  have c129b0 : (t349 == t327) = true := beq_iff_eq.mpr c129
                  have c129b1 : (t349 != t327) = false := bne_eq_false_iff_eq.mpr c129
                  clear c129
                  obtain rfl := Option.some.inj H
                  go_wp2_with (first | ((with_reducible refine gC 65 rfl ?_); refine goesZ (some 113) rfl Try.func65 #[.slice Ao109 t328.length co109, .int .i64 1] ?_; (with_reducible refine (laws_heldRecS.calls kj107 _ _ t328 1 t349 _ ?side1 ?side2 A127.out).mono ?_); (case side1 => repeat (first | exact (Kd.R_reads' HO_10.out).2.2 | (with_reducible refine Kd.C_alloc ?_ _) | (with_reducible refine Kd.C_drewN ?_ _) | (with_reducible refine Kd.C_drew ?_))); (case side2 => exact (Kd.R_reads' HO_10.out).2.1); rintro e w130 ⟨rfl, hb⟩; refine ⟨_, rfl, ?_⟩; replace HO_10 := Aside0.mk (Kd.R_below (by (with_reducible repeat (first | apply Kd.R_alloc | apply Kd.R_drewN | apply Kd.R_drew)); exact HO_10.out) hb); replace HO_293004 := Aside0.mk (Kd.R_below (by (with_reducible repeat (first | apply Kd.R_alloc | apply Kd.R_drewN | apply Kd.R_drew)); exact HO_293004.out) hb); replace HO_301004 := Aside0.mk (Kd.R_below (by (with_reducible repeat (first | apply Kd.R_alloc | apply Kd.R_drewN | apply Kd.R_drew)); exact HO_301004.out) hb); replace BK263 := bv BK263 hb; replace BK264 := bv BK264 hb; replace BK292 := bv BK292 hb; replace BK300 := bv BK300 hb; replace HB := bs (w := w) hb; (try clear hb); (try clear hb2); (try clear hk); (try clear hi)))
                  go_ret
                  exact ⟨fe, bl⟩
                 ·rw [if_neg c129] at H
                  have c129b0 : (t349 == t327) = false := beq_eq_false_iff_ne.mpr c129
                  have c129b1 : (t349 != t327) = true := bne_iff_ne.mpr c129
                  exact absurd ((Option.some.inj H).trans hr_) (by decide)
            ·rw [if_neg c104] at H
             have c104b0 : (t329 == t327) = false := beq_eq_false_iff_ne.mpr c104
             have c104b1 : (t329 != t327) = true := bne_iff_ne.mpr c104
             exact absurd ((Option.some.inj H).trans hr_) (by decide)
       ·replace c70 := Bool.eq_false_iff.mpr c70
        subst c70
        replace H := iF H
        exact absurd ((Option.some.inj H).trans hr_) (by decide)
      ·replace c67 := Bool.eq_false_iff.mpr c67
       subst c67
       replace H := iF H
       exact absurd ((Option.some.inj H).trans hr_) (by decide)

end Go.Proofs.Ytfmddjbekophnaa.PFnExactChanges
