-- PRINTED by print.py (a twelfth state) out of the translation. Not trusted: Lean checks it.
import Derived.Test.YtfmddjbekophnaaPFnExactPlanAddx0
import Derived.Test.YtfmddjbekophnaaPFnExactPlanAddx2
import Derived.Test.YtfmddjbekophnaaPFnExactPlanAddx3
import Derived.Test.YtfmddjbekophnaaPFnExactPlanAddx9
import Derived.Test.YtfmddjbekophnaaPFnExactPlanAddx14
import Derived.Test.YtfmddjbekophnaaPFnExactPlanAddx15
import Derived.Test.YtfmddjbekophnaaZip
namespace Go.Proofs.Ytfmddjbekophnaa.PFnExactPlanAdd
open Go.RowKit Go.Proofs.YtfmddjbekophnaaW.PrintWords Go.Proofs.YtfmddjbekophnaaW.PrintLast Go.Proofs.YtfmddjbekophnaaW.PrintMore Go.Proofs.Ytfmddjbekophnaa.Zip
attribute [local go_sem] max2_int min2_int max_two min_two max_three min_three max_four min_four   -- for this text's walks alone
set_option linter.unusedVariables false
set_option linter.unusedSimpArgs false

/-! ### laws_FnExactPlanAdd: function 14 -/
def laws_FnExactPlanAdd.j0 : Nat → List (S130) → List (S130) → Bool → Int → Int → Int → Int → List (S139) → Int → Int → Int → Int → List (S139) → Option (Bool)
 | 0, _, _, _, _, _, _, _, _, _, _, _, _, _ => none
 | k + 1, x6, x9, x63, x363000, x363001, x363002, x363003, x363004, x364000, x364001, x364002, x364003, x364004 => if x63 = true then (some false) else ((laws_markStepS.f k x9 1).bind fun bt424 => ((laws_heldStepS.f k bt424.2 1).bind fun t426 => (if t426 < 0 then (some false) else (if t426 = bt424.1 then ((laws_toWal.f k x363000 x363001 x363002 x363003 x363004).bind fun bt427 => ((laws_toWal.f k x364000 x364001 x364002 x364003 x364004).bind fun bt434 => ((impl_PlanAdd.f k bt427.1 bt427.2.1 bt427.2.2.1 bt427.2.2.2.1 bt427.2.2.2.2 bt434.1 bt434.2.1 bt434.2.2.1 bt434.2.2.2.1 bt434.2.2.2.2).bind fun t441 => ((laws_eqStepS.f k t441 x6).bind fun t444 => (if t444 = true then ((laws_heldStepS.f k bt424.2 1).bind fun t445 => (if t445 < 0 then (some false) else (if t445 = bt424.1 then (some true) else (some false)))) else (some false)))))) else (some false)))))
def laws_FnExactPlanAdd.f (k : Nat) (a0_0 : Int) (a0_1 : Int) (a0_2 : Int) (a0_3 : Int) (l0_4 : List (S139)) (a1_0 : Int) (a1_1 : Int) (a1_2 : Int) (a1_3 : Int) (l1_4 : List (S139)) : Option (Bool) := (laws_szWal.f k a0_0 a0_1 a0_2 a0_3 l0_4 1048576).bind fun t364 => (if t364 < 0 then (some true) else ((laws_szWal.f k a1_0 a1_1 a1_2 a1_3 l1_4 t364).bind fun t365 => (if t365 < 0 then (some true) else ((laws_toWal.f k a0_0 a0_1 a0_2 a0_3 l0_4).bind fun bt366 => ((laws_toWal.f k a1_0 a1_1 a1_2 a1_3 l1_4).bind fun bt373 => ((spec_PlanAdd.f k bt366.1 bt366.2.1 bt366.2.2.1 bt366.2.2.2.1 bt366.2.2.2.2 bt373.1 bt373.2.1 bt373.2.2.1 bt373.2.2.2.1 bt373.2.2.2.2).bind fun t380 => ((laws_toWal.f k a0_0 a0_1 a0_2 a0_3 l0_4).bind fun bt383 => ((laws_toWal.f k a1_0 a1_1 a1_2 a1_3 l1_4).bind fun bt391 => ((impl_PlanAdd.f k bt383.1 bt383.2.1 bt383.2.2.1 bt383.2.2.2.1 bt383.2.2.2.2 bt391.1 bt391.2.1 bt391.2.2.1 bt391.2.2.2.1 bt391.2.2.2.2).bind fun t399 => ((laws_eqStepS.f k t399 t380).bind fun t402 => (if t402 = true then ((laws_toWal.f k a0_0 a0_1 a0_2 a0_3 l0_4).bind fun bt403 => ((laws_eqWal.f k bt383.1 bt383.2.1 bt383.2.2.1 bt383.2.2.2.1 bt383.2.2.2.2 bt403.1 bt403.2.1 bt403.2.2.1 bt403.2.2.2.1 bt403.2.2.2.2).bind fun t410 => (if t410 = true then ((laws_toWal.f k a1_0 a1_1 a1_2 a1_3 l1_4).bind fun bt411 => ((laws_eqWal.f k bt391.1 bt391.2.1 bt391.2.2.1 bt391.2.2.2.1 bt391.2.2.2.2 bt411.1 bt411.2.1 bt411.2.2.1 bt411.2.2.2.1 bt411.2.2.2.2).bind fun t418 => (if t418 = true then ((laws_markWal.f k bt383.1 bt383.2.1 bt383.2.2.1 bt383.2.2.2.1 bt383.2.2.2.2 1).bind fun bt419 => ((laws_markWal.f k bt391.1 bt391.2.1 bt391.2.2.1 bt391.2.2.2.1 bt391.2.2.2.2 bt419.1).bind fun bt421 => (if bt421.1 < 0 then (laws_FnExactPlanAdd.j0 k t380 t399 true a0_0 a0_1 a0_2 a0_3 l0_4 a1_0 a1_1 a1_2 a1_3 l1_4) else ((laws_eqStepS.f k t399 t380).bind fun t423 => (laws_FnExactPlanAdd.j0 k t380 t399 (!t423) a0_0 a0_1 a0_2 a0_3 l0_4 a1_0 a1_1 a1_2 a1_3 l1_4))))) else (some false)))) else (some false)))) else (some false))))))))))))
theorem laws_FnExactPlanAdd.mono_l : ∀ k, (∀ y0 y1 y2 y3 y4 y5 y6 y7 y8 y9 y10 y11 y12, LeO (laws_FnExactPlanAdd.j0 k y0 y1 y2 y3 y4 y5 y6 y7 y8 y9 y10 y11 y12) (laws_FnExactPlanAdd.j0 (k + 1) y0 y1 y2 y3 y4 y5 y6 y7 y8 y9 y10 y11 y12))
 | 0 => fun _ _ _ _ _ _ _ _ _ _ _ _ _ r h => by simp [laws_FnExactPlanAdd.j0] at h
 | k + 1 => by
  have ih0 := laws_FnExactPlanAdd.mono_l k
  ·intro y0 y1 y2 y3 y4 y5 y6 y7 y8 y9 y10 y11 y12
   unfold laws_FnExactPlanAdd.j0
   repeat' first
   | (with_reducible exact ih0 _ _ _ _ _ _ _ _ _ _ _ _ _)
   | (with_reducible exact impl_PlanAdd.mono _ _ _ _ _ _ _ _ _ _ _)
   | (with_reducible exact laws_eqStepS.mono _ _ _)
   | (with_reducible exact laws_eqWal.mono _ _ _ _ _ _ _ _ _ _ _)
   | (with_reducible exact laws_heldStepS.mono _ _ _)
   | (with_reducible exact laws_markStepS.mono _ _ _)
   | (with_reducible exact laws_markWal.mono _ _ _ _ _ _ _)
   | (with_reducible exact laws_szWal.mono _ _ _ _ _ _ _)
   | (with_reducible exact laws_toWal.mono _ _ _ _ _ _)
   | (with_reducible exact spec_PlanAdd.mono _ _ _ _ _ _ _ _ _ _ _)
   | (with_reducible exact LeO.refl _)
   | (with_reducible exact LeO.none _)
   | (with_reducible refine LeO.ite ?_ ?_)
   | (with_reducible refine LeO.bind ?_ (fun _ => ?_))
   | exact ih0 _ _ _ _ _ _ _ _ _ _ _ _ _
   | exact impl_PlanAdd.mono _ _ _ _ _ _ _ _ _ _ _
   | exact laws_eqStepS.mono _ _ _
   | exact laws_eqWal.mono _ _ _ _ _ _ _ _ _ _ _
   | exact laws_heldStepS.mono _ _ _
   | exact laws_markStepS.mono _ _ _
   | exact laws_markWal.mono _ _ _ _ _ _ _
   | exact laws_szWal.mono _ _ _ _ _ _ _
   | exact laws_toWal.mono _ _ _ _ _ _
   | exact spec_PlanAdd.mono _ _ _ _ _ _ _ _ _ _ _
   | exact LeO.none _
   | refine LeO.ite ?_ ?_
   | refine LeO.bind ?_ (fun _ => ?_)
theorem laws_FnExactPlanAdd.mono : ∀ a0 a1 a2 a3 a4 a5 a6 a7 a8 a9 k, LeO (laws_FnExactPlanAdd.f k a0 a1 a2 a3 a4 a5 a6 a7 a8 a9) (laws_FnExactPlanAdd.f (k + 1) a0 a1 a2 a3 a4 a5 a6 a7 a8 a9) := by
 intro a0 a1 a2 a3 a4 a5 a6 a7 a8 a9 k
 have ih0 := laws_FnExactPlanAdd.mono_l k
 unfold laws_FnExactPlanAdd.f
 repeat' first
  | (with_reducible exact ih0 _ _ _ _ _ _ _ _ _ _ _ _ _)
  | (with_reducible exact impl_PlanAdd.mono _ _ _ _ _ _ _ _ _ _ _)
  | (with_reducible exact laws_eqStepS.mono _ _ _)
  | (with_reducible exact laws_eqWal.mono _ _ _ _ _ _ _ _ _ _ _)
  | (with_reducible exact laws_heldStepS.mono _ _ _)
  | (with_reducible exact laws_markStepS.mono _ _ _)
  | (with_reducible exact laws_markWal.mono _ _ _ _ _ _ _)
  | (with_reducible exact laws_szWal.mono _ _ _ _ _ _ _)
  | (with_reducible exact laws_toWal.mono _ _ _ _ _ _)
  | (with_reducible exact spec_PlanAdd.mono _ _ _ _ _ _ _ _ _ _ _)
  | (with_reducible exact LeO.refl _)
  | (with_reducible exact LeO.none _)
  | (with_reducible refine LeO.ite ?_ ?_)
  | (with_reducible refine LeO.bind ?_ (fun _ => ?_))
  | exact ih0 _ _ _ _ _ _ _ _ _ _ _ _ _
  | exact impl_PlanAdd.mono _ _ _ _ _ _ _ _ _ _ _
  | exact laws_eqStepS.mono _ _ _
  | exact laws_eqWal.mono _ _ _ _ _ _ _ _ _ _ _
  | exact laws_heldStepS.mono _ _ _
  | exact laws_markStepS.mono _ _ _
  | exact laws_markWal.mono _ _ _ _ _ _ _
  | exact laws_szWal.mono _ _ _ _ _ _ _
  | exact laws_toWal.mono _ _ _ _ _ _
  | exact spec_PlanAdd.mono _ _ _ _ _ _ _ _ _ _ _
  | exact LeO.none _
  | refine LeO.ite ?_ ?_
  | refine LeO.bind ?_ (fun _ => ?_)
set_option maxHeartbeats 8000000 in
set_option maxRecDepth 100000 in
theorem laws_FnExactPlanAdd.calls (k : Nat) (a0_0 : Int) (a0_1 : Int) (a0_2 : Int) (a0_3 : Int) (A0_4 : Option Addr) (c0_4 : Nat) (l0_4 : List (S139)) (a1_0 : Int) (a1_1 : Int) (a1_2 : Int) (a1_3 : Int) (A1_4 : Option Addr) (c1_4 : Nat) (l1_4 : List (S139)) (r : Bool) (w : World) (hr0_4 : Kd.C k139 w A0_4 l0_4.length l0_4) (hc0_4 : l0_4.length ≤ c0_4) (hr1_4 : Kd.C k139 w A1_4 l1_4.length l1_4) (hc1_4 : l1_4.length ≤ c1_4) (h : laws_FnExactPlanAdd.f k a0_0 a0_1 a0_2 a0_3 l0_4 a1_0 a1_1 a1_2 a1_3 l1_4 = some r) (hr_ : r = true) :
 Calls Try.prog 14 #[.agg #[.int .i64 a0_0, .int .i64 a0_1, .int .i64 a0_2, .int .i64 a0_3, .slice A0_4 l0_4.length c0_4], .agg #[.int .i64 a1_0, .int .i64 a1_1, .int .i64 a1_2, .int .i64 a1_3, .slice A1_4 l1_4.length c1_4]] w fun e w' => e = .returned (.bool r) ∧ Below w.heap.size w w' := by
 have hu62 := Try.underlying62
 have hu67 := Try.underlying67
 have HR0_4 := Aside0.mk hr0_4
 have HC0_4 := Aside0.mk hc0_4
 clear hr0_4 hc0_4
 have HR1_4 := Aside0.mk hr1_4
 have HC1_4 := Aside0.mk hc1_4
 clear hr1_4 hc1_4
 have HB := Aside0.mk (Below.refl w.heap.size w)
 have H : ((laws_szWal.f k a0_0 a0_1 a0_2 a0_3 l0_4 1048576).bind fun t364 => (if t364 < 0 then (some true) else ((laws_szWal.f k a1_0 a1_1 a1_2 a1_3 l1_4 t364).bind fun t365 => (if t365 < 0 then (some true) else ((laws_toWal.f k a0_0 a0_1 a0_2 a0_3 l0_4).bind fun bt366 => ((laws_toWal.f k a1_0 a1_1 a1_2 a1_3 l1_4).bind fun bt373 => ((spec_PlanAdd.f k bt366.1 bt366.2.1 bt366.2.2.1 bt366.2.2.2.1 bt366.2.2.2.2 bt373.1 bt373.2.1 bt373.2.2.1 bt373.2.2.2.1 bt373.2.2.2.2).bind fun t380 => ((laws_toWal.f k a0_0 a0_1 a0_2 a0_3 l0_4).bind fun bt383 => ((laws_toWal.f k a1_0 a1_1 a1_2 a1_3 l1_4).bind fun bt391 => ((impl_PlanAdd.f k bt383.1 bt383.2.1 bt383.2.2.1 bt383.2.2.2.1 bt383.2.2.2.2 bt391.1 bt391.2.1 bt391.2.2.1 bt391.2.2.2.1 bt391.2.2.2.2).bind fun t399 => ((laws_eqStepS.f k t399 t380).bind fun t402 => (if t402 = true then ((laws_toWal.f k a0_0 a0_1 a0_2 a0_3 l0_4).bind fun bt403 => ((laws_eqWal.f k bt383.1 bt383.2.1 bt383.2.2.1 bt383.2.2.2.1 bt383.2.2.2.2 bt403.1 bt403.2.1 bt403.2.2.1 bt403.2.2.2.1 bt403.2.2.2.2).bind fun t410 => (if t410 = true then ((laws_toWal.f k a1_0 a1_1 a1_2 a1_3 l1_4).bind fun bt411 => ((laws_eqWal.f k bt391.1 bt391.2.1 bt391.2.2.1 bt391.2.2.2.1 bt391.2.2.2.2 bt411.1 bt411.2.1 bt411.2.2.1 bt411.2.2.2.1 bt411.2.2.2.2).bind fun t418 => (if t418 = true then ((laws_markWal.f k bt383.1 bt383.2.1 bt383.2.2.1 bt383.2.2.2.1 bt383.2.2.2.2 1).bind fun bt419 => ((laws_markWal.f k bt391.1 bt391.2.1 bt391.2.2.1 bt391.2.2.2.1 bt391.2.2.2.2 bt419.1).bind fun bt421 => (if bt421.1 < 0 then (laws_FnExactPlanAdd.j0 k t380 t399 true a0_0 a0_1 a0_2 a0_3 l0_4 a1_0 a1_1 a1_2 a1_3 l1_4) else ((laws_eqStepS.f k t399 t380).bind fun t423 => (laws_FnExactPlanAdd.j0 k t380 t399 (!t423) a0_0 a0_1 a0_2 a0_3 l0_4 a1_0 a1_1 a1_2 a1_3 l1_4))))) else (some false)))) else (some false)))) else (some false))))))))))))) = some r := h
 clear h
 obtain ⟨t364, A3, H⟩ := bd H
 by_cases c4 : t364 < 0
 ·rw [if_pos c4] at H
  have c4b0 : decide (t364 < 0) = true := decide_eq_true c4
  clear c4
  obtain rfl := Option.some.inj H
  go_enter Try.func14, Try.ntmps14
  go_wp2_with (first | ((with_reducible refine gD 2 rfl ?_); refine boxZ 2 #[.int .i64 a0_0, .int .i64 a0_1, .int .i64 a0_2, .int .i64 a0_3, .slice A0_4 l0_4.length c0_4] 62 ?_; intro gb362 hg w5 hbox hb; have BK362 := Aside0.mk hbox; have GW362 := gw (w := w) hg; have GE362 := gw (w := w) hg; replace HB := bs (w := w) hb; clear hb hbox hg) | ((with_reducible refine gD 3 rfl ?_); refine boxZ 3 #[.int .i64 a1_0, .int .i64 a1_1, .int .i64 a1_2, .int .i64 a1_3, .slice A1_4 l1_4.length c1_4] 62 ?_; intro gb363 hg w6 hbox hb; have BK363 := Aside0.mk hbox; have GW363 := gw (w := w) hg; have GE363 := gw (w := w) hg; replace HB := bs (w := w) hb; have NB362_363 := nl BK362 hg; have NB363_362 := nr BK362 hg; replace BK362 := bv BK362 hb; clear hb hbox hg; have hnb7 := NB362_363.out; have hnc7 := NB363_362.out; obtain ⟨Z8_0, Z8_1, Z8_2, Z8_3, Z8_4, Y8_0, Y8_1, Y8_2, Y8_3, Y8_4⟩ := cf5 BK362) | ((with_reducible refine gC 55 rfl ?_); refine goesZ (some 16) rfl Try.func55 #[.agg #[.int .i64 a0_0, .int .i64 a0_1, .int .i64 a0_2, .int .i64 a0_3, .slice A0_4 l0_4.length c0_4], .int .i64 1048576] ?_; (with_reducible refine (laws_szWal.calls k a0_0 a0_1 a0_2 a0_3 _ _ l0_4 1048576 t364 _ ?side1 ?side2 A3.out).mono ?_); (case side1 => exact ca (Kd.C_below HR0_4.out HB.out)); (case side2 => exact HC0_4.out); rintro e w9 ⟨rfl, hb⟩; refine ⟨_, rfl, ?_⟩; replace BK362 := bv BK362 hb; replace BK363 := bv BK363 hb; replace HB := bs (w := w) hb; (try clear hb)))
  go_ret
  exact ⟨fe, bl⟩
 ·rw [if_neg c4] at H
  have c4b0 : decide (t364 < 0) = false := decide_eq_false c4
  clear c4
  obtain ⟨t365, A10, H⟩ := bd H
  by_cases c11 : t365 < 0
  ·rw [if_pos c11] at H
   have c11b0 : decide (t365 < 0) = true := decide_eq_true c11
   clear c11
   obtain rfl := Option.some.inj H
   go_enter Try.func14, Try.ntmps14
   go_wp2_with (first | ((with_reducible refine gD 2 rfl ?_); refine boxZ 2 #[.int .i64 a0_0, .int .i64 a0_1, .int .i64 a0_2, .int .i64 a0_3, .slice A0_4 l0_4.length c0_4] 62 ?_; intro gb362 hg w12 hbox hb; have BK362 := Aside0.mk hbox; have GW362 := gw (w := w) hg; have GE362 := gw (w := w) hg; replace HB := bs (w := w) hb; clear hb hbox hg) | ((with_reducible refine gD 3 rfl ?_); refine boxZ 3 #[.int .i64 a1_0, .int .i64 a1_1, .int .i64 a1_2, .int .i64 a1_3, .slice A1_4 l1_4.length c1_4] 62 ?_; intro gb363 hg w13 hbox hb; have BK363 := Aside0.mk hbox; have GW363 := gw (w := w) hg; have GE363 := gw (w := w) hg; replace HB := bs (w := w) hb; have NB362_363 := nl BK362 hg; have NB363_362 := nr BK362 hg; replace BK362 := bv BK362 hb; clear hb hbox hg; have hnb14 := NB362_363.out; have hnc14 := NB363_362.out; obtain ⟨Z15_0, Z15_1, Z15_2, Z15_3, Z15_4, Y15_0, Y15_1, Y15_2, Y15_3, Y15_4⟩ := cf5 BK362) | ((with_reducible refine gC 55 rfl ?_); refine goesZ (some 16) rfl Try.func55 #[.agg #[.int .i64 a0_0, .int .i64 a0_1, .int .i64 a0_2, .int .i64 a0_3, .slice A0_4 l0_4.length c0_4], .int .i64 1048576] ?_; (with_reducible refine (laws_szWal.calls k a0_0 a0_1 a0_2 a0_3 _ _ l0_4 1048576 t364 _ ?side1 ?side2 A3.out).mono ?_); (case side1 => exact ca (Kd.C_below HR0_4.out HB.out)); (case side2 => exact HC0_4.out); rintro e w16 ⟨rfl, hb⟩; refine ⟨_, rfl, ?_⟩; replace BK362 := bv BK362 hb; replace BK363 := bv BK363 hb; replace HB := bs (w := w) hb; (try clear hb); obtain ⟨Z17_0, Z17_1, Z17_2, Z17_3, Z17_4, Y17_0, Y17_1, Y17_2, Y17_3, Y17_4⟩ := cf5 BK363) | ((with_reducible refine gC 55 rfl ?_); refine goesZ (some 21) rfl Try.func55 #[.agg #[.int .i64 a1_0, .int .i64 a1_1, .int .i64 a1_2, .int .i64 a1_3, .slice A1_4 l1_4.length c1_4], .int .i64 t364] ?_; (with_reducible refine (laws_szWal.calls k a1_0 a1_1 a1_2 a1_3 _ _ l1_4 t364 t365 _ ?side1 ?side2 A10.out).mono ?_); (case side1 => exact ca (Kd.C_below HR1_4.out HB.out)); (case side2 => exact HC1_4.out); rintro e w18 ⟨rfl, hb⟩; refine ⟨_, rfl, ?_⟩; replace BK362 := bv BK362 hb; replace BK363 := bv BK363 hb; replace HB := bs (w := w) hb; (try clear hb)))
   go_ret
   exact ⟨fe, bl⟩
  ·rw [if_neg c11] at H
   have c11b0 : decide (t365 < 0) = false := decide_eq_false c11
   clear c11
   replace H := Option.bind_eq_some_iff.mp H
   obtain ⟨⟨t366, t367, t368, t369, t370⟩, A190, H⟩ := H
   replace H : ((laws_toWal.f k a1_0 a1_1 a1_2 a1_3 l1_4).bind fun bt373 => ((spec_PlanAdd.f k t366 t367 t368 t369 t370 bt373.1 bt373.2.1 bt373.2.2.1 bt373.2.2.2.1 bt373.2.2.2.2).bind fun t380 => ((laws_toWal.f k a0_0 a0_1 a0_2 a0_3 l0_4).bind fun bt383 => ((laws_toWal.f k a1_0 a1_1 a1_2 a1_3 l1_4).bind fun bt391 => ((impl_PlanAdd.f k bt383.1 bt383.2.1 bt383.2.2.1 bt383.2.2.2.1 bt383.2.2.2.2 bt391.1 bt391.2.1 bt391.2.2.1 bt391.2.2.2.1 bt391.2.2.2.2).bind fun t399 => ((laws_eqStepS.f k t399 t380).bind fun t402 => (if t402 = true then ((laws_toWal.f k a0_0 a0_1 a0_2 a0_3 l0_4).bind fun bt403 => ((laws_eqWal.f k bt383.1 bt383.2.1 bt383.2.2.1 bt383.2.2.2.1 bt383.2.2.2.2 bt403.1 bt403.2.1 bt403.2.2.1 bt403.2.2.2.1 bt403.2.2.2.2).bind fun t410 => (if t410 = true then ((laws_toWal.f k a1_0 a1_1 a1_2 a1_3 l1_4).bind fun bt411 => ((laws_eqWal.f k bt391.1 bt391.2.1 bt391.2.2.1 bt391.2.2.2.1 bt391.2.2.2.2 bt411.1 bt411.2.1 bt411.2.2.1 bt411.2.2.2.1 bt411.2.2.2.2).bind fun t418 => (if t418 = true then ((laws_markWal.f k bt383.1 bt383.2.1 bt383.2.2.1 bt383.2.2.2.1 bt383.2.2.2.2 1).bind fun bt419 => ((laws_markWal.f k bt391.1 bt391.2.1 bt391.2.2.1 bt391.2.2.2.1 bt391.2.2.2.2 bt419.1).bind fun bt421 => (if bt421.1 < 0 then (laws_FnExactPlanAdd.j0 k t380 t399 true a0_0 a0_1 a0_2 a0_3 l0_4 a1_0 a1_1 a1_2 a1_3 l1_4) else ((laws_eqStepS.f k t399 t380).bind fun t423 => (laws_FnExactPlanAdd.j0 k t380 t399 (!t423) a0_0 a0_1 a0_2 a0_3 l0_4 a1_0 a1_1 a1_2 a1_3 l1_4))))) else (some false)))) else (some false)))) else (some false)))))))) = some r := H
   have A19 := Aside0.mk A190
   clear A190
   replace H := Option.bind_eq_some_iff.mp H
   obtain ⟨⟨t373, t374, t375, t376, t377⟩, A200, H⟩ := H
   replace H : ((spec_PlanAdd.f k t366 t367 t368 t369 t370 t373 t374 t375 t376 t377).bind fun t380 => ((laws_toWal.f k a0_0 a0_1 a0_2 a0_3 l0_4).bind fun bt383 => ((laws_toWal.f k a1_0 a1_1 a1_2 a1_3 l1_4).bind fun bt391 => ((impl_PlanAdd.f k bt383.1 bt383.2.1 bt383.2.2.1 bt383.2.2.2.1 bt383.2.2.2.2 bt391.1 bt391.2.1 bt391.2.2.1 bt391.2.2.2.1 bt391.2.2.2.2).bind fun t399 => ((laws_eqStepS.f k t399 t380).bind fun t402 => (if t402 = true then ((laws_toWal.f k a0_0 a0_1 a0_2 a0_3 l0_4).bind fun bt403 => ((laws_eqWal.f k bt383.1 bt383.2.1 bt383.2.2.1 bt383.2.2.2.1 bt383.2.2.2.2 bt403.1 bt403.2.1 bt403.2.2.1 bt403.2.2.2.1 bt403.2.2.2.2).bind fun t410 => (if t410 = true then ((laws_toWal.f k a1_0 a1_1 a1_2 a1_3 l1_4).bind fun bt411 => ((laws_eqWal.f k bt391.1 bt391.2.1 bt391.2.2.1 bt391.2.2.2.1 bt391.2.2.2.2 bt411.1 bt411.2.1 bt411.2.2.1 bt411.2.2.2.1 bt411.2.2.2.2).bind fun t418 => (if t418 = true then ((laws_markWal.f k bt383.1 bt383.2.1 bt383.2.2.1 bt383.2.2.2.1 bt383.2.2.2.2 1).bind fun bt419 => ((laws_markWal.f k bt391.1 bt391.2.1 bt391.2.2.1 bt391.2.2.2.1 bt391.2.2.2.2 bt419.1).bind fun bt421 => (if bt421.1 < 0 then (laws_FnExactPlanAdd.j0 k t380 t399 true a0_0 a0_1 a0_2 a0_3 l0_4 a1_0 a1_1 a1_2 a1_3 l1_4) else ((laws_eqStepS.f k t399 t380).bind fun t423 => (laws_FnExactPlanAdd.j0 k t380 t399 (!t423) a0_0 a0_1 a0_2 a0_3 l0_4 a1_0 a1_1 a1_2 a1_3 l1_4))))) else (some false)))) else (some false)))) else (some false))))))) = some r := H
   have A20 := Aside0.mk A200
   clear A200
   obtain ⟨t380, A21, H⟩ := bd H
   replace H := Option.bind_eq_some_iff.mp H
   obtain ⟨⟨t383, t384, t385, t386, t387⟩, A220, H⟩ := H
   replace H : ((laws_toWal.f k a1_0 a1_1 a1_2 a1_3 l1_4).bind fun bt391 => ((impl_PlanAdd.f k t383 t384 t385 t386 t387 bt391.1 bt391.2.1 bt391.2.2.1 bt391.2.2.2.1 bt391.2.2.2.2).bind fun t399 => ((laws_eqStepS.f k t399 t380).bind fun t402 => (if t402 = true then ((laws_toWal.f k a0_0 a0_1 a0_2 a0_3 l0_4).bind fun bt403 => ((laws_eqWal.f k t383 t384 t385 t386 t387 bt403.1 bt403.2.1 bt403.2.2.1 bt403.2.2.2.1 bt403.2.2.2.2).bind fun t410 => (if t410 = true then ((laws_toWal.f k a1_0 a1_1 a1_2 a1_3 l1_4).bind fun bt411 => ((laws_eqWal.f k bt391.1 bt391.2.1 bt391.2.2.1 bt391.2.2.2.1 bt391.2.2.2.2 bt411.1 bt411.2.1 bt411.2.2.1 bt411.2.2.2.1 bt411.2.2.2.2).bind fun t418 => (if t418 = true then ((laws_markWal.f k t383 t384 t385 t386 t387 1).bind fun bt419 => ((laws_markWal.f k bt391.1 bt391.2.1 bt391.2.2.1 bt391.2.2.2.1 bt391.2.2.2.2 bt419.1).bind fun bt421 => (if bt421.1 < 0 then (laws_FnExactPlanAdd.j0 k t380 t399 true a0_0 a0_1 a0_2 a0_3 l0_4 a1_0 a1_1 a1_2 a1_3 l1_4) else ((laws_eqStepS.f k t399 t380).bind fun t423 => (laws_FnExactPlanAdd.j0 k t380 t399 (!t423) a0_0 a0_1 a0_2 a0_3 l0_4 a1_0 a1_1 a1_2 a1_3 l1_4))))) else (some false)))) else (some false)))) else (some false))))) = some r := H
   have A22 := Aside0.mk A220
   clear A220
   replace H := Option.bind_eq_some_iff.mp H
   obtain ⟨⟨t391, t392, t393, t394, t395⟩, A230, H⟩ := H
   replace H : ((impl_PlanAdd.f k t383 t384 t385 t386 t387 t391 t392 t393 t394 t395).bind fun t399 => ((laws_eqStepS.f k t399 t380).bind fun t402 => (if t402 = true then ((laws_toWal.f k a0_0 a0_1 a0_2 a0_3 l0_4).bind fun bt403 => ((laws_eqWal.f k t383 t384 t385 t386 t387 bt403.1 bt403.2.1 bt403.2.2.1 bt403.2.2.2.1 bt403.2.2.2.2).bind fun t410 => (if t410 = true then ((laws_toWal.f k a1_0 a1_1 a1_2 a1_3 l1_4).bind fun bt411 => ((laws_eqWal.f k t391 t392 t393 t394 t395 bt411.1 bt411.2.1 bt411.2.2.1 bt411.2.2.2.1 bt411.2.2.2.2).bind fun t418 => (if t418 = true then ((laws_markWal.f k t383 t384 t385 t386 t387 1).bind fun bt419 => ((laws_markWal.f k t391 t392 t393 t394 t395 bt419.1).bind fun bt421 => (if bt421.1 < 0 then (laws_FnExactPlanAdd.j0 k t380 t399 true a0_0 a0_1 a0_2 a0_3 l0_4 a1_0 a1_1 a1_2 a1_3 l1_4) else ((laws_eqStepS.f k t399 t380).bind fun t423 => (laws_FnExactPlanAdd.j0 k t380 t399 (!t423) a0_0 a0_1 a0_2 a0_3 l0_4 a1_0 a1_1 a1_2 a1_3 l1_4))))) else (some false)))) else (some false)))) else (some false)))) = some r := H
   have A23 := Aside0.mk A230
   clear A230
   obtain ⟨t399, A24, H⟩ := bd H
   obtain ⟨t402, A25, H⟩ := bd H
   by_cases c26 : t402 = true
   ·subst c26
    replace H := iT H
    replace H := Option.bind_eq_some_iff.mp H
    obtain ⟨⟨t403, t404, t405, t406, t407⟩, A270, H⟩ := H
    replace H : ((laws_eqWal.f k t383 t384 t385 t386 t387 t403 t404 t405 t406 t407).bind fun t410 => (if t410 = true then ((laws_toWal.f k a1_0 a1_1 a1_2 a1_3 l1_4).bind fun bt411 => ((laws_eqWal.f k t391 t392 t393 t394 t395 bt411.1 bt411.2.1 bt411.2.2.1 bt411.2.2.2.1 bt411.2.2.2.2).bind fun t418 => (if t418 = true then ((laws_markWal.f k t383 t384 t385 t386 t387 1).bind fun bt419 => ((laws_markWal.f k t391 t392 t393 t394 t395 bt419.1).bind fun bt421 => (if bt421.1 < 0 then (laws_FnExactPlanAdd.j0 k t380 t399 true a0_0 a0_1 a0_2 a0_3 l0_4 a1_0 a1_1 a1_2 a1_3 l1_4) else ((laws_eqStepS.f k t399 t380).bind fun t423 => (laws_FnExactPlanAdd.j0 k t380 t399 (!t423) a0_0 a0_1 a0_2 a0_3 l0_4 a1_0 a1_1 a1_2 a1_3 l1_4))))) else (some false)))) else (some false))) = some r := H
    have A27 := Aside0.mk A270
    clear A270
    obtain ⟨t410, A28, H⟩ := bd H
    by_cases c29 : t410 = true
    ·subst c29
     replace H := iT H
     replace H := Option.bind_eq_some_iff.mp H
     obtain ⟨⟨t411, t412, t413, t414, t415⟩, A300, H⟩ := H
     replace H : ((laws_eqWal.f k t391 t392 t393 t394 t395 t411 t412 t413 t414 t415).bind fun t418 => (if t418 = true then ((laws_markWal.f k t383 t384 t385 t386 t387 1).bind fun bt419 => ((laws_markWal.f k t391 t392 t393 t394 t395 bt419.1).bind fun bt421 => (if bt421.1 < 0 then (laws_FnExactPlanAdd.j0 k t380 t399 true a0_0 a0_1 a0_2 a0_3 l0_4 a1_0 a1_1 a1_2 a1_3 l1_4) else ((laws_eqStepS.f k t399 t380).bind fun t423 => (laws_FnExactPlanAdd.j0 k t380 t399 (!t423) a0_0 a0_1 a0_2 a0_3 l0_4 a1_0 a1_1 a1_2 a1_3 l1_4))))) else (some false))) = some r := H
     have A30 := Aside0.mk A300
     clear A300
     obtain ⟨t418, A31, H⟩ := bd H
     by_cases c32 : t418 = true
     ·subst c32
      replace H := iT H
      replace H := Option.bind_eq_some_iff.mp H
      obtain ⟨⟨t419, t420⟩, A330, H⟩ := H
      replace H : ((laws_markWal.f k t391 t392 t393 t394 t395 t419).bind fun bt421 => (if bt421.1 < 0 then (laws_FnExactPlanAdd.j0 k t380 t399 true a0_0 a0_1 a0_2 a0_3 l0_4 a1_0 a1_1 a1_2 a1_3 l1_4) else ((laws_eqStepS.f k t399 t380).bind fun t423 => (laws_FnExactPlanAdd.j0 k t380 t399 (!t423) a0_0 a0_1 a0_2 a0_3 l0_4 a1_0 a1_1 a1_2 a1_3 l1_4)))) = some r := H
      have A33 := Aside0.mk A330
      clear A330
      replace H := Option.bind_eq_some_iff.mp H
      obtain ⟨⟨t421, t422⟩, A340, H⟩ := H
      replace H : (if t421 < 0 then (laws_FnExactPlanAdd.j0 k t380 t399 true a0_0 a0_1 a0_2 a0_3 l0_4 a1_0 a1_1 a1_2 a1_3 l1_4) else ((laws_eqStepS.f k t399 t380).bind fun t423 => (laws_FnExactPlanAdd.j0 k t380 t399 (!t423) a0_0 a0_1 a0_2 a0_3 l0_4 a1_0 a1_1 a1_2 a1_3 l1_4))) = some r := H
      have A34 := Aside0.mk A340
      clear A340
      have HC35 := Aside0.mk H
      clear H
      go_enter Try.func14, Try.ntmps14
      try go_wp2_with (first | ((with_reducible refine gD 2 rfl ?_); refine boxZ 2 #[.int .i64 a0_0, .int .i64 a0_1, .int .i64 a0_2, .int .i64 a0_3, .slice A0_4 l0_4.length c0_4] 62 ?_; intro gb362 hg w36 hbox hb; have BK362 := Aside0.mk hbox; have GW362 := gw (w := w) hg; have GE362 := gw (w := w) hg; replace HB := bs (w := w) hb; clear hb hbox hg) | ((with_reducible refine gD 3 rfl ?_); refine boxZ 3 #[.int .i64 a1_0, .int .i64 a1_1, .int .i64 a1_2, .int .i64 a1_3, .slice A1_4 l1_4.length c1_4] 62 ?_; intro gb363 hg w37 hbox hb; have BK363 := Aside0.mk hbox; have GW363 := gw (w := w) hg; have GE363 := gw (w := w) hg; replace HB := bs (w := w) hb; have NB362_363 := nl BK362 hg; have NB363_362 := nr BK362 hg; replace BK362 := bv BK362 hb; clear hb hbox hg; have hnb38 := NB362_363.out; have hnc38 := NB363_362.out; obtain ⟨Z39_0, Z39_1, Z39_2, Z39_3, Z39_4, Y39_0, Y39_1, Y39_2, Y39_3, Y39_4⟩ := cf5 BK362) | ((with_reducible refine gC 55 rfl ?_); refine goesZ (some 16) rfl Try.func55 #[.agg #[.int .i64 a0_0, .int .i64 a0_1, .int .i64 a0_2, .int .i64 a0_3, .slice A0_4 l0_4.length c0_4], .int .i64 1048576] ?_; (with_reducible refine (laws_szWal.calls k a0_0 a0_1 a0_2 a0_3 _ _ l0_4 1048576 t364 _ ?side1 ?side2 A3.out).mono ?_); (case side1 => exact ca (Kd.C_below HR0_4.out HB.out)); (case side2 => exact HC0_4.out); rintro e w40 ⟨rfl, hb⟩; refine ⟨_, rfl, ?_⟩; replace BK362 := bv BK362 hb; replace BK363 := bv BK363 hb; replace HB := bs (w := w) hb; (try clear hb); obtain ⟨Z41_0, Z41_1, Z41_2, Z41_3, Z41_4, Y41_0, Y41_1, Y41_2, Y41_3, Y41_4⟩ := cf5 BK363) | ((with_reducible refine gC 55 rfl ?_); refine goesZ (some 21) rfl Try.func55 #[.agg #[.int .i64 a1_0, .int .i64 a1_1, .int .i64 a1_2, .int .i64 a1_3, .slice A1_4 l1_4.length c1_4], .int .i64 t364] ?_; (with_reducible refine (laws_szWal.calls k a1_0 a1_1 a1_2 a1_3 _ _ l1_4 t364 t365 _ ?side1 ?side2 A10.out).mono ?_); (case side1 => exact ca (Kd.C_below HR1_4.out HB.out)); (case side2 => exact HC1_4.out); rintro e w42 ⟨rfl, hb⟩; refine ⟨_, rfl, ?_⟩; replace BK362 := bv BK362 hb; replace BK363 := bv BK363 hb; replace HB := bs (w := w) hb; (try clear hb)))
      replace BK362 := Aside0.mk (blk_drew BK362.out); replace BK363 := Aside0.mk (blk_drew BK363.out); replace HB := Aside0.mk (below_drew1 HB.out)
      refine start_ (n := 6) (S := fun w' => w'.cell? ⟨gb362, 0, none⟩ = some (.int .i64 a0_0) ∧ w'.cell? ⟨gb362, 1, none⟩ = some (.int .i64 a0_1) ∧ w'.cell? ⟨gb362, 2, none⟩ = some (.int .i64 a0_2) ∧ w'.cell? ⟨gb362, 3, none⟩ = some (.int .i64 a0_3) ∧ w'.cell? ⟨gb362, 4, none⟩ = some (.slice A0_4 l0_4.length c0_4) ∧ w'.cell? ⟨gb363, 0, none⟩ = some (.int .i64 a1_0) ∧ w'.cell? ⟨gb363, 1, none⟩ = some (.int .i64 a1_1) ∧ w'.cell? ⟨gb363, 2, none⟩ = some (.int .i64 a1_2) ∧ w'.cell? ⟨gb363, 3, none⟩ = some (.int .i64 a1_3) ∧ w'.cell? ⟨gb363, 4, none⟩ = some (.slice A1_4 l1_4.length c1_4)) (ds := []) (bo 6 0) (by kernel_rfl) rfl rfl ⟨cb 0 BK362, cb 1 BK362, cb 2 BK362, cb 3 BK362, cb 4 BK362, cb 0 BK363, cb 1 BK363, cb 2 BK363, cb 3 BK363, cb 4 BK363⟩ (fun hHeld => ?_)
      generalize w42.drew = w43 at BK362 BK363 HB hHeld ⊢
      refine tV 0 24 (bo 6 1) ?_
      refine tV 2 26 (bo 6 5) ?_
      refine one_ (i := 1) (N := some 25) (bo 6 7) rfl rfl (by kernel_rfl) (by decide) (fun K hK => ?_)
      refine goes_ Try.func57 (by kernel_rfl) rfl #[.agg #[.int .i64 a0_0, .int .i64 a0_1, .int .i64 a0_2, .int .i64 a0_3, .slice A0_4 l0_4.length c0_4]] (by rfl) rfl rfl sa ?_
      with_reducible refine (laws_toWal.calls k a0_0 a0_1 a0_2 a0_3 _ _ l0_4 t366 t367 t368 t369 t370 _ ?side1 ?side2 A19.out).mono ?_
      (case side1 => exact ca (Kd.C_below HR0_4.out HB.out))
      (case side2 => exact HC0_4.out)
      rintro e w44 ⟨v371, rfl, ho0, hb⟩
      refine ⟨_, rfl, ?_⟩
      have HO372 := Aside0.mk (Kd.R_lower ho0 (below_size bl)); replace BK362 := bv BK362 hb; replace BK363 := bv BK363 hb; replace HB := bs (w := w) hb; (try clear hb hb2 hk hi ho0)
      refine hK.out _ _ ⟨cb 0 BK362, cb 1 BK362, cb 2 BK362, cb 3 BK362, cb 4 BK362, cb 0 BK363, cb 1 BK363, cb 2 BK363, cb 3 BK363, cb 4 BK363⟩ (fun hHeld => ?_)
      clear hK K
      refine norm_ (a' := ?_) ?_ ?_
      rotate_left
      ·show Act.put _ (some 25) _ = _
       simp only [Act.put, List.setIfInBounds_toArray, List.set_cons_zero, List.set_cons_succ, i64_w, i32_w]
       rfl
      refine one_ (i := 3) (N := some 27) (bo 6 15) rfl rfl (by kernel_rfl) (by decide) (fun K hK => ?_)
      refine goes_ Try.func57 (by kernel_rfl) rfl #[.agg #[.int .i64 a1_0, .int .i64 a1_1, .int .i64 a1_2, .int .i64 a1_3, .slice A1_4 l1_4.length c1_4]] (by rfl) rfl rfl sa ?_
      with_reducible refine (laws_toWal.calls k a1_0 a1_1 a1_2 a1_3 _ _ l1_4 t373 t374 t375 t376 t377 _ ?side1 ?side2 A20.out).mono ?_
      (case side1 => exact ca (Kd.C_below HR1_4.out HB.out))
      (case side2 => exact HC1_4.out)
      rintro e w45 ⟨v378, rfl, ho0, hb⟩
      refine ⟨_, rfl, ?_⟩
      have HO379 := Aside0.mk (Kd.R_lower (Kd.R_new' ho0 (Kd.R_lt (rpR HO372.out))) (below_size bl)); replace HO372 := Aside0.mk (Kd.R_elder' (rpR HO372.out) (Kd.R_base ho0) hb); replace BK362 := bv BK362 hb; replace BK363 := bv BK363 hb; replace HB := bs (w := w) hb; (try clear hb hb2 hk hi ho0)
      obtain ⟨Ao46, co46, eo46⟩ := Kd.R_slice HO372.out
      (first | subst eo46 | (injection eo46 with f1_ f2_ f3_; have f4_ := f1_.symm; have f5_ := f3_.symm; clear f1_ f2_ f3_; subst f4_; subst f5_))
      obtain ⟨Ao47, co47, eo47⟩ := Kd.R_slice HO379.out
      (first | subst eo47 | (injection eo47 with f1_ f2_ f3_; have f4_ := f1_.symm; have f5_ := f3_.symm; clear f1_ f2_ f3_; subst f4_; subst f5_))
      refine hK.out _ _ ⟨cb 0 BK362, cb 1 BK362, cb 2 BK362, cb 3 BK362, cb 4 BK362, cb 0 BK363, cb 1 BK363, cb 2 BK363, cb 3 BK363, cb 4 BK363⟩ (fun hHeld => ?_)
      clear hK K
      refine norm_ (a' := ?_) ?_ ?_
      rotate_left
      ·show Act.put _ (some 27) _ = _
       simp only [Act.put, List.setIfInBounds_toArray, List.set_cons_zero, List.set_cons_succ, i64_w, i32_w]
       rfl
      refine one_ (i := 4) (N := some 28) (bo 6 31) rfl rfl (by kernel_rfl) (by decide) (fun K hK => ?_)
      refine goes_ Try.func71 (by kernel_rfl) rfl #[.agg #[.int .i64 t366, .int .i64 t367, .int .i64 t368, .int .i64 t369, .slice Ao46 t370.length co46], .agg #[.int .i64 t373, .int .i64 t374, .int .i64 t375, .int .i64 t376, .slice Ao47 t377.length co47]] (by rfl) rfl rfl sa ?_
      with_reducible refine (spec_PlanAdd.calls k t366 t367 t368 t369 _ _ t370 t373 t374 t375 t376 _ _ t377 t380 _ ?side1 ?side2 ?side3 ?side4 A21.out).mono ?_
      (case side1 => exact ca ((Kd.R_reads' HO372.out).2.2))
      (case side2 => exact (Kd.R_reads' HO372.out).2.1)
      (case side3 => exact ca ((Kd.R_reads' HO379.out).2.2))
      (case side4 => exact (Kd.R_reads' HO379.out).2.1)
      rintro e w48 ⟨v381, rfl, ho0, hb⟩
      refine ⟨_, rfl, ?_⟩
      replace HO372 := Aside0.mk (Kd.R_below (rpR HO372.out) hb); replace HO379 := Aside0.mk (Kd.R_below (rpR HO379.out) hb); have HO382 := Aside0.mk (Kd.R_lower ho0 (below_size bl)); replace BK362 := bv BK362 hb; replace BK363 := bv BK363 hb; replace HB := bs (w := w) hb; (try clear hb hb2 hk hi ho0)
      refine hK.out _ _ ⟨cb 0 BK362, cb 1 BK362, cb 2 BK362, cb 3 BK362, cb 4 BK362, cb 0 BK363, cb 1 BK363, cb 2 BK363, cb 3 BK363, cb 4 BK363⟩ (fun hHeld => ?_)
      clear hK K
      refine norm_ (a' := ?_) ?_ ?_
      rotate_left
      ·show Act.put _ (some 28) _ = _
       simp only [Act.put, List.setIfInBounds_toArray, List.set_cons_zero, List.set_cons_succ, i64_w, i32_w]
       rfl
      refine pV 5 6 (bo 6 63) ?_
      refine done_ (by kernel_rfl) ?_
      obtain ⟨Z49_0, Z49_1, Z49_2, Z49_3, Z49_4, Y49_0, Y49_1, Y49_2, Y49_3, Y49_4⟩ := cf5 BK362
      try go_wp2_with (first | ((with_reducible refine gC 57 rfl ?_); refine goesZ (some 30) rfl Try.func57 #[.agg #[.int .i64 a0_0, .int .i64 a0_1, .int .i64 a0_2, .int .i64 a0_3, .slice A0_4 l0_4.length c0_4]] ?_; (with_reducible refine (laws_toWal.calls k a0_0 a0_1 a0_2 a0_3 _ _ l0_4 t383 t384 t385 t386 t387 _ ?side1 ?side2 A22.out).mono ?_); (case side1 => exact ca (Kd.C_below HR0_4.out HB.out)); (case side2 => exact HC0_4.out); rintro e w50 ⟨v388, rfl, ho0, hb⟩; refine ⟨_, rfl, ?_⟩; replace HO382 := Aside0.mk (Kd.R_below (rpR HO382.out) hb); have HO389 := Aside0.mk (Kd.R_lower (Kd.R_new' (Kd.R_new' ho0 (Kd.R_lt (rpR HO372.out))) (Kd.R_lt (rpR HO379.out))) (below_size bl)); replace HO372 := Aside0.mk (Kd.R_elder' (rpR HO372.out) (Kd.R_base ho0) hb); replace HO379 := Aside0.mk (Kd.R_elder' (rpR HO379.out) (Kd.R_base ho0) hb); replace BK362 := bv BK362 hb; replace BK363 := bv BK363 hb; replace HB := bs (w := w) hb; (try clear hb ho0)) | ((with_reducible refine gD 7 rfl ?_); refine boxZ 7 #[.int .i64 0, .int .i64 0, .int .i64 0, .int .i64 0, .slice none 0 0] 67 ?_; intro gb390 hg w51 hbox hb; replace HO372 := Aside0.mk (Kd.R_below (rpR HO372.out) hb); replace HO379 := Aside0.mk (Kd.R_below (rpR HO379.out) hb); replace HO382 := Aside0.mk (Kd.R_below (rpR HO382.out) hb); replace HO389 := Aside0.mk (Kd.R_below (rpR HO389.out) hb); have BK390 := Aside0.mk hbox; have GW390 := gw (w := w) hg; have GE390 := gw (w := w) hg; replace HB := bs (w := w) hb; have NB362_390 := nl BK362 hg; have NB390_362 := nr BK362 hg; replace BK362 := bv BK362 hb; have NB363_390 := nl BK363 hg; have NB390_363 := nr BK363 hg; replace BK363 := bv BK363 hb; clear hb hbox hg; have hnb52 := NB390_362.out; have hnc52 := NB362_390.out; have hnb53 := NB390_363.out; have hnc53 := NB363_390.out; obtain ⟨Z54_0, Z54_1, Z54_2, Z54_3, Z54_4, Y54_0, Y54_1, Y54_2, Y54_3, Y54_4⟩ := cf5 BK390; obtain ⟨Ao55, co55, rfl⟩ := Kd.R_slice HO389.out; obtain ⟨Z56_0, Z56_1, Z56_2, Z56_3, Z56_4, Y56_0, Y56_1, Y56_2, Y56_3, Y56_4⟩ := cf5 BK363) | ((with_reducible refine gC 57 rfl ?_); refine goesZ (some 32) rfl Try.func57 #[.agg #[.int .i64 a1_0, .int .i64 a1_1, .int .i64 a1_2, .int .i64 a1_3, .slice A1_4 l1_4.length c1_4]] ?_; (with_reducible refine (laws_toWal.calls k a1_0 a1_1 a1_2 a1_3 _ _ l1_4 t391 t392 t393 t394 t395 _ ?side1 ?side2 A23.out).mono ?_); (case side1 => exact Kd.C_below HR1_4.out bl); (case side2 => exact HC1_4.out); rintro e w57 ⟨v396, rfl, ho0, hb⟩; refine ⟨_, rfl, ?_⟩; replace HO382 := Aside0.mk (Kd.R_below (rpR (Kd.R_mono (Kd.R_far (p := ⟨gb390, 4, none⟩) (Kd.R_far (p := ⟨gb390, 3, none⟩) (Kd.R_far (p := ⟨gb390, 2, none⟩) (Kd.R_far (p := ⟨gb390, 1, none⟩) (Kd.R_far (p := ⟨gb390, 0, none⟩) (Kd.R_types HO382.out BK390.out (by decide)) (fun _ hk => hk.2) (.int .i64 t383)) (fun _ hk => hk.2) (.int .i64 t384)) (fun _ hk => hk.2) (.int .i64 t385)) (fun _ hk => hk.2) (.int .i64 t386)) (fun _ hk => hk.2) (.slice Ao55 t387.length co55)) (fun _ h_ => h_.1))) hb); have HO397 := Aside0.mk (Kd.R_lower (Kd.R_new' (Kd.R_new' (Kd.R_new' ho0 (Kd.R_lt (rpR (Kd.R_mono (Kd.R_far (p := ⟨gb390, 4, none⟩) (Kd.R_far (p := ⟨gb390, 3, none⟩) (Kd.R_far (p := ⟨gb390, 2, none⟩) (Kd.R_far (p := ⟨gb390, 1, none⟩) (Kd.R_far (p := ⟨gb390, 0, none⟩) (Kd.R_types HO372.out BK390.out (by decide)) (fun _ hk => hk.2) (.int .i64 t383)) (fun _ hk => hk.2) (.int .i64 t384)) (fun _ hk => hk.2) (.int .i64 t385)) (fun _ hk => hk.2) (.int .i64 t386)) (fun _ hk => hk.2) (.slice Ao55 t387.length co55)) (fun _ h_ => h_.1))))) (Kd.R_lt (rpR (Kd.R_mono (Kd.R_far (p := ⟨gb390, 4, none⟩) (Kd.R_far (p := ⟨gb390, 3, none⟩) (Kd.R_far (p := ⟨gb390, 2, none⟩) (Kd.R_far (p := ⟨gb390, 1, none⟩) (Kd.R_far (p := ⟨gb390, 0, none⟩) (Kd.R_types HO379.out BK390.out (by decide)) (fun _ hk => hk.2) (.int .i64 t383)) (fun _ hk => hk.2) (.int .i64 t384)) (fun _ hk => hk.2) (.int .i64 t385)) (fun _ hk => hk.2) (.int .i64 t386)) (fun _ hk => hk.2) (.slice Ao55 t387.length co55)) (fun _ h_ => h_.1))))) (Kd.R_lt (rpR (Kd.R_mono (Kd.R_far (p := ⟨gb390, 4, none⟩) (Kd.R_far (p := ⟨gb390, 3, none⟩) (Kd.R_far (p := ⟨gb390, 2, none⟩) (Kd.R_far (p := ⟨gb390, 1, none⟩) (Kd.R_far (p := ⟨gb390, 0, none⟩) (Kd.R_types HO389.out BK390.out (by decide)) (fun _ hk => hk.2) (.int .i64 t383)) (fun _ hk => hk.2) (.int .i64 t384)) (fun _ hk => hk.2) (.int .i64 t385)) (fun _ hk => hk.2) (.int .i64 t386)) (fun _ hk => hk.2) (.slice Ao55 t387.length co55)) (fun _ h_ => h_.1))))) (below_size bl)); replace HO372 := Aside0.mk (Kd.R_elder' (rpR (Kd.R_mono (Kd.R_far (p := ⟨gb390, 4, none⟩) (Kd.R_far (p := ⟨gb390, 3, none⟩) (Kd.R_far (p := ⟨gb390, 2, none⟩) (Kd.R_far (p := ⟨gb390, 1, none⟩) (Kd.R_far (p := ⟨gb390, 0, none⟩) (Kd.R_types HO372.out BK390.out (by decide)) (fun _ hk => hk.2) (.int .i64 t383)) (fun _ hk => hk.2) (.int .i64 t384)) (fun _ hk => hk.2) (.int .i64 t385)) (fun _ hk => hk.2) (.int .i64 t386)) (fun _ hk => hk.2) (.slice Ao55 t387.length co55)) (fun _ h_ => h_.1))) (Kd.R_base ho0) hb); replace HO379 := Aside0.mk (Kd.R_elder' (rpR (Kd.R_mono (Kd.R_far (p := ⟨gb390, 4, none⟩) (Kd.R_far (p := ⟨gb390, 3, none⟩) (Kd.R_far (p := ⟨gb390, 2, none⟩) (Kd.R_far (p := ⟨gb390, 1, none⟩) (Kd.R_far (p := ⟨gb390, 0, none⟩) (Kd.R_types HO379.out BK390.out (by decide)) (fun _ hk => hk.2) (.int .i64 t383)) (fun _ hk => hk.2) (.int .i64 t384)) (fun _ hk => hk.2) (.int .i64 t385)) (fun _ hk => hk.2) (.int .i64 t386)) (fun _ hk => hk.2) (.slice Ao55 t387.length co55)) (fun _ h_ => h_.1))) (Kd.R_base ho0) hb); replace HO389 := Aside0.mk (Kd.R_elder' (rpR (Kd.R_mono (Kd.R_far (p := ⟨gb390, 4, none⟩) (Kd.R_far (p := ⟨gb390, 3, none⟩) (Kd.R_far (p := ⟨gb390, 2, none⟩) (Kd.R_far (p := ⟨gb390, 1, none⟩) (Kd.R_far (p := ⟨gb390, 0, none⟩) (Kd.R_types HO389.out BK390.out (by decide)) (fun _ hk => hk.2) (.int .i64 t383)) (fun _ hk => hk.2) (.int .i64 t384)) (fun _ hk => hk.2) (.int .i64 t385)) (fun _ hk => hk.2) (.int .i64 t386)) (fun _ hk => hk.2) (.slice Ao55 t387.length co55)) (fun _ h_ => h_.1))) (Kd.R_base ho0) hb); replace BK362 := Aside0.mk (blk_below (g := gb362) (o := .cells #[.int .i64 a0_0, .int .i64 a0_1, .int .i64 a0_2, .int .i64 a0_3, .slice A0_4 l0_4.length c0_4] 62 (0, 0)) bkk hb); replace BK363 := Aside0.mk (blk_below (g := gb363) (o := .cells #[.int .i64 a1_0, .int .i64 a1_1, .int .i64 a1_2, .int .i64 a1_3, .slice A1_4 l1_4.length c1_4] 62 (0, 0)) bkk hb); replace BK390 := Aside0.mk (blk_below (g := gb390) (o := .cells #[.int .i64 t383, .int .i64 t384, .int .i64 t385, .int .i64 t386, .slice Ao55 t387.length co55] 67 (0, 0)) bkk hb); replace HB := bs (w := w) hb; (try clear hb ho0)) | ((with_reducible refine gD 8 rfl ?_); refine boxZ 8 #[.int .i64 0, .int .i64 0, .int .i64 0, .int .i64 0, .slice none 0 0] 67 ?_; intro gb398 hg w58 hbox hb; replace HO372 := Aside0.mk (Kd.R_below (rpR HO372.out) hb); replace HO379 := Aside0.mk (Kd.R_below (rpR HO379.out) hb); replace HO382 := Aside0.mk (Kd.R_below (rpR HO382.out) hb); replace HO389 := Aside0.mk (Kd.R_below (rpR HO389.out) hb); replace HO397 := Aside0.mk (Kd.R_below (rpR HO397.out) hb); have BK398 := Aside0.mk hbox; have GW398 := gw (w := w) hg; have GE398 := gw (w := w) hg; replace HB := bs (w := w) hb; have NB362_398 := nl BK362 hg; have NB398_362 := nr BK362 hg; replace BK362 := bv BK362 hb; have NB363_398 := nl BK363 hg; have NB398_363 := nr BK363 hg; replace BK363 := bv BK363 hb; have NB390_398 := nl BK390 hg; have NB398_390 := nr BK390 hg; replace BK390 := bv BK390 hb; clear hb hbox hg; have hnb59 := NB398_362.out; have hnc59 := NB362_398.out; have hnb60 := NB398_363.out; have hnc60 := NB363_398.out; have hnb61 := NB398_390.out; have hnc61 := NB390_398.out; obtain ⟨Z62_0, Z62_1, Z62_2, Z62_3, Z62_4, Y62_0, Y62_1, Y62_2, Y62_3, Y62_4⟩ := cf5 BK398; obtain ⟨Ao63, co63, rfl⟩ := Kd.R_slice HO397.out; obtain ⟨Z64_0, Z64_1, Z64_2, Z64_3, Z64_4, Y64_0, Y64_1, Y64_2, Y64_3, Y64_4⟩ := cf5 BK390) | ((with_reducible refine gC 72 rfl ?_); refine goesZ (some 35) rfl Try.func72 #[.agg #[.int .i64 t383, .int .i64 t384, .int .i64 t385, .int .i64 t386, .slice Ao55 t387.length co55], .agg #[.int .i64 t391, .int .i64 t392, .int .i64 t393, .int .i64 t394, .slice Ao63 t395.length co63]] ?_; (with_reducible refine (impl_PlanAdd.calls k t383 t384 t385 t386 _ _ t387 t391 t392 t393 t394 _ _ t395 t399 _ ?side1 ?side2 ?side3 ?side4 A24.out).mono ?_); (case side1 => refine (Kd.R_reads' (e := 117) (base := w.heap.size) (ok := fun k_ => (((True ∧ some k_ ≠ (.slice Ao46 t370.length co46 : Value).ownBlock) ∧ some k_ ≠ (.slice Ao47 t377.length co47 : Value).ownBlock) ∧ some k_ ≠ (.slice Ao63 t395.length co63 : Value).ownBlock)) (n := t387.length) (c := co55) ?_).2.2; exact (rpR (Kd.R_mono (Kd.R_far (p := ⟨gb398, 4, none⟩) (Kd.R_far (p := ⟨gb398, 3, none⟩) (Kd.R_far (p := ⟨gb398, 2, none⟩) (Kd.R_far (p := ⟨gb398, 1, none⟩) (Kd.R_far (p := ⟨gb398, 0, none⟩) (Kd.R_types HO389.out BK398.out (by decide)) (fun _ hk => hk.2) (.int .i64 t391)) (fun _ hk => hk.2) (.int .i64 t392)) (fun _ hk => hk.2) (.int .i64 t393)) (fun _ hk => hk.2) (.int .i64 t394)) (fun _ hk => hk.2) (.slice Ao63 t395.length co63)) (fun _ h_ => h_.1)))); (case side2 => exact (Kd.R_reads' HO389.out).2.1); (case side3 => refine (Kd.R_reads' (e := 117) (base := w.heap.size) (ok := fun k_ => (((True ∧ some k_ ≠ (.slice Ao46 t370.length co46 : Value).ownBlock) ∧ some k_ ≠ (.slice Ao47 t377.length co47 : Value).ownBlock) ∧ some k_ ≠ (.slice Ao55 t387.length co55 : Value).ownBlock)) (n := t395.length) (c := co63) ?_).2.2; exact (rpR (Kd.R_mono (Kd.R_far (p := ⟨gb398, 4, none⟩) (Kd.R_far (p := ⟨gb398, 3, none⟩) (Kd.R_far (p := ⟨gb398, 2, none⟩) (Kd.R_far (p := ⟨gb398, 1, none⟩) (Kd.R_far (p := ⟨gb398, 0, none⟩) (Kd.R_types HO397.out BK398.out (by decide)) (fun _ hk => hk.2) (.int .i64 t391)) (fun _ hk => hk.2) (.int .i64 t392)) (fun _ hk => hk.2) (.int .i64 t393)) (fun _ hk => hk.2) (.int .i64 t394)) (fun _ hk => hk.2) (.slice Ao63 t395.length co63)) (fun _ h_ => h_.1)))); (case side4 => exact (Kd.R_reads' HO397.out).2.1); rintro e w65 ⟨v400, rfl, ho0, hb⟩; refine ⟨_, rfl, ?_⟩; replace HO372 := Aside0.mk (Kd.R_below (rpR (Kd.R_mono (Kd.R_far (p := ⟨gb398, 4, none⟩) (Kd.R_far (p := ⟨gb398, 3, none⟩) (Kd.R_far (p := ⟨gb398, 2, none⟩) (Kd.R_far (p := ⟨gb398, 1, none⟩) (Kd.R_far (p := ⟨gb398, 0, none⟩) (Kd.R_types HO372.out BK398.out (by decide)) (fun _ hk => hk.2) (.int .i64 t391)) (fun _ hk => hk.2) (.int .i64 t392)) (fun _ hk => hk.2) (.int .i64 t393)) (fun _ hk => hk.2) (.int .i64 t394)) (fun _ hk => hk.2) (.slice Ao63 t395.length co63)) (fun _ h_ => h_.1))) hb); replace HO379 := Aside0.mk (Kd.R_below (rpR (Kd.R_mono (Kd.R_far (p := ⟨gb398, 4, none⟩) (Kd.R_far (p := ⟨gb398, 3, none⟩) (Kd.R_far (p := ⟨gb398, 2, none⟩) (Kd.R_far (p := ⟨gb398, 1, none⟩) (Kd.R_far (p := ⟨gb398, 0, none⟩) (Kd.R_types HO379.out BK398.out (by decide)) (fun _ hk => hk.2) (.int .i64 t391)) (fun _ hk => hk.2) (.int .i64 t392)) (fun _ hk => hk.2) (.int .i64 t393)) (fun _ hk => hk.2) (.int .i64 t394)) (fun _ hk => hk.2) (.slice Ao63 t395.length co63)) (fun _ h_ => h_.1))) hb); replace HO389 := Aside0.mk (Kd.R_below (rpR (Kd.R_mono (Kd.R_far (p := ⟨gb398, 4, none⟩) (Kd.R_far (p := ⟨gb398, 3, none⟩) (Kd.R_far (p := ⟨gb398, 2, none⟩) (Kd.R_far (p := ⟨gb398, 1, none⟩) (Kd.R_far (p := ⟨gb398, 0, none⟩) (Kd.R_types HO389.out BK398.out (by decide)) (fun _ hk => hk.2) (.int .i64 t391)) (fun _ hk => hk.2) (.int .i64 t392)) (fun _ hk => hk.2) (.int .i64 t393)) (fun _ hk => hk.2) (.int .i64 t394)) (fun _ hk => hk.2) (.slice Ao63 t395.length co63)) (fun _ h_ => h_.1))) hb); replace HO397 := Aside0.mk (Kd.R_below (rpR (Kd.R_mono (Kd.R_far (p := ⟨gb398, 4, none⟩) (Kd.R_far (p := ⟨gb398, 3, none⟩) (Kd.R_far (p := ⟨gb398, 2, none⟩) (Kd.R_far (p := ⟨gb398, 1, none⟩) (Kd.R_far (p := ⟨gb398, 0, none⟩) (Kd.R_types HO397.out BK398.out (by decide)) (fun _ hk => hk.2) (.int .i64 t391)) (fun _ hk => hk.2) (.int .i64 t392)) (fun _ hk => hk.2) (.int .i64 t393)) (fun _ hk => hk.2) (.int .i64 t394)) (fun _ hk => hk.2) (.slice Ao63 t395.length co63)) (fun _ h_ => h_.1))) hb); have HO401 := Aside0.mk (Kd.R_lower (Kd.R_new' ho0 (Kd.R_lt (rpR (Kd.R_mono (Kd.R_far (p := ⟨gb398, 4, none⟩) (Kd.R_far (p := ⟨gb398, 3, none⟩) (Kd.R_far (p := ⟨gb398, 2, none⟩) (Kd.R_far (p := ⟨gb398, 1, none⟩) (Kd.R_far (p := ⟨gb398, 0, none⟩) (Kd.R_types HO382.out BK398.out (by decide)) (fun _ hk => hk.2) (.int .i64 t391)) (fun _ hk => hk.2) (.int .i64 t392)) (fun _ hk => hk.2) (.int .i64 t393)) (fun _ hk => hk.2) (.int .i64 t394)) (fun _ hk => hk.2) (.slice Ao63 t395.length co63)) (fun _ h_ => h_.1))))) (below_size bl)); replace HO382 := Aside0.mk (Kd.R_elder' (rpR (Kd.R_mono (Kd.R_far (p := ⟨gb398, 4, none⟩) (Kd.R_far (p := ⟨gb398, 3, none⟩) (Kd.R_far (p := ⟨gb398, 2, none⟩) (Kd.R_far (p := ⟨gb398, 1, none⟩) (Kd.R_far (p := ⟨gb398, 0, none⟩) (Kd.R_types HO382.out BK398.out (by decide)) (fun _ hk => hk.2) (.int .i64 t391)) (fun _ hk => hk.2) (.int .i64 t392)) (fun _ hk => hk.2) (.int .i64 t393)) (fun _ hk => hk.2) (.int .i64 t394)) (fun _ hk => hk.2) (.slice Ao63 t395.length co63)) (fun _ h_ => h_.1))) (Kd.R_base ho0) hb); replace BK362 := Aside0.mk (blk_below (g := gb362) (o := .cells #[.int .i64 a0_0, .int .i64 a0_1, .int .i64 a0_2, .int .i64 a0_3, .slice A0_4 l0_4.length c0_4] 62 (0, 0)) bkk hb); replace BK363 := Aside0.mk (blk_below (g := gb363) (o := .cells #[.int .i64 a1_0, .int .i64 a1_1, .int .i64 a1_2, .int .i64 a1_3, .slice A1_4 l1_4.length c1_4] 62 (0, 0)) bkk hb); replace BK390 := Aside0.mk (blk_below (g := gb390) (o := .cells #[.int .i64 t383, .int .i64 t384, .int .i64 t385, .int .i64 t386, .slice Ao55 t387.length co55] 67 (0, 0)) bkk hb); replace BK398 := Aside0.mk (blk_below (g := gb398) (o := .cells #[.int .i64 t391, .int .i64 t392, .int .i64 t393, .int .i64 t394, .slice Ao63 t395.length co63] 67 (0, 0)) bkk hb); replace HB := bs (w := w) hb; (try clear hb ho0); obtain ⟨Ao66, co66, rfl⟩ := Kd.R_slice HO401.out; obtain ⟨Ao67, co67, rfl⟩ := Kd.R_slice HO382.out) | ((with_reducible refine gC 73 rfl ?_); refine goesZ (some 38) rfl Try.func73 #[.slice Ao66 t399.length co66, .slice Ao67 t380.length co67] ?_; (with_reducible refine (laws_eqStepS.calls k _ _ t399 _ _ t380 true _ ?side1 ?side2 ?side3 ?side4 A25.out).mono ?_); (case side1 => exact ca ((Kd.R_reads' HO401.out).2.2)); (case side2 => exact (Kd.R_reads' HO401.out).2.1); (case side3 => exact ca ((Kd.R_reads' HO382.out).2.2)); (case side4 => exact (Kd.R_reads' HO382.out).2.1); rintro e w68 ⟨rfl, hb⟩; refine ⟨_, rfl, ?_⟩; replace HO372 := Aside0.mk (Kd.R_below (rpR HO372.out) hb); replace HO379 := Aside0.mk (Kd.R_below (rpR HO379.out) hb); replace HO382 := Aside0.mk (Kd.R_below (rpR HO382.out) hb); replace HO389 := Aside0.mk (Kd.R_below (rpR HO389.out) hb); replace HO397 := Aside0.mk (Kd.R_below (rpR HO397.out) hb); replace HO401 := Aside0.mk (Kd.R_below (rpR HO401.out) hb); replace BK362 := bv BK362 hb; replace BK363 := bv BK363 hb; replace BK390 := bv BK390 hb; replace BK398 := bv BK398 hb; replace HB := bs (w := w) hb; (try clear hb)))
      replace HO372 := Aside0.mk (Kd.R_drew HO372.out); replace HO379 := Aside0.mk (Kd.R_drew HO379.out); replace HO382 := Aside0.mk (Kd.R_drew HO382.out); replace HO389 := Aside0.mk (Kd.R_drew HO389.out); replace HO397 := Aside0.mk (Kd.R_drew HO397.out); replace HO401 := Aside0.mk (Kd.R_drew HO401.out); replace BK362 := Aside0.mk (blk_drew BK362.out); replace BK363 := Aside0.mk (blk_drew BK363.out); replace BK390 := Aside0.mk (blk_drew BK390.out); replace BK398 := Aside0.mk (blk_drew BK398.out); replace HB := Aside0.mk (below_drew1 HB.out)
      refine start_ (n := 5) (S := fun w' => w'.cell? ⟨gb390, 0, none⟩ = some (.int .i64 t383) ∧ w'.cell? ⟨gb390, 1, none⟩ = some (.int .i64 t384) ∧ w'.cell? ⟨gb390, 2, none⟩ = some (.int .i64 t385) ∧ w'.cell? ⟨gb390, 3, none⟩ = some (.int .i64 t386) ∧ w'.cell? ⟨gb390, 4, none⟩ = some (.slice Ao55 t387.length co55) ∧ w'.cell? ⟨gb362, 0, none⟩ = some (.int .i64 a0_0) ∧ w'.cell? ⟨gb362, 1, none⟩ = some (.int .i64 a0_1) ∧ w'.cell? ⟨gb362, 2, none⟩ = some (.int .i64 a0_2) ∧ w'.cell? ⟨gb362, 3, none⟩ = some (.int .i64 a0_3) ∧ w'.cell? ⟨gb362, 4, none⟩ = some (.slice A0_4 l0_4.length c0_4)) (ds := []) #[false, false, false, false, false] (by kernel_rfl) rfl rfl ⟨cb 0 BK390, cb 1 BK390, cb 2 BK390, cb 3 BK390, cb 4 BK390, cb 0 BK362, cb 1 BK362, cb 2 BK362, cb 3 BK362, cb 4 BK362⟩ (fun hHeld => ?_)
      generalize w68.drew = w69 at HO372 HO379 HO382 HO389 HO397 HO401 BK362 BK363 BK390 BK398 HB hHeld ⊢
      refine tV 0 40 #[true, false, false, false, false] ?_
      refine tV 1 41 #[true, true, false, false, false] ?_
      refine one_ (i := 2) (N := some 42) #[true, true, true, false, false] rfl rfl (by kernel_rfl) (by decide) (fun K hK => ?_)
      refine goes_ Try.func57 (by kernel_rfl) rfl #[.agg #[.int .i64 a0_0, .int .i64 a0_1, .int .i64 a0_2, .int .i64 a0_3, .slice A0_4 l0_4.length c0_4]] (by rfl) rfl rfl sa ?_
      with_reducible refine (laws_toWal.calls k a0_0 a0_1 a0_2 a0_3 _ _ l0_4 t403 t404 t405 t406 t407 _ ?side1 ?side2 A27.out).mono ?_
      (case side1 => exact ca (Kd.C_below HR0_4.out HB.out))
      (case side2 => exact HC0_4.out)
      rintro e w70 ⟨v408, rfl, ho0, hb⟩
      refine ⟨_, rfl, ?_⟩
      replace HO382 := Aside0.mk (Kd.R_below (rpR HO382.out) hb); replace HO401 := Aside0.mk (Kd.R_below (rpR HO401.out) hb); have HO409 := Aside0.mk (Kd.R_lower (Kd.R_new' (Kd.R_new' (Kd.R_new' (Kd.R_new' ho0 (Kd.R_lt (rpR HO372.out))) (Kd.R_lt (rpR HO379.out))) (Kd.R_lt (rpR HO389.out))) (Kd.R_lt (rpR HO397.out))) (below_size bl)); replace HO372 := Aside0.mk (Kd.R_elder' (rpR HO372.out) (Kd.R_base ho0) hb); replace HO379 := Aside0.mk (Kd.R_elder' (rpR HO379.out) (Kd.R_base ho0) hb); replace HO389 := Aside0.mk (Kd.R_elder' (rpR HO389.out) (Kd.R_base ho0) hb); replace HO397 := Aside0.mk (Kd.R_elder' (rpR HO397.out) (Kd.R_base ho0) hb); replace BK362 := bv BK362 hb; replace BK363 := bv BK363 hb; replace BK390 := bv BK390 hb; replace BK398 := bv BK398 hb; replace HB := bs (w := w) hb; (try clear hb hb2 hk hi ho0)
      obtain ⟨Ao71, co71, eo71⟩ := Kd.R_slice HO409.out
      (first | subst eo71 | (injection eo71 with f1_ f2_ f3_; have f4_ := f1_.symm; have f5_ := f3_.symm; clear f1_ f2_ f3_; subst f4_; subst f5_))
      refine hK.out _ _ ⟨cb 0 BK390, cb 1 BK390, cb 2 BK390, cb 3 BK390, cb 4 BK390, cb 0 BK362, cb 1 BK362, cb 2 BK362, cb 3 BK362, cb 4 BK362⟩ (fun hHeld => ?_)
      clear hK K
      refine norm_ (a' := ?_) ?_ ?_
      rotate_left
      ·show Act.put _ (some 42) _ = _
       simp only [Act.put, List.setIfInBounds_toArray, List.set_cons_zero, List.set_cons_succ, i64_w, i32_w]
       rfl
      refine one_ (i := 3) (N := some 43) #[true, true, true, true, false] rfl rfl (by kernel_rfl) (by decide) (fun K hK => ?_)
      refine goes_ Try.func59 (by kernel_rfl) rfl #[.agg #[.int .i64 t383, .int .i64 t384, .int .i64 t385, .int .i64 t386, .slice Ao55 t387.length co55], .agg #[.int .i64 t403, .int .i64 t404, .int .i64 t405, .int .i64 t406, .slice Ao71 t407.length co71]] (by rfl) rfl rfl sa ?_
      with_reducible refine (laws_eqWal.calls k t383 t384 t385 t386 _ _ t387 t403 t404 t405 t406 _ _ t407 true _ ?side1 ?side2 ?side3 ?side4 A28.out).mono ?_
      (case side1 => exact ca ((Kd.R_reads' HO389.out).2.2))
      (case side2 => exact (Kd.R_reads' HO389.out).2.1)
      (case side3 => exact ca ((Kd.R_reads' HO409.out).2.2))
      (case side4 => exact (Kd.R_reads' HO409.out).2.1)
      rintro e w72 ⟨rfl, hb⟩
      refine ⟨_, rfl, ?_⟩
      replace HO372 := Aside0.mk (Kd.R_below (rpR HO372.out) hb); replace HO379 := Aside0.mk (Kd.R_below (rpR HO379.out) hb); replace HO382 := Aside0.mk (Kd.R_below (rpR HO382.out) hb); replace HO389 := Aside0.mk (Kd.R_below (rpR HO389.out) hb); replace HO397 := Aside0.mk (Kd.R_below (rpR HO397.out) hb); replace HO401 := Aside0.mk (Kd.R_below (rpR HO401.out) hb); replace HO409 := Aside0.mk (Kd.R_below (rpR HO409.out) hb); replace BK362 := bv BK362 hb; replace BK363 := bv BK363 hb; replace BK390 := bv BK390 hb; replace BK398 := bv BK398 hb; replace HB := bs (w := w) hb; (try clear hb hb2 hk hi)
      refine hK.out _ _ ⟨cb 0 BK390, cb 1 BK390, cb 2 BK390, cb 3 BK390, cb 4 BK390, cb 0 BK362, cb 1 BK362, cb 2 BK362, cb 3 BK362, cb 4 BK362⟩ (fun hHeld => ?_)
      clear hK K
      refine norm_ (a' := ?_) ?_ ?_
      rotate_left
      ·show Act.put _ (some 43) _ = _
       simp only [Act.put, List.setIfInBounds_toArray, List.set_cons_zero, List.set_cons_succ, i64_w, i32_w]
       rfl
      refine pV 4 44 #[true, true, true, true, true] ?_
      refine done_ (by kernel_rfl) ?_
      try go_wp2
      replace HO372 := Aside0.mk (Kd.R_drew HO372.out); replace HO379 := Aside0.mk (Kd.R_drew HO379.out); replace HO382 := Aside0.mk (Kd.R_drew HO382.out); replace HO389 := Aside0.mk (Kd.R_drew HO389.out); replace HO397 := Aside0.mk (Kd.R_drew HO397.out); replace HO401 := Aside0.mk (Kd.R_drew HO401.out); replace HO409 := Aside0.mk (Kd.R_drew HO409.out); replace BK362 := Aside0.mk (blk_drew BK362.out); replace BK363 := Aside0.mk (blk_drew BK363.out); replace BK390 := Aside0.mk (blk_drew BK390.out); replace BK398 := Aside0.mk (blk_drew BK398.out); replace HB := Aside0.mk (below_drew1 HB.out)
      refine start_ (n := 5) (S := fun w' => w'.cell? ⟨gb398, 0, none⟩ = some (.int .i64 t391) ∧ w'.cell? ⟨gb398, 1, none⟩ = some (.int .i64 t392) ∧ w'.cell? ⟨gb398, 2, none⟩ = some (.int .i64 t393) ∧ w'.cell? ⟨gb398, 3, none⟩ = some (.int .i64 t394) ∧ w'.cell? ⟨gb398, 4, none⟩ = some (.slice Ao63 t395.length co63) ∧ w'.cell? ⟨gb363, 0, none⟩ = some (.int .i64 a1_0) ∧ w'.cell? ⟨gb363, 1, none⟩ = some (.int .i64 a1_1) ∧ w'.cell? ⟨gb363, 2, none⟩ = some (.int .i64 a1_2) ∧ w'.cell? ⟨gb363, 3, none⟩ = some (.int .i64 a1_3) ∧ w'.cell? ⟨gb363, 4, none⟩ = some (.slice A1_4 l1_4.length c1_4)) (ds := []) #[false, false, false, false, false] (by kernel_rfl) rfl rfl ⟨cb 0 BK398, cb 1 BK398, cb 2 BK398, cb 3 BK398, cb 4 BK398, cb 0 BK363, cb 1 BK363, cb 2 BK363, cb 3 BK363, cb 4 BK363⟩ (fun hHeld => ?_)
      generalize w72.drew = w73 at HO372 HO379 HO382 HO389 HO397 HO401 HO409 BK362 BK363 BK390 BK398 HB hHeld ⊢
      refine tV 0 45 #[true, false, false, false, false] ?_
      refine tV 1 46 #[true, true, false, false, false] ?_
      refine one_ (i := 2) (N := some 47) #[true, true, true, false, false] rfl rfl (by kernel_rfl) (by decide) (fun K hK => ?_)
      refine goes_ Try.func57 (by kernel_rfl) rfl #[.agg #[.int .i64 a1_0, .int .i64 a1_1, .int .i64 a1_2, .int .i64 a1_3, .slice A1_4 l1_4.length c1_4]] (by rfl) rfl rfl sa ?_
      with_reducible refine (laws_toWal.calls k a1_0 a1_1 a1_2 a1_3 _ _ l1_4 t411 t412 t413 t414 t415 _ ?side1 ?side2 A30.out).mono ?_
      (case side1 => exact ca (Kd.C_below HR1_4.out HB.out))
      (case side2 => exact HC1_4.out)
      rintro e w74 ⟨v416, rfl, ho0, hb⟩
      refine ⟨_, rfl, ?_⟩
      replace HO382 := Aside0.mk (Kd.R_below (rpR HO382.out) hb); replace HO401 := Aside0.mk (Kd.R_below (rpR HO401.out) hb); have HO417 := Aside0.mk (Kd.R_lower (Kd.R_new' (Kd.R_new' (Kd.R_new' (Kd.R_new' (Kd.R_new' ho0 (Kd.R_lt (rpR HO372.out))) (Kd.R_lt (rpR HO379.out))) (Kd.R_lt (rpR HO389.out))) (Kd.R_lt (rpR HO397.out))) (Kd.R_lt (rpR HO409.out))) (below_size bl)); replace HO372 := Aside0.mk (Kd.R_elder' (rpR HO372.out) (Kd.R_base ho0) hb); replace HO379 := Aside0.mk (Kd.R_elder' (rpR HO379.out) (Kd.R_base ho0) hb); replace HO389 := Aside0.mk (Kd.R_elder' (rpR HO389.out) (Kd.R_base ho0) hb); replace HO397 := Aside0.mk (Kd.R_elder' (rpR HO397.out) (Kd.R_base ho0) hb); replace HO409 := Aside0.mk (Kd.R_elder' (rpR HO409.out) (Kd.R_base ho0) hb); replace BK362 := bv BK362 hb; replace BK363 := bv BK363 hb; replace BK390 := bv BK390 hb; replace BK398 := bv BK398 hb; replace HB := bs (w := w) hb; (try clear hb hb2 hk hi ho0)
      obtain ⟨Ao75, co75, eo75⟩ := Kd.R_slice HO417.out
      (first | subst eo75 | (injection eo75 with f1_ f2_ f3_; have f4_ := f1_.symm; have f5_ := f3_.symm; clear f1_ f2_ f3_; subst f4_; subst f5_))
      refine hK.out _ _ ⟨cb 0 BK398, cb 1 BK398, cb 2 BK398, cb 3 BK398, cb 4 BK398, cb 0 BK363, cb 1 BK363, cb 2 BK363, cb 3 BK363, cb 4 BK363⟩ (fun hHeld => ?_)
      clear hK K
      refine norm_ (a' := ?_) ?_ ?_
      rotate_left
      ·show Act.put _ (some 47) _ = _
       simp only [Act.put, List.setIfInBounds_toArray, List.set_cons_zero, List.set_cons_succ, i64_w, i32_w]
       rfl
      refine one_ (i := 3) (N := some 48) #[true, true, true, true, false] rfl rfl (by kernel_rfl) (by decide) (fun K hK => ?_)
      refine goes_ Try.func59 (by kernel_rfl) rfl #[.agg #[.int .i64 t391, .int .i64 t392, .int .i64 t393, .int .i64 t394, .slice Ao63 t395.length co63], .agg #[.int .i64 t411, .int .i64 t412, .int .i64 t413, .int .i64 t414, .slice Ao75 t415.length co75]] (by rfl) rfl rfl sa ?_
      with_reducible refine (laws_eqWal.calls k t391 t392 t393 t394 _ _ t395 t411 t412 t413 t414 _ _ t415 true _ ?side1 ?side2 ?side3 ?side4 A31.out).mono ?_
      (case side1 => exact ca ((Kd.R_reads' HO397.out).2.2))
      (case side2 => exact (Kd.R_reads' HO397.out).2.1)
      (case side3 => exact ca ((Kd.R_reads' HO417.out).2.2))
      (case side4 => exact (Kd.R_reads' HO417.out).2.1)
      rintro e w76 ⟨rfl, hb⟩
      refine ⟨_, rfl, ?_⟩
      replace HO372 := Aside0.mk (Kd.R_below (rpR HO372.out) hb); replace HO379 := Aside0.mk (Kd.R_below (rpR HO379.out) hb); replace HO382 := Aside0.mk (Kd.R_below (rpR HO382.out) hb); replace HO389 := Aside0.mk (Kd.R_below (rpR HO389.out) hb); replace HO397 := Aside0.mk (Kd.R_below (rpR HO397.out) hb); replace HO401 := Aside0.mk (Kd.R_below (rpR HO401.out) hb); replace HO409 := Aside0.mk (Kd.R_below (rpR HO409.out) hb); replace HO417 := Aside0.mk (Kd.R_below (rpR HO417.out) hb); replace BK362 := bv BK362 hb; replace BK363 := bv BK363 hb; replace BK390 := bv BK390 hb; replace BK398 := bv BK398 hb; replace HB := bs (w := w) hb; (try clear hb hb2 hk hi)
      refine hK.out _ _ ⟨cb 0 BK398, cb 1 BK398, cb 2 BK398, cb 3 BK398, cb 4 BK398, cb 0 BK363, cb 1 BK363, cb 2 BK363, cb 3 BK363, cb 4 BK363⟩ (fun hHeld => ?_)
      clear hK K
      refine norm_ (a' := ?_) ?_ ?_
      rotate_left
      ·show Act.put _ (some 48) _ = _
       simp only [Act.put, List.setIfInBounds_toArray, List.set_cons_zero, List.set_cons_succ, i64_w, i32_w]
       rfl
      refine pV 4 49 #[true, true, true, true, true] ?_
      refine done_ (by kernel_rfl) ?_
      obtain ⟨Z77_0, Z77_1, Z77_2, Z77_3, Z77_4, Y77_0, Y77_1, Y77_2, Y77_3, Y77_4⟩ := cf5 BK390
      go_upto_region 21 with (first | ((with_reducible refine gC 63 rfl ?_); refine goesZ (some 52) rfl Try.func63 #[.agg #[.int .i64 t383, .int .i64 t384, .int .i64 t385, .int .i64 t386, .slice Ao55 t387.length co55], .int .i64 1] ?_; (with_reducible refine (laws_markWal.calls k t383 t384 t385 t386 (fun k_ => some k_ = (.slice Ao55 t387.length co55 : Value).ownBlock) (.slice Ao55 t387.length co55) t387 1 t419 t420 w _ ?side1 ?side2 A33.out).mono ?_); (case side1 => repeat (first | (with_reducible first | exact HB.out | apply below_alloc | apply pw_below_drewN | apply below_drew1 | refine below_set ?_ GE362.out | refine below_set ?_ GE363.out | refine below_set ?_ GE390.out | refine below_set ?_ GE398.out) | exact HB.out)); (case side2 => exact Kd.R_tight rfl HO389.out); rintro e w78 ⟨rfl, hy0, hb, hkp⟩; refine ⟨_, rfl, ?_⟩; replace BK362 := Aside0.mk (blk_kept bk hkp (fun hs_ => (fun e_ => (Kd.R_ne HO389.out BK362.out (by decide)) e_) hs_)); replace BK363 := Aside0.mk (blk_kept bk hkp (fun hs_ => (fun e_ => (Kd.R_ne HO389.out BK363.out (by decide)) e_) hs_)); replace HO372 := Aside0.mk (Kd.R_mono (ok' := fun k_ => some k_ ≠ (.slice Ao47 t377.length co47 : Value).ownBlock ∧ some k_ ≠ (.slice Ao55 t387.length co55 : Value).ownBlock ∧ some k_ ≠ (.slice Ao63 t395.length co63 : Value).ownBlock ∧ some k_ ≠ (.slice Ao71 t407.length co71 : Value).ownBlock ∧ some k_ ≠ (.slice Ao75 t415.length co75 : Value).ownBlock) (Kd.R_keptB (HO372.out) hkp (fun k_ hk_ hs_ => (hk_.1.1.1.2) hs_)) (fun k_ hk_ => ⟨hk_.1.1.1.1.1.2, hk_.1.1.1.1.2, hk_.1.1.1.2, hk_.1.1.2, hk_.1.2⟩)); replace HO379 := Aside0.mk (Kd.R_mono (ok' := fun k_ => some k_ ≠ (.slice Ao46 t370.length co46 : Value).ownBlock ∧ some k_ ≠ (.slice Ao55 t387.length co55 : Value).ownBlock ∧ some k_ ≠ (.slice Ao63 t395.length co63 : Value).ownBlock ∧ some k_ ≠ (.slice Ao71 t407.length co71 : Value).ownBlock ∧ some k_ ≠ (.slice Ao75 t415.length co75 : Value).ownBlock) (Kd.R_keptB (HO379.out) hkp (fun k_ hk_ hs_ => (hk_.1.1.1.2) hs_)) (fun k_ hk_ => ⟨hk_.1.1.1.1.1.2, hk_.1.1.1.1.2, hk_.1.1.1.2, hk_.1.1.2, hk_.1.2⟩)); replace HO382 := Aside0.mk (Kd.R_mono (ok' := fun k_ => some k_ ≠ (.slice Ao66 t399.length co66 : Value).ownBlock) (Kd.R_keptB ((Kd.R_apart' HO382.out (Kd.R_typed HO389.out) (by decide))) hkp (fun k_ hk_ hs_ => (hk_.2) hs_)) (fun k_ hk_ => hk_.1.1.2)); replace BK390 := Aside0.mk (blk_kept bk hkp (fun hs_ => (fun e_ => (Kd.R_ne HO389.out BK390.out (by decide)) e_) hs_)); replace HO397 := Aside0.mk (Kd.R_mono (ok' := fun k_ => some k_ ≠ (.slice Ao46 t370.length co46 : Value).ownBlock ∧ some k_ ≠ (.slice Ao47 t377.length co47 : Value).ownBlock ∧ some k_ ≠ (.slice Ao55 t387.length co55 : Value).ownBlock ∧ some k_ ≠ (.slice Ao71 t407.length co71 : Value).ownBlock ∧ some k_ ≠ (.slice Ao75 t415.length co75 : Value).ownBlock) (Kd.R_keptB (HO397.out) hkp (fun k_ hk_ hs_ => (hk_.1.1.2) hs_)) (fun k_ hk_ => ⟨hk_.1.1.1.1.1.2, hk_.1.1.1.1.2, hk_.1.1.1.2, hk_.1.1.2, hk_.1.2⟩)); replace BK398 := Aside0.mk (blk_kept bk hkp (fun hs_ => (fun e_ => (Kd.R_ne HO389.out BK398.out (by decide)) e_) hs_)); replace HO401 := Aside0.mk (Kd.R_mono (ok' := fun k_ => some k_ ≠ (.slice Ao67 t380.length co67 : Value).ownBlock) (Kd.R_keptB ((Kd.R_apart' HO401.out (Kd.R_typed HO389.out) (by decide))) hkp (fun k_ hk_ hs_ => (hk_.2) hs_)) (fun k_ hk_ => hk_.1.1.2)); replace HO389 := Aside0.mk (Kd.R_reok rfl hy0 (fun k_ e_ => HO389.out.1 k_ e_)); replace HO409 := Aside0.mk (Kd.R_mono (ok' := fun k_ => some k_ ≠ (.slice Ao46 t370.length co46 : Value).ownBlock ∧ some k_ ≠ (.slice Ao47 t377.length co47 : Value).ownBlock ∧ some k_ ≠ (.slice Ao55 t387.length co55 : Value).ownBlock ∧ some k_ ≠ (.slice Ao63 t395.length co63 : Value).ownBlock ∧ some k_ ≠ (.slice Ao75 t415.length co75 : Value).ownBlock) (Kd.R_keptB (HO409.out) hkp (fun k_ hk_ hs_ => (hk_.1.1.2) hs_)) (fun k_ hk_ => ⟨hk_.1.1.1.1.1.2, hk_.1.1.1.1.2, hk_.1.1.1.2, hk_.1.1.2, hk_.1.2⟩)); replace HO417 := Aside0.mk (Kd.R_mono (ok' := fun k_ => some k_ ≠ (.slice Ao46 t370.length co46 : Value).ownBlock ∧ some k_ ≠ (.slice Ao47 t377.length co47 : Value).ownBlock ∧ some k_ ≠ (.slice Ao55 t387.length co55 : Value).ownBlock ∧ some k_ ≠ (.slice Ao63 t395.length co63 : Value).ownBlock ∧ some k_ ≠ (.slice Ao71 t407.length co71 : Value).ownBlock) (Kd.R_keptB (HO417.out) hkp (fun k_ hk_ hs_ => (hk_.1.1.2) hs_)) (fun k_ hk_ => ⟨hk_.1.1.1.1.1.2, hk_.1.1.1.1.2, hk_.1.1.1.2, hk_.1.1.2, hk_.1.2⟩)); replace HB := Aside0.mk (hb); (try clear hb hkp hy0); obtain ⟨Z79_0, Z79_1, Z79_2, Z79_3, Z79_4, Y79_0, Y79_1, Y79_2, Y79_3, Y79_4⟩ := cf5 BK398) | ((with_reducible refine gC 63 rfl ?_); refine goesZ (some 55) rfl Try.func63 #[.agg #[.int .i64 t391, .int .i64 t392, .int .i64 t393, .int .i64 t394, .slice Ao63 t395.length co63], .int .i64 t419] ?_; (with_reducible refine (laws_markWal.calls k t391 t392 t393 t394 (fun k_ => some k_ = (.slice Ao63 t395.length co63 : Value).ownBlock) (.slice Ao63 t395.length co63) t395 t419 t421 t422 w _ ?side1 ?side2 A34.out).mono ?_); (case side1 => repeat (first | (with_reducible first | exact HB.out | apply below_alloc | apply pw_below_drewN | apply below_drew1 | refine below_set ?_ GE362.out | refine below_set ?_ GE363.out | refine below_set ?_ GE390.out | refine below_set ?_ GE398.out) | exact HB.out)); (case side2 => exact Kd.R_tight rfl HO397.out); rintro e w80 ⟨rfl, hy0, hb, hkp⟩; refine ⟨_, rfl, ?_⟩; replace BK362 := Aside0.mk (blk_kept bk hkp (fun hs_ => (fun e_ => (Kd.R_ne HO397.out BK362.out (by decide)) e_) hs_)); replace BK363 := Aside0.mk (blk_kept bk hkp (fun hs_ => (fun e_ => (Kd.R_ne HO397.out BK363.out (by decide)) e_) hs_)); replace HO372 := Aside0.mk (Kd.R_mono (ok' := fun k_ => some k_ ≠ (.slice Ao47 t377.length co47 : Value).ownBlock ∧ some k_ ≠ (.slice Ao55 t387.length co55 : Value).ownBlock ∧ some k_ ≠ (.slice Ao63 t395.length co63 : Value).ownBlock ∧ some k_ ≠ (.slice Ao71 t407.length co71 : Value).ownBlock ∧ some k_ ≠ (.slice Ao75 t415.length co75 : Value).ownBlock) (Kd.R_keptB (HO372.out) hkp (fun k_ hk_ hs_ => (hk_.2.2.1) hs_)) (fun k_ hk_ => ⟨hk_.1.1, hk_.1.2.1, hk_.1.2.2.1, hk_.1.2.2.2.1, hk_.1.2.2.2.2⟩)); replace HO379 := Aside0.mk (Kd.R_mono (ok' := fun k_ => some k_ ≠ (.slice Ao46 t370.length co46 : Value).ownBlock ∧ some k_ ≠ (.slice Ao55 t387.length co55 : Value).ownBlock ∧ some k_ ≠ (.slice Ao63 t395.length co63 : Value).ownBlock ∧ some k_ ≠ (.slice Ao71 t407.length co71 : Value).ownBlock ∧ some k_ ≠ (.slice Ao75 t415.length co75 : Value).ownBlock) (Kd.R_keptB (HO379.out) hkp (fun k_ hk_ hs_ => (hk_.2.2.1) hs_)) (fun k_ hk_ => ⟨hk_.1.1, hk_.1.2.1, hk_.1.2.2.1, hk_.1.2.2.2.1, hk_.1.2.2.2.2⟩)); replace HO382 := Aside0.mk (Kd.R_mono (ok' := fun k_ => some k_ ≠ (.slice Ao66 t399.length co66 : Value).ownBlock) (Kd.R_keptB ((Kd.R_apart' HO382.out (Kd.R_typed HO397.out) (by decide))) hkp (fun k_ hk_ hs_ => (hk_.2) hs_)) (fun k_ hk_ => hk_.1.1)); replace HO389 := Aside0.mk (Kd.R_mono (ok' := fun k_ => some k_ ≠ (.slice Ao46 t370.length co46 : Value).ownBlock ∧ some k_ ≠ (.slice Ao47 t377.length co47 : Value).ownBlock ∧ some k_ ≠ (.slice Ao63 t395.length co63 : Value).ownBlock ∧ some k_ ≠ (.slice Ao71 t407.length co71 : Value).ownBlock ∧ some k_ ≠ (.slice Ao75 t415.length co75 : Value).ownBlock) (Kd.R_keptB (HO389.out) hkp (fun k_ hk_ hs_ => (hk_.1.1.2) hs_)) (fun k_ hk_ => ⟨hk_.1.1.1.1.1.2, hk_.1.1.1.1.2, hk_.1.1.1.2, hk_.1.1.2, hk_.1.2⟩)); replace BK390 := Aside0.mk (blk_kept bk hkp (fun hs_ => (fun e_ => (Kd.R_ne HO397.out BK390.out (by decide)) e_) hs_)); replace BK398 := Aside0.mk (blk_kept bk hkp (fun hs_ => (fun e_ => (Kd.R_ne HO397.out BK398.out (by decide)) e_) hs_)); replace HO401 := Aside0.mk (Kd.R_mono (ok' := fun k_ => some k_ ≠ (.slice Ao67 t380.length co67 : Value).ownBlock) (Kd.R_keptB ((Kd.R_apart' HO401.out (Kd.R_typed HO397.out) (by decide))) hkp (fun k_ hk_ hs_ => (hk_.2) hs_)) (fun k_ hk_ => hk_.1.1)); replace HO397 := Aside0.mk (Kd.R_reok rfl hy0 (fun k_ e_ => HO397.out.1 k_ e_)); replace HO409 := Aside0.mk (Kd.R_mono (ok' := fun k_ => some k_ ≠ (.slice Ao46 t370.length co46 : Value).ownBlock ∧ some k_ ≠ (.slice Ao47 t377.length co47 : Value).ownBlock ∧ some k_ ≠ (.slice Ao55 t387.length co55 : Value).ownBlock ∧ some k_ ≠ (.slice Ao63 t395.length co63 : Value).ownBlock ∧ some k_ ≠ (.slice Ao75 t415.length co75 : Value).ownBlock) (Kd.R_keptB (HO409.out) hkp (fun k_ hk_ hs_ => (hk_.2.2.2.1) hs_)) (fun k_ hk_ => ⟨hk_.1.1, hk_.1.2.1, hk_.1.2.2.1, hk_.1.2.2.2.1, hk_.1.2.2.2.2⟩)); replace HO417 := Aside0.mk (Kd.R_mono (ok' := fun k_ => some k_ ≠ (.slice Ao46 t370.length co46 : Value).ownBlock ∧ some k_ ≠ (.slice Ao47 t377.length co47 : Value).ownBlock ∧ some k_ ≠ (.slice Ao55 t387.length co55 : Value).ownBlock ∧ some k_ ≠ (.slice Ao63 t395.length co63 : Value).ownBlock ∧ some k_ ≠ (.slice Ao71 t407.length co71 : Value).ownBlock) (Kd.R_keptB (HO417.out) hkp (fun k_ hk_ hs_ => (hk_.2.2.2.1) hs_)) (fun k_ hk_ => ⟨hk_.1.1, hk_.1.2.1, hk_.1.2.2.1, hk_.1.2.2.2.1, hk_.1.2.2.2.2⟩)); replace HB := Aside0.mk (hb); (try clear hb hkp hy0)))
      (try simp only [Act.put, List.setIfInBounds_toArray, List.set_cons_zero, List.set_cons_succ])
      go_cut [63] (fun v63 wc => ∃ (kq : Nat) (x63_34 : Bool), v63 = .bool x63_34 ∧ Aside0 (laws_FnExactPlanAdd.j0 kq t380 t399 x63_34 a0_0 a0_1 a0_2 a0_3 l0_4 a1_0 a1_1 a1_2 a1_3 l1_4 = some r) ∧ Aside0 (kq ≤ k) ∧ Aside0 (Kd.R k130 130 wc w.heap.size (fun k_ => some k_ ≠ ((.slice Ao66 t399.length co66) : Value).ownBlock) (.slice Ao67 t380.length co67) t380) ∧ Aside0 (Kd.R k130 130 wc w.heap.size (fun k_ => some k_ ≠ ((.slice Ao67 t380.length co67) : Value).ownBlock) (.slice Ao66 t399.length co66) t399) ∧ Aside0 (Kd.R k117 117 wc w.heap.size (fun k_ => some k_ ≠ ((.slice Ao63 t395.length co63) : Value).ownBlock) (.slice Ao55 t387.length co55) t420) ∧ Aside0 (Kd.R k117 117 wc w.heap.size (fun k_ => some k_ ≠ ((.slice Ao55 t387.length co55) : Value).ownBlock) (.slice Ao63 t395.length co63) t422) ∧ Aside0 (wc.heap[gb362]? = some (.cells #[.int .i64 a0_0, .int .i64 a0_1, .int .i64 a0_2, .int .i64 a0_3, (.slice A0_4 l0_4.length c0_4)] 62 (0, 0))) ∧ Aside0 (wc.heap[gb363]? = some (.cells #[.int .i64 a1_0, .int .i64 a1_1, .int .i64 a1_2, .int .i64 a1_3, (.slice A1_4 l1_4.length c1_4)] 62 (0, 0))) ∧ Aside0 (wc.heap[gb390]? = some (.cells #[.int .i64 t383, .int .i64 t384, .int .i64 t385, .int .i64 t386, (.slice Ao55 t387.length co55)] 67 (0, 0))) ∧ Aside0 (wc.heap[gb398]? = some (.cells #[.int .i64 t391, .int .i64 t392, .int .i64 t393, .int .i64 t394, (.slice Ao63 t395.length co63)] 67 (0, 0))) ∧ Aside0 (Below w.heap.size w wc))
      case first =>
       have H := HC35.out
       clear HC35
       by_cases c81 : t421 < 0
       ·rw [if_pos c81] at H
        have c81b0 : decide (t421 < 0) = true := decide_eq_true c81
        clear c81
        (first | rw [c81b0] | (simp only [i64_w, i32_w]; rw [c81b0]) | skip)
        have H' := Aside0.mk H
        clear H
        go_wp2
        go_meet
        case rel => exact ⟨_, (true), fa, H', ⟨by first | omega | exact Nat.le_refl _⟩, ⟨rpR HO382.out⟩, ⟨rpR HO401.out⟩, ⟨rpR (Kd.R_mono HO389.out (fun _ hk => hk.2.2.1))⟩, ⟨rpR (Kd.R_mono HO397.out (fun _ hk => hk.2.2.1))⟩, ⟨by (with_reducible repeat (first | refine blk_drewN ?_ _ | refine blk_drew ?_ | refine blk_alloc ?_ _)); exact BK362.out⟩, ⟨by (with_reducible repeat (first | refine blk_drewN ?_ _ | refine blk_drew ?_ | refine blk_alloc ?_ _)); exact BK363.out⟩, ⟨by (with_reducible repeat (first | refine blk_drewN ?_ _ | refine blk_drew ?_ | refine blk_alloc ?_ _)); exact BK390.out⟩, ⟨by (with_reducible repeat (first | refine blk_drewN ?_ _ | refine blk_drew ?_ | refine blk_alloc ?_ _)); exact BK398.out⟩, ⟨bl⟩⟩
       ·rw [if_neg c81] at H
        have c81b0 : decide (t421 < 0) = false := decide_eq_false c81
        clear c81
        (first | rw [c81b0] | (simp only [i64_w, i32_w]; rw [c81b0]) | skip)
        obtain ⟨t423, A82, H⟩ := bd H
        have H' := Aside0.mk H
        clear H
        go_wp2_with (first | (go_at_call 73; (with_reducible refine (laws_eqStepS.calls k _ _ t399 _ _ t380 t423 _ ?side1 ?side2 ?side3 ?side4 A82.out).mono ?_); (case side1 => exact ca ((Kd.R_reads' HO401.out).2.2)); (case side2 => exact (Kd.R_reads' HO401.out).2.1); (case side3 => exact ca ((Kd.R_reads' HO382.out).2.2)); (case side4 => exact (Kd.R_reads' HO382.out).2.1); rintro e w83 ⟨rfl, hb⟩; replace HO372 := Aside0.mk (Kd.R_below (rpR HO372.out) hb); replace HO379 := Aside0.mk (Kd.R_below (rpR HO379.out) hb); replace HO382 := Aside0.mk (Kd.R_below (rpR HO382.out) hb); replace HO389 := Aside0.mk (Kd.R_below (rpR HO389.out) hb); replace HO397 := Aside0.mk (Kd.R_below (rpR HO397.out) hb); replace HO401 := Aside0.mk (Kd.R_below (rpR HO401.out) hb); replace HO409 := Aside0.mk (Kd.R_below (rpR HO409.out) hb); replace HO417 := Aside0.mk (Kd.R_below (rpR HO417.out) hb); replace BK362 := bv BK362 hb; replace BK363 := bv BK363 hb; replace BK390 := bv BK390 hb; replace BK398 := bv BK398 hb; replace HB := bs (w := w) hb; (try clear hb)))
        go_meet
        case rel => exact ⟨_, (!t423), fa, H', ⟨by first | omega | exact Nat.le_refl _⟩, ⟨rpR HO382.out⟩, ⟨rpR HO401.out⟩, ⟨rpR (Kd.R_mono HO389.out (fun _ hk => hk.2.2.1))⟩, ⟨rpR (Kd.R_mono HO397.out (fun _ hk => hk.2.2.1))⟩, ⟨by (with_reducible repeat (first | refine blk_drewN ?_ _ | refine blk_drew ?_ | refine blk_alloc ?_ _)); exact BK362.out⟩, ⟨by (with_reducible repeat (first | refine blk_drewN ?_ _ | refine blk_drew ?_ | refine blk_alloc ?_ _)); exact BK363.out⟩, ⟨by (with_reducible repeat (first | refine blk_drewN ?_ _ | refine blk_drew ?_ | refine blk_alloc ?_ _)); exact BK390.out⟩, ⟨by (with_reducible repeat (first | refine blk_drewN ?_ _ | refine blk_drew ?_ | refine blk_alloc ?_ _)); exact BK398.out⟩, ⟨bl⟩⟩
      case rest =>
       clear HC35
       try clear c1
       try clear c2
       try clear p2
       try clear c3
       try clear c5
       try clear c6
       try clear c7
       try clear c8
       try clear c14
       try clear c29
       try clear c32
       try clear c38
       try clear c52
       try clear c53
       try clear c55
       try clear c57
       try clear c59
       try clear c60
       try clear c61
       try clear c63
       try clear c71
       try clear c72
       try clear c73
       try clear c81
       try clear c81b0
       try clear Z39_0 Z39_1 Z39_2 Z39_3 Z39_4
       try clear Z41_0 Z41_1 Z41_2 Z41_3 Z41_4
       try clear Z49_0 Z49_1 Z49_2 Z49_3 Z49_4
       try clear Z54_0 Z54_1 Z54_2 Z54_3 Z54_4
       try clear Z56_0 Z56_1 Z56_2 Z56_3 Z56_4
       try clear Z62_0 Z62_1 Z62_2 Z62_3 Z62_4
       try clear Z64_0 Z64_1 Z64_2 Z64_3 Z64_4
       try clear Z77_0 Z77_1 Z77_2 Z77_3 Z77_4
       try clear Z79_0 Z79_1 Z79_2 Z79_3 Z79_4
       try clear Y39_0 Y39_1 Y39_2 Y39_3 Y39_4
       try clear Y41_0 Y41_1 Y41_2 Y41_3 Y41_4
       try clear Y49_0 Y49_1 Y49_2 Y49_3 Y49_4
       try clear Y54_0 Y54_1 Y54_2 Y54_3 Y54_4
       try clear Y56_0 Y56_1 Y56_2 Y56_3 Y56_4
       try clear Y62_0 Y62_1 Y62_2 Y62_3 Y62_4
       try clear Y64_0 Y64_1 Y64_2 Y64_3 Y64_4
       try clear Y77_0 Y77_1 Y77_2 Y77_3 Y77_4
       try clear Y79_0 Y79_1 Y79_2 Y79_3 Y79_4
       obtain ⟨kq, x63_34, rfl, HA, HJ34, HO_6, HO_9, HO_391004, HO_399004, BK362, BK363, BK390, BK398, HB⟩ := hcut
       have hl391004_34 := (Kd.R_reads' HO_391004.out).1
       rw [hl391004_34] at HO_391004
       (try simp only [hl391004_34])
       (try simp only [hl391004_34] at BK362)
       (try simp only [hl391004_34] at BK363)
       (try simp only [hl391004_34] at BK390)
       (try simp only [hl391004_34] at BK398)
       (try simp only [hl391004_34] at HO_6)
       (try simp only [hl391004_34] at HO_9)
       (try simp only [hl391004_34] at HO_399004)
       have hl399004_34 := (Kd.R_reads' HO_399004.out).1
       rw [hl399004_34] at HO_399004
       (try simp only [hl399004_34])
       (try simp only [hl399004_34] at BK362)
       (try simp only [hl399004_34] at BK363)
       (try simp only [hl399004_34] at BK390)
       (try simp only [hl399004_34] at BK398)
       (try simp only [hl399004_34] at HO_6)
       (try simp only [hl399004_34] at HO_9)
       (try simp only [hl399004_34] at HO_391004)
       cases kq with
       | zero => exact absurd HA.out (by simp [laws_FnExactPlanAdd.j0])
       | succ kj34 =>
        have H := HA.out
        clear HA
        simp only [laws_FnExactPlanAdd.j0] at H
        by_cases c84 : x63_34 = true
        ·subst c84
         replace H := iT H
         exact absurd ((Option.some.inj H).trans hr_) (by decide)
        ·replace c84 := Bool.eq_false_iff.mpr c84
         subst c84
         replace H := iF H
         replace H := Option.bind_eq_some_iff.mp H
         obtain ⟨⟨t424, t425⟩, A850, H⟩ := H
         replace H : ((laws_heldStepS.f kj34 t425 1).bind fun t426 => (if t426 < 0 then (some false) else (if t426 = t424 then ((laws_toWal.f kj34 a0_0 a0_1 a0_2 a0_3 l0_4).bind fun bt427 => ((laws_toWal.f kj34 a1_0 a1_1 a1_2 a1_3 l1_4).bind fun bt434 => ((impl_PlanAdd.f kj34 bt427.1 bt427.2.1 bt427.2.2.1 bt427.2.2.2.1 bt427.2.2.2.2 bt434.1 bt434.2.1 bt434.2.2.1 bt434.2.2.2.1 bt434.2.2.2.2).bind fun t441 => ((laws_eqStepS.f kj34 t441 t380).bind fun t444 => (if t444 = true then ((laws_heldStepS.f kj34 t425 1).bind fun t445 => (if t445 < 0 then (some false) else (if t445 = t424 then (some true) else (some false)))) else (some false)))))) else (some false)))) = some r := H
         have A85 := Aside0.mk A850
         clear A850
         obtain ⟨t426, A86, H⟩ := bd H
         by_cases c87 : t426 < 0
         ·rw [if_pos c87] at H
          have c87b0 : decide (t426 < 0) = true := decide_eq_true c87
          clear c87
          exact absurd ((Option.some.inj H).trans hr_) (by decide)
         ·rw [if_neg c87] at H
          have c87b0 : decide (t426 < 0) = false := decide_eq_false c87
          clear c87
          by_cases c88 : t426 = t424
          ·rw [if_pos c88] at H
           have c88b0 : (t426 == t424) = true := beq_iff_eq.mpr c88
           have c88b1 : (t426 != t424) = false := bne_eq_false_iff_eq.mpr c88
           clear c88
           replace H := Option.bind_eq_some_iff.mp H
           obtain ⟨⟨t427, t428, t429, t430, t431⟩, A890, H⟩ := H
           replace H : ((laws_toWal.f kj34 a1_0 a1_1 a1_2 a1_3 l1_4).bind fun bt434 => ((impl_PlanAdd.f kj34 t427 t428 t429 t430 t431 bt434.1 bt434.2.1 bt434.2.2.1 bt434.2.2.2.1 bt434.2.2.2.2).bind fun t441 => ((laws_eqStepS.f kj34 t441 t380).bind fun t444 => (if t444 = true then ((laws_heldStepS.f kj34 t425 1).bind fun t445 => (if t445 < 0 then (some false) else (if t445 = t424 then (some true) else (some false)))) else (some false))))) = some r := H
           have A89 := Aside0.mk A890
           clear A890
           replace H := Option.bind_eq_some_iff.mp H
           obtain ⟨⟨t434, t435, t436, t437, t438⟩, A900, H⟩ := H
           replace H : ((impl_PlanAdd.f kj34 t427 t428 t429 t430 t431 t434 t435 t436 t437 t438).bind fun t441 => ((laws_eqStepS.f kj34 t441 t380).bind fun t444 => (if t444 = true then ((laws_heldStepS.f kj34 t425 1).bind fun t445 => (if t445 < 0 then (some false) else (if t445 = t424 then (some true) else (some false)))) else (some false)))) = some r := H
           have A90 := Aside0.mk A900
           clear A900
           obtain ⟨t441, A91, H⟩ := bd H
           obtain ⟨t444, A92, H⟩ := bd H
           by_cases c93 : t444 = true
           ·subst c93
            replace H := iT H
            obtain ⟨t445, A94, H⟩ := bd H
            by_cases c95 : t445 < 0
            ·rw [if_pos c95] at H
             have c95b0 : decide (t445 < 0) = true := decide_eq_true c95
             clear c95
             exact absurd ((Option.some.inj H).trans hr_) (by decide)
            ·rw [if_neg c95] at H
             have c95b0 : decide (t445 < 0) = false := decide_eq_false c95
             clear c95
             by_cases c96 : t445 = t424
             ·rw [if_pos c96] at H
              have c96b0 : (t445 == t424) = true := beq_iff_eq.mpr c96
              have c96b1 : (t445 != t424) = false := bne_eq_false_iff_eq.mpr c96
              clear c96
              obtain rfl := Option.some.inj H
              try go_wp2_with (first | ((with_reducible refine gC 74 rfl ?_); refine goesZ (some 66) rfl Try.func74 #[.slice Ao66 t399.length co66, .int .i64 1] ?_; (with_reducible refine (laws_markStepS.calls kj34 (fun k_ => some k_ = (.slice Ao66 t399.length co66 : Value).ownBlock) (.slice Ao66 t399.length co66) t399 1 t424 t425 w _ ?side1 ?side2 A85.out).mono ?_); (case side1 => repeat (first | (with_reducible first | exact HB.out | apply below_alloc | apply pw_below_drewN | apply below_drew1 | refine below_set ?_ GE362.out | refine below_set ?_ GE363.out | refine below_set ?_ GE390.out | refine below_set ?_ GE398.out) | exact HB.out)); (case side2 => exact Kd.R_tight rfl HO_9.out); rintro e w97 ⟨rfl, hy0, hb, hkp⟩; refine ⟨_, rfl, ?_⟩; replace HO_6 := Aside0.mk (Kd.R_mono (ok' := fun k_ => some k_ ≠ (.slice Ao66 t399.length co66 : Value).ownBlock) (Kd.R_keptB (HO_6.out) hkp (fun k_ hk_ hs_ => (hk_) hs_)) (fun k_ hk_ => hk_.1)); replace HO_391004 := Aside0.mk (Kd.R_mono (ok' := fun k_ => some k_ ≠ (.slice Ao63 t422.length co63 : Value).ownBlock) (Kd.R_keptB ((Kd.R_apart' HO_391004.out (Kd.R_typed HO_9.out) (by decide))) hkp (fun k_ hk_ hs_ => (hk_.2) hs_)) (fun k_ hk_ => hk_.1.1)); replace HO_399004 := Aside0.mk (Kd.R_mono (ok' := fun k_ => some k_ ≠ (.slice Ao55 t420.length co55 : Value).ownBlock) (Kd.R_keptB ((Kd.R_apart' HO_399004.out (Kd.R_typed HO_9.out) (by decide))) hkp (fun k_ hk_ hs_ => (hk_.2) hs_)) (fun k_ hk_ => hk_.1.1)); replace BK362 := Aside0.mk (blk_kept bk hkp (fun hs_ => (fun e_ => (Kd.R_ne HO_9.out BK362.out (by decide)) e_) hs_)); replace BK363 := Aside0.mk (blk_kept bk hkp (fun hs_ => (fun e_ => (Kd.R_ne HO_9.out BK363.out (by decide)) e_) hs_)); replace BK390 := Aside0.mk (blk_kept bk hkp (fun hs_ => (fun e_ => (Kd.R_ne HO_9.out BK390.out (by decide)) e_) hs_)); replace BK398 := Aside0.mk (blk_kept bk hkp (fun hs_ => (fun e_ => (Kd.R_ne HO_9.out BK398.out (by decide)) e_) hs_)); replace HO_9 := Aside0.mk (Kd.R_reok rfl hy0 (fun k_ e_ => HO_9.out.1 k_ e_)); replace HB := Aside0.mk (hb); (try clear hb hkp hy0)) | ((with_reducible refine gC 75 rfl ?_); refine goesL_ (some 69) rfl rfl Try.func75 (by kernel_rfl) rfl #[.slice Ao66 t425.length co66, .int .i64 1] rfl (by (try simp only [List.map_toArray, List.map_cons, List.map_nil]); first | done | (rw [show t425.length = t399.length from (Kd.R_reads' HO_9.out).1.symm] <;> rfl) | rfl | (simp only [List.length_drop, List.length_take]; rfl)) ?_; (with_reducible refine (laws_heldStepS.calls kj34 _ _ t425 1 t426 _ ?side1 ?side2 A86.out).mono ?_); (case side1 => exact ca ((Kd.R_reads' HO_9.out).2.2)); (case side2 => rw [show t425.length = t399.length from (Kd.R_reads' HO_9.out).1.symm]; exact (Kd.R_reads' HO_9.out).2.1); rintro e w98 ⟨rfl, hb⟩; refine ⟨_, rfl, ?_⟩; replace HO_6 := Aside0.mk (Kd.R_below (rpR HO_6.out) hb); replace HO_9 := Aside0.mk (Kd.R_below (rpR HO_9.out) hb); replace HO_391004 := Aside0.mk (Kd.R_below (rpR HO_391004.out) hb); replace HO_399004 := Aside0.mk (Kd.R_below (rpR HO_399004.out) hb); replace BK362 := bv BK362 hb; replace BK363 := bv BK363 hb; replace BK390 := bv BK390 hb; replace BK398 := bv BK398 hb; replace HB := bs (w := w) hb; (try clear hb)))
              replace HO_6 := Aside0.mk (Kd.R_drew HO_6.out); replace HO_9 := Aside0.mk (Kd.R_drew HO_9.out); replace HO_391004 := Aside0.mk (Kd.R_drew HO_391004.out); replace HO_399004 := Aside0.mk (Kd.R_drew HO_399004.out); replace BK362 := Aside0.mk (blk_drew BK362.out); replace BK363 := Aside0.mk (blk_drew BK363.out); replace BK390 := Aside0.mk (blk_drew BK390.out); replace BK398 := Aside0.mk (blk_drew BK398.out); replace HB := Aside0.mk (below_drew1 HB.out)
              refine start_ (n := 6) (S := fun w' => w'.cell? ⟨gb362, 0, none⟩ = some (.int .i64 a0_0) ∧ w'.cell? ⟨gb362, 1, none⟩ = some (.int .i64 a0_1) ∧ w'.cell? ⟨gb362, 2, none⟩ = some (.int .i64 a0_2) ∧ w'.cell? ⟨gb362, 3, none⟩ = some (.int .i64 a0_3) ∧ w'.cell? ⟨gb362, 4, none⟩ = some (.slice A0_4 l0_4.length c0_4) ∧ w'.cell? ⟨gb363, 0, none⟩ = some (.int .i64 a1_0) ∧ w'.cell? ⟨gb363, 1, none⟩ = some (.int .i64 a1_1) ∧ w'.cell? ⟨gb363, 2, none⟩ = some (.int .i64 a1_2) ∧ w'.cell? ⟨gb363, 3, none⟩ = some (.int .i64 a1_3) ∧ w'.cell? ⟨gb363, 4, none⟩ = some (.slice A1_4 l1_4.length c1_4)) (ds := []) (bo 6 0) (by kernel_rfl) rfl rfl ⟨cb 0 BK362, cb 1 BK362, cb 2 BK362, cb 3 BK362, cb 4 BK362, cb 0 BK363, cb 1 BK363, cb 2 BK363, cb 3 BK363, cb 4 BK363⟩ (fun hHeld => ?_)
              generalize w98.drew = w99 at HO_6 HO_9 HO_391004 HO_399004 BK362 BK363 BK390 BK398 HB hHeld ⊢
              refine tV 0 75 (bo 6 1) ?_
              refine tV 2 77 (bo 6 5) ?_
              refine one_ (i := 1) (N := some 76) (bo 6 7) rfl rfl (by kernel_rfl) (by decide) (fun K hK => ?_)
              refine goes_ Try.func57 (by kernel_rfl) rfl #[.agg #[.int .i64 a0_0, .int .i64 a0_1, .int .i64 a0_2, .int .i64 a0_3, .slice A0_4 l0_4.length c0_4]] (by rfl) rfl rfl sa ?_
              with_reducible refine (laws_toWal.calls kj34 a0_0 a0_1 a0_2 a0_3 _ _ l0_4 t427 t428 t429 t430 t431 _ ?side1 ?side2 A89.out).mono ?_
              (case side1 => exact ca (Kd.C_below HR0_4.out HB.out))
              (case side2 => exact HC0_4.out)
              rintro e w100 ⟨v432, rfl, ho0, hb⟩
              refine ⟨_, rfl, ?_⟩
              replace HO_6 := Aside0.mk (Kd.R_below (rpR HO_6.out) hb); replace HO_9 := Aside0.mk (Kd.R_below (rpR HO_9.out) hb); have HO433 := Aside0.mk (Kd.R_lower (Kd.R_new' (Kd.R_new' ho0 (Kd.R_lt (rpR HO_391004.out))) (Kd.R_lt (rpR HO_399004.out))) (below_size bl)); replace HO_391004 := Aside0.mk (Kd.R_elder' (rpR HO_391004.out) (Kd.R_base ho0) hb); replace HO_399004 := Aside0.mk (Kd.R_elder' (rpR HO_399004.out) (Kd.R_base ho0) hb); replace BK362 := bv BK362 hb; replace BK363 := bv BK363 hb; replace BK390 := bv BK390 hb; replace BK398 := bv BK398 hb; replace HB := bs (w := w) hb; (try clear hb hb2 hk hi ho0)
              refine hK.out _ _ ⟨cb 0 BK362, cb 1 BK362, cb 2 BK362, cb 3 BK362, cb 4 BK362, cb 0 BK363, cb 1 BK363, cb 2 BK363, cb 3 BK363, cb 4 BK363⟩ (fun hHeld => ?_)
              clear hK K
              refine norm_ (a' := ?_) ?_ ?_
              rotate_left
              ·show Act.put _ (some 76) _ = _
               simp only [Act.put, List.setIfInBounds_toArray, List.set_cons_zero, List.set_cons_succ, i64_w, i32_w]
               rfl
              refine one_ (i := 3) (N := some 78) (bo 6 15) rfl rfl (by kernel_rfl) (by decide) (fun K hK => ?_)
              refine goes_ Try.func57 (by kernel_rfl) rfl #[.agg #[.int .i64 a1_0, .int .i64 a1_1, .int .i64 a1_2, .int .i64 a1_3, .slice A1_4 l1_4.length c1_4]] (by rfl) rfl rfl sa ?_
              with_reducible refine (laws_toWal.calls kj34 a1_0 a1_1 a1_2 a1_3 _ _ l1_4 t434 t435 t436 t437 t438 _ ?side1 ?side2 A90.out).mono ?_
              (case side1 => exact ca (Kd.C_below HR1_4.out HB.out))
              (case side2 => exact HC1_4.out)
              rintro e w101 ⟨v439, rfl, ho0, hb⟩
              refine ⟨_, rfl, ?_⟩
              replace HO_6 := Aside0.mk (Kd.R_below (rpR HO_6.out) hb); replace HO_9 := Aside0.mk (Kd.R_below (rpR HO_9.out) hb); have HO440 := Aside0.mk (Kd.R_lower (Kd.R_new' (Kd.R_new' (Kd.R_new' ho0 (Kd.R_lt (rpR HO_391004.out))) (Kd.R_lt (rpR HO_399004.out))) (Kd.R_lt (rpR HO433.out))) (below_size bl)); replace HO_391004 := Aside0.mk (Kd.R_elder' (rpR HO_391004.out) (Kd.R_base ho0) hb); replace HO_399004 := Aside0.mk (Kd.R_elder' (rpR HO_399004.out) (Kd.R_base ho0) hb); replace HO433 := Aside0.mk (Kd.R_elder' (rpR HO433.out) (Kd.R_base ho0) hb); replace BK362 := bv BK362 hb; replace BK363 := bv BK363 hb; replace BK390 := bv BK390 hb; replace BK398 := bv BK398 hb; replace HB := bs (w := w) hb; (try clear hb hb2 hk hi ho0)
              obtain ⟨Ao102, co102, eo102⟩ := Kd.R_slice HO433.out
              (first | subst eo102 | (injection eo102 with f1_ f2_ f3_; have f4_ := f1_.symm; have f5_ := f3_.symm; clear f1_ f2_ f3_; subst f4_; subst f5_))
              obtain ⟨Ao103, co103, eo103⟩ := Kd.R_slice HO440.out
              (first | subst eo103 | (injection eo103 with f1_ f2_ f3_; have f4_ := f1_.symm; have f5_ := f3_.symm; clear f1_ f2_ f3_; subst f4_; subst f5_))
              refine hK.out _ _ ⟨cb 0 BK362, cb 1 BK362, cb 2 BK362, cb 3 BK362, cb 4 BK362, cb 0 BK363, cb 1 BK363, cb 2 BK363, cb 3 BK363, cb 4 BK363⟩ (fun hHeld => ?_)
              clear hK K
              refine norm_ (a' := ?_) ?_ ?_
              rotate_left
              ·show Act.put _ (some 78) _ = _
               simp only [Act.put, List.setIfInBounds_toArray, List.set_cons_zero, List.set_cons_succ, i64_w, i32_w]
               rfl
              refine one_ (i := 4) (N := some 79) (bo 6 31) rfl rfl (by kernel_rfl) (by decide) (fun K hK => ?_)
              refine goes_ Try.func72 (by kernel_rfl) rfl #[.agg #[.int .i64 t427, .int .i64 t428, .int .i64 t429, .int .i64 t430, .slice Ao102 t431.length co102], .agg #[.int .i64 t434, .int .i64 t435, .int .i64 t436, .int .i64 t437, .slice Ao103 t438.length co103]] (by rfl) rfl rfl sa ?_
              with_reducible refine (impl_PlanAdd.calls kj34 t427 t428 t429 t430 _ _ t431 t434 t435 t436 t437 _ _ t438 t441 _ ?side1 ?side2 ?side3 ?side4 A91.out).mono ?_
              (case side1 => exact ca ((Kd.R_reads' HO433.out).2.2))
              (case side2 => exact (Kd.R_reads' HO433.out).2.1)
              (case side3 => exact ca ((Kd.R_reads' HO440.out).2.2))
              (case side4 => exact (Kd.R_reads' HO440.out).2.1)
              rintro e w104 ⟨v442, rfl, ho0, hb⟩
              refine ⟨_, rfl, ?_⟩
              replace HO_391004 := Aside0.mk (Kd.R_below (rpR HO_391004.out) hb); replace HO_399004 := Aside0.mk (Kd.R_below (rpR HO_399004.out) hb); replace HO433 := Aside0.mk (Kd.R_below (rpR HO433.out) hb); replace HO440 := Aside0.mk (Kd.R_below (rpR HO440.out) hb); have HO443 := Aside0.mk (Kd.R_lower (Kd.R_new' (Kd.R_new' ho0 (Kd.R_lt (rpR HO_6.out))) (Kd.R_lt (rpR HO_9.out))) (below_size bl)); replace HO_6 := Aside0.mk (Kd.R_elder' (rpR HO_6.out) (Kd.R_base ho0) hb); replace HO_9 := Aside0.mk (Kd.R_elder' (rpR HO_9.out) (Kd.R_base ho0) hb); replace BK362 := bv BK362 hb; replace BK363 := bv BK363 hb; replace BK390 := bv BK390 hb; replace BK398 := bv BK398 hb; replace HB := bs (w := w) hb; (try clear hb hb2 hk hi ho0)
              refine hK.out _ _ ⟨cb 0 BK362, cb 1 BK362, cb 2 BK362, cb 3 BK362, cb 4 BK362, cb 0 BK363, cb 1 BK363, cb 2 BK363, cb 3 BK363, cb 4 BK363⟩ (fun hHeld => ?_)
              clear hK K
              refine norm_ (a' := ?_) ?_ ?_
              rotate_left
              ·show Act.put _ (some 79) _ = _
               simp only [Act.put, List.setIfInBounds_toArray, List.set_cons_zero, List.set_cons_succ, i64_w, i32_w]
               rfl
              refine pV 5 13 (bo 6 63) ?_
              refine done_ (by kernel_rfl) ?_
              obtain ⟨Ao105, co105, eo105⟩ := Kd.R_slice HO443.out
              subst eo105
              try go_wp2_with (first | ((with_reducible refine gC 73 rfl ?_); refine goesZ (some 82) rfl Try.func73 #[.slice Ao105 t441.length co105, .slice Ao67 t380.length co67] ?_; (with_reducible refine (laws_eqStepS.calls kj34 _ _ t441 _ _ t380 true _ ?side1 ?side2 ?side3 ?side4 A92.out).mono ?_); (case side1 => exact ca ((Kd.R_reads' HO443.out).2.2)); (case side2 => exact (Kd.R_reads' HO443.out).2.1); (case side3 => exact ca ((Kd.R_reads' HO_6.out).2.2)); (case side4 => exact (Kd.R_reads' HO_6.out).2.1); rintro e w106 ⟨rfl, hb⟩; refine ⟨_, rfl, ?_⟩; replace HO_6 := Aside0.mk (Kd.R_below (rpR HO_6.out) hb); replace HO_9 := Aside0.mk (Kd.R_below (rpR HO_9.out) hb); replace HO_391004 := Aside0.mk (Kd.R_below (rpR HO_391004.out) hb); replace HO_399004 := Aside0.mk (Kd.R_below (rpR HO_399004.out) hb); replace HO433 := Aside0.mk (Kd.R_below (rpR HO433.out) hb); replace HO440 := Aside0.mk (Kd.R_below (rpR HO440.out) hb); replace HO443 := Aside0.mk (Kd.R_below (rpR HO443.out) hb); replace BK362 := bv BK362 hb; replace BK363 := bv BK363 hb; replace BK390 := bv BK390 hb; replace BK398 := bv BK398 hb; replace HB := bs (w := w) hb; (try clear hb)) | ((with_reducible refine gC 75 rfl ?_); refine goesL_ (some 86) rfl rfl Try.func75 (by kernel_rfl) rfl #[.slice Ao66 t425.length co66, .int .i64 1] rfl (by (try simp only [List.map_toArray, List.map_cons, List.map_nil]); first | done | (rw [show t425.length = t399.length from (Kd.R_reads' HO_9.out).1.symm] <;> rfl) | rfl | (simp only [List.length_drop, List.length_take]; rfl)) ?_; (with_reducible refine (laws_heldStepS.calls kj34 _ _ t425 1 t445 _ ?side1 ?side2 A94.out).mono ?_); (case side1 => exact ca ((Kd.R_reads' HO_9.out).2.2)); (case side2 => rw [show t425.length = t399.length from (Kd.R_reads' HO_9.out).1.symm]; exact (Kd.R_reads' HO_9.out).2.1); rintro e w107 ⟨rfl, hb⟩; refine ⟨_, rfl, ?_⟩; replace HO_6 := Aside0.mk (Kd.R_below (rpR HO_6.out) hb); replace HO_9 := Aside0.mk (Kd.R_below (rpR HO_9.out) hb); replace HO_391004 := Aside0.mk (Kd.R_below (rpR HO_391004.out) hb); replace HO_399004 := Aside0.mk (Kd.R_below (rpR HO_399004.out) hb); replace HO433 := Aside0.mk (Kd.R_below (rpR HO433.out) hb); replace HO440 := Aside0.mk (Kd.R_below (rpR HO440.out) hb); replace HO443 := Aside0.mk (Kd.R_below (rpR HO443.out) hb); replace BK362 := bv BK362 hb; replace BK363 := bv BK363 hb; replace BK390 := bv BK390 hb; replace BK398 := bv BK398 hb; replace HB := bs (w := w) hb; (try clear hb)))
              go_ret
              exact ⟨fe, bl⟩
             ·rw [if_neg c96] at H
              have c96b0 : (t445 == t424) = false := beq_eq_false_iff_ne.mpr c96
              have c96b1 : (t445 != t424) = true := bne_iff_ne.mpr c96
              exact absurd ((Option.some.inj H).trans hr_) (by decide)
           ·replace c93 := Bool.eq_false_iff.mpr c93
            subst c93
            replace H := iF H
            exact absurd ((Option.some.inj H).trans hr_) (by decide)
          ·rw [if_neg c88] at H
           have c88b0 : (t426 == t424) = false := beq_eq_false_iff_ne.mpr c88
           have c88b1 : (t426 != t424) = true := bne_iff_ne.mpr c88
           exact absurd ((Option.some.inj H).trans hr_) (by decide)
     ·replace c32 := Bool.eq_false_iff.mpr c32
      subst c32
      replace H := iF H
      exact absurd ((Option.some.inj H).trans hr_) (by decide)
    ·replace c29 := Bool.eq_false_iff.mpr c29
     subst c29
     replace H := iF H
     exact absurd ((Option.some.inj H).trans hr_) (by decide)
   ·replace c26 := Bool.eq_false_iff.mpr c26
    subst c26
    replace H := iF H
    exact absurd ((Option.some.inj H).trans hr_) (by decide)

end Go.Proofs.Ytfmddjbekophnaa.PFnExactPlanAdd
