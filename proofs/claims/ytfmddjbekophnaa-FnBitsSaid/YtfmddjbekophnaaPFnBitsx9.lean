-- PRINTED by print.py (a twelfth state) out of the translation. Not trusted: Lean checks it.
import Derived.Test.YtfmddjbekophnaaPFnBitsx0
import Derived.Test.YtfmddjbekophnaaPFnBitsx1
import Derived.Test.YtfmddjbekophnaaPFnBitsx2
import Derived.Test.YtfmddjbekophnaaPFnBitsx3
import Derived.Test.YtfmddjbekophnaaPFnBitsx4
import Derived.Test.YtfmddjbekophnaaPFnBitsx5
import Derived.Test.YtfmddjbekophnaaPFnBitsx6
import Derived.Test.YtfmddjbekophnaaPFnBitsx8
import Derived.Test.YtfmddjbekophnaaZip
namespace Go.Proofs.Ytfmddjbekophnaa.PFnBits
open Go.RowKit Go.Proofs.YtfmddjbekophnaaW.PrintWords Go.Proofs.YtfmddjbekophnaaW.PrintLast Go.Proofs.YtfmddjbekophnaaW.PrintMore Go.Proofs.Ytfmddjbekophnaa.Zip
attribute [local go_sem] max2_int min2_int max_two min_two max_three min_three max_four min_four   -- for this text's walks alone
set_option linter.unusedVariables false
set_option linter.unusedSimpArgs false

/-! ### laws_FnBits: function 10 -/
mutual
def laws_FnBits.j0 : Nat → List Int → ByteArray → Bool → Option (Bool)
 | 0, _, _, _ => none
 | k + 1, x0, x4, x50 => if x50 = true then (some false) else ((spec_DrawShowValues.f k x0).bind fun t437 => ((impl_ShowValues.f k t437).bind fun t440 => (if t440.size + x4.size ≤ 9223372036854775807 then ((impl_ReadValues.f k (t440 ++ x4) (t437.length : Int)).bind fun bt441 => (if t440.toList = ([] : List UInt8) then ((spec_ShowValues.f k t437).bind fun t445 => (laws_FnBits.j1 k x0 ((t440.toList == ([] : List UInt8)) != (t445.toList == ([] : List UInt8))))) else (if bt441.2 = (t440.size : Int) then ((laws_sameInts.f k bt441.1 t437).bind fun t446 => (if t446 = true then ((spec_ShowValues.f k t437).bind fun t447 => (laws_FnBits.j1 k x0 ((t440.toList == ([] : List UInt8)) != (t447.toList == ([] : List UInt8))))) else (laws_FnBits.j1 k x0 true))) else (laws_FnBits.j1 k x0 true)))) else (none))))
def laws_FnBits.j1 : Nat → List Int → Bool → Option (Bool)
 | 0, _, _ => none
 | k + 1, x0, x85 => if x85 = true then (some false) else ((spec_DrawReadTimes.f k x0).bind fun bt448 => ((impl_ReadTimes.f k bt448.1 bt448.2).bind fun bt450 => ((spec_DrawZigZag.f k x0).bind fun t454 => ((impl_ZigZag.f t454).bind fun t455 => ((impl_UnZig.f t455).bind fun bt456 => (if bt450.2 = 0 then (if t455 < 0 then (if bt456.2 = true then (if t455 ≥ 0 then (some (bt456.1 == t454)) else (some false)) else (some true)) else (if t455 ≥ 0 then (if bt456.2 = true then (some (bt456.1 == t454)) else (some false)) else (some false))) else (if bt450.2 > 0 then (if bt450.2 ≤ (bt448.1.size : Int) then ((impl_ShowTimes.f k bt450.1).bind fun t458 => (if 0 ≤ bt450.2 then (if t458.toList = (bt448.1.extract 0 (bt450.2 : Int).toNat).toList then (if (bt450.1.length : Int) = bt448.2 then (if t455 < 0 then (if bt456.2 = true then (if t455 ≥ 0 then (some (bt456.1 == t454)) else (some false)) else (some true)) else (if t455 ≥ 0 then (if bt456.2 = true then (some (bt456.1 == t454)) else (some false)) else (some false))) else (some false)) else (some false)) else (none))) else (some false)) else (some false))))))))
end
def laws_FnBits.f (k : Nat) (l0 : List Int) : Option (Bool) := (laws_big.f l0).bind fun t426 => (if t426 = true then (some true) else ((spec_DrawShowTimes.f k l0).bind fun t427 => ((spec_DrawHex.f k l0).bind fun t430 => ((impl_ShowTimes.f k t427).bind fun t431 => (if t431.size + t430.size ≤ 9223372036854775807 then ((impl_ReadTimes.f k (t431 ++ t430) (t427.length : Int)).bind fun bt432 => (if t431.toList = ([] : List UInt8) then (laws_FnBits.j0 k l0 t430 false) else (if bt432.2 = (t431.size : Int) then ((laws_sameInts.f k bt432.1 t427).bind fun t436 => (laws_FnBits.j0 k l0 t430 (!t436))) else (laws_FnBits.j0 k l0 t430 true)))) else (none))))))
theorem laws_FnBits.mono_l : ∀ k, (∀ y0 y1 y2, LeO (laws_FnBits.j0 k y0 y1 y2) (laws_FnBits.j0 (k + 1) y0 y1 y2)) ∧ (∀ y0 y1, LeO (laws_FnBits.j1 k y0 y1) (laws_FnBits.j1 (k + 1) y0 y1))
 | 0 => ⟨fun _ _ _ r h => by simp [laws_FnBits.j0] at h, fun _ _ r h => by simp [laws_FnBits.j1] at h⟩
 | k + 1 => by
  obtain ⟨ih0, ih1⟩ := laws_FnBits.mono_l k
  refine ⟨?_, ?_⟩
  ·intro y0 y1 y2
   unfold laws_FnBits.j0
   repeat' first
   | (with_reducible exact ih0 _ _ _)
   | (with_reducible exact ih1 _ _)
   | (with_reducible exact impl_ReadTimes.mono _ _ _)
   | (with_reducible exact impl_ReadValues.mono _ _ _)
   | (with_reducible exact impl_ShowTimes.mono _ _)
   | (with_reducible exact impl_ShowValues.mono _ _)
   | (with_reducible exact laws_sameInts.mono _ _ _)
   | (with_reducible exact spec_DrawHex.mono _ _)
   | (with_reducible exact spec_DrawReadTimes.mono _ _)
   | (with_reducible exact spec_DrawShowTimes.mono _ _)
   | (with_reducible exact spec_DrawShowValues.mono _ _)
   | (with_reducible exact spec_DrawZigZag.mono _ _)
   | (with_reducible exact spec_ShowValues.mono _ _)
   | (with_reducible exact LeO.refl _)
   | (with_reducible exact LeO.none _)
   | (with_reducible refine LeO.ite ?_ ?_)
   | (with_reducible refine LeO.bind ?_ (fun _ => ?_))
   | exact ih0 _ _ _
   | exact ih1 _ _
   | exact impl_ReadTimes.mono _ _ _
   | exact impl_ReadValues.mono _ _ _
   | exact impl_ShowTimes.mono _ _
   | exact impl_ShowValues.mono _ _
   | exact laws_sameInts.mono _ _ _
   | exact spec_DrawHex.mono _ _
   | exact spec_DrawReadTimes.mono _ _
   | exact spec_DrawShowTimes.mono _ _
   | exact spec_DrawShowValues.mono _ _
   | exact spec_DrawZigZag.mono _ _
   | exact spec_ShowValues.mono _ _
   | exact LeO.none _
   | refine LeO.ite ?_ ?_
   | refine LeO.bind ?_ (fun _ => ?_)
  ·intro y0 y1
   unfold laws_FnBits.j1
   repeat' first
   | (with_reducible exact ih0 _ _ _)
   | (with_reducible exact ih1 _ _)
   | (with_reducible exact impl_ReadTimes.mono _ _ _)
   | (with_reducible exact impl_ReadValues.mono _ _ _)
   | (with_reducible exact impl_ShowTimes.mono _ _)
   | (with_reducible exact impl_ShowValues.mono _ _)
   | (with_reducible exact laws_sameInts.mono _ _ _)
   | (with_reducible exact spec_DrawHex.mono _ _)
   | (with_reducible exact spec_DrawReadTimes.mono _ _)
   | (with_reducible exact spec_DrawShowTimes.mono _ _)
   | (with_reducible exact spec_DrawShowValues.mono _ _)
   | (with_reducible exact spec_DrawZigZag.mono _ _)
   | (with_reducible exact spec_ShowValues.mono _ _)
   | (with_reducible exact LeO.refl _)
   | (with_reducible exact LeO.none _)
   | (with_reducible refine LeO.ite ?_ ?_)
   | (with_reducible refine LeO.bind ?_ (fun _ => ?_))
   | exact ih0 _ _ _
   | exact ih1 _ _
   | exact impl_ReadTimes.mono _ _ _
   | exact impl_ReadValues.mono _ _ _
   | exact impl_ShowTimes.mono _ _
   | exact impl_ShowValues.mono _ _
   | exact laws_sameInts.mono _ _ _
   | exact spec_DrawHex.mono _ _
   | exact spec_DrawReadTimes.mono _ _
   | exact spec_DrawShowTimes.mono _ _
   | exact spec_DrawShowValues.mono _ _
   | exact spec_DrawZigZag.mono _ _
   | exact spec_ShowValues.mono _ _
   | exact LeO.none _
   | refine LeO.ite ?_ ?_
   | refine LeO.bind ?_ (fun _ => ?_)
theorem laws_FnBits.mono : ∀ a0 k, LeO (laws_FnBits.f k a0) (laws_FnBits.f (k + 1) a0) := by
 intro a0 k
 obtain ⟨ih0, ih1⟩ := laws_FnBits.mono_l k
 unfold laws_FnBits.f
 repeat' first
  | (with_reducible exact ih0 _ _ _)
  | (with_reducible exact ih1 _ _)
  | (with_reducible exact impl_ReadTimes.mono _ _ _)
  | (with_reducible exact impl_ReadValues.mono _ _ _)
  | (with_reducible exact impl_ShowTimes.mono _ _)
  | (with_reducible exact impl_ShowValues.mono _ _)
  | (with_reducible exact laws_sameInts.mono _ _ _)
  | (with_reducible exact spec_DrawHex.mono _ _)
  | (with_reducible exact spec_DrawReadTimes.mono _ _)
  | (with_reducible exact spec_DrawShowTimes.mono _ _)
  | (with_reducible exact spec_DrawShowValues.mono _ _)
  | (with_reducible exact spec_DrawZigZag.mono _ _)
  | (with_reducible exact spec_ShowValues.mono _ _)
  | (with_reducible exact LeO.refl _)
  | (with_reducible exact LeO.none _)
  | (with_reducible refine LeO.ite ?_ ?_)
  | (with_reducible refine LeO.bind ?_ (fun _ => ?_))
  | exact ih0 _ _ _
  | exact ih1 _ _
  | exact impl_ReadTimes.mono _ _ _
  | exact impl_ReadValues.mono _ _ _
  | exact impl_ShowTimes.mono _ _
  | exact impl_ShowValues.mono _ _
  | exact laws_sameInts.mono _ _ _
  | exact spec_DrawHex.mono _ _
  | exact spec_DrawReadTimes.mono _ _
  | exact spec_DrawShowTimes.mono _ _
  | exact spec_DrawShowValues.mono _ _
  | exact spec_DrawZigZag.mono _ _
  | exact spec_ShowValues.mono _ _
  | exact LeO.none _
  | refine LeO.ite ?_ ?_
  | refine LeO.bind ?_ (fun _ => ?_)
def laws_FnBits.T19 : Bool × List (List Nat × List Nat) := (true, [([], []), ([0], [0]), ([1], [1]), ([2], [2]), ([3, 2], [2, 3]), ([4, 2, 2], [2, 4]), ([5], [5]), ([5], [5]), ([7, 5], [5, 7]), ([6, 8, 5], [5, 6, 8]), ([5, 9, 2], [2, 5, 9]), ([10, 5, 2], [2, 10]), ([11], [11]), ([12, 11, 11], [11, 12]), ([11], [11]), ([11], [11]), ([14, 15, 11], [11, 14, 15]), ([13, 16, 11], [11, 13, 16]), ([11, 17, 2], [2, 11, 17]), ([18, 13, 2], [2, 18]), ([19], [19]), ([20, 19], [19, 20]), ([19], [19]), ([21, 22, 19], [19, 21, 22]), ([19, 23, 2], [2, 19, 23]), ([2, 24], [2, 24]), ([25, 19], [25]), ([26], [26]), ([27, 26], [26, 27]), ([28, 26, 26], [26, 28]), ([29], [29]), ([30, 29], [29, 30]), ([29, 31, 26], [26, 29, 31]), ([32, 29, 26], [26, 32]), ([33], [33]), ([34, 33], [33, 34]), ([35, 33, 33], [33, 35]), ([36], [36]), ([36, 37, 33], [33, 36, 37]), ([38, 36, 33], [33, 38]), ([39], [39]), ([39], [39]), ([40, 41, 39], [39, 40, 41]), ([39, 42, 33], [33, 39, 42]), ([33, 43, 26], [26, 33, 43]), ([26, 44], [26, 44]), ([45, 39, 0, 1, 2, 3, 4, 5, 6, 7, 8, 9, 10, 11, 12, 13, 14, 15, 16, 17, 18, 19, 20, 21, 22, 23, 24, 25, 26, 27, 28, 29, 30, 31, 32, 33, 34, 35, 36, 37, 38, 39, 40, 41, 42, 43, 44, 45], [45])])
def laws_FnBits.B19 : List Nat := [0, 1, 3, 7, 15, 31, 63, 63, 191, 511, 1023, 2047, 4095, 8191, 4095, 4095, 53247, 131071, 262143, 524287, 1048575, 2097151, 1048575, 8388607, 16777215, 33554431, 67108863, 134217727, 268435455, 536870911, 1073741823, 2147483647, 4294967295, 8589934591, 17179869183, 34359738367, 68719476735, 137438953471, 274877906943, 549755813887, 1099511627775, 1099511627775, 4398046511103, 8796093022207, 17592186044415, 35184372088831, 70368744177663]
theorem laws_FnBits.tab19 : rtab .any (opsOf Try.f10 19) = laws_FnBits.T19 := by kernel_rfl
theorem laws_FnBits.bits19 : waitsOk laws_FnBits.T19.2 laws_FnBits.B19 = true := by kernel_rfl
set_option maxHeartbeats 8000000 in
set_option maxRecDepth 100000 in
theorem laws_FnBits.calls (k : Nat) (A0 : Option Addr) (c0 : Nat) (l0 : List Int) (r : Bool) (w : World) (hr0 : Kd.C (Kd.int .u8) w A0 l0.length l0) (hc0 : l0.length ≤ c0) (h : laws_FnBits.f k l0 = some r) (hr_ : r = true) :
 Calls Try.prog 10 #[.slice A0 l0.length c0] w fun e w' => e = .returned (.bool r) ∧ Below w.heap.size w w' := by
 have HR0 := Aside0.mk hr0
 have HC0 := Aside0.mk hc0
 clear hr0 hc0
 have HB := Aside0.mk (Below.refl w.heap.size w)
 have H : ((laws_big.f l0).bind fun t426 => (if t426 = true then (some true) else ((spec_DrawShowTimes.f k l0).bind fun t427 => ((spec_DrawHex.f k l0).bind fun t430 => ((impl_ShowTimes.f k t427).bind fun t431 => (if t431.size + t430.size ≤ 9223372036854775807 then ((impl_ReadTimes.f k (t431 ++ t430) (t427.length : Int)).bind fun bt432 => (if t431.toList = ([] : List UInt8) then (laws_FnBits.j0 k l0 t430 false) else (if bt432.2 = (t431.size : Int) then ((laws_sameInts.f k bt432.1 t427).bind fun t436 => (laws_FnBits.j0 k l0 t430 (!t436))) else (laws_FnBits.j0 k l0 t430 true)))) else (none))))))) = some r := h
 clear h
 obtain ⟨t426, A2, H⟩ := bd H
 by_cases c3 : t426 = true
 ·subst c3
  replace H := iT H
  obtain rfl := Option.some.inj H
  go_enter Try.func10, Try.ntmps10
  go_wp2_with (first | ((with_reducible refine gC 30 rfl ?_); refine goesZ (some 21) rfl Try.func30 #[.slice A0 l0.length c0] ?_; (with_reducible refine (laws_big.calls _ _ l0 true _ ?side1 ?side2 A2.out).mono ?_); (case side1 => exact ca HR0.out); (case side2 => exact HC0.out); rintro e w' ⟨rfl, ⟨nd, rfl⟩⟩; refine ⟨_, rfl, ?_⟩))
  go_ret
  exact ⟨fe, bl⟩
 ·replace c3 := Bool.eq_false_iff.mpr c3
  subst c3
  replace H := iF H
  obtain ⟨t427, A4, H⟩ := bd H
  obtain ⟨t430, A5, H⟩ := bd H
  obtain ⟨t431, A6, H⟩ := bd H
  by_cases c7 : t431.size + t430.size ≤ 9223372036854775807
  ·rw [if_pos c7] at H
   have c7b0 := eq_true c7
   have c7b1 : decide (t431.size + t430.size ≤ 9223372036854775807) = true := decide_eq_true c7
   try have c7b2 : (9223372036854775807 < t431.size + t430.size) = False := eq_false (Nat.not_lt.2 c7)
   replace H := Option.bind_eq_some_iff.mp H
   obtain ⟨⟨t432, t433⟩, A80, H⟩ := H
   replace H : (if t431.toList = ([] : List UInt8) then (laws_FnBits.j0 k l0 t430 false) else (if t433 = (t431.size : Int) then ((laws_sameInts.f k t432 t427).bind fun t436 => (laws_FnBits.j0 k l0 t430 (!t436))) else (laws_FnBits.j0 k l0 t430 true))) = some r := H
   have A8 := Aside0.mk A80
   clear A80
   have HC9 := Aside0.mk H
   clear H
   go_enter Try.func10, Try.ntmps10
   go_upto_region 7 with (first | ((with_reducible refine gC 30 rfl ?_); refine goesZ (some 21) rfl Try.func30 #[.slice A0 l0.length c0] ?_; (with_reducible refine (laws_big.calls _ _ l0 false _ ?side1 ?side2 A2.out).mono ?_); (case side1 => exact ca HR0.out); (case side2 => exact HC0.out); rintro e w' ⟨rfl, ⟨nd, rfl⟩⟩; refine ⟨_, rfl, ?_⟩) | ((with_reducible refine gC 48 rfl ?_); refine goesZ (some 23) rfl Try.func48 #[.slice A0 l0.length c0] ?_; (with_reducible refine (spec_DrawShowTimes.calls k _ _ l0 t427 _ ?side1 ?side2 A4.out).mono ?_); (case side1 => exact ca HR0.out); (case side2 => exact HC0.out); rintro e w10 ⟨v428, rfl, ho0, hb⟩; refine ⟨_, rfl, ?_⟩; have HO429 := Aside0.mk (Kd.R_lower ho0 (below_size bl)); replace HB := bs (w := w) hb; (try clear hb ho0)) | ((with_reducible refine gC 32 rfl ?_); refine goesZ (some 25) rfl Try.func32 #[.slice A0 l0.length c0] ?_; (with_reducible refine (spec_DrawHex.calls k _ _ l0 t430 _ ?side1 ?side2 A5.out).mono ?_); (case side1 => exact ca (Kd.C_below HR0.out HB.out)); (case side2 => exact HC0.out); rintro e w11 ⟨rfl, hb⟩; refine ⟨_, rfl, ?_⟩; replace HO429 := Aside0.mk (Kd.R_below (rpR HO429.out) hb); replace HB := bs (w := w) hb; (try clear hb); obtain ⟨Ao12, co12, rfl⟩ := Kd.R_slice HO429.out) | ((with_reducible refine gC 25 rfl ?_); refine goesZ (some 27) rfl Try.func25 #[.slice Ao12 t427.length co12] ?_; (with_reducible refine (impl_ShowTimes.calls k _ _ t427 t431 _ ?side1 ?side2 A6.out).mono ?_); (case side1 => exact ca ((Kd.R_reads' HO429.out).2.2)); (case side2 => exact (Kd.R_reads' HO429.out).2.1); rintro e w13 ⟨rfl, hb⟩; refine ⟨_, rfl, ?_⟩; replace HO429 := Aside0.mk (Kd.R_below (rpR HO429.out) hb); replace HB := bs (w := w) hb; (try clear hb)) | ((with_reducible refine gC 47 rfl ?_); refine goesZ (some 34) rfl Try.func47 #[.string (t431 ++ t430), .int .i64 (t427.length : Int)] ?_; (with_reducible refine (impl_ReadTimes.calls k (t431 ++ t430) (t427.length : Int) t432 t433 _ A8.out).mono ?_); rintro e w14 ⟨v434, rfl, ho0, hb⟩; refine ⟨_, rfl, ?_⟩; have HO435 := Aside0.mk (Kd.R_lower (Kd.R_new' ho0 (Kd.R_lt (rpR HO429.out))) (below_size bl)); replace HO429 := Aside0.mk (Kd.R_elder' (rpR HO429.out) (Kd.R_base ho0) hb); replace HB := bs (w := w) hb; (try clear hb ho0)))
   (try simp only [Act.put, List.setIfInBounds_toArray, List.set_cons_zero, List.set_cons_succ])
   go_cut [50] (fun v50 wc => ∃ (kq : Nat) (x50_8 : Bool), v50 = .bool x50_8 ∧ Aside0 (laws_FnBits.j0 kq l0 t430 x50_8 = some r) ∧ Aside0 (kq ≤ k) ∧ Aside0 (Below w.heap.size w wc))
   case first =>
    have H := HC9.out
    clear HC9
    by_cases c15 : t431.toList = ([] : List UInt8)
    ·rw [if_pos c15] at H
     have c15b0 : (t431.toList == ([] : List UInt8)) = true := beq_iff_eq.mpr c15
     have c15bE := c15b0; simp only [show ∀ l_ : List UInt8, (l_ == []) = l_.isEmpty from fun l_ => by cases l_ <;> rfl] at c15bE
     have c15b1 : (t431.toList != ([] : List UInt8)) = false := bne_eq_false_iff_eq.mpr c15
     clear c15
     (first | rw [c15b0] | (simp only [i64_w, i32_w]; rw [c15b0]) | skip)
     have H' := Aside0.mk H
     clear H
     go_wp2
     go_meet
     case rel => exact ⟨_, (false), fa, H', ⟨by first | omega | exact Nat.le_refl _⟩, ⟨bl⟩⟩
    ·rw [if_neg c15] at H
     have c15b0 : (t431.toList == ([] : List UInt8)) = false := beq_eq_false_iff_ne.mpr c15
     have c15bE := c15b0; simp only [show ∀ l_ : List UInt8, (l_ == []) = l_.isEmpty from fun l_ => by cases l_ <;> rfl] at c15bE
     have c15b1 : (t431.toList != ([] : List UInt8)) = true := bne_iff_ne.mpr c15
     (first | rw [c15b0] | (simp only [i64_w, i32_w]; rw [c15b0]) | skip)
     by_cases c16 : t433 = (t431.size : Int)
     ·rw [if_pos c16] at H
      have c16b0 : (t433 == (t431.size : Int)) = true := beq_iff_eq.mpr c16
      have c16b1 : (t433 != (t431.size : Int)) = false := bne_eq_false_iff_eq.mpr c16
      clear c16
      obtain ⟨t436, A17, H⟩ := bd H
      have H' := Aside0.mk H
      clear H
      obtain ⟨Ao18, co18, eo18⟩ := Kd.R_slice HO435.out
      subst eo18
      go_wp2_with (first | (go_at_call 49; (with_reducible refine (laws_sameInts.calls k _ _ t432 _ _ t427 t436 _ ?side1 ?side2 ?side3 ?side4 A17.out).mono ?_); (case side1 => exact ca ((Kd.R_reads' HO435.out).2.2)); (case side2 => exact (Kd.R_reads' HO435.out).2.1); (case side3 => exact ca ((Kd.R_reads' HO429.out).2.2)); (case side4 => exact (Kd.R_reads' HO429.out).2.1); rintro e w' ⟨rfl, ⟨nd, rfl⟩⟩))
      go_meet
      case rel => exact ⟨_, (!t436), fa, H', ⟨by first | omega | exact Nat.le_refl _⟩, ⟨bl⟩⟩
     ·rw [if_neg c16] at H
      have c16b0 : (t433 == (t431.size : Int)) = false := beq_eq_false_iff_ne.mpr c16
      have c16b1 : (t433 != (t431.size : Int)) = true := bne_iff_ne.mpr c16
      have H' := Aside0.mk H
      clear H
      go_wp2
      go_meet
      case rel => exact ⟨_, (true), fa, H', ⟨by first | omega | exact Nat.le_refl _⟩, ⟨bl⟩⟩
   case rest =>
    clear HC9
    try clear c1
    try clear c2
    try clear p2
    try clear c3
    try clear c4
    try clear c7
    try clear c7b0
    try clear c7b1
    try clear c7b2
    try clear c10
    try clear c15
    try clear c15b0
    try clear c15b1
    try clear c16
    try clear c16b0
    try clear c16b1
    obtain ⟨kq, x50_8, rfl, HA, HJ8, HB⟩ := hcut
    cases kq with
    | zero => exact absurd HA.out (by simp [laws_FnBits.j0])
    | succ kj8 =>
     have H := HA.out
     clear HA
     simp only [laws_FnBits.j0] at H
     by_cases c19 : x50_8 = true
     ·subst c19
      replace H := iT H
      exact absurd ((Option.some.inj H).trans hr_) (by decide)
     ·replace c19 := Bool.eq_false_iff.mpr c19
      subst c19
      replace H := iF H
      obtain ⟨t437, A20, H⟩ := bd H
      obtain ⟨t440, A21, H⟩ := bd H
      by_cases c22 : t440.size + t430.size ≤ 9223372036854775807
      ·rw [if_pos c22] at H
       have c22b0 := eq_true c22
       have c22b1 : decide (t440.size + t430.size ≤ 9223372036854775807) = true := decide_eq_true c22
       try have c22b2 : (9223372036854775807 < t440.size + t430.size) = False := eq_false (Nat.not_lt.2 c22)
       replace H := Option.bind_eq_some_iff.mp H
       obtain ⟨⟨t441, t442⟩, A230, H⟩ := H
       replace H : (if t440.toList = ([] : List UInt8) then ((spec_ShowValues.f kj8 t437).bind fun t445 => (laws_FnBits.j1 kj8 l0 ((t440.toList == ([] : List UInt8)) != (t445.toList == ([] : List UInt8))))) else (if t442 = (t440.size : Int) then ((laws_sameInts.f kj8 t441 t437).bind fun t446 => (if t446 = true then ((spec_ShowValues.f kj8 t437).bind fun t447 => (laws_FnBits.j1 kj8 l0 ((t440.toList == ([] : List UInt8)) != (t447.toList == ([] : List UInt8))))) else (laws_FnBits.j1 kj8 l0 true))) else (laws_FnBits.j1 kj8 l0 true))) = some r := H
       have A23 := Aside0.mk A230
       clear A230
       have HC24 := Aside0.mk H
       clear H
       go_upto_region 12 with (first | ((with_reducible refine gC 50 rfl ?_); refine goesZ (some 52) rfl Try.func50 #[.slice A0 l0.length c0] ?_; (with_reducible refine (spec_DrawShowValues.calls kj8 _ _ l0 t437 _ ?side1 ?side2 A20.out).mono ?_); (case side1 => exact ca (Kd.C_below HR0.out HB.out)); (case side2 => exact HC0.out); rintro e w25 ⟨v438, rfl, ho0, hb⟩; refine ⟨_, rfl, ?_⟩; have HO439 := Aside0.mk (Kd.R_lower ho0 (below_size bl)); replace HB := bs (w := w) hb; (try clear hb ho0); obtain ⟨Ao26, co26, rfl⟩ := Kd.R_slice HO439.out) | ((with_reducible refine gC 22 rfl ?_); refine goesZ (some 54) rfl Try.func22 #[.slice Ao26 t437.length co26] ?_; (with_reducible refine (impl_ShowValues.calls kj8 _ _ t437 t440 _ ?side1 ?side2 A21.out).mono ?_); (case side1 => exact ca ((Kd.R_reads' HO439.out).2.2)); (case side2 => exact (Kd.R_reads' HO439.out).2.1); rintro e w27 ⟨rfl, hb⟩; refine ⟨_, rfl, ?_⟩; replace HO439 := Aside0.mk (Kd.R_below (rpR HO439.out) hb); replace HB := bs (w := w) hb; (try clear hb)) | ((with_reducible refine gC 43 rfl ?_); refine goesZ (some 61) rfl Try.func43 #[.string (t440 ++ t430), .int .i64 (t437.length : Int)] ?_; (with_reducible refine (impl_ReadValues.calls kj8 (t440 ++ t430) (t437.length : Int) t441 t442 _ A23.out).mono ?_); rintro e w28 ⟨v443, rfl, ho0, hb⟩; refine ⟨_, rfl, ?_⟩; have HO444 := Aside0.mk (Kd.R_lower (Kd.R_new' ho0 (Kd.R_lt (rpR HO439.out))) (below_size bl)); replace HO439 := Aside0.mk (Kd.R_elder' (rpR HO439.out) (Kd.R_base ho0) hb); replace HB := bs (w := w) hb; (try clear hb ho0)))
       (try simp only [Act.put, List.setIfInBounds_toArray, List.set_cons_zero, List.set_cons_succ])
       go_cut [85] (fun v85 wc => ∃ (kq : Nat) (x85_23 : Bool), v85 = .bool x85_23 ∧ Aside0 (laws_FnBits.j1 kq l0 x85_23 = some r) ∧ Aside0 (kq ≤ kj8) ∧ Aside0 (Below w.heap.size w wc))
       case first =>
        have H := HC24.out
        clear HC24
        by_cases c29 : t440.toList = ([] : List UInt8)
        ·rw [if_pos c29] at H
         have c29b0 : (t440.toList == ([] : List UInt8)) = true := beq_iff_eq.mpr c29
         have c29bE := c29b0; simp only [show ∀ l_ : List UInt8, (l_ == []) = l_.isEmpty from fun l_ => by cases l_ <;> rfl] at c29bE
         have c29b1 : (t440.toList != ([] : List UInt8)) = false := bne_eq_false_iff_eq.mpr c29
         clear c29
         (first | rw [c29b0] | (simp only [i64_w, i32_w]; rw [c29b0]) | skip)
         obtain ⟨t445, A30, H⟩ := bd H
         have H' := Aside0.mk H
         clear H
         go_wp2_with (first | (go_at_call 20; (with_reducible refine (spec_ShowValues.calls kj8 _ _ t437 t445 _ ?side1 ?side2 A30.out).mono ?_); (case side1 => exact ca ((Kd.R_reads' HO439.out).2.2)); (case side2 => exact (Kd.R_reads' HO439.out).2.1); rintro e w31 ⟨rfl, hb⟩; replace HO439 := Aside0.mk (Kd.R_below (rpR HO439.out) hb); replace HO444 := Aside0.mk (Kd.R_below (rpR HO444.out) hb); replace HB := bs (w := w) hb; (try clear hb)))
         go_meet
         case rel => exact ⟨_, (((t440.toList == ([] : List UInt8)) != (t445.toList == ([] : List UInt8)))), fa, H', ⟨by have := HJ8.out; first | omega | exact Nat.le_refl _⟩, ⟨bl⟩⟩
        ·rw [if_neg c29] at H
         have c29b0 : (t440.toList == ([] : List UInt8)) = false := beq_eq_false_iff_ne.mpr c29
         have c29bE := c29b0; simp only [show ∀ l_ : List UInt8, (l_ == []) = l_.isEmpty from fun l_ => by cases l_ <;> rfl] at c29bE
         have c29b1 : (t440.toList != ([] : List UInt8)) = true := bne_iff_ne.mpr c29
         (first | rw [c29b0] | (simp only [i64_w, i32_w]; rw [c29b0]) | skip)
         by_cases c32 : t442 = (t440.size : Int)
         ·rw [if_pos c32] at H
          have c32b0 : (t442 == (t440.size : Int)) = true := beq_iff_eq.mpr c32
          have c32b1 : (t442 != (t440.size : Int)) = false := bne_eq_false_iff_eq.mpr c32
          clear c32
          obtain ⟨t446, A33, H⟩ := bd H
          by_cases c34 : t446 = true
          ·subst c34
           replace H := iT H
           obtain ⟨t447, A35, H⟩ := bd H
           have H' := Aside0.mk H
           clear H
           obtain ⟨Ao36, co36, eo36⟩ := Kd.R_slice HO444.out
           subst eo36
           go_wp2_with (first | (go_at_call 49; (with_reducible refine (laws_sameInts.calls kj8 _ _ t441 _ _ t437 true _ ?side1 ?side2 ?side3 ?side4 A33.out).mono ?_); (case side1 => exact ca ((Kd.R_reads' HO444.out).2.2)); (case side2 => exact (Kd.R_reads' HO444.out).2.1); (case side3 => exact ca ((Kd.R_reads' HO439.out).2.2)); (case side4 => exact (Kd.R_reads' HO439.out).2.1); rintro e w' ⟨rfl, ⟨nd, rfl⟩⟩) | (go_at_call 20; (with_reducible refine (spec_ShowValues.calls kj8 _ _ t437 t447 _ ?side1 ?side2 A35.out).mono ?_); (case side1 => exact ca ((Kd.R_reads' HO439.out).2.2)); (case side2 => exact (Kd.R_reads' HO439.out).2.1); rintro e w37 ⟨rfl, hb⟩; replace HO439 := Aside0.mk (Kd.R_below (rpR HO439.out) hb); replace HO444 := Aside0.mk (Kd.R_below (rpR HO444.out) hb); replace HB := bs (w := w) hb; (try clear hb)))
           go_meet
           case rel => exact ⟨_, (((t440.toList == ([] : List UInt8)) != (t447.toList == ([] : List UInt8)))), fa, H', ⟨by have := HJ8.out; first | omega | exact Nat.le_refl _⟩, ⟨bl⟩⟩
          ·replace c34 := Bool.eq_false_iff.mpr c34
           subst c34
           replace H := iF H
           have H' := Aside0.mk H
           clear H
           obtain ⟨Ao38, co38, eo38⟩ := Kd.R_slice HO444.out
           subst eo38
           go_wp2_with (first | (go_at_call 49; (with_reducible refine (laws_sameInts.calls kj8 _ _ t441 _ _ t437 false _ ?side1 ?side2 ?side3 ?side4 A33.out).mono ?_); (case side1 => exact ca ((Kd.R_reads' HO444.out).2.2)); (case side2 => exact (Kd.R_reads' HO444.out).2.1); (case side3 => exact ca ((Kd.R_reads' HO439.out).2.2)); (case side4 => exact (Kd.R_reads' HO439.out).2.1); rintro e w' ⟨rfl, ⟨nd, rfl⟩⟩))
           go_meet
           case rel => exact ⟨_, (true), fa, H', ⟨by have := HJ8.out; first | omega | exact Nat.le_refl _⟩, ⟨bl⟩⟩
         ·rw [if_neg c32] at H
          have c32b0 : (t442 == (t440.size : Int)) = false := beq_eq_false_iff_ne.mpr c32
          have c32b1 : (t442 != (t440.size : Int)) = true := bne_iff_ne.mpr c32
          have H' := Aside0.mk H
          clear H
          go_wp2
          go_meet
          case rel => exact ⟨_, (true), fa, H', ⟨by have := HJ8.out; first | omega | exact Nat.le_refl _⟩, ⟨bl⟩⟩
       case rest =>
        clear HC24
        try clear c1
        try clear c2
        try clear p2
        try clear c3
        try clear c4
        try clear c5
        try clear c7
        try clear c7b0
        try clear c7b1
        try clear c7b2
        try clear c10
        try clear c15
        try clear c15b0
        try clear c15b1
        try clear c16
        try clear c16b0
        try clear c16b1
        try clear c19
        try clear c22
        try clear c22b0
        try clear c22b1
        try clear c22b2
        try clear c25
        try clear c29
        try clear c29b0
        try clear c29b1
        try clear c30
        try clear c32
        try clear c32b0
        try clear c32b1
        try clear c34
        try clear p2
        obtain ⟨kq, x85_23, rfl, HA, HJ23, HB⟩ := hcut
        cases kq with
        | zero => exact absurd HA.out (by simp [laws_FnBits.j1])
        | succ kj23 =>
         have H := HA.out
         clear HA
         simp only [laws_FnBits.j1] at H
         by_cases c39 : x85_23 = true
         ·subst c39
          replace H := iT H
          exact absurd ((Option.some.inj H).trans hr_) (by decide)
         ·replace c39 := Bool.eq_false_iff.mpr c39
          subst c39
          replace H := iF H
          replace H := Option.bind_eq_some_iff.mp H
          obtain ⟨⟨t448, t449⟩, A400, H⟩ := H
          replace H : ((impl_ReadTimes.f kj23 t448 t449).bind fun bt450 => ((spec_DrawZigZag.f kj23 l0).bind fun t454 => ((impl_ZigZag.f t454).bind fun t455 => ((impl_UnZig.f t455).bind fun bt456 => (if bt450.2 = 0 then (if t455 < 0 then (if bt456.2 = true then (if t455 ≥ 0 then (some (bt456.1 == t454)) else (some false)) else (some true)) else (if t455 ≥ 0 then (if bt456.2 = true then (some (bt456.1 == t454)) else (some false)) else (some false))) else (if bt450.2 > 0 then (if bt450.2 ≤ (t448.size : Int) then ((impl_ShowTimes.f kj23 bt450.1).bind fun t458 => (if 0 ≤ bt450.2 then (if t458.toList = (t448.extract 0 (bt450.2 : Int).toNat).toList then (if (bt450.1.length : Int) = t449 then (if t455 < 0 then (if bt456.2 = true then (if t455 ≥ 0 then (some (bt456.1 == t454)) else (some false)) else (some true)) else (if t455 ≥ 0 then (if bt456.2 = true then (some (bt456.1 == t454)) else (some false)) else (some false))) else (some false)) else (some false)) else (none))) else (some false)) else (some false))))))) = some r := H
          have A40 := Aside0.mk A400
          clear A400
          replace H := Option.bind_eq_some_iff.mp H
          obtain ⟨⟨t450, t451⟩, A410, H⟩ := H
          replace H : ((spec_DrawZigZag.f kj23 l0).bind fun t454 => ((impl_ZigZag.f t454).bind fun t455 => ((impl_UnZig.f t455).bind fun bt456 => (if t451 = 0 then (if t455 < 0 then (if bt456.2 = true then (if t455 ≥ 0 then (some (bt456.1 == t454)) else (some false)) else (some true)) else (if t455 ≥ 0 then (if bt456.2 = true then (some (bt456.1 == t454)) else (some false)) else (some false))) else (if t451 > 0 then (if t451 ≤ (t448.size : Int) then ((impl_ShowTimes.f kj23 t450).bind fun t458 => (if 0 ≤ t451 then (if t458.toList = (t448.extract 0 (t451 : Int).toNat).toList then (if (t450.length : Int) = t449 then (if t455 < 0 then (if bt456.2 = true then (if t455 ≥ 0 then (some (bt456.1 == t454)) else (some false)) else (some true)) else (if t455 ≥ 0 then (if bt456.2 = true then (some (bt456.1 == t454)) else (some false)) else (some false))) else (some false)) else (some false)) else (none))) else (some false)) else (some false)))))) = some r := H
          have A41 := Aside0.mk A410
          clear A410
          obtain ⟨t454, A42, H⟩ := bd H
          obtain ⟨t455, A43, H⟩ := bd H
          replace H := Option.bind_eq_some_iff.mp H
          obtain ⟨⟨t456, t457⟩, A440, H⟩ := H
          replace H : (if t451 = 0 then (if t455 < 0 then (if t457 = true then (if t455 ≥ 0 then (some (t456 == t454)) else (some false)) else (some true)) else (if t455 ≥ 0 then (if t457 = true then (some (t456 == t454)) else (some false)) else (some false))) else (if t451 > 0 then (if t451 ≤ (t448.size : Int) then ((impl_ShowTimes.f kj23 t450).bind fun t458 => (if 0 ≤ t451 then (if t458.toList = (t448.extract 0 (t451 : Int).toNat).toList then (if (t450.length : Int) = t449 then (if t455 < 0 then (if t457 = true then (if t455 ≥ 0 then (some (t456 == t454)) else (some false)) else (some true)) else (if t455 ≥ 0 then (if t457 = true then (some (t456 == t454)) else (some false)) else (some false))) else (some false)) else (some false)) else (none))) else (some false)) else (some false))) = some r := H
          have A44 := Aside0.mk A440
          clear A440
          by_cases c45 : t451 = 0
          ·rw [if_pos c45] at H
           have c45b0 : (t451 == 0) = true := beq_iff_eq.mpr c45
           have c45b1 : (t451 != 0) = false := bne_eq_false_iff_eq.mpr c45
           clear c45
           by_cases c46 : t455 < 0
           ·rw [if_pos c46] at H
            have c46b0 : decide (t455 < 0) = true := decide_eq_true c46
            clear c46
            by_cases c47 : t457 = true
            ·subst c47
             replace H := iT H
             by_cases c48 : t455 ≥ 0
             ·rw [if_pos c48] at H
              have c48b0 : decide (0 ≤ t455) = true := decide_eq_true c48
              clear c48
              obtain rfl := Option.some.inj H
              try go_wp2_with (first | ((with_reducible refine gC 51 rfl ?_); refine goesZ (some 88) rfl Try.func51 #[.slice A0 l0.length c0] ?_; (with_reducible refine (spec_DrawReadTimes.calls kj23 _ _ l0 t448 t449 _ ?side1 ?side2 A40.out).mono ?_); (case side1 => exact ca (Kd.C_below HR0.out HB.out)); (case side2 => exact HC0.out); rintro e w49 ⟨rfl, hb⟩; refine ⟨_, rfl, ?_⟩; replace HB := bs (w := w) hb; (try clear hb)) | ((with_reducible refine gC 47 rfl ?_); refine goesZ (some 94) rfl Try.func47 #[.string t448, .int .i64 t449] ?_; (with_reducible refine (impl_ReadTimes.calls kj23 t448 t449 t450 t451 _ A41.out).mono ?_); rintro e w50 ⟨v452, rfl, ho0, hb⟩; refine ⟨_, rfl, ?_⟩; have HO453 := Aside0.mk (Kd.R_lower ho0 (below_size bl)); replace HB := bs (w := w) hb; (try clear hb ho0)) | ((with_reducible refine gC 52 rfl ?_); refine goesZ (some 98) rfl Try.func52 #[.slice A0 l0.length c0] ?_; (with_reducible refine (spec_DrawZigZag.calls kj23 _ _ l0 t454 _ ?side1 ?side2 A42.out).mono ?_); (case side1 => exact ca (Kd.C_below HR0.out HB.out)); (case side2 => exact HC0.out); rintro e w51 ⟨rfl, hb⟩; refine ⟨_, rfl, ?_⟩; replace HO453 := Aside0.mk (Kd.R_below (rpR HO453.out) hb); replace HB := bs (w := w) hb; (try clear hb)) | ((with_reducible refine gC 53 rfl ?_); refine goesZ (some 100) rfl Try.func53 #[.int .i64 t454] ?_; (with_reducible refine (impl_ZigZag.calls t454 t455 _ A43.out).mono ?_); rintro e w' ⟨rfl, ⟨nd, rfl⟩⟩; refine ⟨_, rfl, ?_⟩) | ((with_reducible refine gC 54 rfl ?_); refine goesZ (some 103) rfl Try.func54 #[.int .i64 t455] ?_; (with_reducible refine (impl_UnZig.calls t455 t456 true _ A44.out).mono ?_); rintro e w' ⟨rfl, ⟨nd, rfl⟩⟩; refine ⟨_, rfl, ?_⟩))
              (try (rw [drewN_self w51]; generalize hq_ : World.drewN w51 _ = w51; have n0_ : Aside0 (Kd.R (Kd.int .i64) 3 w51 w.heap.size (fun _ => True) v452 t450) := ⟨by rw [← hq_]; exact (rpR HO453.out)⟩; have n1_ : Aside0 (Below w.heap.size w w51) := ⟨by rw [← hq_]; exact bl⟩; clear HO453 HB hq_; have HO453 := n0_; have HB := n1_; clear n0_ n1_))
              replace HO453 := Aside0.mk (Kd.R_drew HO453.out); replace HB := Aside0.mk (below_drew1 HB.out)
              refine start_ (n := 47) (S := fun w' => True) (ds := []) (bo 47 0) (by kernel_rfl) rfl rfl trivial (fun hHeld => ?_); refine with_tabW laws_FnBits.tab19 laws_FnBits.bits19 (fun HT_ HW_ => ?_)
              generalize w51.drew = w52 at HO453 HB hHeld ⊢
              refine pV 0 106 (bo 47 1) ?_
              refine pV 1 107 (bo 47 3) ?_
              refine pV 2 108 (bo 47 7) ?_
              refine pU 3 109 (bo 47 15) ?_
              refine pU 4 110 (bo 47 31) ?_
              refine pU 5 111 (bo 47 63) ?_
              refine pU 6 112 (bo 47 127) ?_
              refine pU 7 113 (bo 47 255) ?_
              refine pU 8 114 (bo 47 511) ?_
              refine pU 9 115 (bo 47 1023) ?_
              refine pU 10 116 (bo 47 2047) ?_
              refine pU 11 117 (bo 47 4095) ?_
              refine pU 12 118 (bo 47 8191) ?_
              refine pU 13 119 (bo 47 16383) ?_
              refine pU 14 120 (bo 47 32767) ?_
              refine pU 15 121 (bo 47 65535) ?_
              refine pU 16 122 (bo 47 131071) ?_
              refine pU 17 123 (bo 47 262143) ?_
              refine pU 18 124 (bo 47 524287) ?_
              refine pU 19 125 (bo 47 1048575) ?_
              refine pU 20 126 (bo 47 2097151) ?_
              refine pU 21 127 (bo 47 4194303) ?_
              refine pU 22 128 (bo 47 8388607) ?_
              refine pU 23 129 (bo 47 16777215) ?_
              refine pU 24 130 (bo 47 33554431) ?_
              refine pV 25 131 (bo 47 67108863) ?_
              refine pV 26 132 (bo 47 134217727) ?_
              refine pV 27 133 (bo 47 268435455) ?_
              refine pV 28 134 (bo 47 536870911) ?_
              refine pV 29 135 (bo 47 1073741823) ?_
              refine pV 30 136 (bo 47 2147483647) ?_
              refine pV 31 137 (bo 47 4294967295) ?_
              refine pV 32 138 (bo 47 8589934591) ?_
              refine pV 33 139 (bo 47 17179869183) ?_
              refine pV 34 140 (bo 47 34359738367) ?_
              refine pV 35 141 (bo 47 68719476735) ?_
              refine pV 36 142 (bo 47 137438953471) ?_
              refine pV 37 143 (bo 47 274877906943) ?_
              refine pV 38 144 (bo 47 549755813887) ?_
              refine pV 39 145 (bo 47 1099511627775) ?_
              refine pV 40 146 (bo 47 2199023255551) ?_
              refine pV 41 147 (bo 47 4398046511103) ?_
              refine pV 42 148 (bo 47 8796093022207) ?_
              refine pV 43 149 (bo 47 17592186044415) ?_
              refine pV 44 150 (bo 47 35184372088831) ?_
              refine pV 45 151 (bo 47 70368744177663) ?_
              refine pV 46 2 (bo 47 140737488355327) ?_
              refine done_ (done_of HT_.out (by kernel_rfl)) ?_
              try go_wp2
              go_ret
              exact ⟨fe, bl⟩
             ·rw [if_neg c48] at H
              have c48b0 : decide (0 ≤ t455) = false := decide_eq_false c48
              clear c48
              exact absurd ((Option.some.inj H).trans hr_) (by decide)
            ·replace c47 := Bool.eq_false_iff.mpr c47
             subst c47
             replace H := iF H
             obtain rfl := Option.some.inj H
             try go_wp2_with (first | ((with_reducible refine gC 51 rfl ?_); refine goesZ (some 88) rfl Try.func51 #[.slice A0 l0.length c0] ?_; (with_reducible refine (spec_DrawReadTimes.calls kj23 _ _ l0 t448 t449 _ ?side1 ?side2 A40.out).mono ?_); (case side1 => exact ca (Kd.C_below HR0.out HB.out)); (case side2 => exact HC0.out); rintro e w53 ⟨rfl, hb⟩; refine ⟨_, rfl, ?_⟩; replace HB := bs (w := w) hb; (try clear hb)) | ((with_reducible refine gC 47 rfl ?_); refine goesZ (some 94) rfl Try.func47 #[.string t448, .int .i64 t449] ?_; (with_reducible refine (impl_ReadTimes.calls kj23 t448 t449 t450 t451 _ A41.out).mono ?_); rintro e w54 ⟨v452, rfl, ho0, hb⟩; refine ⟨_, rfl, ?_⟩; have HO453 := Aside0.mk (Kd.R_lower ho0 (below_size bl)); replace HB := bs (w := w) hb; (try clear hb ho0)) | ((with_reducible refine gC 52 rfl ?_); refine goesZ (some 98) rfl Try.func52 #[.slice A0 l0.length c0] ?_; (with_reducible refine (spec_DrawZigZag.calls kj23 _ _ l0 t454 _ ?side1 ?side2 A42.out).mono ?_); (case side1 => exact ca (Kd.C_below HR0.out HB.out)); (case side2 => exact HC0.out); rintro e w55 ⟨rfl, hb⟩; refine ⟨_, rfl, ?_⟩; replace HO453 := Aside0.mk (Kd.R_below (rpR HO453.out) hb); replace HB := bs (w := w) hb; (try clear hb)) | ((with_reducible refine gC 53 rfl ?_); refine goesZ (some 100) rfl Try.func53 #[.int .i64 t454] ?_; (with_reducible refine (impl_ZigZag.calls t454 t455 _ A43.out).mono ?_); rintro e w' ⟨rfl, ⟨nd, rfl⟩⟩; refine ⟨_, rfl, ?_⟩) | ((with_reducible refine gC 54 rfl ?_); refine goesZ (some 103) rfl Try.func54 #[.int .i64 t455] ?_; (with_reducible refine (impl_UnZig.calls t455 t456 false _ A44.out).mono ?_); rintro e w' ⟨rfl, ⟨nd, rfl⟩⟩; refine ⟨_, rfl, ?_⟩))
             (try (rw [drewN_self w55]; generalize hq_ : World.drewN w55 _ = w55; have n0_ : Aside0 (Kd.R (Kd.int .i64) 3 w55 w.heap.size (fun _ => True) v452 t450) := ⟨by rw [← hq_]; exact (rpR HO453.out)⟩; have n1_ : Aside0 (Below w.heap.size w w55) := ⟨by rw [← hq_]; exact bl⟩; clear HO453 HB hq_; have HO453 := n0_; have HB := n1_; clear n0_ n1_))
             replace HO453 := Aside0.mk (Kd.R_drew HO453.out); replace HB := Aside0.mk (below_drew1 HB.out)
             refine start_ (n := 47) (S := fun w' => True) (ds := []) (bo 47 0) (by kernel_rfl) rfl rfl trivial (fun hHeld => ?_); refine with_tabW laws_FnBits.tab19 laws_FnBits.bits19 (fun HT_ HW_ => ?_)
             generalize w55.drew = w56 at HO453 HB hHeld ⊢
             refine pV 0 106 (bo 47 1) ?_
             refine pV 1 107 (bo 47 3) ?_
             refine pV 2 108 (bo 47 7) ?_
             refine pU 3 109 (bo 47 15) ?_
             refine pU 4 110 (bo 47 31) ?_
             refine pU 5 111 (bo 47 63) ?_
             refine pU 6 112 (bo 47 127) ?_
             refine pU 7 113 (bo 47 255) ?_
             refine pU 8 114 (bo 47 511) ?_
             refine pU 9 115 (bo 47 1023) ?_
             refine pU 10 116 (bo 47 2047) ?_
             refine pU 11 117 (bo 47 4095) ?_
             refine pU 12 118 (bo 47 8191) ?_
             refine pU 13 119 (bo 47 16383) ?_
             refine pU 14 120 (bo 47 32767) ?_
             refine pU 15 121 (bo 47 65535) ?_
             refine pU 16 122 (bo 47 131071) ?_
             refine pU 17 123 (bo 47 262143) ?_
             refine pU 18 124 (bo 47 524287) ?_
             refine pU 19 125 (bo 47 1048575) ?_
             refine pU 20 126 (bo 47 2097151) ?_
             refine pU 21 127 (bo 47 4194303) ?_
             refine pU 22 128 (bo 47 8388607) ?_
             refine pU 23 129 (bo 47 16777215) ?_
             refine pU 24 130 (bo 47 33554431) ?_
             refine pV 25 131 (bo 47 67108863) ?_
             refine pV 26 132 (bo 47 134217727) ?_
             refine pV 27 133 (bo 47 268435455) ?_
             refine pV 28 134 (bo 47 536870911) ?_
             refine pV 29 135 (bo 47 1073741823) ?_
             refine pV 30 136 (bo 47 2147483647) ?_
             refine pV 31 137 (bo 47 4294967295) ?_
             refine pV 32 138 (bo 47 8589934591) ?_
             refine pV 33 139 (bo 47 17179869183) ?_
             refine pU 34 140 (bo 47 34359738367) ?_
             refine pU 35 141 (bo 47 68719476735) ?_
             refine pU 36 142 (bo 47 137438953471) ?_
             refine pU 37 143 (bo 47 274877906943) ?_
             refine pU 38 144 (bo 47 549755813887) ?_
             refine pU 39 145 (bo 47 1099511627775) ?_
             refine pU 40 146 (bo 47 2199023255551) ?_
             refine pU 41 147 (bo 47 4398046511103) ?_
             refine pU 42 148 (bo 47 8796093022207) ?_
             refine pU 43 149 (bo 47 17592186044415) ?_
             refine pV 44 150 (bo 47 35184372088831) ?_
             refine pV 45 151 (bo 47 70368744177663) ?_
             refine pV 46 2 (bo 47 140737488355327) ?_
             refine done_ (done_of HT_.out (by kernel_rfl)) ?_
             try go_wp2
             go_ret
             exact ⟨fe, bl⟩
           ·rw [if_neg c46] at H
            have c46b0 : decide (t455 < 0) = false := decide_eq_false c46
            clear c46
            by_cases c57 : t455 ≥ 0
            ·rw [if_pos c57] at H
             have c57b0 : decide (0 ≤ t455) = true := decide_eq_true c57
             clear c57
             by_cases c58 : t457 = true
             ·subst c58
              replace H := iT H
              obtain rfl := Option.some.inj H
              try go_wp2_with (first | ((with_reducible refine gC 51 rfl ?_); refine goesZ (some 88) rfl Try.func51 #[.slice A0 l0.length c0] ?_; (with_reducible refine (spec_DrawReadTimes.calls kj23 _ _ l0 t448 t449 _ ?side1 ?side2 A40.out).mono ?_); (case side1 => exact ca (Kd.C_below HR0.out HB.out)); (case side2 => exact HC0.out); rintro e w59 ⟨rfl, hb⟩; refine ⟨_, rfl, ?_⟩; replace HB := bs (w := w) hb; (try clear hb)) | ((with_reducible refine gC 47 rfl ?_); refine goesZ (some 94) rfl Try.func47 #[.string t448, .int .i64 t449] ?_; (with_reducible refine (impl_ReadTimes.calls kj23 t448 t449 t450 t451 _ A41.out).mono ?_); rintro e w60 ⟨v452, rfl, ho0, hb⟩; refine ⟨_, rfl, ?_⟩; have HO453 := Aside0.mk (Kd.R_lower ho0 (below_size bl)); replace HB := bs (w := w) hb; (try clear hb ho0)) | ((with_reducible refine gC 52 rfl ?_); refine goesZ (some 98) rfl Try.func52 #[.slice A0 l0.length c0] ?_; (with_reducible refine (spec_DrawZigZag.calls kj23 _ _ l0 t454 _ ?side1 ?side2 A42.out).mono ?_); (case side1 => exact ca (Kd.C_below HR0.out HB.out)); (case side2 => exact HC0.out); rintro e w61 ⟨rfl, hb⟩; refine ⟨_, rfl, ?_⟩; replace HO453 := Aside0.mk (Kd.R_below (rpR HO453.out) hb); replace HB := bs (w := w) hb; (try clear hb)) | ((with_reducible refine gC 53 rfl ?_); refine goesZ (some 100) rfl Try.func53 #[.int .i64 t454] ?_; (with_reducible refine (impl_ZigZag.calls t454 t455 _ A43.out).mono ?_); rintro e w' ⟨rfl, ⟨nd, rfl⟩⟩; refine ⟨_, rfl, ?_⟩) | ((with_reducible refine gC 54 rfl ?_); refine goesZ (some 103) rfl Try.func54 #[.int .i64 t455] ?_; (with_reducible refine (impl_UnZig.calls t455 t456 true _ A44.out).mono ?_); rintro e w' ⟨rfl, ⟨nd, rfl⟩⟩; refine ⟨_, rfl, ?_⟩))
              (try (rw [drewN_self w61]; generalize hq_ : World.drewN w61 _ = w61; have n0_ : Aside0 (Kd.R (Kd.int .i64) 3 w61 w.heap.size (fun _ => True) v452 t450) := ⟨by rw [← hq_]; exact (rpR HO453.out)⟩; have n1_ : Aside0 (Below w.heap.size w w61) := ⟨by rw [← hq_]; exact bl⟩; clear HO453 HB hq_; have HO453 := n0_; have HB := n1_; clear n0_ n1_))
              replace HO453 := Aside0.mk (Kd.R_drew HO453.out); replace HB := Aside0.mk (below_drew1 HB.out)
              refine start_ (n := 47) (S := fun w' => True) (ds := []) (bo 47 0) (by kernel_rfl) rfl rfl trivial (fun hHeld => ?_); refine with_tabW laws_FnBits.tab19 laws_FnBits.bits19 (fun HT_ HW_ => ?_)
              generalize w61.drew = w62 at HO453 HB hHeld ⊢
              refine pV 0 106 (bo 47 1) ?_
              refine pV 1 107 (bo 47 3) ?_
              refine pV 2 108 (bo 47 7) ?_
              refine pU 3 109 (bo 47 15) ?_
              refine pU 4 110 (bo 47 31) ?_
              refine pU 5 111 (bo 47 63) ?_
              refine pU 6 112 (bo 47 127) ?_
              refine pU 7 113 (bo 47 255) ?_
              refine pU 8 114 (bo 47 511) ?_
              refine pU 9 115 (bo 47 1023) ?_
              refine pU 10 116 (bo 47 2047) ?_
              refine pU 11 117 (bo 47 4095) ?_
              refine pU 12 118 (bo 47 8191) ?_
              refine pU 13 119 (bo 47 16383) ?_
              refine pU 14 120 (bo 47 32767) ?_
              refine pU 15 121 (bo 47 65535) ?_
              refine pU 16 122 (bo 47 131071) ?_
              refine pU 17 123 (bo 47 262143) ?_
              refine pU 18 124 (bo 47 524287) ?_
              refine pU 19 125 (bo 47 1048575) ?_
              refine pU 20 126 (bo 47 2097151) ?_
              refine pU 21 127 (bo 47 4194303) ?_
              refine pU 22 128 (bo 47 8388607) ?_
              refine pU 23 129 (bo 47 16777215) ?_
              refine pU 24 130 (bo 47 33554431) ?_
              refine pV 25 131 (bo 47 67108863) ?_
              refine pV 26 132 (bo 47 134217727) ?_
              refine pV 27 133 (bo 47 268435455) ?_
              refine pV 28 134 (bo 47 536870911) ?_
              refine pV 29 135 (bo 47 1073741823) ?_
              refine pU 30 136 (bo 47 2147483647) ?_
              refine pU 31 137 (bo 47 4294967295) ?_
              refine pV 32 138 (bo 47 8589934591) ?_
              refine pV 33 139 (bo 47 17179869183) ?_
              refine pV 34 140 (bo 47 34359738367) ?_
              refine pV 35 141 (bo 47 68719476735) ?_
              refine pV 36 142 (bo 47 137438953471) ?_
              refine pV 37 143 (bo 47 274877906943) ?_
              refine pV 38 144 (bo 47 549755813887) ?_
              refine pV 39 145 (bo 47 1099511627775) ?_
              refine pV 40 146 (bo 47 2199023255551) ?_
              refine pV 41 147 (bo 47 4398046511103) ?_
              refine pV 42 148 (bo 47 8796093022207) ?_
              refine pV 43 149 (bo 47 17592186044415) ?_
              refine pV 44 150 (bo 47 35184372088831) ?_
              refine pV 45 151 (bo 47 70368744177663) ?_
              refine pV 46 2 (bo 47 140737488355327) ?_
              refine done_ (done_of HT_.out (by kernel_rfl)) ?_
              try go_wp2
              go_ret
              exact ⟨fe, bl⟩
             ·replace c58 := Bool.eq_false_iff.mpr c58
              subst c58
              replace H := iF H
              exact absurd ((Option.some.inj H).trans hr_) (by decide)
            ·rw [if_neg c57] at H
             have c57b0 : decide (0 ≤ t455) = false := decide_eq_false c57
             clear c57
             exact absurd ((Option.some.inj H).trans hr_) (by decide)
          ·rw [if_neg c45] at H
           have c45b0 : (t451 == 0) = false := beq_eq_false_iff_ne.mpr c45
           have c45b1 : (t451 != 0) = true := bne_iff_ne.mpr c45
           by_cases c63 : t451 > 0
           ·rw [if_pos c63] at H
            have c63b0 : decide (0 < t451) = true := decide_eq_true c63
            clear c63
            by_cases c64 : t451 ≤ (t448.size : Int)
            ·rw [if_pos c64] at H
             have c64b0 : decide (t451 ≤ (t448.size : Int)) = true := decide_eq_true c64
             clear c64
             obtain ⟨t458, A65, H⟩ := bd H
             by_cases c66 : 0 ≤ t451
             ·rw [if_pos c66] at H
              have c66b0 := eq_true c66
              have c66b1 : decide (0 ≤ t451) = true := decide_eq_true c66
              clear c66
              have c67b0 := eq_true (of_decide_eq_true am : t451 ≤ (t448.size : Int))
              by_cases c68 : t458.toList = (t448.extract 0 (t451 : Int).toNat).toList
              ·rw [if_pos c68] at H
               have c68b0 : (t458.toList == (t448.extract 0 (t451 : Int).toNat).toList) = true := beq_iff_eq.mpr c68
               have c68b1 : (t458.toList != (t448.extract 0 (t451 : Int).toNat).toList) = false := bne_eq_false_iff_eq.mpr c68
               clear c68
               by_cases c69 : (t450.length : Int) = t449
               ·rw [if_pos c69] at H
                have c69b0 : ((t450.length : Int) == t449) = true := beq_iff_eq.mpr c69
                have c69b1 : ((t450.length : Int) != t449) = false := bne_eq_false_iff_eq.mpr c69
                clear c69
                by_cases c70 : t455 < 0
                ·rw [if_pos c70] at H
                 have c70b0 : decide (t455 < 0) = true := decide_eq_true c70
                 clear c70
                 by_cases c71 : t457 = true
                 ·subst c71
                  replace H := iT H
                  by_cases c72 : t455 ≥ 0
                  ·rw [if_pos c72] at H
                   have c72b0 : decide (0 ≤ t455) = true := decide_eq_true c72
                   clear c72
                   obtain rfl := Option.some.inj H
                   try go_wp2_with (first | ((with_reducible refine gC 51 rfl ?_); refine goesZ (some 88) rfl Try.func51 #[.slice A0 l0.length c0] ?_; (with_reducible refine (spec_DrawReadTimes.calls kj23 _ _ l0 t448 t449 _ ?side1 ?side2 A40.out).mono ?_); (case side1 => exact ca (Kd.C_below HR0.out HB.out)); (case side2 => exact HC0.out); rintro e w73 ⟨rfl, hb⟩; refine ⟨_, rfl, ?_⟩; replace HB := bs (w := w) hb; (try clear hb)) | ((with_reducible refine gC 47 rfl ?_); refine goesZ (some 94) rfl Try.func47 #[.string t448, .int .i64 t449] ?_; (with_reducible refine (impl_ReadTimes.calls kj23 t448 t449 t450 t451 _ A41.out).mono ?_); rintro e w74 ⟨v452, rfl, ho0, hb⟩; refine ⟨_, rfl, ?_⟩; have HO453 := Aside0.mk (Kd.R_lower ho0 (below_size bl)); replace HB := bs (w := w) hb; (try clear hb ho0)) | ((with_reducible refine gC 52 rfl ?_); refine goesZ (some 98) rfl Try.func52 #[.slice A0 l0.length c0] ?_; (with_reducible refine (spec_DrawZigZag.calls kj23 _ _ l0 t454 _ ?side1 ?side2 A42.out).mono ?_); (case side1 => exact ca (Kd.C_below HR0.out HB.out)); (case side2 => exact HC0.out); rintro e w75 ⟨rfl, hb⟩; refine ⟨_, rfl, ?_⟩; replace HO453 := Aside0.mk (Kd.R_below (rpR HO453.out) hb); replace HB := bs (w := w) hb; (try clear hb)) | ((with_reducible refine gC 53 rfl ?_); refine goesZ (some 100) rfl Try.func53 #[.int .i64 t454] ?_; (with_reducible refine (impl_ZigZag.calls t454 t455 _ A43.out).mono ?_); rintro e w' ⟨rfl, ⟨nd, rfl⟩⟩; refine ⟨_, rfl, ?_⟩) | ((with_reducible refine gC 54 rfl ?_); refine goesZ (some 103) rfl Try.func54 #[.int .i64 t455] ?_; (with_reducible refine (impl_UnZig.calls t455 t456 true _ A44.out).mono ?_); rintro e w' ⟨rfl, ⟨nd, rfl⟩⟩; refine ⟨_, rfl, ?_⟩))
                   (try (rw [drewN_self w75]; generalize hq_ : World.drewN w75 _ = w75; have n0_ : Aside0 (Kd.R (Kd.int .i64) 3 w75 w.heap.size (fun _ => True) v452 t450) := ⟨by rw [← hq_]; exact (rpR HO453.out)⟩; have n1_ : Aside0 (Below w.heap.size w w75) := ⟨by rw [← hq_]; exact bl⟩; clear HO453 HB hq_; have HO453 := n0_; have HB := n1_; clear n0_ n1_))
                   replace HO453 := Aside0.mk (Kd.R_drew HO453.out); replace HB := Aside0.mk (below_drew1 HB.out)
                   obtain ⟨Ao77, co77, eo77⟩ := Kd.R_slice HO453.out
                   (first | subst eo77 | (injection eo77 with f1_ f2_ f3_; have f4_ := f1_.symm; have f5_ := f3_.symm; clear f1_ f2_ f3_; subst f4_; subst f5_))
                   refine start_ (n := 47) (S := fun w' => True) (ds := []) (bo 47 0) (by kernel_rfl) rfl rfl trivial (fun hHeld => ?_); refine with_tabW laws_FnBits.tab19 laws_FnBits.bits19 (fun HT_ HW_ => ?_)
                   generalize w75.drew = w76 at HO453 HB hHeld ⊢
                   refine pV 0 106 (bo 47 1) ?_
                   refine pV 1 107 (bo 47 3) ?_
                   refine pV 2 108 (bo 47 7) ?_
                   refine pV 3 109 (bo 47 15) ?_
                   refine pV 4 110 (bo 47 31) ?_
                   refine pV 5 111 (bo 47 63) ?_
                   refine pV 6 112 (bo 47 127) ?_
                   refine pV 7 113 (bo 47 255) ?_
                   refine pV 8 114 (bo 47 511) ?_
                   refine pV 9 115 (bo 47 1023) ?_
                   refine pV 10 116 (bo 47 2047) ?_
                   refine pV 11 117 (bo 47 4095) ?_
                   refine pV 12 118 (bo 47 8191) ?_
                   refine pV 14 120 (bo 47 24575) ?_
                   refine pV 15 121 (bo 47 57343) ?_
                   refine pV 16 122 (bo 47 122879) ?_
                   refine one_ (i := 13) (N := some 119) (bo 47 131071) rfl rfl (one_of HT_.out (by kernel_rfl)) (by decide) (fun K hK => ?_)
                   refine goes_ Try.func25 (by kernel_rfl) rfl #[.slice Ao77 t450.length co77] (by rfl) rfl rfl sa ?_
                   with_reducible refine (impl_ShowTimes.calls kj23 _ _ t450 t458 _ ?side1 ?side2 A65.out).mono ?_
                   (case side1 => exact ca ((Kd.R_reads' HO453.out).2.2))
                   (case side2 => exact (Kd.R_reads' HO453.out).2.1)
                   rintro e w78 ⟨rfl, hb⟩
                   refine ⟨_, rfl, ?_⟩
                   replace HO453 := Aside0.mk (Kd.R_below (rpR HO453.out) hb); replace HB := bs (w := w) hb; (try clear hb hb2 hk hi)
                   refine hK.out _ _ trivial (fun hHeld => ?_)
                   clear hK K
                   refine norm_ (a' := ?_) ?_ ?_
                   rotate_left
                   ·show Act.put _ (some 119) _ = _
                    simp only [Act.put, List.setIfInBounds_toArray, List.set_cons_zero, List.set_cons_succ, i64_w, i32_w]
                    rfl
                   refine pV 17 123 (bo 47 262143) ?_
                   refine pV 18 124 (bo 47 524287) ?_
                   refine pV 19 125 (bo 47 1048575) ?_
                   refine pV 20 126 (bo 47 2097151) ?_
                   refine pV 21 127 (bo 47 4194303) ?_
                   refine pV 22 128 (bo 47 8388607) ?_
                   refine pV 23 129 (bo 47 16777215) ?_
                   refine pV 24 130 (bo 47 33554431) ?_
                   refine pV 25 131 (bo 47 67108863) ?_
                   refine pV 26 132 (bo 47 134217727) ?_
                   refine pV 27 133 (bo 47 268435455) ?_
                   refine pV 28 134 (bo 47 536870911) ?_
                   refine pV 29 135 (bo 47 1073741823) ?_
                   refine pV 30 136 (bo 47 2147483647) ?_
                   refine pV 31 137 (bo 47 4294967295) ?_
                   refine pV 32 138 (bo 47 8589934591) ?_
                   refine pV 33 139 (bo 47 17179869183) ?_
                   refine pV 34 140 (bo 47 34359738367) ?_
                   refine pV 35 141 (bo 47 68719476735) ?_
                   refine pV 36 142 (bo 47 137438953471) ?_
                   refine pV 37 143 (bo 47 274877906943) ?_
                   refine pV 38 144 (bo 47 549755813887) ?_
                   refine pV 39 145 (bo 47 1099511627775) ?_
                   refine pV 40 146 (bo 47 2199023255551) ?_
                   refine pV 41 147 (bo 47 4398046511103) ?_
                   refine pV 42 148 (bo 47 8796093022207) ?_
                   refine pV 43 149 (bo 47 17592186044415) ?_
                   refine pV 44 150 (bo 47 35184372088831) ?_
                   refine pV 45 151 (bo 47 70368744177663) ?_
                   refine pV 46 2 (bo 47 140737488355327) ?_
                   refine done_ (done_of HT_.out (by kernel_rfl)) ?_
                   try go_wp2
                   go_ret
                   exact ⟨fe, bl⟩
                  ·rw [if_neg c72] at H
                   have c72b0 : decide (0 ≤ t455) = false := decide_eq_false c72
                   clear c72
                   exact absurd ((Option.some.inj H).trans hr_) (by decide)
                 ·replace c71 := Bool.eq_false_iff.mpr c71
                  subst c71
                  replace H := iF H
                  obtain rfl := Option.some.inj H
                  try go_wp2_with (first | ((with_reducible refine gC 51 rfl ?_); refine goesZ (some 88) rfl Try.func51 #[.slice A0 l0.length c0] ?_; (with_reducible refine (spec_DrawReadTimes.calls kj23 _ _ l0 t448 t449 _ ?side1 ?side2 A40.out).mono ?_); (case side1 => exact ca (Kd.C_below HR0.out HB.out)); (case side2 => exact HC0.out); rintro e w79 ⟨rfl, hb⟩; refine ⟨_, rfl, ?_⟩; replace HB := bs (w := w) hb; (try clear hb)) | ((with_reducible refine gC 47 rfl ?_); refine goesZ (some 94) rfl Try.func47 #[.string t448, .int .i64 t449] ?_; (with_reducible refine (impl_ReadTimes.calls kj23 t448 t449 t450 t451 _ A41.out).mono ?_); rintro e w80 ⟨v452, rfl, ho0, hb⟩; refine ⟨_, rfl, ?_⟩; have HO453 := Aside0.mk (Kd.R_lower ho0 (below_size bl)); replace HB := bs (w := w) hb; (try clear hb ho0)) | ((with_reducible refine gC 52 rfl ?_); refine goesZ (some 98) rfl Try.func52 #[.slice A0 l0.length c0] ?_; (with_reducible refine (spec_DrawZigZag.calls kj23 _ _ l0 t454 _ ?side1 ?side2 A42.out).mono ?_); (case side1 => exact ca (Kd.C_below HR0.out HB.out)); (case side2 => exact HC0.out); rintro e w81 ⟨rfl, hb⟩; refine ⟨_, rfl, ?_⟩; replace HO453 := Aside0.mk (Kd.R_below (rpR HO453.out) hb); replace HB := bs (w := w) hb; (try clear hb)) | ((with_reducible refine gC 53 rfl ?_); refine goesZ (some 100) rfl Try.func53 #[.int .i64 t454] ?_; (with_reducible refine (impl_ZigZag.calls t454 t455 _ A43.out).mono ?_); rintro e w' ⟨rfl, ⟨nd, rfl⟩⟩; refine ⟨_, rfl, ?_⟩) | ((with_reducible refine gC 54 rfl ?_); refine goesZ (some 103) rfl Try.func54 #[.int .i64 t455] ?_; (with_reducible refine (impl_UnZig.calls t455 t456 false _ A44.out).mono ?_); rintro e w' ⟨rfl, ⟨nd, rfl⟩⟩; refine ⟨_, rfl, ?_⟩))
                  (try (rw [drewN_self w81]; generalize hq_ : World.drewN w81 _ = w81; have n0_ : Aside0 (Kd.R (Kd.int .i64) 3 w81 w.heap.size (fun _ => True) v452 t450) := ⟨by rw [← hq_]; exact (rpR HO453.out)⟩; have n1_ : Aside0 (Below w.heap.size w w81) := ⟨by rw [← hq_]; exact bl⟩; clear HO453 HB hq_; have HO453 := n0_; have HB := n1_; clear n0_ n1_))
                  replace HO453 := Aside0.mk (Kd.R_drew HO453.out); replace HB := Aside0.mk (below_drew1 HB.out)
                  obtain ⟨Ao83, co83, eo83⟩ := Kd.R_slice HO453.out
                  (first | subst eo83 | (injection eo83 with f1_ f2_ f3_; have f4_ := f1_.symm; have f5_ := f3_.symm; clear f1_ f2_ f3_; subst f4_; subst f5_))
                  refine start_ (n := 47) (S := fun w' => True) (ds := []) (bo 47 0) (by kernel_rfl) rfl rfl trivial (fun hHeld => ?_); refine with_tabW laws_FnBits.tab19 laws_FnBits.bits19 (fun HT_ HW_ => ?_)
                  generalize w81.drew = w82 at HO453 HB hHeld ⊢
                  refine pV 0 106 (bo 47 1) ?_
                  refine pV 1 107 (bo 47 3) ?_
                  refine pV 2 108 (bo 47 7) ?_
                  refine pV 3 109 (bo 47 15) ?_
                  refine pV 4 110 (bo 47 31) ?_
                  refine pV 5 111 (bo 47 63) ?_
                  refine pV 6 112 (bo 47 127) ?_
                  refine pV 7 113 (bo 47 255) ?_
                  refine pV 8 114 (bo 47 511) ?_
                  refine pV 9 115 (bo 47 1023) ?_
                  refine pV 10 116 (bo 47 2047) ?_
                  refine pV 11 117 (bo 47 4095) ?_
                  refine pV 12 118 (bo 47 8191) ?_
                  refine pV 14 120 (bo 47 24575) ?_
                  refine pV 15 121 (bo 47 57343) ?_
                  refine pV 16 122 (bo 47 122879) ?_
                  refine one_ (i := 13) (N := some 119) (bo 47 131071) rfl rfl (one_of HT_.out (by kernel_rfl)) (by decide) (fun K hK => ?_)
                  refine goes_ Try.func25 (by kernel_rfl) rfl #[.slice Ao83 t450.length co83] (by rfl) rfl rfl sa ?_
                  with_reducible refine (impl_ShowTimes.calls kj23 _ _ t450 t458 _ ?side1 ?side2 A65.out).mono ?_
                  (case side1 => exact ca ((Kd.R_reads' HO453.out).2.2))
                  (case side2 => exact (Kd.R_reads' HO453.out).2.1)
                  rintro e w84 ⟨rfl, hb⟩
                  refine ⟨_, rfl, ?_⟩
                  replace HO453 := Aside0.mk (Kd.R_below (rpR HO453.out) hb); replace HB := bs (w := w) hb; (try clear hb hb2 hk hi)
                  refine hK.out _ _ trivial (fun hHeld => ?_)
                  clear hK K
                  refine norm_ (a' := ?_) ?_ ?_
                  rotate_left
                  ·show Act.put _ (some 119) _ = _
                   simp only [Act.put, List.setIfInBounds_toArray, List.set_cons_zero, List.set_cons_succ, i64_w, i32_w]
                   rfl
                  refine pV 17 123 (bo 47 262143) ?_
                  refine pV 18 124 (bo 47 524287) ?_
                  refine pV 19 125 (bo 47 1048575) ?_
                  refine pV 20 126 (bo 47 2097151) ?_
                  refine pV 21 127 (bo 47 4194303) ?_
                  refine pV 22 128 (bo 47 8388607) ?_
                  refine pV 23 129 (bo 47 16777215) ?_
                  refine pV 24 130 (bo 47 33554431) ?_
                  refine pV 25 131 (bo 47 67108863) ?_
                  refine pV 26 132 (bo 47 134217727) ?_
                  refine pV 27 133 (bo 47 268435455) ?_
                  refine pV 28 134 (bo 47 536870911) ?_
                  refine pV 29 135 (bo 47 1073741823) ?_
                  refine pV 30 136 (bo 47 2147483647) ?_
                  refine pV 31 137 (bo 47 4294967295) ?_
                  refine pV 32 138 (bo 47 8589934591) ?_
                  refine pV 33 139 (bo 47 17179869183) ?_
                  refine pU 34 140 (bo 47 34359738367) ?_
                  refine pU 35 141 (bo 47 68719476735) ?_
                  refine pU 36 142 (bo 47 137438953471) ?_
                  refine pU 37 143 (bo 47 274877906943) ?_
                  refine pU 38 144 (bo 47 549755813887) ?_
                  refine pU 39 145 (bo 47 1099511627775) ?_
                  refine pU 40 146 (bo 47 2199023255551) ?_
                  refine pU 41 147 (bo 47 4398046511103) ?_
                  refine pU 42 148 (bo 47 8796093022207) ?_
                  refine pU 43 149 (bo 47 17592186044415) ?_
                  refine pV 44 150 (bo 47 35184372088831) ?_
                  refine pV 45 151 (bo 47 70368744177663) ?_
                  refine pV 46 2 (bo 47 140737488355327) ?_
                  refine done_ (done_of HT_.out (by kernel_rfl)) ?_
                  try go_wp2
                  go_ret
                  exact ⟨fe, bl⟩
                ·rw [if_neg c70] at H
                 have c70b0 : decide (t455 < 0) = false := decide_eq_false c70
                 clear c70
                 by_cases c85 : t455 ≥ 0
                 ·rw [if_pos c85] at H
                  have c85b0 : decide (0 ≤ t455) = true := decide_eq_true c85
                  clear c85
                  by_cases c86 : t457 = true
                  ·subst c86
                   replace H := iT H
                   obtain rfl := Option.some.inj H
                   try go_wp2_with (first | ((with_reducible refine gC 51 rfl ?_); refine goesZ (some 88) rfl Try.func51 #[.slice A0 l0.length c0] ?_; (with_reducible refine (spec_DrawReadTimes.calls kj23 _ _ l0 t448 t449 _ ?side1 ?side2 A40.out).mono ?_); (case side1 => exact ca (Kd.C_below HR0.out HB.out)); (case side2 => exact HC0.out); rintro e w87 ⟨rfl, hb⟩; refine ⟨_, rfl, ?_⟩; replace HB := bs (w := w) hb; (try clear hb)) | ((with_reducible refine gC 47 rfl ?_); refine goesZ (some 94) rfl Try.func47 #[.string t448, .int .i64 t449] ?_; (with_reducible refine (impl_ReadTimes.calls kj23 t448 t449 t450 t451 _ A41.out).mono ?_); rintro e w88 ⟨v452, rfl, ho0, hb⟩; refine ⟨_, rfl, ?_⟩; have HO453 := Aside0.mk (Kd.R_lower ho0 (below_size bl)); replace HB := bs (w := w) hb; (try clear hb ho0)) | ((with_reducible refine gC 52 rfl ?_); refine goesZ (some 98) rfl Try.func52 #[.slice A0 l0.length c0] ?_; (with_reducible refine (spec_DrawZigZag.calls kj23 _ _ l0 t454 _ ?side1 ?side2 A42.out).mono ?_); (case side1 => exact ca (Kd.C_below HR0.out HB.out)); (case side2 => exact HC0.out); rintro e w89 ⟨rfl, hb⟩; refine ⟨_, rfl, ?_⟩; replace HO453 := Aside0.mk (Kd.R_below (rpR HO453.out) hb); replace HB := bs (w := w) hb; (try clear hb)) | ((with_reducible refine gC 53 rfl ?_); refine goesZ (some 100) rfl Try.func53 #[.int .i64 t454] ?_; (with_reducible refine (impl_ZigZag.calls t454 t455 _ A43.out).mono ?_); rintro e w' ⟨rfl, ⟨nd, rfl⟩⟩; refine ⟨_, rfl, ?_⟩) | ((with_reducible refine gC 54 rfl ?_); refine goesZ (some 103) rfl Try.func54 #[.int .i64 t455] ?_; (with_reducible refine (impl_UnZig.calls t455 t456 true _ A44.out).mono ?_); rintro e w' ⟨rfl, ⟨nd, rfl⟩⟩; refine ⟨_, rfl, ?_⟩))
                   (try (rw [drewN_self w89]; generalize hq_ : World.drewN w89 _ = w89; have n0_ : Aside0 (Kd.R (Kd.int .i64) 3 w89 w.heap.size (fun _ => True) v452 t450) := ⟨by rw [← hq_]; exact (rpR HO453.out)⟩; have n1_ : Aside0 (Below w.heap.size w w89) := ⟨by rw [← hq_]; exact bl⟩; clear HO453 HB hq_; have HO453 := n0_; have HB := n1_; clear n0_ n1_))
                   replace HO453 := Aside0.mk (Kd.R_drew HO453.out); replace HB := Aside0.mk (below_drew1 HB.out)
                   obtain ⟨Ao91, co91, eo91⟩ := Kd.R_slice HO453.out
                   (first | subst eo91 | (injection eo91 with f1_ f2_ f3_; have f4_ := f1_.symm; have f5_ := f3_.symm; clear f1_ f2_ f3_; subst f4_; subst f5_))
                   refine start_ (n := 47) (S := fun w' => True) (ds := []) (bo 47 0) (by kernel_rfl) rfl rfl trivial (fun hHeld => ?_); refine with_tabW laws_FnBits.tab19 laws_FnBits.bits19 (fun HT_ HW_ => ?_)
                   generalize w89.drew = w90 at HO453 HB hHeld ⊢
                   refine pV 0 106 (bo 47 1) ?_
                   refine pV 1 107 (bo 47 3) ?_
                   refine pV 2 108 (bo 47 7) ?_
                   refine pV 3 109 (bo 47 15) ?_
                   refine pV 4 110 (bo 47 31) ?_
                   refine pV 5 111 (bo 47 63) ?_
                   refine pV 6 112 (bo 47 127) ?_
                   refine pV 7 113 (bo 47 255) ?_
                   refine pV 8 114 (bo 47 511) ?_
                   refine pV 9 115 (bo 47 1023) ?_
                   refine pV 10 116 (bo 47 2047) ?_
                   refine pV 11 117 (bo 47 4095) ?_
                   refine pV 12 118 (bo 47 8191) ?_
                   refine pV 14 120 (bo 47 24575) ?_
                   refine pV 15 121 (bo 47 57343) ?_
                   refine pV 16 122 (bo 47 122879) ?_
                   refine one_ (i := 13) (N := some 119) (bo 47 131071) rfl rfl (one_of HT_.out (by kernel_rfl)) (by decide) (fun K hK => ?_)
                   refine goes_ Try.func25 (by kernel_rfl) rfl #[.slice Ao91 t450.length co91] (by rfl) rfl rfl sa ?_
                   with_reducible refine (impl_ShowTimes.calls kj23 _ _ t450 t458 _ ?side1 ?side2 A65.out).mono ?_
                   (case side1 => exact ca ((Kd.R_reads' HO453.out).2.2))
                   (case side2 => exact (Kd.R_reads' HO453.out).2.1)
                   rintro e w92 ⟨rfl, hb⟩
                   refine ⟨_, rfl, ?_⟩
                   replace HO453 := Aside0.mk (Kd.R_below (rpR HO453.out) hb); replace HB := bs (w := w) hb; (try clear hb hb2 hk hi)
                   refine hK.out _ _ trivial (fun hHeld => ?_)
                   clear hK K
                   refine norm_ (a' := ?_) ?_ ?_
                   rotate_left
                   ·show Act.put _ (some 119) _ = _
                    simp only [Act.put, List.setIfInBounds_toArray, List.set_cons_zero, List.set_cons_succ, i64_w, i32_w]
                    rfl
                   refine pV 17 123 (bo 47 262143) ?_
                   refine pV 18 124 (bo 47 524287) ?_
                   refine pV 19 125 (bo 47 1048575) ?_
                   refine pV 20 126 (bo 47 2097151) ?_
                   refine pV 21 127 (bo 47 4194303) ?_
                   refine pV 22 128 (bo 47 8388607) ?_
                   refine pV 23 129 (bo 47 16777215) ?_
                   refine pV 24 130 (bo 47 33554431) ?_
                   refine pV 25 131 (bo 47 67108863) ?_
                   refine pV 26 132 (bo 47 134217727) ?_
                   refine pV 27 133 (bo 47 268435455) ?_
                   refine pV 28 134 (bo 47 536870911) ?_
                   refine pV 29 135 (bo 47 1073741823) ?_
                   refine pU 30 136 (bo 47 2147483647) ?_
                   refine pU 31 137 (bo 47 4294967295) ?_
                   refine pV 32 138 (bo 47 8589934591) ?_
                   refine pV 33 139 (bo 47 17179869183) ?_
                   refine pV 34 140 (bo 47 34359738367) ?_
                   refine pV 35 141 (bo 47 68719476735) ?_
                   refine pV 36 142 (bo 47 137438953471) ?_
                   refine pV 37 143 (bo 47 274877906943) ?_
                   refine pV 38 144 (bo 47 549755813887) ?_
                   refine pV 39 145 (bo 47 1099511627775) ?_
                   refine pV 40 146 (bo 47 2199023255551) ?_
                   refine pV 41 147 (bo 47 4398046511103) ?_
                   refine pV 42 148 (bo 47 8796093022207) ?_
                   refine pV 43 149 (bo 47 17592186044415) ?_
                   refine pV 44 150 (bo 47 35184372088831) ?_
                   refine pV 45 151 (bo 47 70368744177663) ?_
                   refine pV 46 2 (bo 47 140737488355327) ?_
                   refine done_ (done_of HT_.out (by kernel_rfl)) ?_
                   try go_wp2
                   go_ret
                   exact ⟨fe, bl⟩
                  ·replace c86 := Bool.eq_false_iff.mpr c86
                   subst c86
                   replace H := iF H
                   exact absurd ((Option.some.inj H).trans hr_) (by decide)
                 ·rw [if_neg c85] at H
                  have c85b0 : decide (0 ≤ t455) = false := decide_eq_false c85
                  clear c85
                  exact absurd ((Option.some.inj H).trans hr_) (by decide)
               ·rw [if_neg c69] at H
                have c69b0 : ((t450.length : Int) == t449) = false := beq_eq_false_iff_ne.mpr c69
                have c69b1 : ((t450.length : Int) != t449) = true := bne_iff_ne.mpr c69
                exact absurd ((Option.some.inj H).trans hr_) (by decide)
              ·rw [if_neg c68] at H
               have c68b0 : (t458.toList == (t448.extract 0 (t451 : Int).toNat).toList) = false := beq_eq_false_iff_ne.mpr c68
               have c68b1 : (t458.toList != (t448.extract 0 (t451 : Int).toNat).toList) = true := bne_iff_ne.mpr c68
               exact absurd ((Option.some.inj H).trans hr_) (by decide)
             ·rw [if_neg c66] at H
              exact absurd H (by simp)
            ·rw [if_neg c64] at H
             have c64b0 : decide (t451 ≤ (t448.size : Int)) = false := decide_eq_false c64
             clear c64
             exact absurd ((Option.some.inj H).trans hr_) (by decide)
           ·rw [if_neg c63] at H
            have c63b0 : decide (0 < t451) = false := decide_eq_false c63
            clear c63
            exact absurd ((Option.some.inj H).trans hr_) (by decide)
      ·rw [if_neg c22] at H
       exact absurd H (by simp)
  ·rw [if_neg c7] at H
   exact absurd H (by simp)

/-- THE ONE PURE STATEMENT of laws_FnBits: yours. -/
def laws_FnBits.Pure : Prop := ∀ (l0 : List Int), l0.length ≤ maxLen → l0.length * 1 ≤ 140737488351232 → (∀ x ∈ l0, (Lit.int .u8 x).wf = true) → ∃ k, laws_FnBits.f k l0 = some true
theorem laws_FnBits.walk (P : laws_FnBits.Pure) (a0 : Option Addr) (len0 cap0 : Nat) (z0 : List Int) (w : World) (w0 : (a0 = none ∧ len0 = 0 ∧ cap0 = 0 ∧ z0 = []) ∨ ∃ x, a0 = some x ∧ len0 ≤ cap0 ∧ cap0 ≤ maxLen ∧ z0.length = cap0 ∧ (∀ i, i < z0.length → w.cell? (x.add i) = some (.int .u8 (z0.getD i 0))) ∧ ∀ n ∈ z0, (Lit.int .u8 n).wf = true) (y0 : len0 * 1 ≤ 140737488351232) :
 Calls Try.prog 10 #[.slice a0 len0 cap0] w fun e w' => e = .returned (.bool true) ∧ Below w.heap.size w w' := by
 obtain ⟨l0, rfl, hr0, hm0, hw0, hc0⟩ := ReadsInt.ofRowC w0
 obtain ⟨k, h⟩ := P l0 hm0 y0 hw0
 refine (laws_FnBits.calls k _ _ l0 true w (Kd.C_of_reads (d := (0 : Int)) (h1 := fun _ => rfl) hr0) hc0 h rfl).mono ?_
 rintro e w' ⟨rfl, hd⟩
 exact ⟨rfl, hd⟩

end Go.Proofs.Ytfmddjbekophnaa.PFnBits
