-- PRINTED by print.py (a twelfth state) out of the translation. Not trusted: Lean checks it.
import Derived.Test.YtfmddjbekophnaaPFnNumbersx0
import Derived.Test.YtfmddjbekophnaaPFnNumbersx1
import Derived.Test.YtfmddjbekophnaaPFnNumbersx2
import Derived.Test.YtfmddjbekophnaaPFnNumbersx3
import Derived.Test.YtfmddjbekophnaaPFnNumbersx4
import Derived.Test.YtfmddjbekophnaaPFnNumbersx5
import Derived.Test.YtfmddjbekophnaaZip
namespace Go.Proofs.Ytfmddjbekophnaa.PFnNumbers
open Go.RowKit Go.Proofs.YtfmddjbekophnaaW.PrintWords Go.Proofs.YtfmddjbekophnaaW.PrintLast Go.Proofs.YtfmddjbekophnaaW.PrintMore Go.Proofs.Ytfmddjbekophnaa.Zip
attribute [local go_sem] max2_int min2_int max_two min_two max_three min_three max_four min_four   -- for this text's walks alone
set_option linter.unusedVariables false
set_option linter.unusedSimpArgs false

/-! ### laws_FnNumbers: function 7 -/
mutual
def laws_FnNumbers.j0 : Nat → List Int → Int → ByteArray → Bool → Option (Bool)
 | 0, _, _, _, _ => none
 | k + 1, x0, x3, x4, x55 => if x55 = true then (some false) else ((impl_Fixed.f k x3 7).bind fun t281 => (if t281.size + x4.size ≤ 9223372036854775807 then ((impl_ReadFixed.f k (t281 ++ x4) 7).bind fun bt282 => (if t281.toList = ([] : List UInt8) then (if x3 < 0 then (laws_FnNumbers.j1 k x0 x3 x4 ((t281.toList == ([] : List UInt8)) != true)) else (laws_FnNumbers.j1 k x0 x3 x4 ((t281.toList == ([] : List UInt8)) != (decide (x3 ≥ 72057594037927936))))) else (if bt282.2 = true then (if bt282.1 = x3 then (if (t281.size : Int) = 7 then (if x3 < 0 then (laws_FnNumbers.j1 k x0 x3 x4 ((t281.toList == ([] : List UInt8)) != true)) else (laws_FnNumbers.j1 k x0 x3 x4 ((t281.toList == ([] : List UInt8)) != (decide (x3 ≥ 72057594037927936))))) else (laws_FnNumbers.j1 k x0 x3 x4 true)) else (laws_FnNumbers.j1 k x0 x3 x4 true)) else (laws_FnNumbers.j1 k x0 x3 x4 true)))) else (none)))
def laws_FnNumbers.j1 : Nat → List Int → Int → ByteArray → Bool → Option (Bool)
 | 0, _, _, _, _ => none
 | k + 1, x0, x3, x4, x91 => if x91 = true then (some false) else ((impl_Dec.f k x3).bind fun t284 => ((impl_ReadDec.f k t284).bind fun bt285 => (if x3 > (-1000000000) then (if (bt285.2 != (decide (x3 < 1000000000))) = true then (laws_FnNumbers.j2 k x0 x4 true) else (if bt285.2 = true then (laws_FnNumbers.j2 k x0 x4 (bt285.1 != x3)) else (laws_FnNumbers.j2 k x0 x4 false))) else (if (bt285.2 != false) = true then (laws_FnNumbers.j2 k x0 x4 true) else (if bt285.2 = true then (laws_FnNumbers.j2 k x0 x4 (bt285.1 != x3)) else (laws_FnNumbers.j2 k x0 x4 false))))))
def laws_FnNumbers.j2 : Nat → List Int → ByteArray → Bool → Option (Bool)
 | 0, _, _, _ => none
 | k + 1, x0, x4, x113 => if x113 = true then (some false) else ((impl_Hex.f k x4).bind fun t287 => ((impl_Unhex.f k t287).bind fun bt288 => ((spec_DrawReadVar.f k x0).bind fun t290 => ((impl_ReadVar.f k t290).bind fun bt291 => (if bt288.2 = true then (if bt288.1.toList = x4.toList then (if bt291.2 = 0 then (some true) else (if bt291.2 > 0 then ((spec_DrawReadVar.f k x0).bind fun t293 => (if bt291.2 ≤ (t293.size : Int) then ((impl_Var.f k bt291.1).bind fun t294 => ((spec_DrawReadVar.f k x0).bind fun t295 => (if 0 ≤ bt291.2 then (if bt291.2 ≤ (t295.size : Int) then (some (t294.toList == (t295.extract 0 (bt291.2 : Int).toNat).toList)) else (none)) else (none)))) else (some false))) else (some false))) else (some false)) else (some false))))))
end
def laws_FnNumbers.f (k : Nat) (l0 : List Int) : Option (Bool) := (laws_big.f l0).bind fun t275 => (if t275 = true then (some true) else ((spec_DrawVar.f k l0).bind fun t276 => ((spec_DrawHex.f k l0).bind fun t277 => ((impl_Var.f k t276).bind fun t278 => (if t278.size + t277.size ≤ 9223372036854775807 then ((impl_ReadVar.f k (t278 ++ t277)).bind fun bt279 => (if t276 ≥ 0 then (if ((t278.toList != ([] : List UInt8)) != (decide (t276 ≤ 562949953421311))) = true then (laws_FnNumbers.j0 k l0 t276 t277 true) else (if t278.toList = ([] : List UInt8) then (laws_FnNumbers.j0 k l0 t276 t277 false) else (if bt279.1 = t276 then (laws_FnNumbers.j0 k l0 t276 t277 (bt279.2 != (t278.size : Int))) else (laws_FnNumbers.j0 k l0 t276 t277 true)))) else (if ((t278.toList != ([] : List UInt8)) != false) = true then (laws_FnNumbers.j0 k l0 t276 t277 true) else (if t278.toList = ([] : List UInt8) then (laws_FnNumbers.j0 k l0 t276 t277 false) else (if bt279.1 = t276 then (laws_FnNumbers.j0 k l0 t276 t277 (bt279.2 != (t278.size : Int))) else (laws_FnNumbers.j0 k l0 t276 t277 true)))))) else (none))))))
theorem laws_FnNumbers.mono_l : ∀ k, (∀ y0 y1 y2 y3, LeO (laws_FnNumbers.j0 k y0 y1 y2 y3) (laws_FnNumbers.j0 (k + 1) y0 y1 y2 y3)) ∧ (∀ y0 y1 y2 y3, LeO (laws_FnNumbers.j1 k y0 y1 y2 y3) (laws_FnNumbers.j1 (k + 1) y0 y1 y2 y3)) ∧ (∀ y0 y1 y2, LeO (laws_FnNumbers.j2 k y0 y1 y2) (laws_FnNumbers.j2 (k + 1) y0 y1 y2))
 | 0 => ⟨fun _ _ _ _ r h => by simp [laws_FnNumbers.j0] at h, fun _ _ _ _ r h => by simp [laws_FnNumbers.j1] at h, fun _ _ _ r h => by simp [laws_FnNumbers.j2] at h⟩
 | k + 1 => by
  obtain ⟨ih0, ih1, ih2⟩ := laws_FnNumbers.mono_l k
  refine ⟨?_, ?_, ?_⟩
  ·intro y0 y1 y2 y3
   unfold laws_FnNumbers.j0
   repeat' first
   | (with_reducible exact ih0 _ _ _ _)
   | (with_reducible exact ih1 _ _ _ _)
   | (with_reducible exact ih2 _ _ _)
   | (with_reducible exact impl_Dec.mono _ _)
   | (with_reducible exact impl_Fixed.mono _ _ _)
   | (with_reducible exact impl_Hex.mono _ _)
   | (with_reducible exact impl_ReadDec.mono _ _)
   | (with_reducible exact impl_ReadFixed.mono _ _ _)
   | (with_reducible exact impl_ReadVar.mono _ _)
   | (with_reducible exact impl_Unhex.mono _ _)
   | (with_reducible exact impl_Var.mono _ _)
   | (with_reducible exact spec_DrawHex.mono _ _)
   | (with_reducible exact spec_DrawReadVar.mono _ _)
   | (with_reducible exact spec_DrawVar.mono _ _)
   | (with_reducible exact LeO.refl _)
   | (with_reducible exact LeO.none _)
   | (with_reducible refine LeO.ite ?_ ?_)
   | (with_reducible refine LeO.bind ?_ (fun _ => ?_))
   | exact ih0 _ _ _ _
   | exact ih1 _ _ _ _
   | exact ih2 _ _ _
   | exact impl_Dec.mono _ _
   | exact impl_Fixed.mono _ _ _
   | exact impl_Hex.mono _ _
   | exact impl_ReadDec.mono _ _
   | exact impl_ReadFixed.mono _ _ _
   | exact impl_ReadVar.mono _ _
   | exact impl_Unhex.mono _ _
   | exact impl_Var.mono _ _
   | exact spec_DrawHex.mono _ _
   | exact spec_DrawReadVar.mono _ _
   | exact spec_DrawVar.mono _ _
   | exact LeO.none _
   | refine LeO.ite ?_ ?_
   | refine LeO.bind ?_ (fun _ => ?_)
  ·intro y0 y1 y2 y3
   unfold laws_FnNumbers.j1
   repeat' first
   | (with_reducible exact ih0 _ _ _ _)
   | (with_reducible exact ih1 _ _ _ _)
   | (with_reducible exact ih2 _ _ _)
   | (with_reducible exact impl_Dec.mono _ _)
   | (with_reducible exact impl_Fixed.mono _ _ _)
   | (with_reducible exact impl_Hex.mono _ _)
   | (with_reducible exact impl_ReadDec.mono _ _)
   | (with_reducible exact impl_ReadFixed.mono _ _ _)
   | (with_reducible exact impl_ReadVar.mono _ _)
   | (with_reducible exact impl_Unhex.mono _ _)
   | (with_reducible exact impl_Var.mono _ _)
   | (with_reducible exact spec_DrawHex.mono _ _)
   | (with_reducible exact spec_DrawReadVar.mono _ _)
   | (with_reducible exact spec_DrawVar.mono _ _)
   | (with_reducible exact LeO.refl _)
   | (with_reducible exact LeO.none _)
   | (with_reducible refine LeO.ite ?_ ?_)
   | (with_reducible refine LeO.bind ?_ (fun _ => ?_))
   | exact ih0 _ _ _ _
   | exact ih1 _ _ _ _
   | exact ih2 _ _ _
   | exact impl_Dec.mono _ _
   | exact impl_Fixed.mono _ _ _
   | exact impl_Hex.mono _ _
   | exact impl_ReadDec.mono _ _
   | exact impl_ReadFixed.mono _ _ _
   | exact impl_ReadVar.mono _ _
   | exact impl_Unhex.mono _ _
   | exact impl_Var.mono _ _
   | exact spec_DrawHex.mono _ _
   | exact spec_DrawReadVar.mono _ _
   | exact spec_DrawVar.mono _ _
   | exact LeO.none _
   | refine LeO.ite ?_ ?_
   | refine LeO.bind ?_ (fun _ => ?_)
  ·intro y0 y1 y2
   unfold laws_FnNumbers.j2
   repeat' first
   | (with_reducible exact ih0 _ _ _ _)
   | (with_reducible exact ih1 _ _ _ _)
   | (with_reducible exact ih2 _ _ _)
   | (with_reducible exact impl_Dec.mono _ _)
   | (with_reducible exact impl_Fixed.mono _ _ _)
   | (with_reducible exact impl_Hex.mono _ _)
   | (with_reducible exact impl_ReadDec.mono _ _)
   | (with_reducible exact impl_ReadFixed.mono _ _ _)
   | (with_reducible exact impl_ReadVar.mono _ _)
   | (with_reducible exact impl_Unhex.mono _ _)
   | (with_reducible exact impl_Var.mono _ _)
   | (with_reducible exact spec_DrawHex.mono _ _)
   | (with_reducible exact spec_DrawReadVar.mono _ _)
   | (with_reducible exact spec_DrawVar.mono _ _)
   | (with_reducible exact LeO.refl _)
   | (with_reducible exact LeO.none _)
   | (with_reducible refine LeO.ite ?_ ?_)
   | (with_reducible refine LeO.bind ?_ (fun _ => ?_))
   | exact ih0 _ _ _ _
   | exact ih1 _ _ _ _
   | exact ih2 _ _ _
   | exact impl_Dec.mono _ _
   | exact impl_Fixed.mono _ _ _
   | exact impl_Hex.mono _ _
   | exact impl_ReadDec.mono _ _
   | exact impl_ReadFixed.mono _ _ _
   | exact impl_ReadVar.mono _ _
   | exact impl_Unhex.mono _ _
   | exact impl_Var.mono _ _
   | exact spec_DrawHex.mono _ _
   | exact spec_DrawReadVar.mono _ _
   | exact spec_DrawVar.mono _ _
   | exact LeO.none _
   | refine LeO.ite ?_ ?_
   | refine LeO.bind ?_ (fun _ => ?_)
theorem laws_FnNumbers.mono : ∀ a0 k, LeO (laws_FnNumbers.f k a0) (laws_FnNumbers.f (k + 1) a0) := by
 intro a0 k
 obtain ⟨ih0, ih1, ih2⟩ := laws_FnNumbers.mono_l k
 unfold laws_FnNumbers.f
 repeat' first
  | (with_reducible exact ih0 _ _ _ _)
  | (with_reducible exact ih1 _ _ _ _)
  | (with_reducible exact ih2 _ _ _)
  | (with_reducible exact impl_Dec.mono _ _)
  | (with_reducible exact impl_Fixed.mono _ _ _)
  | (with_reducible exact impl_Hex.mono _ _)
  | (with_reducible exact impl_ReadDec.mono _ _)
  | (with_reducible exact impl_ReadFixed.mono _ _ _)
  | (with_reducible exact impl_ReadVar.mono _ _)
  | (with_reducible exact impl_Unhex.mono _ _)
  | (with_reducible exact impl_Var.mono _ _)
  | (with_reducible exact spec_DrawHex.mono _ _)
  | (with_reducible exact spec_DrawReadVar.mono _ _)
  | (with_reducible exact spec_DrawVar.mono _ _)
  | (with_reducible exact LeO.refl _)
  | (with_reducible exact LeO.none _)
  | (with_reducible refine LeO.ite ?_ ?_)
  | (with_reducible refine LeO.bind ?_ (fun _ => ?_))
  | exact ih0 _ _ _ _
  | exact ih1 _ _ _ _
  | exact ih2 _ _ _
  | exact impl_Dec.mono _ _
  | exact impl_Fixed.mono _ _ _
  | exact impl_Hex.mono _ _
  | exact impl_ReadDec.mono _ _
  | exact impl_ReadFixed.mono _ _ _
  | exact impl_ReadVar.mono _ _
  | exact impl_Unhex.mono _ _
  | exact impl_Var.mono _ _
  | exact spec_DrawHex.mono _ _
  | exact spec_DrawReadVar.mono _ _
  | exact spec_DrawVar.mono _ _
  | exact LeO.none _
  | refine LeO.ite ?_ ?_
  | refine LeO.bind ?_ (fun _ => ?_)
theorem neH_ (t : ByteArray) (d : Bool) (h : ((t.toList != ([] : List UInt8)) != d) = false) (e : t.toList.isEmpty = true) : d = false := by
 rw [show (t.toList != ([] : List UInt8)) = !t.toList.isEmpty by cases t.toList <;> rfl, e] at h; cases d <;> simp at h ⊢
theorem neI_ (t : ByteArray) (d : Bool) (h : ((t.toList != ([] : List UInt8)) != d) = false) (e : t.toList.isEmpty = false) : d = true := by
 rw [show (t.toList != ([] : List UInt8)) = !t.toList.isEmpty by cases t.toList <;> rfl, e] at h; cases d <;> simp at h ⊢
theorem neE_ (t : ByteArray) (d : Bool) (h : ((t.toList != ([] : List UInt8)) != d) = true) : (t.toList.isEmpty = !d) = False := by
 rw [show (t.toList != ([] : List UInt8)) = !t.toList.isEmpty by cases t.toList <;> rfl] at h; generalize t.toList.isEmpty = a at h ⊢; cases a <;> cases d <;> simp at h ⊢
theorem neT_ (t : ByteArray) (d : Bool) (h : ((t.toList != ([] : List UInt8)) != d) = false) : (t.toList.isEmpty = !d) = True := by
 rw [show (t.toList != ([] : List UInt8)) = !t.toList.isEmpty by cases t.toList <;> rfl] at h; generalize t.toList.isEmpty = a at h ⊢; cases a <;> cases d <;> simp at h ⊢
theorem neF_ (t : ByteArray) (h : ((t.toList != ([] : List UInt8)) != false) = true) : t.toList.isEmpty = false := by
 rw [show (t.toList != ([] : List UInt8)) = !t.toList.isEmpty by cases t.toList <;> rfl] at h; generalize t.toList.isEmpty = a at h ⊢; cases a <;> simp at h ⊢
theorem neG_ (t : ByteArray) (h : ((t.toList != ([] : List UInt8)) != false) = false) : t.toList.isEmpty = true := by
 rw [show (t.toList != ([] : List UInt8)) = !t.toList.isEmpty by cases t.toList <;> rfl] at h; generalize t.toList.isEmpty = a at h ⊢; cases a <;> simp at h ⊢
set_option maxHeartbeats 8000000 in
set_option maxRecDepth 100000 in
theorem laws_FnNumbers.calls (k : Nat) (A0 : Option Addr) (c0 : Nat) (l0 : List Int) (r : Bool) (w : World) (hr0 : Kd.C (Kd.int .u8) w A0 l0.length l0) (hc0 : l0.length ≤ c0) (h : laws_FnNumbers.f k l0 = some r) (hr_ : r = true) :
 Calls Try.prog 7 #[.slice A0 l0.length c0] w fun e w' => e = .returned (.bool r) ∧ Below w.heap.size w w' := by
 have HR0 := Aside0.mk hr0
 have HC0 := Aside0.mk hc0
 clear hr0 hc0
 have HB := Aside0.mk (Below.refl w.heap.size w)
 have H : ((laws_big.f l0).bind fun t275 => (if t275 = true then (some true) else ((spec_DrawVar.f k l0).bind fun t276 => ((spec_DrawHex.f k l0).bind fun t277 => ((impl_Var.f k t276).bind fun t278 => (if t278.size + t277.size ≤ 9223372036854775807 then ((impl_ReadVar.f k (t278 ++ t277)).bind fun bt279 => (if t276 ≥ 0 then (if ((t278.toList != ([] : List UInt8)) != (decide (t276 ≤ 562949953421311))) = true then (laws_FnNumbers.j0 k l0 t276 t277 true) else (if t278.toList = ([] : List UInt8) then (laws_FnNumbers.j0 k l0 t276 t277 false) else (if bt279.1 = t276 then (laws_FnNumbers.j0 k l0 t276 t277 (bt279.2 != (t278.size : Int))) else (laws_FnNumbers.j0 k l0 t276 t277 true)))) else (if ((t278.toList != ([] : List UInt8)) != false) = true then (laws_FnNumbers.j0 k l0 t276 t277 true) else (if t278.toList = ([] : List UInt8) then (laws_FnNumbers.j0 k l0 t276 t277 false) else (if bt279.1 = t276 then (laws_FnNumbers.j0 k l0 t276 t277 (bt279.2 != (t278.size : Int))) else (laws_FnNumbers.j0 k l0 t276 t277 true)))))) else (none))))))) = some r := h
 clear h
 obtain ⟨t275, A2, H⟩ := bd H
 by_cases c3 : t275 = true
 ·subst c3
  replace H := iT H
  obtain rfl := Option.some.inj H
  go_enter Try.func7, Try.ntmps7
  go_wp2_with (first | ((with_reducible refine gC 30 rfl ?_); refine goesZ (some 18) rfl Try.func30 #[.slice A0 l0.length c0] ?_; (with_reducible refine (laws_big.calls _ _ l0 true _ ?side1 ?side2 A2.out).mono ?_); (case side1 => repeat (first | exact HR0.out | (with_reducible refine Kd.C_alloc ?_ _) | (with_reducible refine Kd.C_drewN ?_ _) | (with_reducible refine Kd.C_drew ?_))); (case side2 => exact HC0.out); rintro e w' ⟨rfl, ⟨nd, rfl⟩⟩; refine ⟨_, rfl, ?_⟩))
  go_ret
  exact ⟨fe, bl⟩
 ·replace c3 := Bool.eq_false_iff.mpr c3
  subst c3
  replace H := iF H
  obtain ⟨t276, A4, H⟩ := bd H
  obtain ⟨t277, A5, H⟩ := bd H
  obtain ⟨t278, A6, H⟩ := bd H
  by_cases c7 : t278.size + t277.size ≤ 9223372036854775807
  ·rw [if_pos c7] at H
   have c7b0 := eq_true c7
   have c7b1 : decide (t278.size + t277.size ≤ 9223372036854775807) = true := decide_eq_true c7
   try have c7b2 : (9223372036854775807 < t278.size + t277.size) = False := eq_false (Nat.not_lt.2 c7)
   replace H := Option.bind_eq_some_iff.mp H
   obtain ⟨⟨t279, t280⟩, A80, H⟩ := H
   replace H : (if t276 ≥ 0 then (if ((t278.toList != ([] : List UInt8)) != (decide (t276 ≤ 562949953421311))) = true then (laws_FnNumbers.j0 k l0 t276 t277 true) else (if t278.toList = ([] : List UInt8) then (laws_FnNumbers.j0 k l0 t276 t277 false) else (if t279 = t276 then (laws_FnNumbers.j0 k l0 t276 t277 (t280 != (t278.size : Int))) else (laws_FnNumbers.j0 k l0 t276 t277 true)))) else (if ((t278.toList != ([] : List UInt8)) != false) = true then (laws_FnNumbers.j0 k l0 t276 t277 true) else (if t278.toList = ([] : List UInt8) then (laws_FnNumbers.j0 k l0 t276 t277 false) else (if t279 = t276 then (laws_FnNumbers.j0 k l0 t276 t277 (t280 != (t278.size : Int))) else (laws_FnNumbers.j0 k l0 t276 t277 true))))) = some r := H
   have A8 := Aside0.mk A80
   clear A80
   have HC9 := Aside0.mk H
   clear H
   go_enter Try.func7, Try.ntmps7
   go_upto_region 7 with (first | ((with_reducible refine gC 30 rfl ?_); refine goesZ (some 18) rfl Try.func30 #[.slice A0 l0.length c0] ?_; (with_reducible refine (laws_big.calls _ _ l0 false _ ?side1 ?side2 A2.out).mono ?_); (case side1 => repeat (first | exact HR0.out | (with_reducible refine Kd.C_alloc ?_ _) | (with_reducible refine Kd.C_drewN ?_ _) | (with_reducible refine Kd.C_drew ?_))); (case side2 => exact HC0.out); rintro e w' ⟨rfl, ⟨nd, rfl⟩⟩; refine ⟨_, rfl, ?_⟩) | ((with_reducible refine gC 31 rfl ?_); refine goesL_ (some 20) rfl rfl Try.func31 (by kernel_rfl) rfl #[.slice A0 l0.length c0] rfl sa ?_; (with_reducible refine (spec_DrawVar.calls k _ _ l0 t276 _ ?side1 ?side2 A4.out).mono ?_); (case side1 => repeat (first | exact HR0.out | (with_reducible refine Kd.C_alloc ?_ _) | (with_reducible refine Kd.C_drewN ?_ _) | (with_reducible refine Kd.C_drew ?_))); (case side2 => exact HC0.out); rintro e w10 ⟨rfl, hb⟩; refine ⟨_, rfl, ?_⟩; replace HB := bs (w := w) hb; (try clear hb); (try clear hb2); (try clear hk); (try clear hi)) | ((with_reducible refine gC 32 rfl ?_); refine goesL_ (some 22) rfl rfl Try.func32 (by kernel_rfl) rfl #[.slice A0 l0.length c0] rfl sa ?_; (with_reducible refine (spec_DrawHex.calls k _ _ l0 t277 _ ?side1 ?side2 A5.out).mono ?_); (case side1 => repeat (first | exact (Kd.C_below HR0.out HB.out) | (with_reducible refine Kd.C_alloc ?_ _) | (with_reducible refine Kd.C_drewN ?_ _) | (with_reducible refine Kd.C_drew ?_))); (case side2 => exact HC0.out); rintro e w11 ⟨rfl, hb⟩; refine ⟨_, rfl, ?_⟩; have n0_ := bs (w := w) hb; clear HB; have HB := n0_; clear n0_; (try clear hb); (try clear hb2); (try clear hk); (try clear hi)) | ((with_reducible refine gC 33 rfl ?_); refine goesL_ (some 24) rfl rfl Try.func33 (by kernel_rfl) rfl #[.int .i64 t276] rfl sa ?_; (with_reducible refine (impl_Var.calls k t276 t278 _ A6.out).mono ?_); rintro e w12 ⟨rfl, hb⟩; refine ⟨_, rfl, ?_⟩; have n0_ := bs (w := w) hb; clear HB; have HB := n0_; clear n0_; (try clear hb); (try clear hb2); (try clear hk); (try clear hi)) | ((with_reducible refine gC 34 rfl ?_); refine goesL_ (some 29) rfl rfl Try.func34 (by kernel_rfl) rfl #[.string (t278 ++ t277)] rfl sa ?_; (with_reducible refine (impl_ReadVar.calls k (t278 ++ t277) t279 t280 _ A8.out).mono ?_); rintro e w' ⟨rfl, ⟨nd, rfl⟩⟩; refine ⟨_, rfl, ?_⟩))
   (try simp only [Act.put, List.setIfInBounds_toArray, List.set_cons_zero, List.set_cons_succ])
   go_cut [55] (fun v55 wc => ∃ (kq : Nat) (x55_8 : Bool), v55 = .bool x55_8 ∧ Aside0 (laws_FnNumbers.j0 kq l0 t276 t277 x55_8 = some r) ∧ Aside0 (kq ≤ k) ∧ Aside0 (Below w.heap.size w wc))
   case first =>
    have H := HC9.out
    clear HC9
    by_cases c13 : t276 ≥ 0
    ·rw [if_pos c13] at H
     have c13b0 : decide (0 ≤ t276) = true := decide_eq_true c13
     clear c13
     (first | rw [c13b0] | (simp only [i64_w, i32_w]; rw [c13b0]) | skip)
     by_cases c14 : ((t278.toList != ([] : List UInt8)) != (decide (t276 ≤ 562949953421311))) = true
     ·rw [if_pos c14] at H
      have c14b0 : ((t278.toList != ([] : List UInt8)) != (decide (t276 ≤ 562949953421311))) = true := c14
      have c14cE_ := neE_ t278 ((decide (t276 ≤ 562949953421311))) c14b0
      (try (have c14b1 : decide ((t278.toList != ([] : List UInt8)) = (decide (t276 ≤ 562949953421311))) = false := by simpa using c14))
      (try (have c14b2 : ((t278.toList != ([] : List UInt8)) == (decide (t276 ≤ 562949953421311))) = false := by simpa using c14))
      (try (have c14b3 : ¬ ((t278.toList != ([] : List UInt8)) = (decide (t276 ≤ 562949953421311))) := by simpa using c14))
      clear c14
      have H' := Aside0.mk H
      clear H
      go_wp2
      go_meet
      case rel => exact ⟨_, (true), fa, H', ⟨by first | omega | exact Nat.le_refl _⟩, ⟨bl⟩⟩
     ·rw [if_neg c14] at H
      have c14b0 : ((t278.toList != ([] : List UInt8)) != (decide (t276 ≤ 562949953421311))) = false := by simpa using c14
      have c14cE_ := neT_ t278 ((decide (t276 ≤ 562949953421311))) c14b0
      (try (have c14b1 : decide ((t278.toList != ([] : List UInt8)) = (decide (t276 ≤ 562949953421311))) = true := by simpa using c14))
      (try (have c14b2 : ((t278.toList != ([] : List UInt8)) == (decide (t276 ≤ 562949953421311))) = true := by simpa using c14))
      clear c14
      by_cases c15 : t278.toList = ([] : List UInt8)
      ·rw [if_pos c15] at H
       have c15b0 : (t278.toList == ([] : List UInt8)) = true := beq_iff_eq.mpr c15
       have c15bE := c15b0; simp only [show ∀ l_ : List UInt8, (l_ == []) = l_.isEmpty from fun l_ => by cases l_ <;> rfl] at c15bE
       have c15d_ : decide (t276 ≤ 562949953421311) = false := neH_ t278 (decide (t276 ≤ 562949953421311)) c14b0 c15bE
       have c15e_ := Int.not_le.1 (of_decide_eq_false c15d_); have c15f_ := eq_false (of_decide_eq_false c15d_)
       have c15b1 : (t278.toList != ([] : List UInt8)) = false := bne_eq_false_iff_eq.mpr c15
       clear c15
       have H' := Aside0.mk H
       clear H
       go_wp2
       go_meet
       case rel => exact ⟨_, (false), fa, H', ⟨by first | omega | exact Nat.le_refl _⟩, ⟨bl⟩⟩
      ·rw [if_neg c15] at H
       have c15b0 : (t278.toList == ([] : List UInt8)) = false := beq_eq_false_iff_ne.mpr c15
       have c15bE := c15b0; simp only [show ∀ l_ : List UInt8, (l_ == []) = l_.isEmpty from fun l_ => by cases l_ <;> rfl] at c15bE
       have c15d_ : decide (t276 ≤ 562949953421311) = true := neI_ t278 (decide (t276 ≤ 562949953421311)) c14b0 c15bE
       have c15e_ := of_decide_eq_true c15d_; have c15f_ := eq_true (of_decide_eq_true c15d_)
       have c15b1 : (t278.toList != ([] : List UInt8)) = true := bne_iff_ne.mpr c15
       by_cases c16 : t279 = t276
       ·rw [if_pos c16] at H
        have c16b0 : (t279 == t276) = true := beq_iff_eq.mpr c16
        have c16b1 : (t279 != t276) = false := bne_eq_false_iff_eq.mpr c16
        clear c16
        have H' := Aside0.mk H
        clear H
        go_wp2
        go_meet
        case rel => exact ⟨_, ((t280 != (t278.size : Int))), fa, H', ⟨by first | omega | exact Nat.le_refl _⟩, ⟨bl⟩⟩
       ·rw [if_neg c16] at H
        have c16b0 : (t279 == t276) = false := beq_eq_false_iff_ne.mpr c16
        have c16b1 : (t279 != t276) = true := bne_iff_ne.mpr c16
        have H' := Aside0.mk H
        clear H
        go_wp2
        go_meet
        case rel => exact ⟨_, (true), fa, H', ⟨by first | omega | exact Nat.le_refl _⟩, ⟨bl⟩⟩
    ·rw [if_neg c13] at H
     have c13b0 : decide (0 ≤ t276) = false := decide_eq_false c13
     clear c13
     (first | rw [c13b0] | (simp only [i64_w, i32_w]; rw [c13b0]) | skip)
     by_cases c17 : ((t278.toList != ([] : List UInt8)) != false) = true
     ·rw [if_pos c17] at H
      have c17b0 : ((t278.toList != ([] : List UInt8)) != false) = true := c17
      have c17cF_ := neF_ t278 c17b0
      (try (have c17b1 : decide ((t278.toList != ([] : List UInt8)) = false) = false := by simpa using c17))
      (try (have c17b2 : ((t278.toList != ([] : List UInt8)) == false) = false := by simpa using c17))
      (try (have c17b3 : ¬ ((t278.toList != ([] : List UInt8)) = false) := by simpa using c17))
      clear c17
      have H' := Aside0.mk H
      clear H
      go_wp2
      go_meet
      case rel => exact ⟨_, (true), fa, H', ⟨by first | omega | exact Nat.le_refl _⟩, ⟨bl⟩⟩
     ·rw [if_neg c17] at H
      have c17b0 : ((t278.toList != ([] : List UInt8)) != false) = false := by simpa using c17
      have c17cF_ := neG_ t278 c17b0
      (try (have c17b1 : decide ((t278.toList != ([] : List UInt8)) = false) = true := by simpa using c17))
      (try (have c17b2 : ((t278.toList != ([] : List UInt8)) == false) = true := by simpa using c17))
      clear c17
      by_cases c18 : t278.toList = ([] : List UInt8)
      ·rw [if_pos c18] at H
       have c18b0 : (t278.toList == ([] : List UInt8)) = true := beq_iff_eq.mpr c18
       have c18bE := c18b0; simp only [show ∀ l_ : List UInt8, (l_ == []) = l_.isEmpty from fun l_ => by cases l_ <;> rfl] at c18bE
       have c18b1 : (t278.toList != ([] : List UInt8)) = false := bne_eq_false_iff_eq.mpr c18
       clear c18
       have H' := Aside0.mk H
       clear H
       go_wp2
       go_meet
       case rel => exact ⟨_, (false), fa, H', ⟨by first | omega | exact Nat.le_refl _⟩, ⟨bl⟩⟩
      ·rw [if_neg c18] at H
       have c18b0 : (t278.toList == ([] : List UInt8)) = false := beq_eq_false_iff_ne.mpr c18
       have c18bE := c18b0; simp only [show ∀ l_ : List UInt8, (l_ == []) = l_.isEmpty from fun l_ => by cases l_ <;> rfl] at c18bE
       exact absurd (c17cF_.symm.trans c18bE) (by decide)
   case rest =>
    clear HC9
    try clear c1
    try clear p2
    try clear c3
    try clear c7
    try clear c7b0
    try clear c7b1
    try clear c7b2
    try clear c13
    try clear c13b0
    try clear c14
    try clear c14b0
    try clear c14b1
    try clear c14b2
    try clear c15
    try clear c15b0
    try clear c15b1
    try clear c16
    try clear c16b0
    try clear c16b1
    try clear c17
    try clear c17b0
    try clear c17b1
    try clear c17b2
    try clear c18
    try clear c18b0
    try clear c18b1
    try clear c19
    try clear c19b0
    try clear c19b1
    obtain ⟨kq, x55_8, rfl, HA, HJ8, HB⟩ := hcut
    cases kq with
    | zero => exact absurd HA.out (by simp [laws_FnNumbers.j0])
    | succ kj8 =>
     have H := HA.out
     clear HA
     simp only [laws_FnNumbers.j0] at H
     by_cases c20 : x55_8 = true
     ·subst c20
      replace H := iT H
      exact absurd ((Option.some.inj H).trans hr_) (by decide)
     ·replace c20 := Bool.eq_false_iff.mpr c20
      subst c20
      replace H := iF H
      obtain ⟨t281, A21, H⟩ := bd H
      by_cases c22 : t281.size + t277.size ≤ 9223372036854775807
      ·rw [if_pos c22] at H
       have c22b0 := eq_true c22
       have c22b1 : decide (t281.size + t277.size ≤ 9223372036854775807) = true := decide_eq_true c22
       try have c22b2 : (9223372036854775807 < t281.size + t277.size) = False := eq_false (Nat.not_lt.2 c22)
       replace H := Option.bind_eq_some_iff.mp H
       obtain ⟨⟨t282, t283⟩, A230, H⟩ := H
       replace H : (if t281.toList = ([] : List UInt8) then (if t276 < 0 then (laws_FnNumbers.j1 kj8 l0 t276 t277 ((t281.toList == ([] : List UInt8)) != true)) else (laws_FnNumbers.j1 kj8 l0 t276 t277 ((t281.toList == ([] : List UInt8)) != (decide (t276 ≥ 72057594037927936))))) else (if t283 = true then (if t282 = t276 then (if (t281.size : Int) = 7 then (if t276 < 0 then (laws_FnNumbers.j1 kj8 l0 t276 t277 ((t281.toList == ([] : List UInt8)) != true)) else (laws_FnNumbers.j1 kj8 l0 t276 t277 ((t281.toList == ([] : List UInt8)) != (decide (t276 ≥ 72057594037927936))))) else (laws_FnNumbers.j1 kj8 l0 t276 t277 true)) else (laws_FnNumbers.j1 kj8 l0 t276 t277 true)) else (laws_FnNumbers.j1 kj8 l0 t276 t277 true))) = some r := H
       have A23 := Aside0.mk A230
       clear A230
       have HC24 := Aside0.mk H
       clear H
       go_upto_region 11 with (first | ((with_reducible refine gC 35 rfl ?_); refine goesZ (some 57) rfl Try.func35 #[.int .i64 t276, .int .i64 7] ?_; (with_reducible refine (impl_Fixed.calls kj8 t276 7 t281 _ A21.out).mono ?_); rintro e w25 ⟨rfl, hb⟩; refine ⟨_, rfl, ?_⟩; replace HB := bs (w := w) hb; (try clear hb); (try clear hb2); (try clear hk); (try clear hi)) | ((with_reducible refine gC 36 rfl ?_); refine goesL_ (some 62) rfl rfl Try.func36 (by kernel_rfl) rfl #[.string (t281 ++ t277), .int .i64 7] rfl sa ?_; (with_reducible refine (impl_ReadFixed.calls kj8 (t281 ++ t277) 7 t282 t283 _ A23.out).mono ?_); rintro e w' ⟨rfl, ⟨nd, rfl⟩⟩; refine ⟨_, rfl, ?_⟩))
       (try simp only [Act.put, List.setIfInBounds_toArray, List.set_cons_zero, List.set_cons_succ])
       go_cut [91] (fun v91 wc => ∃ (kq : Nat) (x91_23 : Bool), v91 = .bool x91_23 ∧ Aside0 (laws_FnNumbers.j1 kq l0 t276 t277 x91_23 = some r) ∧ Aside0 (kq ≤ kj8) ∧ Aside0 (Below w.heap.size w wc))
       case first =>
        have H := HC24.out
        clear HC24
        by_cases c26 : t281.toList = ([] : List UInt8)
        ·rw [if_pos c26] at H
         have c26b0 : (t281.toList == ([] : List UInt8)) = true := beq_iff_eq.mpr c26
         have c26bE := c26b0; simp only [show ∀ l_ : List UInt8, (l_ == []) = l_.isEmpty from fun l_ => by cases l_ <;> rfl] at c26bE
         have c26b1 : (t281.toList != ([] : List UInt8)) = false := bne_eq_false_iff_eq.mpr c26
         clear c26
         (first | rw [c26b0] | (simp only [i64_w, i32_w]; rw [c26b0]) | skip)
         by_cases c27 : t276 < 0
         ·rw [if_pos c27] at H
          have c27b0 : decide (t276 < 0) = true := decide_eq_true c27
          clear c27
          have H' := Aside0.mk H
          clear H
          go_wp2
          go_meet
          case rel => exact ⟨_, (((t281.toList == ([] : List UInt8)) != true)), fa, H', ⟨by have := HJ8.out; first | omega | exact Nat.le_refl _⟩, ⟨bl⟩⟩
         ·rw [if_neg c27] at H
          have c27b0 : decide (t276 < 0) = false := decide_eq_false c27
          clear c27
          have H' := Aside0.mk H
          clear H
          go_wp2
          go_meet
          case rel => exact ⟨_, (((t281.toList == ([] : List UInt8)) != (decide (t276 ≥ 72057594037927936)))), fa, H', ⟨by have := HJ8.out; first | omega | exact Nat.le_refl _⟩, ⟨bl⟩⟩
        ·rw [if_neg c26] at H
         have c26b0 : (t281.toList == ([] : List UInt8)) = false := beq_eq_false_iff_ne.mpr c26
         have c26bE := c26b0; simp only [show ∀ l_ : List UInt8, (l_ == []) = l_.isEmpty from fun l_ => by cases l_ <;> rfl] at c26bE
         have c26b1 : (t281.toList != ([] : List UInt8)) = true := bne_iff_ne.mpr c26
         (first | rw [c26b0] | (simp only [i64_w, i32_w]; rw [c26b0]) | skip)
         by_cases c28 : t283 = true
         ·subst c28
          replace H := iT H
          by_cases c29 : t282 = t276
          ·rw [if_pos c29] at H
           have c29b0 : (t282 == t276) = true := beq_iff_eq.mpr c29
           have c29b1 : (t282 != t276) = false := bne_eq_false_iff_eq.mpr c29
           clear c29
           by_cases c30 : (t281.size : Int) = 7
           ·rw [if_pos c30] at H
            have c30b0 : ((t281.size : Int) == 7) = true := beq_iff_eq.mpr c30
            have c30b1 : ((t281.size : Int) != 7) = false := bne_eq_false_iff_eq.mpr c30
            clear c30
            by_cases c31 : t276 < 0
            ·rw [if_pos c31] at H
             have c31b0 : decide (t276 < 0) = true := decide_eq_true c31
             clear c31
             have H' := Aside0.mk H
             clear H
             go_wp2
             go_meet
             case rel => exact ⟨_, (((t281.toList == ([] : List UInt8)) != true)), fa, H', ⟨by have := HJ8.out; first | omega | exact Nat.le_refl _⟩, ⟨bl⟩⟩
            ·rw [if_neg c31] at H
             have c31b0 : decide (t276 < 0) = false := decide_eq_false c31
             clear c31
             have H' := Aside0.mk H
             clear H
             go_wp2
             go_meet
             case rel => exact ⟨_, (((t281.toList == ([] : List UInt8)) != (decide (t276 ≥ 72057594037927936)))), fa, H', ⟨by have := HJ8.out; first | omega | exact Nat.le_refl _⟩, ⟨bl⟩⟩
           ·rw [if_neg c30] at H
            have c30b0 : ((t281.size : Int) == 7) = false := beq_eq_false_iff_ne.mpr c30
            have c30b1 : ((t281.size : Int) != 7) = true := bne_iff_ne.mpr c30
            have H' := Aside0.mk H
            clear H
            go_wp2
            go_meet
            case rel => exact ⟨_, (true), fa, H', ⟨by have := HJ8.out; first | omega | exact Nat.le_refl _⟩, ⟨bl⟩⟩
          ·rw [if_neg c29] at H
           have c29b0 : (t282 == t276) = false := beq_eq_false_iff_ne.mpr c29
           have c29b1 : (t282 != t276) = true := bne_iff_ne.mpr c29
           have H' := Aside0.mk H
           clear H
           go_wp2
           go_meet
           case rel => exact ⟨_, (true), fa, H', ⟨by have := HJ8.out; first | omega | exact Nat.le_refl _⟩, ⟨bl⟩⟩
         ·replace c28 := Bool.eq_false_iff.mpr c28
          subst c28
          replace H := iF H
          have H' := Aside0.mk H
          clear H
          go_wp2
          go_meet
          case rel => exact ⟨_, (true), fa, H', ⟨by have := HJ8.out; first | omega | exact Nat.le_refl _⟩, ⟨bl⟩⟩
       case rest =>
        clear HC24
        try clear c1
        try clear c2
        try clear p2
        try clear c3
        try clear c7
        try clear c7b0
        try clear c7b1
        try clear c7b2
        try clear c13
        try clear c13b0
        try clear c14
        try clear c14b0
        try clear c14b1
        try clear c14b2
        try clear c15
        try clear c15b0
        try clear c15b1
        try clear c16
        try clear c16b0
        try clear c16b1
        try clear c17
        try clear c17b0
        try clear c17b1
        try clear c17b2
        try clear c18
        try clear c18b0
        try clear c18b1
        try clear c19
        try clear c19b0
        try clear c19b1
        try clear c20
        try clear c22
        try clear c22b0
        try clear c22b1
        try clear c22b2
        try clear c26
        try clear c26b0
        try clear c26b1
        try clear c27
        try clear c27b0
        try clear c28
        try clear c29
        try clear c29b0
        try clear c29b1
        try clear c30
        try clear c30b0
        try clear c30b1
        try clear c31
        try clear c31b0
        try clear p2
        obtain ⟨kq, x91_23, rfl, HA, HJ23, HB⟩ := hcut
        cases kq with
        | zero => exact absurd HA.out (by simp [laws_FnNumbers.j1])
        | succ kj23 =>
         have H := HA.out
         clear HA
         simp only [laws_FnNumbers.j1] at H
         by_cases c32 : x91_23 = true
         ·subst c32
          replace H := iT H
          exact absurd ((Option.some.inj H).trans hr_) (by decide)
         ·replace c32 := Bool.eq_false_iff.mpr c32
          subst c32
          replace H := iF H
          obtain ⟨t284, A33, H⟩ := bd H
          replace H := Option.bind_eq_some_iff.mp H
          obtain ⟨⟨t285, t286⟩, A340, H⟩ := H
          replace H : (if t276 > (-1000000000) then (if (t286 != (decide (t276 < 1000000000))) = true then (laws_FnNumbers.j2 kj23 l0 t277 true) else (if t286 = true then (laws_FnNumbers.j2 kj23 l0 t277 (t285 != t276)) else (laws_FnNumbers.j2 kj23 l0 t277 false))) else (if (t286 != false) = true then (laws_FnNumbers.j2 kj23 l0 t277 true) else (if t286 = true then (laws_FnNumbers.j2 kj23 l0 t277 (t285 != t276)) else (laws_FnNumbers.j2 kj23 l0 t277 false)))) = some r := H
          have A34 := Aside0.mk A340
          clear A340
          have HC35 := Aside0.mk H
          clear H
          go_upto_region 14 with (first | ((with_reducible refine gate_callee (f := 38) rfl ?_); refine goesL_ (some 94) rfl rfl Try.func38 (by kernel_rfl) rfl #[.int .i64 t276] rfl sa ?_; (with_reducible refine (impl_Dec.calls kj23 t276 t284 _ A33.out).mono ?_); rintro e w' ⟨rfl, ⟨nd, rfl⟩⟩; refine ⟨_, rfl, ?_⟩) | ((with_reducible refine gate_callee (f := 37) rfl ?_); refine goesL_ (some 95) rfl rfl Try.func37 (by kernel_rfl) rfl #[.string t284] rfl sa ?_; (with_reducible refine (impl_ReadDec.calls kj23 t284 t285 t286 _ A34.out).mono ?_); rintro e w' ⟨rfl, ⟨nd, rfl⟩⟩; refine ⟨_, rfl, ?_⟩))
          (try simp only [Act.put, List.setIfInBounds_toArray, List.set_cons_zero, List.set_cons_succ])
          go_cut [113] (fun v113 wc => ∃ (kq : Nat) (x113_34 : Bool), v113 = .bool x113_34 ∧ Aside0 (laws_FnNumbers.j2 kq l0 t277 x113_34 = some r) ∧ Aside0 (kq ≤ kj23) ∧ Aside0 (Below w.heap.size w wc))
          case first =>
           have H := HC35.out
           clear HC35
           by_cases c36 : t276 > (-1000000000)
           ·rw [if_pos c36] at H
            have c36b0 : decide ((-1000000000) < t276) = true := decide_eq_true c36
            clear c36
            (first | rw [c36b0] | (simp only [i64_w, i32_w]; rw [c36b0]) | skip)
            by_cases c37 : (t286 != (decide (t276 < 1000000000))) = true
            ·rw [if_pos c37] at H
             have c37b0 : (t286 != (decide (t276 < 1000000000))) = true := c37
             (try (have c37b1 : decide (t286 = (decide (t276 < 1000000000))) = false := by simpa using c37))
             (try (have c37b2 : (t286 == (decide (t276 < 1000000000))) = false := by simpa using c37))
             (try (have c37b3 : ¬ (t286 = (decide (t276 < 1000000000))) := by simpa using c37))
             clear c37
             have H' := Aside0.mk H
             clear H
             go_wp2
             go_meet
             case rel => exact ⟨_, (true), fa, H', ⟨by have := HJ8.out; have := HJ23.out; first | omega | exact Nat.le_refl _⟩, ⟨bl⟩⟩
            ·rw [if_neg c37] at H
             have c37b0 : (t286 != (decide (t276 < 1000000000))) = false := by simpa using c37
             (try (have c37b1 : decide (t286 = (decide (t276 < 1000000000))) = true := by simpa using c37))
             (try (have c37b2 : (t286 == (decide (t276 < 1000000000))) = true := by simpa using c37))
             clear c37
             by_cases c38 : t286 = true
             ·subst c38
              replace H := iT H
              have H' := Aside0.mk H
              clear H
              go_wp2
              go_meet
              case rel => exact ⟨_, ((t285 != t276)), fa, H', ⟨by have := HJ8.out; have := HJ23.out; first | omega | exact Nat.le_refl _⟩, ⟨bl⟩⟩
             ·replace c38 := Bool.eq_false_iff.mpr c38
              subst c38
              replace H := iF H
              have H' := Aside0.mk H
              clear H
              go_wp2
              go_meet
              case rel => exact ⟨_, (false), fa, H', ⟨by have := HJ8.out; have := HJ23.out; first | omega | exact Nat.le_refl _⟩, ⟨bl⟩⟩
           ·rw [if_neg c36] at H
            have c36b0 : decide ((-1000000000) < t276) = false := decide_eq_false c36
            clear c36
            (first | rw [c36b0] | (simp only [i64_w, i32_w]; rw [c36b0]) | skip)
            by_cases c39 : (t286 != false) = true
            ·rw [if_pos c39] at H
             have c39b0 : (t286 != false) = true := c39
             (try (have c39b1 : decide (t286 = false) = false := by simpa using c39))
             (try (have c39b2 : (t286 == false) = false := by simpa using c39))
             (try (have c39b3 : ¬ (t286 = false) := by simpa using c39))
             clear c39
             have H' := Aside0.mk H
             clear H
             go_wp2
             go_meet
             case rel => exact ⟨_, (true), fa, H', ⟨by have := HJ8.out; have := HJ23.out; first | omega | exact Nat.le_refl _⟩, ⟨bl⟩⟩
            ·rw [if_neg c39] at H
             have c39b0 : (t286 != false) = false := by simpa using c39
             (try (have c39b1 : decide (t286 = false) = true := by simpa using c39))
             (try (have c39b2 : (t286 == false) = true := by simpa using c39))
             clear c39
             by_cases c40 : t286 = true
             ·subst c40
              replace H := iT H
              have H' := Aside0.mk H
              clear H
              go_wp2
              go_meet
              case rel => exact ⟨_, ((t285 != t276)), fa, H', ⟨by have := HJ8.out; have := HJ23.out; first | omega | exact Nat.le_refl _⟩, ⟨bl⟩⟩
             ·replace c40 := Bool.eq_false_iff.mpr c40
              subst c40
              replace H := iF H
              have H' := Aside0.mk H
              clear H
              go_wp2
              go_meet
              case rel => exact ⟨_, (false), fa, H', ⟨by have := HJ8.out; have := HJ23.out; first | omega | exact Nat.le_refl _⟩, ⟨bl⟩⟩
          case rest =>
           clear HC35
           try clear c1
           try clear c2
           try clear p2
           try clear c3
           try clear c4
           try clear c7
           try clear c7b0
           try clear c7b1
           try clear c7b2
           try clear c13
           try clear c13b0
           try clear c14
           try clear c14b0
           try clear c14b1
           try clear c14b2
           try clear c15
           try clear c15b0
           try clear c15b1
           try clear c16
           try clear c16b0
           try clear c16b1
           try clear c17
           try clear c17b0
           try clear c17b1
           try clear c17b2
           try clear c18
           try clear c18b0
           try clear c18b1
           try clear c19
           try clear c19b0
           try clear c19b1
           try clear c20
           try clear c22
           try clear c22b0
           try clear c22b1
           try clear c22b2
           try clear c26
           try clear c26b0
           try clear c26b1
           try clear c27
           try clear c27b0
           try clear c28
           try clear c29
           try clear c29b0
           try clear c29b1
           try clear c30
           try clear c30b0
           try clear c30b1
           try clear c31
           try clear c31b0
           try clear c32
           try clear c33
           try clear c34
           try clear c35
           try clear c36
           try clear c36b0
           try clear c37
           try clear c37b0
           try clear c37b1
           try clear c37b2
           try clear c38
           try clear c39
           try clear c39b0
           try clear c39b1
           try clear c39b2
           try clear c40
           try clear p2
           obtain ⟨kq, x113_34, rfl, HA, HJ34, HB⟩ := hcut
           cases kq with
           | zero => exact absurd HA.out (by simp [laws_FnNumbers.j2])
           | succ kj34 =>
            have H := HA.out
            clear HA
            simp only [laws_FnNumbers.j2] at H
            by_cases c41 : x113_34 = true
            ·subst c41
             replace H := iT H
             exact absurd ((Option.some.inj H).trans hr_) (by decide)
            ·replace c41 := Bool.eq_false_iff.mpr c41
             subst c41
             replace H := iF H
             obtain ⟨t287, A42, H⟩ := bd H
             replace H := Option.bind_eq_some_iff.mp H
             obtain ⟨⟨t288, t289⟩, A430, H⟩ := H
             replace H : ((spec_DrawReadVar.f kj34 l0).bind fun t290 => ((impl_ReadVar.f kj34 t290).bind fun bt291 => (if t289 = true then (if t288.toList = t277.toList then (if bt291.2 = 0 then (some true) else (if bt291.2 > 0 then ((spec_DrawReadVar.f kj34 l0).bind fun t293 => (if bt291.2 ≤ (t293.size : Int) then ((impl_Var.f kj34 bt291.1).bind fun t294 => ((spec_DrawReadVar.f kj34 l0).bind fun t295 => (if 0 ≤ bt291.2 then (if bt291.2 ≤ (t295.size : Int) then (some (t294.toList == (t295.extract 0 (bt291.2 : Int).toNat).toList)) else (none)) else (none)))) else (some false))) else (some false))) else (some false)) else (some false)))) = some r := H
             have A43 := Aside0.mk A430
             clear A430
             obtain ⟨t290, A44, H⟩ := bd H
             replace H := Option.bind_eq_some_iff.mp H
             obtain ⟨⟨t291, t292⟩, A450, H⟩ := H
             replace H : (if t289 = true then (if t288.toList = t277.toList then (if t292 = 0 then (some true) else (if t292 > 0 then ((spec_DrawReadVar.f kj34 l0).bind fun t293 => (if t292 ≤ (t293.size : Int) then ((impl_Var.f kj34 t291).bind fun t294 => ((spec_DrawReadVar.f kj34 l0).bind fun t295 => (if 0 ≤ t292 then (if t292 ≤ (t295.size : Int) then (some (t294.toList == (t295.extract 0 (t292 : Int).toNat).toList)) else (none)) else (none)))) else (some false))) else (some false))) else (some false)) else (some false)) = some r := H
             have A45 := Aside0.mk A450
             clear A450
             by_cases c46 : t289 = true
             ·subst c46
              replace H := iT H
              by_cases c47 : t288.toList = t277.toList
              ·rw [if_pos c47] at H
               have c47b0 : (t288.toList == t277.toList) = true := beq_iff_eq.mpr c47
               have c47b1 : (t288.toList != t277.toList) = false := bne_eq_false_iff_eq.mpr c47
               clear c47
               by_cases c48 : t292 = 0
               ·rw [if_pos c48] at H
                have c48b0 : (t292 == 0) = true := beq_iff_eq.mpr c48
                have c48b1 : (t292 != 0) = false := bne_eq_false_iff_eq.mpr c48
                clear c48
                obtain rfl := Option.some.inj H
                go_wp2_with (first | ((with_reducible refine gC 40 rfl ?_); refine goesZ (some 116) rfl Try.func40 #[.string t277] ?_; (with_reducible refine (impl_Hex.calls kj34 t277 t287 _ A42.out).mono ?_); rintro e w49 ⟨rfl, hb⟩; refine ⟨_, rfl, ?_⟩; replace HB := bs (w := w) hb; (try clear hb); (try clear hb2); (try clear hk); (try clear hi)) | ((with_reducible refine gC 39 rfl ?_); refine goesZ (some 117) rfl Try.func39 #[.string t287] ?_; (with_reducible refine (impl_Unhex.calls kj34 t287 t288 true _ A43.out).mono ?_); rintro e w50 ⟨rfl, hb⟩; refine ⟨_, rfl, ?_⟩; replace HB := bs (w := w) hb; (try clear hb); (try clear hb2); (try clear hk); (try clear hi)) | ((with_reducible refine gC 41 rfl ?_); refine goesZ (some 122) rfl Try.func41 #[.slice A0 l0.length c0] ?_; (with_reducible refine (spec_DrawReadVar.calls kj34 _ _ l0 t290 _ ?side1 ?side2 A44.out).mono ?_); (case side1 => repeat (first | exact (Kd.C_below HR0.out HB.out) | (with_reducible refine Kd.C_alloc ?_ _) | (with_reducible refine Kd.C_drewN ?_ _) | (with_reducible refine Kd.C_drew ?_))); (case side2 => exact HC0.out); rintro e w51 ⟨rfl, hb⟩; refine ⟨_, rfl, ?_⟩; replace HB := bs (w := w) hb; (try clear hb); (try clear hb2); (try clear hk); (try clear hi)) | ((with_reducible refine gC 34 rfl ?_); refine goesZ (some 123) rfl Try.func34 #[.string t290] ?_; (with_reducible refine (impl_ReadVar.calls kj34 t290 t291 t292 _ A45.out).mono ?_); rintro e w' ⟨rfl, ⟨nd, rfl⟩⟩; refine ⟨_, rfl, ?_⟩))
                go_ret
                exact ⟨fe, bl⟩
               ·rw [if_neg c48] at H
                have c48b0 : (t292 == 0) = false := beq_eq_false_iff_ne.mpr c48
                have c48b1 : (t292 != 0) = true := bne_iff_ne.mpr c48
                by_cases c52 : t292 > 0
                ·rw [if_pos c52] at H
                 have c52b0 : decide (0 < t292) = true := decide_eq_true c52
                 clear c52
                 obtain ⟨t293, A53, H⟩ := bd H
                 by_cases c54 : t292 ≤ (t293.size : Int)
                 ·rw [if_pos c54] at H
                  have c54b0 : decide (t292 ≤ (t293.size : Int)) = true := decide_eq_true c54
                  clear c54
                  obtain ⟨t294, A55, H⟩ := bd H
                  obtain ⟨t295, A56, H⟩ := bd H
                  obtain rfl : t293 = t295 := Option.some.inj (A53.out.symm.trans A56.out)
                  by_cases c57 : 0 ≤ t292
                  ·rw [if_pos c57] at H
                   have c57b0 := eq_true c57
                   have c57b1 : decide (0 ≤ t292) = true := decide_eq_true c57
                   clear c57
                   by_cases c58 : t292 ≤ (t293.size : Int)
                   ·rw [if_pos c58] at H
                    have c58b0 := eq_true c58
                    have c58b1 : decide (t292 ≤ (t293.size : Int)) = true := decide_eq_true c58
                    clear c58
                    obtain rfl := Option.some.inj H
                    go_wp2_with (first | ((with_reducible refine gC 40 rfl ?_); refine goesZ (some 116) rfl Try.func40 #[.string t277] ?_; (with_reducible refine (impl_Hex.calls kj34 t277 t287 _ A42.out).mono ?_); rintro e w59 ⟨rfl, hb⟩; refine ⟨_, rfl, ?_⟩; replace HB := bs (w := w) hb; (try clear hb); (try clear hb2); (try clear hk); (try clear hi)) | ((with_reducible refine gC 39 rfl ?_); refine goesZ (some 117) rfl Try.func39 #[.string t287] ?_; (with_reducible refine (impl_Unhex.calls kj34 t287 t288 true _ A43.out).mono ?_); rintro e w60 ⟨rfl, hb⟩; refine ⟨_, rfl, ?_⟩; replace HB := bs (w := w) hb; (try clear hb); (try clear hb2); (try clear hk); (try clear hi)) | ((with_reducible refine gC 41 rfl ?_); refine goesZ (some 122) rfl Try.func41 #[.slice A0 l0.length c0] ?_; (with_reducible refine (spec_DrawReadVar.calls kj34 _ _ l0 t290 _ ?side1 ?side2 A44.out).mono ?_); (case side1 => repeat (first | exact (Kd.C_below HR0.out HB.out) | (with_reducible refine Kd.C_alloc ?_ _) | (with_reducible refine Kd.C_drewN ?_ _) | (with_reducible refine Kd.C_drew ?_))); (case side2 => exact HC0.out); rintro e w61 ⟨rfl, hb⟩; refine ⟨_, rfl, ?_⟩; replace HB := bs (w := w) hb; (try clear hb); (try clear hb2); (try clear hk); (try clear hi)) | ((with_reducible refine gC 34 rfl ?_); refine goesZ (some 123) rfl Try.func34 #[.string t290] ?_; (with_reducible refine (impl_ReadVar.calls kj34 t290 t291 t292 _ A45.out).mono ?_); rintro e w' ⟨rfl, ⟨nd, rfl⟩⟩; refine ⟨_, rfl, ?_⟩) | (go_at_call 41; (with_reducible refine (spec_DrawReadVar.calls kj34 _ _ l0 t293 _ ?side1 ?side2 A53.out).mono ?_); (case side1 => repeat (first | exact (Kd.C_below HR0.out bl) | (with_reducible refine Kd.C_alloc ?_ _) | (with_reducible refine Kd.C_drewN ?_ _) | (with_reducible refine Kd.C_drew ?_))); (case side2 => exact HC0.out); rintro e w62 ⟨rfl, hb⟩; replace HB := bs (w := w) hb; (try clear hb); (try clear hb2); (try clear hk); (try clear hi)) | (go_at_call 33; (with_reducible refine (impl_Var.calls kj34 t291 t294 _ A55.out).mono ?_); rintro e w63 ⟨rfl, hb⟩; replace HB := bs (w := w) hb; (try clear hb); (try clear hb2); (try clear hk); (try clear hi)) | (go_at_call 41; (with_reducible refine (spec_DrawReadVar.calls kj34 _ _ l0 t293 _ ?side1 ?side2 A56.out).mono ?_); (case side1 => repeat (first | exact (Kd.C_below HR0.out HB.out) | (with_reducible refine Kd.C_alloc ?_ _) | (with_reducible refine Kd.C_drewN ?_ _) | (with_reducible refine Kd.C_drew ?_))); (case side2 => exact HC0.out); rintro e w64 ⟨rfl, hb⟩; replace HB := bs (w := w) hb; (try clear hb); (try clear hb2); (try clear hk); (try clear hi)))
                    go_ret
                    exact ⟨fe, bl⟩
                   ·rw [if_neg c58] at H
                    exact absurd H (by simp)
                  ·rw [if_neg c57] at H
                   exact absurd H (by simp)
                 ·rw [if_neg c54] at H
                  have c54b0 : decide (t292 ≤ (t293.size : Int)) = false := decide_eq_false c54
                  clear c54
                  exact absurd ((Option.some.inj H).trans hr_) (by decide)
                ·rw [if_neg c52] at H
                 have c52b0 : decide (0 < t292) = false := decide_eq_false c52
                 clear c52
                 exact absurd ((Option.some.inj H).trans hr_) (by decide)
              ·rw [if_neg c47] at H
               have c47b0 : (t288.toList == t277.toList) = false := beq_eq_false_iff_ne.mpr c47
               have c47b1 : (t288.toList != t277.toList) = true := bne_iff_ne.mpr c47
               exact absurd ((Option.some.inj H).trans hr_) (by decide)
             ·replace c46 := Bool.eq_false_iff.mpr c46
              subst c46
              replace H := iF H
              exact absurd ((Option.some.inj H).trans hr_) (by decide)
      ·rw [if_neg c22] at H
       exact absurd H (by simp)
  ·rw [if_neg c7] at H
   exact absurd H (by simp)

/-- THE ONE PURE STATEMENT of laws_FnNumbers: yours. -/
def laws_FnNumbers.Pure : Prop := ∀ (l0 : List Int), l0.length ≤ maxLen → l0.length * 1 ≤ 140737488351232 → (∀ x ∈ l0, (Lit.int .u8 x).wf = true) → ∃ k, laws_FnNumbers.f k l0 = some true
theorem laws_FnNumbers.walk (P : laws_FnNumbers.Pure) (a0 : Option Addr) (len0 cap0 : Nat) (z0 : List Int) (w : World) (w0 : (a0 = none ∧ len0 = 0 ∧ cap0 = 0 ∧ z0 = []) ∨ ∃ x, a0 = some x ∧ len0 ≤ cap0 ∧ cap0 ≤ maxLen ∧ z0.length = cap0 ∧ (∀ i, i < z0.length → w.cell? (x.add i) = some (.int .u8 (z0.getD i 0))) ∧ ∀ n ∈ z0, (Lit.int .u8 n).wf = true) (y0 : len0 * 1 ≤ 140737488351232) :
 Calls Try.prog 7 #[.slice a0 len0 cap0] w fun e w' => e = .returned (.bool true) ∧ Below w.heap.size w w' := by
 obtain ⟨l0, rfl, hr0, hm0, hw0, hc0⟩ := ReadsInt.ofRowC w0
 obtain ⟨k, h⟩ := P l0 hm0 y0 hw0
 refine (laws_FnNumbers.calls k _ _ l0 true w (Kd.C_of_reads (d := (0 : Int)) (h1 := fun _ => rfl) hr0) hc0 h rfl).mono ?_
 rintro e w' ⟨rfl, hd⟩
 exact ⟨rfl, hd⟩

end Go.Proofs.Ytfmddjbekophnaa.PFnNumbers
