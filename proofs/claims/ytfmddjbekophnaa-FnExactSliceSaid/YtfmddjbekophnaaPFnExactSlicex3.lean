-- PRINTED by print.py (a twelfth state) out of the translation. Not trusted: Lean checks it.
import Derived.Test.YtfmddjbekophnaaPFnExactSlicex0
import Derived.Test.YtfmddjbekophnaaPFnExactSlicex2
import Derived.Test.YtfmddjbekophnaaZip
import Derived.Lib.SliceRun
import Derived.Outline
namespace Go.Proofs.Ytfmddjbekophnaa.PFnExactSlice
open Go.RowKit Go.Proofs.YtfmddjbekophnaaW.PrintWords Go.Proofs.YtfmddjbekophnaaW.PrintLast Go.Proofs.YtfmddjbekophnaaW.PrintMore Go.Proofs.Ytfmddjbekophnaa.Zip
attribute [local go_sem] max2_int min2_int max_two min_two max_three min_three max_four min_four   -- for this text's walks alone
set_option linter.unusedVariables false
set_option linter.unusedSimpArgs false

/-! ### spec_l8Slice: function 85 -/
def spec_l8Slice.l0 : Nat → List (S92) → Int → Int → List (S92) → Int → Option ((List (S92)))
 | 0, _, _, _, _, _ => none
 | k + 1, x0, x1, x2, x7, x8 => if x8 < (x0.length : Int) then (if 0 ≤ x8 then (if ((rd_T92 x0 x8).f0) ≥ x1 then (if ((rd_T92 x0 x8).f0) < x2 then (if x7.length < 8796093022208 then (spec_l8Slice.l0 k x0 x1 x2 (x7 ++ [(⟨(rd_T92 x0 x8).f0, (rd_T92 x0 x8).f1⟩ : S92)]) (wrap64 (x8 + 1))) else (none)) else (spec_l8Slice.l0 k x0 x1 x2 x7 (wrap64 (x8 + 1)))) else (spec_l8Slice.l0 k x0 x1 x2 x7 (wrap64 (x8 + 1)))) else (none)) else (some x7)
def spec_l8Slice.f (k : Nat) (l0 : List (S92)) (a1 : Int) (a2 : Int) : Option ((List (S92))) := spec_l8Slice.l0 k l0 a1 a2 (([] : List (S92))) 0
theorem spec_l8Slice.mono_l : ∀ k, (∀ y0 y1 y2 y3 y4, LeO (spec_l8Slice.l0 k y0 y1 y2 y3 y4) (spec_l8Slice.l0 (k + 1) y0 y1 y2 y3 y4))
 | 0 => fun _ _ _ _ _ r h => by simp [spec_l8Slice.l0] at h
 | k + 1 => by
  have ih0 := spec_l8Slice.mono_l k
  ·intro y0 y1 y2 y3 y4
   unfold spec_l8Slice.l0
   repeat' first
   | (with_reducible exact ih0 _ _ _ _ _)
   | (with_reducible exact LeO.refl _)
   | (with_reducible exact LeO.none _)
   | (with_reducible refine LeO.ite ?_ ?_)
   | (with_reducible refine LeO.bind ?_ (fun _ => ?_))
   | exact ih0 _ _ _ _ _
   | exact LeO.none _
   | refine LeO.ite ?_ ?_
   | refine LeO.bind ?_ (fun _ => ?_)
theorem spec_l8Slice.mono : ∀ a0 a1 a2 k, LeO (spec_l8Slice.f k a0 a1 a2) (spec_l8Slice.f (k + 1) a0 a1 a2) := by
 intro a0 a1 a2 k
 have ih0 := spec_l8Slice.mono_l k
 unfold spec_l8Slice.f
 repeat' first
  | (with_reducible exact ih0 _ _ _ _ _)
  | (with_reducible exact LeO.refl _)
  | (with_reducible exact LeO.none _)
  | (with_reducible refine LeO.ite ?_ ?_)
  | (with_reducible refine LeO.bind ?_ (fun _ => ?_))
  | exact ih0 _ _ _ _ _
  | exact LeO.none _
  | refine LeO.ite ?_ ?_
  | refine LeO.bind ?_ (fun _ => ?_)
set_option maxHeartbeats 8000000 in
set_option maxRecDepth 100000 in
theorem spec_l8Slice.calls (k : Nat) (A0 : Option Addr) (c0 : Nat) (l0 : List (S92)) (a1 : Int) (a2 : Int) (r : List (S92)) (w : World) (hr0 : Kd.C k92 w A0 l0.length l0) (hc0 : l0.length ≤ c0) (h : spec_l8Slice.f k l0 a1 a2 = some r) :
 Calls Try.prog 85 #[.slice A0 l0.length c0, .int .i64 a1, .int .i64 a2] w fun e w' => ∃ v0_ : Value, e = .returned (v0_) ∧ Kd.R k92 92 w' w.heap.size (fun _ => True) v0_ r ∧ Below w.heap.size w w' := by
 have hu92 := Try.underlying92
 have HR0 := Aside0.mk hr0
 have HC0 := Aside0.mk hc0
 clear hr0 hc0
 have HB := Aside0.mk (Below.refl w.heap.size w)
 have H : (spec_l8Slice.l0 k l0 a1 a2 (([] : List (S92))) 0) = some r := h
 clear h
 obtain ⟨y122, hy122⟩ : ∃ y_ : List (S92), y_ = (([] : List (S92))) := ⟨_, rfl⟩
 replace H : (spec_l8Slice.l0 k l0 a1 a2 y122 0) = some r := by first | (rw [hy122]; with_reducible exact H) | (have H2_ := (Option.bind_some _ _).symm.trans H; rw [hy122]; with_reducible exact H2_) | (have H2_ := (Option.bind_some _ _).symm.trans H; with_reducible exact H2_) | with_reducible exact H | (rw [hy122]; exact H) | exact H
 have Ny122 := Aside0.mk hy122
 clear hy122
 have H' := Aside0.mk H
 clear H
 go_enter Try.func85, Try.ntmps85
 go_wp2_with (first | ((with_reducible refine gD 9 rfl ?_); refine Kd.R_lit k92 _ 92 ?hg (N := 9) ?hd (xs := ([] : List (S92))) (inner := []) (ok := fun _ => True) (okp := fun _ => True) ?hr ?hp (fun _ hk => hk) trivial (Below.refl _ _) (Nat.le_refl _) (by simp) ?_; (case hd => rfl); (case hg => rfl); (case hr => first | (go_simp; done) | (go_simp; rfl)); (case hp => exact (Reps.none _ _)); intro v123 w4 ho5 hb hg_ hnew_; clear hg_ hnew_; (first | rw [← Ny122.out] at ho5 | (simp only [Int.reduceToNat] at ho5; rw [← Ny122.out] at ho5)); have HO124 := Aside0.mk (Kd.R_lower ho5 (below_size bl)); replace HB := bs (w := w) hb; clear hb ho5))
 go_loopg [7, 8] k (fun kq v7 v8 w' => ∃ (x7_1 : List (S92)) (x8_1 : Int), v8 = .int .i64 x8_1 ∧ Aside0 (spec_l8Slice.l0 kq l0 a1 a2 x7_1 x8_1 = some r) ∧ Aside0 (kq ≤ k) ∧ Aside0 (Kd.R k92 92 w' w.heap.size (fun _ => True) v7 x7_1) ∧ Aside0 (Below w.heap.size w w'))
 case atStart => exact ⟨(y122), (0), fa, H', ⟨Nat.le_refl _⟩, ⟨rpR HO124.out⟩, ⟨bl⟩⟩
 case round =>
  clear H'
  try clear p2
  obtain ⟨x7_1, x8_1, rfl, HA, HK1, HO_7, HB⟩ := hrel
  cases gk with
  | zero => exact absurd HA.out (by simp [spec_l8Slice.l0])
  | succ k1 =>
   have H := HA.out
   clear HA
   simp only [spec_l8Slice.l0] at H
   by_cases c6 : x8_1 < (l0.length : Int)
   ·rw [if_pos c6] at H
    have c6b0 : decide (x8_1 < (l0.length : Int)) = true := decide_eq_true c6
    clear c6
    by_cases c7 : 0 ≤ x8_1
    ·rw [if_pos c7] at H
     have c7b0 : decide (0 ≤ x8_1) = true := decide_eq_true c7
     clear c7
     by_cases c8 : ((rd_T92 l0 x8_1).f0) ≥ a1
     ·rw [if_pos c8] at H
      have c8b0 : decide (a1 ≤ ((rd_T92 l0 x8_1).f0)) = true := decide_eq_true c8
      clear c8
      by_cases c9 : ((rd_T92 l0 x8_1).f0) < a2
      ·rw [if_pos c9] at H
       have c9b0 : decide (((rd_T92 l0 x8_1).f0) < a2) = true := decide_eq_true c9
       clear c9
       by_cases c10 : x7_1.length < 8796093022208
       ·rw [if_pos c10] at H
        have LMc10 := Aside0.mk c10
        clear c10
        obtain ⟨y128, hy128⟩ : ∃ y_ : List (S92), y_ = (x7_1 ++ [(⟨(rd_T92 l0 x8_1).f0, (rd_T92 l0 x8_1).f1⟩ : S92)]) := ⟨_, rfl⟩
        replace H : (spec_l8Slice.l0 k1 l0 a1 a2 y128 (wrap64 (x8_1 + 1))) = some r := by first | (rw [hy128]; with_reducible exact H) | (have H2_ := (Option.bind_some _ _).symm.trans H; rw [hy128]; with_reducible exact H2_) | (have H2_ := (Option.bind_some _ _).symm.trans H; with_reducible exact H2_) | with_reducible exact H | (rw [hy128]; exact H) | exact H
        have Ny128 := Aside0.mk hy128
        clear hy128
        have H' := Aside0.mk H
        clear H
        have p125 : 0 ≤ (x8_1 : Int) := of_decide_eq_true am
        have q125 : x8_1 < (l0.length : Int) := of_decide_eq_true am
        obtain ⟨ad125, e125, hx125_0, hx125_1⟩ := at_T92 HR0.out x8_1 p125 q125
        cases e125
        replace hx125_0 := cz HB hx125_0
        replace hx125_1 := cz HB hx125_1
        replace p125 := eq_true p125
        replace q125 := eq_true q125
        have p126 : 0 ≤ (x8_1 : Int) := of_decide_eq_true am
        have q126 : x8_1 < (l0.length : Int) := of_decide_eq_true am
        obtain ⟨ad126, e126, hx126_0, hx126_1⟩ := at_T92 HR0.out x8_1 p126 q126
        obtain rfl : ad125 = ad126 := (by injection e126)
        replace hx126_0 := cz HB hx126_0
        replace hx126_1 := cz HB hx126_1
        replace p126 := eq_true p126
        replace q126 := eq_true q126
        have p127 : 0 ≤ (x8_1 : Int) := of_decide_eq_true am
        have q127 : x8_1 < (l0.length : Int) := of_decide_eq_true am
        obtain ⟨ad127, e127, hx127_0, hx127_1⟩ := at_T92 HR0.out x8_1 p127 q127
        obtain rfl : ad125 = ad127 := (by injection e127)
        replace hx127_0 := cz HB hx127_0
        replace hx127_1 := cz HB hx127_1
        replace p127 := eq_true p127
        replace q127 := eq_true q127
        go_wp2_with (first | ((with_reducible refine gate_builtin (b := .append) (xs := #[.tmp 32, .tmp 37]) rfl ?_); at_builtin; refine Kd.R_append k92 (w0 := w) w.heap.size rfl (.tmp 32) (.tmp 37) 25 92 (.agg #[(.int .i64 0), (.int .i64 0)]) 16 rfl Try.underlying25 info92 rfl (by decide) (by omega) u7 x7_1 (⟨(rd_T92 l0 x8_1).f0, (rd_T92 l0 x8_1).f1⟩ : S92) [.int .i64 ((rd_T92 l0 x8_1).f0), .int .i64 ((rd_T92 l0 x8_1).f1)] (fun _ => True) (fun _ => False) rfl rfl ?aP (fun _ hk => hk.elim) ?aF ?aO ?aB ?aS ?aL ?_; (case aP => exact k92_mkM _ _ _ (⟨(rd_T92 l0 x8_1).f0, (rd_T92 l0 x8_1).f1⟩ : S92)); (case aB => exact bl); (case aF => exact (fun _ _ => trivial)); (case aO => exact (rpR HO_7.out)); (case aS => exact (below_size bl)); (case aL => have := LMc10.out; omega); intro v129 w11 ho hb hg hat; rw [← Ny128.out] at ho; replace HB := Aside0.mk (hb); have HO130 := Aside0.mk (ho); clear HO_7; clear ho hb hg hat))
        go_roundg k1
        case measure => have := HK1.out; omega
        case rel => exact ⟨(y128), (wrap64 (x8_1 + 1)), fa, H', ⟨by have := HK1.out; omega⟩, ⟨rpR HO130.out⟩, ⟨bl⟩⟩
       ·rw [if_neg c10] at H
        exact absurd H (by simp)
      ·rw [if_neg c9] at H
       have c9b0 : decide (((rd_T92 l0 x8_1).f0) < a2) = false := decide_eq_false c9
       clear c9
       have H' := Aside0.mk H
       clear H
       have p125 : 0 ≤ (x8_1 : Int) := of_decide_eq_true am
       have q125 : x8_1 < (l0.length : Int) := of_decide_eq_true am
       obtain ⟨ad125, e125, hx125_0, hx125_1⟩ := at_T92 HR0.out x8_1 p125 q125
       cases e125
       replace hx125_0 := cz HB hx125_0
       replace hx125_1 := cz HB hx125_1
       replace p125 := eq_true p125
       replace q125 := eq_true q125
       have p126 : 0 ≤ (x8_1 : Int) := of_decide_eq_true am
       have q126 : x8_1 < (l0.length : Int) := of_decide_eq_true am
       obtain ⟨ad126, e126, hx126_0, hx126_1⟩ := at_T92 HR0.out x8_1 p126 q126
       obtain rfl : ad125 = ad126 := (by injection e126)
       replace hx126_0 := cz HB hx126_0
       replace hx126_1 := cz HB hx126_1
       replace p126 := eq_true p126
       replace q126 := eq_true q126
       go_wp2
       go_roundg k1
       case measure => have := HK1.out; omega
       case rel => exact ⟨(x7_1), (wrap64 (x8_1 + 1)), fa, H', ⟨by have := HK1.out; omega⟩, ⟨rpR HO_7.out⟩, ⟨bl⟩⟩
     ·rw [if_neg c8] at H
      have c8b0 : decide (a1 ≤ ((rd_T92 l0 x8_1).f0)) = false := decide_eq_false c8
      clear c8
      have H' := Aside0.mk H
      clear H
      have p125 : 0 ≤ (x8_1 : Int) := of_decide_eq_true am
      have q125 : x8_1 < (l0.length : Int) := of_decide_eq_true am
      obtain ⟨ad125, e125, hx125_0, hx125_1⟩ := at_T92 HR0.out x8_1 p125 q125
      cases e125
      replace hx125_0 := cz HB hx125_0
      replace hx125_1 := cz HB hx125_1
      replace p125 := eq_true p125
      replace q125 := eq_true q125
      go_wp2
      go_roundg k1
      case measure => have := HK1.out; omega
      case rel => exact ⟨(x7_1), (wrap64 (x8_1 + 1)), fa, H', ⟨by have := HK1.out; omega⟩, ⟨rpR HO_7.out⟩, ⟨bl⟩⟩
    ·rw [if_neg c7] at H
     exact absurd H (by simp)
   ·rw [if_neg c6] at H
    have c6b0 : decide (x8_1 < (l0.length : Int)) = false := decide_eq_false c6
    clear c6
    obtain rfl := Option.some.inj H
    go_wp2
    go_ret
    exact ⟨_, fe, rpR HO_7.out, bl⟩

/-! ### spec_Slice: function 26 -/
def spec_Slice.f (k : Nat) (l0 : List (S92)) (a1 : Int) (a2 : Int) : Option ((List (S92))) := (spec_PointsOk.f k l0).bind fun t131 => (if t131 = true then ((spec_l8Slice.f k l0 a1 a2).bind fun t132 => (some t132)) else (some (([] : List (S92)))))
theorem spec_Slice.mono : ∀ a0 a1 a2 k, LeO (spec_Slice.f k a0 a1 a2) (spec_Slice.f (k + 1) a0 a1 a2) := by
 intro a0 a1 a2 k
 unfold spec_Slice.f
 repeat' first
  | (with_reducible exact spec_PointsOk.mono _ _)
  | (with_reducible exact spec_l8Slice.mono _ _ _ _)
  | (with_reducible exact LeO.refl _)
  | (with_reducible exact LeO.none _)
  | (with_reducible refine LeO.ite ?_ ?_)
  | (with_reducible refine LeO.bind ?_ (fun _ => ?_))
  | exact spec_PointsOk.mono _ _
  | exact spec_l8Slice.mono _ _ _ _
  | exact LeO.none _
  | refine LeO.ite ?_ ?_
  | refine LeO.bind ?_ (fun _ => ?_)
set_option maxHeartbeats 8000000 in
set_option maxRecDepth 100000 in
theorem spec_Slice.calls (k : Nat) (A0 : Option Addr) (c0 : Nat) (l0 : List (S92)) (a1 : Int) (a2 : Int) (r : List (S92)) (w : World) (hr0 : Kd.C k92 w A0 l0.length l0) (hc0 : l0.length ≤ c0) (h : spec_Slice.f k l0 a1 a2 = some r) :
 Calls Try.prog 26 #[.slice A0 l0.length c0, .int .i64 a1, .int .i64 a2] w fun e w' => ∃ v0_ : Value, e = .returned (v0_) ∧ Kd.R k92 92 w' w.heap.size (fun _ => True) v0_ r ∧ Below w.heap.size w w' := by
 have HR0 := Aside0.mk hr0
 have HC0 := Aside0.mk hc0
 clear hr0 hc0
 have HB := Aside0.mk (Below.refl w.heap.size w)
 have H : ((spec_PointsOk.f k l0).bind fun t131 => (if t131 = true then ((spec_l8Slice.f k l0 a1 a2).bind fun t132 => (some t132)) else (some (([] : List (S92)))))) = some r := h
 clear h
 obtain ⟨t131, A4, H⟩ := bd H
 by_cases c5 : t131 = true
 ·subst c5
  replace H := iT H
  obtain ⟨t132, A6, H⟩ := bd H
  obtain rfl := Option.some.inj H
  go_enter Try.func26, Try.ntmps26
  go_wp2_with (first | ((with_reducible refine gC 16 rfl ?_); refine goesZ (some 8) rfl Try.func16 #[.slice A0 l0.length c0] ?_; (with_reducible refine (spec_PointsOk.calls k _ _ l0 true _ ?side1 ?side2 A4.out).mono ?_); (case side1 => exact ca HR0.out); (case side2 => exact HC0.out); rintro e w7 ⟨rfl, hb⟩; refine ⟨_, rfl, ?_⟩; replace HB := bs (w := w) hb; (try clear hb)) | ((with_reducible refine gC 85 rfl ?_); refine goesZ (some 14) rfl Try.func85 #[.slice A0 l0.length c0, .int .i64 a1, .int .i64 a2] ?_; (with_reducible refine (spec_l8Slice.calls k _ _ l0 a1 a2 t132 _ ?side1 ?side2 A6.out).mono ?_); (case side1 => exact ca (Kd.C_below HR0.out HB.out)); (case side2 => exact HC0.out); rintro e w8 ⟨v133, rfl, ho0, hb⟩; refine ⟨_, rfl, ?_⟩; have HO134 := Aside0.mk (Kd.R_lower ho0 (below_size bl)); replace HB := bs (w := w) hb; (try clear hb ho0)))
  go_ret
  exact ⟨_, fe, rpR HO134.out, bl⟩
 ·replace c5 := Bool.eq_false_iff.mpr c5
  subst c5
  replace H := iF H
  obtain ⟨y135, hy135⟩ : ∃ y_ : List (S92), y_ = (([] : List (S92))) := ⟨_, rfl⟩
  replace H : (some y135) = some r := by first | (rw [hy135]; with_reducible exact H) | (have H2_ := (Option.bind_some _ _).symm.trans H; rw [hy135]; with_reducible exact H2_) | (have H2_ := (Option.bind_some _ _).symm.trans H; with_reducible exact H2_) | with_reducible exact H | (rw [hy135]; exact H) | exact H
  have Ny135 := Aside0.mk hy135
  clear hy135
  obtain rfl := Option.some.inj H
  go_enter Try.func26, Try.ntmps26
  go_wp2_with (first | ((with_reducible refine gC 16 rfl ?_); refine goesZ (some 8) rfl Try.func16 #[.slice A0 l0.length c0] ?_; (with_reducible refine (spec_PointsOk.calls k _ _ l0 false _ ?side1 ?side2 A4.out).mono ?_); (case side1 => exact ca HR0.out); (case side2 => exact HC0.out); rintro e w9 ⟨rfl, hb⟩; refine ⟨_, rfl, ?_⟩; replace HB := bs (w := w) hb; (try clear hb)) | ((with_reducible refine gD 10 rfl ?_); refine Kd.R_lit k92 _ 92 ?hg (N := 10) ?hd (xs := ([] : List (S92))) (inner := []) (ok := fun _ => True) (okp := fun _ => True) ?hr ?hp (fun _ hk => hk) trivial (Below.refl _ _) (Nat.le_refl _) (by simp) ?_; (case hd => rfl); (case hg => rfl); (case hr => first | (go_simp; done) | (go_simp; rfl)); (case hp => exact (Reps.none _ _)); intro v136 w10 ho11 hb hg_ hnew_; clear hg_ hnew_; (first | rw [← Ny135.out] at ho11 | (simp only [Int.reduceToNat] at ho11; rw [← Ny135.out] at ho11)); have HO137 := Aside0.mk (Kd.R_lower ho11 (below_size bl)); replace HB := bs (w := w) hb; clear hb ho11))
  go_ret
  exact ⟨_, fe, rpR HO137.out, bl⟩

/-! ### impl_from: function 78 -/
def impl_from.f (a0 : Int) (a1 : Int) (a2 : Int) : Option (Bool) := if a0 ≥ a1 then (some (decide (a0 ≤ a2))) else (some false)
set_option maxHeartbeats 8000000 in
set_option maxRecDepth 100000 in
theorem impl_from.calls (a0 : Int) (a1 : Int) (a2 : Int) (r : Bool) (w : World) (h : impl_from.f a0 a1 a2 = some r) :
 Calls Try.prog 78 #[.int .i64 a0, .int .i64 a1, .int .i64 a2] w fun e w' => e = .returned (.bool r) ∧ Drawn0 w w' := by
 have H : (if a0 ≥ a1 then (some (decide (a0 ≤ a2))) else (some false)) = some r := h
 clear h
 by_cases c4 : a0 ≥ a1
 ·rw [if_pos c4] at H
  have c4b0 : decide (a1 ≤ a0) = true := decide_eq_true c4
  clear c4
  obtain rfl := Option.some.inj H
  go_enter Try.func78, Try.ntmps78
  go_wp2
  go_ret
  exact ⟨fa, fd⟩
 ·rw [if_neg c4] at H
  have c4b0 : decide (a1 ≤ a0) = false := decide_eq_false c4
  clear c4
  obtain rfl := Option.some.inj H
  go_enter Try.func78, Try.ntmps78
  go_wp2
  go_ret
  exact ⟨fa, fd⟩

/-! ### impl_PointsOk: function 18 -/
def impl_PointsOk.l0 : Nat → List (S92) → List (S92) → Int → Int → Option (Bool)
 | 0, _, _, _, _ => none
 | k + 1, x0, x5, x6, x7 => if x7 < x6 then (if 0 ≤ x7 then (if x7 < (x5.length : Int) then ((impl_from.f ((rd_T92 x5 x7).f0) 0 1099511627776).bind fun t140 => (if t140 = true then ((impl_from.f ((rd_T92 x5 x7).f1) (-1099511627776) 1099511627776).bind fun t141 => (if t141 = true then (if x7 > 0 then (if 0 ≤ (wrap64 (x7 - 1)) then (if (wrap64 (x7 - 1)) < (x0.length : Int) then (if ((rd_T92 x0 (wrap64 (x7 - 1))).f0) ≥ ((rd_T92 x5 x7).f0) then (some false) else (impl_PointsOk.l0 k x0 x5 x6 (wrap64 (x7 + 1)))) else (none)) else (none)) else (impl_PointsOk.l0 k x0 x5 x6 (wrap64 (x7 + 1)))) else (some false))) else (some false))) else (none)) else (none)) else (some (decide ((x0.length : Int) ≤ 60)))
def impl_PointsOk.f (k : Nat) (l0 : List (S92)) : Option (Bool) := impl_PointsOk.l0 k l0 l0 (l0.length : Int) 0
theorem impl_PointsOk.mono_l : ∀ k, (∀ y0 y1 y2 y3, LeO (impl_PointsOk.l0 k y0 y1 y2 y3) (impl_PointsOk.l0 (k + 1) y0 y1 y2 y3))
 | 0 => fun _ _ _ _ r h => by simp [impl_PointsOk.l0] at h
 | k + 1 => by
  have ih0 := impl_PointsOk.mono_l k
  ·intro y0 y1 y2 y3
   unfold impl_PointsOk.l0
   repeat' first
   | (with_reducible exact ih0 _ _ _ _)
   | (with_reducible exact LeO.refl _)
   | (with_reducible exact LeO.none _)
   | (with_reducible refine LeO.ite ?_ ?_)
   | (with_reducible refine LeO.bind ?_ (fun _ => ?_))
   | exact ih0 _ _ _ _
   | exact LeO.none _
   | refine LeO.ite ?_ ?_
   | refine LeO.bind ?_ (fun _ => ?_)
theorem impl_PointsOk.mono : ∀ a0 k, LeO (impl_PointsOk.f k a0) (impl_PointsOk.f (k + 1) a0) := by
 intro a0 k
 have ih0 := impl_PointsOk.mono_l k
 unfold impl_PointsOk.f
 repeat' first
  | (with_reducible exact ih0 _ _ _ _)
  | (with_reducible exact LeO.refl _)
  | (with_reducible exact LeO.none _)
  | (with_reducible refine LeO.ite ?_ ?_)
  | (with_reducible refine LeO.bind ?_ (fun _ => ?_))
  | exact ih0 _ _ _ _
  | exact LeO.none _
  | refine LeO.ite ?_ ?_
  | refine LeO.bind ?_ (fun _ => ?_)
set_option maxHeartbeats 8000000 in
set_option maxRecDepth 100000 in
theorem impl_PointsOk.calls (k : Nat) (A0 : Option Addr) (c0 : Nat) (l0 : List (S92)) (r : Bool) (w : World) (hr0 : Kd.C k92 w A0 l0.length l0) (hc0 : l0.length ≤ c0) (h : impl_PointsOk.f k l0 = some r) :
 Calls Try.prog 18 #[.slice A0 l0.length c0] w fun e w' => e = .returned (.bool r) ∧ Below w.heap.size w w' := by
 have hu92 := Try.underlying92
 have HR0 := Aside0.mk hr0
 have HC0 := Aside0.mk hc0
 clear hr0 hc0
 have HB := Aside0.mk (Below.refl w.heap.size w)
 have H : (impl_PointsOk.l0 k l0 l0 (l0.length : Int) 0) = some r := h
 clear h
 have H' := Aside0.mk H
 clear H
 go_enter Try.func18, Try.ntmps18
 go_wp2
 repeat (go_quiet (fail); try go_wp2)
 go_loopg [7] k (fun kq v7 w' => ∃ (x7_1 : Int), v7 = .int .i64 x7_1 ∧ Aside0 (impl_PointsOk.l0 kq l0 l0 (l0.length : Int) x7_1 = some r) ∧ Aside0 (kq ≤ k) ∧ Aside0 (Below w.heap.size w w'))
 case atStart => exact ⟨(0), fa, H', ⟨Nat.le_refl _⟩, ⟨bl⟩⟩
 case round =>
  clear H'
  try clear c1
  obtain ⟨x7_1, rfl, HA, HK1, HB⟩ := hrel
  cases gk with
  | zero => exact absurd HA.out (by simp [impl_PointsOk.l0])
  | succ k1 =>
   have H := HA.out
   clear HA
   simp only [impl_PointsOk.l0] at H
   by_cases c2 : x7_1 < (l0.length : Int)
   ·rw [if_pos c2] at H
    have c2b0 : decide (x7_1 < (l0.length : Int)) = true := decide_eq_true c2
    clear c2
    by_cases c3 : 0 ≤ x7_1
    ·rw [if_pos c3] at H
     have c3b0 : decide (0 ≤ x7_1) = true := decide_eq_true c3
     clear c3
     by_cases c4 : x7_1 < (l0.length : Int)
     ·rw [if_pos c4] at H
      have c4b0 : decide (x7_1 < (l0.length : Int)) = true := decide_eq_true c4
      clear c4
      obtain ⟨t140, A5, H⟩ := bd H
      by_cases c6 : t140 = true
      ·subst c6
       replace H := iT H
       obtain ⟨t141, A7, H⟩ := bd H
       by_cases c8 : t141 = true
       ·subst c8
        replace H := iT H
        by_cases c9 : x7_1 > 0
        ·rw [if_pos c9] at H
         have c9b0 : decide (0 < x7_1) = true := decide_eq_true c9
         clear c9
         obtain ⟨ji10, hji10⟩ : ∃ j_ : Int, (wrap64 (x7_1 - 1)) = j_ := ⟨_, rfl⟩
         replace H : (if 0 ≤ (ji10) then (if (ji10) < (l0.length : Int) then (if ((rd_T92 l0 (ji10)).f0) ≥ ((rd_T92 l0 x7_1).f0) then (some false) else (impl_PointsOk.l0 k1 l0 l0 (l0.length : Int) (wrap64 (x7_1 + 1)))) else (none)) else (none)) = some r := by first | (rw [hji10] at H; exact H) | (simp only [hji10] at H ⊢; exact H)
         (try rw [hji10] at A5)
         (try rw [hji10] at A7)
         have hji10w : (IntKind.i64.wrap (x7_1 - 1)) = ji10 := (i64_w _).trans hji10
         by_cases c11 : 0 ≤ (ji10)
         ·rw [if_pos c11] at H
          have c11b0 : decide (0 ≤ (ji10)) = true := decide_eq_true c11
          clear c11
          by_cases c12 : (ji10) < (l0.length : Int)
          ·rw [if_pos c12] at H
           have c12b0 : decide ((ji10) < (l0.length : Int)) = true := decide_eq_true c12
           clear c12
           by_cases c13 : ((rd_T92 l0 (ji10)).f0) ≥ ((rd_T92 l0 x7_1).f0)
           ·rw [if_pos c13] at H
            have c13b0 : decide (((rd_T92 l0 x7_1).f0) ≤ ((rd_T92 l0 (ji10)).f0)) = true := decide_eq_true c13
            clear c13
            obtain rfl := Option.some.inj H
            have p138 : 0 ≤ (x7_1 : Int) := of_decide_eq_true am
            have q138 : x7_1 < (l0.length : Int) := of_decide_eq_true am
            obtain ⟨ad138, e138, hx138_0, hx138_1⟩ := at_T92 HR0.out x7_1 p138 q138
            cases e138
            replace hx138_0 := cz HB hx138_0
            replace hx138_1 := cz HB hx138_1
            replace p138 := eq_true p138
            replace q138 := eq_true q138
            go_wp2_with (first | ((with_reducible refine gD 4 rfl ?_); refine boxZ 4 #[.int .i64 0, .int .i64 0] 92 ?_; intro gb139 hg w14 hbox hb; have BK139 := Aside0.mk hbox; have GW139 := gw (w := w) hg; have GE139 := gw (w := w) hg; replace HB := bs (w := w) hb; clear hb hbox hg; obtain ⟨Z15_0, Z15_1, Y15_0, Y15_1⟩ := cf2 BK139) | (go_at_call 78; (with_reducible refine (impl_from.calls ((rd_T92 l0 x7_1).f0) 0 1099511627776 true _ A5.out).mono ?_); rintro e w' ⟨rfl, ⟨nd, rfl⟩⟩; (try first | exact ⟨rfl, _, World.drewN_drewN _ _ _⟩ | exact ⟨rfl, _, Eq.trans (World.drewN_drewN _ _ _) (congrArg (World.drewN _) (Nat.add_assoc _ _ _))⟩)) | (go_at_call 78; (with_reducible refine (impl_from.calls ((rd_T92 l0 x7_1).f1) (-1099511627776) 1099511627776 true _ A7.out).mono ?_); rintro e w' ⟨rfl, ⟨nd, rfl⟩⟩; (try first | exact ⟨rfl, _, World.drewN_drewN _ _ _⟩ | exact ⟨rfl, _, Eq.trans (World.drewN_drewN _ _ _) (congrArg (World.drewN _) (Nat.add_assoc _ _ _))⟩); have p142 : 0 ≤ ((ji10) : Int) := of_decide_eq_true am; have q142 : (ji10) < (l0.length : Int) := of_decide_eq_true am; obtain ⟨ad142, e142, hx142_0, hx142_1⟩ := at_T92 HR0.out (ji10) p142 q142; obtain rfl : ad138 = ad142 := (by injection e142); have hn142_0 : ad138.block ≠ gb139 := Nat.ne_of_lt (Nat.lt_of_lt_of_le (by have := World.block_lt_of_cell? _ _ hx142_0; first | rwa [add_block] at this | exact this) GW139.out); have hn142_1 : ad138.block ≠ gb139 := Nat.ne_of_lt (Nat.lt_of_lt_of_le (by have := World.block_lt_of_cell? _ _ hx142_0; first | rwa [add_block] at this | exact this) GW139.out); replace hx142_0 := (HB.out.cell (World.block_lt_of_cell? w _ hx142_0)).trans hx142_0; replace hx142_1 := (HB.out.cell (World.block_lt_of_cell? w _ hx142_1)).trans hx142_1; replace hx142_0 := (cell_far (p := ⟨gb139, 0, none⟩) (by first | (rw [add_block]; exact hn142_0) | (show (Addr.add _ _).block ≠ _; rw [add_block]; exact hn142_0) | exact hn142_0) (.int .i64 ((rd_T92 l0 x7_1).f0))).trans hx142_0; replace hx142_1 := (cell_far (p := ⟨gb139, 0, none⟩) (by first | (rw [add_block]; exact hn142_0) | (show (Addr.add _ _).block ≠ _; rw [add_block]; exact hn142_0) | exact hn142_0) (.int .i64 ((rd_T92 l0 x7_1).f0))).trans hx142_1; replace hx142_0 := (cell_far (p := ⟨gb139, 1, none⟩) (by first | (rw [add_block]; exact hn142_1) | (show (Addr.add _ _).block ≠ _; rw [add_block]; exact hn142_1) | exact hn142_1) (.int .i64 ((rd_T92 l0 x7_1).f1))).trans hx142_0; replace hx142_1 := (cell_far (p := ⟨gb139, 1, none⟩) (by first | (rw [add_block]; exact hn142_1) | (show (Addr.add _ _).block ≠ _; rw [add_block]; exact hn142_1) | exact hn142_1) (.int .i64 ((rd_T92 l0 x7_1).f1))).trans hx142_1; (try have hy142_0 := fun (n_ : Nat) => (show ((((w14.drewN n_).setCell ⟨gb139, 0, none⟩ (.int .i64 ((rd_T92 l0 x7_1).f0))).setCell ⟨gb139, 1, none⟩ (.int .i64 ((rd_T92 l0 x7_1).f1)))).cell? _ = some _ from hx142_0)); (try have hy142_1 := fun (n_ : Nat) => (show ((((w14.drewN n_).setCell ⟨gb139, 0, none⟩ (.int .i64 ((rd_T92 l0 x7_1).f0))).setCell ⟨gb139, 1, none⟩ (.int .i64 ((rd_T92 l0 x7_1).f1)))).cell? _ = some _ from hx142_1)); clear hn142_0; clear hn142_1; replace p142 := eq_true p142; replace q142 := eq_true q142))
            repeat (go_quiet (first | ((with_reducible refine gD 4 rfl ?_); refine boxZ 4 #[.int .i64 0, .int .i64 0] 92 ?_; intro gb139 hg w14 hbox hb; have BK139 := Aside0.mk hbox; have GW139 := gw (w := w) hg; have GE139 := gw (w := w) hg; replace HB := bs (w := w) hb; clear hb hbox hg; obtain ⟨Z15_0, Z15_1, Y15_0, Y15_1⟩ := cf2 BK139) | (go_at_call 78; (with_reducible refine (impl_from.calls ((rd_T92 l0 x7_1).f0) 0 1099511627776 true _ A5.out).mono ?_); rintro e w' ⟨rfl, ⟨nd, rfl⟩⟩; (try first | exact ⟨rfl, _, World.drewN_drewN _ _ _⟩ | exact ⟨rfl, _, Eq.trans (World.drewN_drewN _ _ _) (congrArg (World.drewN _) (Nat.add_assoc _ _ _))⟩)) | (go_at_call 78; (with_reducible refine (impl_from.calls ((rd_T92 l0 x7_1).f1) (-1099511627776) 1099511627776 true _ A7.out).mono ?_); rintro e w' ⟨rfl, ⟨nd, rfl⟩⟩; (try first | exact ⟨rfl, _, World.drewN_drewN _ _ _⟩ | exact ⟨rfl, _, Eq.trans (World.drewN_drewN _ _ _) (congrArg (World.drewN _) (Nat.add_assoc _ _ _))⟩); have p142 : 0 ≤ ((ji10) : Int) := of_decide_eq_true am; have q142 : (ji10) < (l0.length : Int) := of_decide_eq_true am; obtain ⟨ad142, e142, hx142_0, hx142_1⟩ := at_T92 HR0.out (ji10) p142 q142; obtain rfl : ad138 = ad142 := (by injection e142); have hn142_0 : ad138.block ≠ gb139 := Nat.ne_of_lt (Nat.lt_of_lt_of_le (by have := World.block_lt_of_cell? _ _ hx142_0; first | rwa [add_block] at this | exact this) GW139.out); have hn142_1 : ad138.block ≠ gb139 := Nat.ne_of_lt (Nat.lt_of_lt_of_le (by have := World.block_lt_of_cell? _ _ hx142_0; first | rwa [add_block] at this | exact this) GW139.out); replace hx142_0 := (HB.out.cell (World.block_lt_of_cell? w _ hx142_0)).trans hx142_0; replace hx142_1 := (HB.out.cell (World.block_lt_of_cell? w _ hx142_1)).trans hx142_1; replace hx142_0 := (cell_far (p := ⟨gb139, 0, none⟩) (by first | (rw [add_block]; exact hn142_0) | (show (Addr.add _ _).block ≠ _; rw [add_block]; exact hn142_0) | exact hn142_0) (.int .i64 ((rd_T92 l0 x7_1).f0))).trans hx142_0; replace hx142_1 := (cell_far (p := ⟨gb139, 0, none⟩) (by first | (rw [add_block]; exact hn142_0) | (show (Addr.add _ _).block ≠ _; rw [add_block]; exact hn142_0) | exact hn142_0) (.int .i64 ((rd_T92 l0 x7_1).f0))).trans hx142_1; replace hx142_0 := (cell_far (p := ⟨gb139, 1, none⟩) (by first | (rw [add_block]; exact hn142_1) | (show (Addr.add _ _).block ≠ _; rw [add_block]; exact hn142_1) | exact hn142_1) (.int .i64 ((rd_T92 l0 x7_1).f1))).trans hx142_0; replace hx142_1 := (cell_far (p := ⟨gb139, 1, none⟩) (by first | (rw [add_block]; exact hn142_1) | (show (Addr.add _ _).block ≠ _; rw [add_block]; exact hn142_1) | exact hn142_1) (.int .i64 ((rd_T92 l0 x7_1).f1))).trans hx142_1; (try have hy142_0 := fun (n_ : Nat) => (show ((((w14.drewN n_).setCell ⟨gb139, 0, none⟩ (.int .i64 ((rd_T92 l0 x7_1).f0))).setCell ⟨gb139, 1, none⟩ (.int .i64 ((rd_T92 l0 x7_1).f1)))).cell? _ = some _ from hx142_0)); (try have hy142_1 := fun (n_ : Nat) => (show ((((w14.drewN n_).setCell ⟨gb139, 0, none⟩ (.int .i64 ((rd_T92 l0 x7_1).f0))).setCell ⟨gb139, 1, none⟩ (.int .i64 ((rd_T92 l0 x7_1).f1)))).cell? _ = some _ from hx142_1)); clear hn142_0; clear hn142_1; replace p142 := eq_true p142; replace q142 := eq_true q142)); try go_wp2_with (first | ((with_reducible refine gD 4 rfl ?_); refine boxZ 4 #[.int .i64 0, .int .i64 0] 92 ?_; intro gb139 hg w14 hbox hb; have BK139 := Aside0.mk hbox; have GW139 := gw (w := w) hg; have GE139 := gw (w := w) hg; replace HB := bs (w := w) hb; clear hb hbox hg; obtain ⟨Z15_0, Z15_1, Y15_0, Y15_1⟩ := cf2 BK139) | (go_at_call 78; (with_reducible refine (impl_from.calls ((rd_T92 l0 x7_1).f0) 0 1099511627776 true _ A5.out).mono ?_); rintro e w' ⟨rfl, ⟨nd, rfl⟩⟩; (try first | exact ⟨rfl, _, World.drewN_drewN _ _ _⟩ | exact ⟨rfl, _, Eq.trans (World.drewN_drewN _ _ _) (congrArg (World.drewN _) (Nat.add_assoc _ _ _))⟩)) | (go_at_call 78; (with_reducible refine (impl_from.calls ((rd_T92 l0 x7_1).f1) (-1099511627776) 1099511627776 true _ A7.out).mono ?_); rintro e w' ⟨rfl, ⟨nd, rfl⟩⟩; (try first | exact ⟨rfl, _, World.drewN_drewN _ _ _⟩ | exact ⟨rfl, _, Eq.trans (World.drewN_drewN _ _ _) (congrArg (World.drewN _) (Nat.add_assoc _ _ _))⟩); have p142 : 0 ≤ ((ji10) : Int) := of_decide_eq_true am; have q142 : (ji10) < (l0.length : Int) := of_decide_eq_true am; obtain ⟨ad142, e142, hx142_0, hx142_1⟩ := at_T92 HR0.out (ji10) p142 q142; obtain rfl : ad138 = ad142 := (by injection e142); have hn142_0 : ad138.block ≠ gb139 := Nat.ne_of_lt (Nat.lt_of_lt_of_le (by have := World.block_lt_of_cell? _ _ hx142_0; first | rwa [add_block] at this | exact this) GW139.out); have hn142_1 : ad138.block ≠ gb139 := Nat.ne_of_lt (Nat.lt_of_lt_of_le (by have := World.block_lt_of_cell? _ _ hx142_0; first | rwa [add_block] at this | exact this) GW139.out); replace hx142_0 := (HB.out.cell (World.block_lt_of_cell? w _ hx142_0)).trans hx142_0; replace hx142_1 := (HB.out.cell (World.block_lt_of_cell? w _ hx142_1)).trans hx142_1; replace hx142_0 := (cell_far (p := ⟨gb139, 0, none⟩) (by first | (rw [add_block]; exact hn142_0) | (show (Addr.add _ _).block ≠ _; rw [add_block]; exact hn142_0) | exact hn142_0) (.int .i64 ((rd_T92 l0 x7_1).f0))).trans hx142_0; replace hx142_1 := (cell_far (p := ⟨gb139, 0, none⟩) (by first | (rw [add_block]; exact hn142_0) | (show (Addr.add _ _).block ≠ _; rw [add_block]; exact hn142_0) | exact hn142_0) (.int .i64 ((rd_T92 l0 x7_1).f0))).trans hx142_1; replace hx142_0 := (cell_far (p := ⟨gb139, 1, none⟩) (by first | (rw [add_block]; exact hn142_1) | (show (Addr.add _ _).block ≠ _; rw [add_block]; exact hn142_1) | exact hn142_1) (.int .i64 ((rd_T92 l0 x7_1).f1))).trans hx142_0; replace hx142_1 := (cell_far (p := ⟨gb139, 1, none⟩) (by first | (rw [add_block]; exact hn142_1) | (show (Addr.add _ _).block ≠ _; rw [add_block]; exact hn142_1) | exact hn142_1) (.int .i64 ((rd_T92 l0 x7_1).f1))).trans hx142_1; (try have hy142_0 := fun (n_ : Nat) => (show ((((w14.drewN n_).setCell ⟨gb139, 0, none⟩ (.int .i64 ((rd_T92 l0 x7_1).f0))).setCell ⟨gb139, 1, none⟩ (.int .i64 ((rd_T92 l0 x7_1).f1)))).cell? _ = some _ from hx142_0)); (try have hy142_1 := fun (n_ : Nat) => (show ((((w14.drewN n_).setCell ⟨gb139, 0, none⟩ (.int .i64 ((rd_T92 l0 x7_1).f0))).setCell ⟨gb139, 1, none⟩ (.int .i64 ((rd_T92 l0 x7_1).f1)))).cell? _ = some _ from hx142_1)); clear hn142_0; clear hn142_1; replace p142 := eq_true p142; replace q142 := eq_true q142)))
            go_ret
            exact ⟨by first | rfl | (simp [errW_none, errW_some] <;> rfl) | (simp only [← hji10]; first | rfl | (simp [errW_none, errW_some] <;> rfl)) | (simp [*, errW_none, errW_some] <;> rfl), bl⟩
           ·rw [if_neg c13] at H
            have c13b0 : decide (((rd_T92 l0 x7_1).f0) ≤ ((rd_T92 l0 (ji10)).f0)) = false := decide_eq_false c13
            clear c13
            have H' := Aside0.mk H
            clear H
            have p138 : 0 ≤ (x7_1 : Int) := of_decide_eq_true am
            have q138 : x7_1 < (l0.length : Int) := of_decide_eq_true am
            obtain ⟨ad138, e138, hx138_0, hx138_1⟩ := at_T92 HR0.out x7_1 p138 q138
            cases e138
            replace hx138_0 := cz HB hx138_0
            replace hx138_1 := cz HB hx138_1
            replace p138 := eq_true p138
            replace q138 := eq_true q138
            go_wp2_with (first | ((with_reducible refine gD 4 rfl ?_); refine boxZ 4 #[.int .i64 0, .int .i64 0] 92 ?_; intro gb139 hg w16 hbox hb; have BK139 := Aside0.mk hbox; have GW139 := gw (w := w) hg; have GE139 := gw (w := w) hg; replace HB := bs (w := w) hb; clear hb hbox hg; obtain ⟨Z17_0, Z17_1, Y17_0, Y17_1⟩ := cf2 BK139) | (go_at_call 78; (with_reducible refine (impl_from.calls ((rd_T92 l0 x7_1).f0) 0 1099511627776 true _ A5.out).mono ?_); rintro e w' ⟨rfl, ⟨nd, rfl⟩⟩; (try first | exact ⟨rfl, _, World.drewN_drewN _ _ _⟩ | exact ⟨rfl, _, Eq.trans (World.drewN_drewN _ _ _) (congrArg (World.drewN _) (Nat.add_assoc _ _ _))⟩)) | (go_at_call 78; (with_reducible refine (impl_from.calls ((rd_T92 l0 x7_1).f1) (-1099511627776) 1099511627776 true _ A7.out).mono ?_); rintro e w' ⟨rfl, ⟨nd, rfl⟩⟩; (try first | exact ⟨rfl, _, World.drewN_drewN _ _ _⟩ | exact ⟨rfl, _, Eq.trans (World.drewN_drewN _ _ _) (congrArg (World.drewN _) (Nat.add_assoc _ _ _))⟩); have p142 : 0 ≤ ((ji10) : Int) := of_decide_eq_true am; have q142 : (ji10) < (l0.length : Int) := of_decide_eq_true am; obtain ⟨ad142, e142, hx142_0, hx142_1⟩ := at_T92 HR0.out (ji10) p142 q142; obtain rfl : ad138 = ad142 := (by injection e142); have hn142_0 : ad138.block ≠ gb139 := Nat.ne_of_lt (Nat.lt_of_lt_of_le (by have := World.block_lt_of_cell? _ _ hx142_0; first | rwa [add_block] at this | exact this) GW139.out); have hn142_1 : ad138.block ≠ gb139 := Nat.ne_of_lt (Nat.lt_of_lt_of_le (by have := World.block_lt_of_cell? _ _ hx142_0; first | rwa [add_block] at this | exact this) GW139.out); replace hx142_0 := (HB.out.cell (World.block_lt_of_cell? w _ hx142_0)).trans hx142_0; replace hx142_1 := (HB.out.cell (World.block_lt_of_cell? w _ hx142_1)).trans hx142_1; replace hx142_0 := (cell_far (p := ⟨gb139, 0, none⟩) (by first | (rw [add_block]; exact hn142_0) | (show (Addr.add _ _).block ≠ _; rw [add_block]; exact hn142_0) | exact hn142_0) (.int .i64 ((rd_T92 l0 x7_1).f0))).trans hx142_0; replace hx142_1 := (cell_far (p := ⟨gb139, 0, none⟩) (by first | (rw [add_block]; exact hn142_0) | (show (Addr.add _ _).block ≠ _; rw [add_block]; exact hn142_0) | exact hn142_0) (.int .i64 ((rd_T92 l0 x7_1).f0))).trans hx142_1; replace hx142_0 := (cell_far (p := ⟨gb139, 1, none⟩) (by first | (rw [add_block]; exact hn142_1) | (show (Addr.add _ _).block ≠ _; rw [add_block]; exact hn142_1) | exact hn142_1) (.int .i64 ((rd_T92 l0 x7_1).f1))).trans hx142_0; replace hx142_1 := (cell_far (p := ⟨gb139, 1, none⟩) (by first | (rw [add_block]; exact hn142_1) | (show (Addr.add _ _).block ≠ _; rw [add_block]; exact hn142_1) | exact hn142_1) (.int .i64 ((rd_T92 l0 x7_1).f1))).trans hx142_1; (try have hy142_0 := fun (n_ : Nat) => (show ((((w16.drewN n_).setCell ⟨gb139, 0, none⟩ (.int .i64 ((rd_T92 l0 x7_1).f0))).setCell ⟨gb139, 1, none⟩ (.int .i64 ((rd_T92 l0 x7_1).f1)))).cell? _ = some _ from hx142_0)); (try have hy142_1 := fun (n_ : Nat) => (show ((((w16.drewN n_).setCell ⟨gb139, 0, none⟩ (.int .i64 ((rd_T92 l0 x7_1).f0))).setCell ⟨gb139, 1, none⟩ (.int .i64 ((rd_T92 l0 x7_1).f1)))).cell? _ = some _ from hx142_1)); clear hn142_0; clear hn142_1; replace p142 := eq_true p142; replace q142 := eq_true q142))
            repeat (go_quiet (first | ((with_reducible refine gD 4 rfl ?_); refine boxZ 4 #[.int .i64 0, .int .i64 0] 92 ?_; intro gb139 hg w16 hbox hb; have BK139 := Aside0.mk hbox; have GW139 := gw (w := w) hg; have GE139 := gw (w := w) hg; replace HB := bs (w := w) hb; clear hb hbox hg; obtain ⟨Z17_0, Z17_1, Y17_0, Y17_1⟩ := cf2 BK139) | (go_at_call 78; (with_reducible refine (impl_from.calls ((rd_T92 l0 x7_1).f0) 0 1099511627776 true _ A5.out).mono ?_); rintro e w' ⟨rfl, ⟨nd, rfl⟩⟩; (try first | exact ⟨rfl, _, World.drewN_drewN _ _ _⟩ | exact ⟨rfl, _, Eq.trans (World.drewN_drewN _ _ _) (congrArg (World.drewN _) (Nat.add_assoc _ _ _))⟩)) | (go_at_call 78; (with_reducible refine (impl_from.calls ((rd_T92 l0 x7_1).f1) (-1099511627776) 1099511627776 true _ A7.out).mono ?_); rintro e w' ⟨rfl, ⟨nd, rfl⟩⟩; (try first | exact ⟨rfl, _, World.drewN_drewN _ _ _⟩ | exact ⟨rfl, _, Eq.trans (World.drewN_drewN _ _ _) (congrArg (World.drewN _) (Nat.add_assoc _ _ _))⟩); have p142 : 0 ≤ ((ji10) : Int) := of_decide_eq_true am; have q142 : (ji10) < (l0.length : Int) := of_decide_eq_true am; obtain ⟨ad142, e142, hx142_0, hx142_1⟩ := at_T92 HR0.out (ji10) p142 q142; obtain rfl : ad138 = ad142 := (by injection e142); have hn142_0 : ad138.block ≠ gb139 := Nat.ne_of_lt (Nat.lt_of_lt_of_le (by have := World.block_lt_of_cell? _ _ hx142_0; first | rwa [add_block] at this | exact this) GW139.out); have hn142_1 : ad138.block ≠ gb139 := Nat.ne_of_lt (Nat.lt_of_lt_of_le (by have := World.block_lt_of_cell? _ _ hx142_0; first | rwa [add_block] at this | exact this) GW139.out); replace hx142_0 := (HB.out.cell (World.block_lt_of_cell? w _ hx142_0)).trans hx142_0; replace hx142_1 := (HB.out.cell (World.block_lt_of_cell? w _ hx142_1)).trans hx142_1; replace hx142_0 := (cell_far (p := ⟨gb139, 0, none⟩) (by first | (rw [add_block]; exact hn142_0) | (show (Addr.add _ _).block ≠ _; rw [add_block]; exact hn142_0) | exact hn142_0) (.int .i64 ((rd_T92 l0 x7_1).f0))).trans hx142_0; replace hx142_1 := (cell_far (p := ⟨gb139, 0, none⟩) (by first | (rw [add_block]; exact hn142_0) | (show (Addr.add _ _).block ≠ _; rw [add_block]; exact hn142_0) | exact hn142_0) (.int .i64 ((rd_T92 l0 x7_1).f0))).trans hx142_1; replace hx142_0 := (cell_far (p := ⟨gb139, 1, none⟩) (by first | (rw [add_block]; exact hn142_1) | (show (Addr.add _ _).block ≠ _; rw [add_block]; exact hn142_1) | exact hn142_1) (.int .i64 ((rd_T92 l0 x7_1).f1))).trans hx142_0; replace hx142_1 := (cell_far (p := ⟨gb139, 1, none⟩) (by first | (rw [add_block]; exact hn142_1) | (show (Addr.add _ _).block ≠ _; rw [add_block]; exact hn142_1) | exact hn142_1) (.int .i64 ((rd_T92 l0 x7_1).f1))).trans hx142_1; (try have hy142_0 := fun (n_ : Nat) => (show ((((w16.drewN n_).setCell ⟨gb139, 0, none⟩ (.int .i64 ((rd_T92 l0 x7_1).f0))).setCell ⟨gb139, 1, none⟩ (.int .i64 ((rd_T92 l0 x7_1).f1)))).cell? _ = some _ from hx142_0)); (try have hy142_1 := fun (n_ : Nat) => (show ((((w16.drewN n_).setCell ⟨gb139, 0, none⟩ (.int .i64 ((rd_T92 l0 x7_1).f0))).setCell ⟨gb139, 1, none⟩ (.int .i64 ((rd_T92 l0 x7_1).f1)))).cell? _ = some _ from hx142_1)); clear hn142_0; clear hn142_1; replace p142 := eq_true p142; replace q142 := eq_true q142)); try go_wp2_with (first | ((with_reducible refine gD 4 rfl ?_); refine boxZ 4 #[.int .i64 0, .int .i64 0] 92 ?_; intro gb139 hg w16 hbox hb; have BK139 := Aside0.mk hbox; have GW139 := gw (w := w) hg; have GE139 := gw (w := w) hg; replace HB := bs (w := w) hb; clear hb hbox hg; obtain ⟨Z17_0, Z17_1, Y17_0, Y17_1⟩ := cf2 BK139) | (go_at_call 78; (with_reducible refine (impl_from.calls ((rd_T92 l0 x7_1).f0) 0 1099511627776 true _ A5.out).mono ?_); rintro e w' ⟨rfl, ⟨nd, rfl⟩⟩; (try first | exact ⟨rfl, _, World.drewN_drewN _ _ _⟩ | exact ⟨rfl, _, Eq.trans (World.drewN_drewN _ _ _) (congrArg (World.drewN _) (Nat.add_assoc _ _ _))⟩)) | (go_at_call 78; (with_reducible refine (impl_from.calls ((rd_T92 l0 x7_1).f1) (-1099511627776) 1099511627776 true _ A7.out).mono ?_); rintro e w' ⟨rfl, ⟨nd, rfl⟩⟩; (try first | exact ⟨rfl, _, World.drewN_drewN _ _ _⟩ | exact ⟨rfl, _, Eq.trans (World.drewN_drewN _ _ _) (congrArg (World.drewN _) (Nat.add_assoc _ _ _))⟩); have p142 : 0 ≤ ((ji10) : Int) := of_decide_eq_true am; have q142 : (ji10) < (l0.length : Int) := of_decide_eq_true am; obtain ⟨ad142, e142, hx142_0, hx142_1⟩ := at_T92 HR0.out (ji10) p142 q142; obtain rfl : ad138 = ad142 := (by injection e142); have hn142_0 : ad138.block ≠ gb139 := Nat.ne_of_lt (Nat.lt_of_lt_of_le (by have := World.block_lt_of_cell? _ _ hx142_0; first | rwa [add_block] at this | exact this) GW139.out); have hn142_1 : ad138.block ≠ gb139 := Nat.ne_of_lt (Nat.lt_of_lt_of_le (by have := World.block_lt_of_cell? _ _ hx142_0; first | rwa [add_block] at this | exact this) GW139.out); replace hx142_0 := (HB.out.cell (World.block_lt_of_cell? w _ hx142_0)).trans hx142_0; replace hx142_1 := (HB.out.cell (World.block_lt_of_cell? w _ hx142_1)).trans hx142_1; replace hx142_0 := (cell_far (p := ⟨gb139, 0, none⟩) (by first | (rw [add_block]; exact hn142_0) | (show (Addr.add _ _).block ≠ _; rw [add_block]; exact hn142_0) | exact hn142_0) (.int .i64 ((rd_T92 l0 x7_1).f0))).trans hx142_0; replace hx142_1 := (cell_far (p := ⟨gb139, 0, none⟩) (by first | (rw [add_block]; exact hn142_0) | (show (Addr.add _ _).block ≠ _; rw [add_block]; exact hn142_0) | exact hn142_0) (.int .i64 ((rd_T92 l0 x7_1).f0))).trans hx142_1; replace hx142_0 := (cell_far (p := ⟨gb139, 1, none⟩) (by first | (rw [add_block]; exact hn142_1) | (show (Addr.add _ _).block ≠ _; rw [add_block]; exact hn142_1) | exact hn142_1) (.int .i64 ((rd_T92 l0 x7_1).f1))).trans hx142_0; replace hx142_1 := (cell_far (p := ⟨gb139, 1, none⟩) (by first | (rw [add_block]; exact hn142_1) | (show (Addr.add _ _).block ≠ _; rw [add_block]; exact hn142_1) | exact hn142_1) (.int .i64 ((rd_T92 l0 x7_1).f1))).trans hx142_1; (try have hy142_0 := fun (n_ : Nat) => (show ((((w16.drewN n_).setCell ⟨gb139, 0, none⟩ (.int .i64 ((rd_T92 l0 x7_1).f0))).setCell ⟨gb139, 1, none⟩ (.int .i64 ((rd_T92 l0 x7_1).f1)))).cell? _ = some _ from hx142_0)); (try have hy142_1 := fun (n_ : Nat) => (show ((((w16.drewN n_).setCell ⟨gb139, 0, none⟩ (.int .i64 ((rd_T92 l0 x7_1).f0))).setCell ⟨gb139, 1, none⟩ (.int .i64 ((rd_T92 l0 x7_1).f1)))).cell? _ = some _ from hx142_1)); clear hn142_0; clear hn142_1; replace p142 := eq_true p142; replace q142 := eq_true q142)))
            go_roundg k1
            case measure => have := HK1.out; omega
            case rel => exact ⟨(wrap64 (x7_1 + 1)), fa, H', ⟨by have := HK1.out; omega⟩, ⟨bl⟩⟩
          ·rw [if_neg c12] at H
           exact absurd H (by simp)
         ·rw [if_neg c11] at H
          exact absurd H (by simp)
        ·rw [if_neg c9] at H
         have c9b0 : decide (0 < x7_1) = false := decide_eq_false c9
         clear c9
         have H' := Aside0.mk H
         clear H
         have p138 : 0 ≤ (x7_1 : Int) := of_decide_eq_true am
         have q138 : x7_1 < (l0.length : Int) := of_decide_eq_true am
         obtain ⟨ad138, e138, hx138_0, hx138_1⟩ := at_T92 HR0.out x7_1 p138 q138
         cases e138
         replace hx138_0 := cz HB hx138_0
         replace hx138_1 := cz HB hx138_1
         replace p138 := eq_true p138
         replace q138 := eq_true q138
         go_wp2_with (first | ((with_reducible refine gD 4 rfl ?_); refine boxZ 4 #[.int .i64 0, .int .i64 0] 92 ?_; intro gb139 hg w18 hbox hb; have BK139 := Aside0.mk hbox; have GW139 := gw (w := w) hg; have GE139 := gw (w := w) hg; replace HB := bs (w := w) hb; clear hb hbox hg; obtain ⟨Z19_0, Z19_1, Y19_0, Y19_1⟩ := cf2 BK139) | (go_at_call 78; (with_reducible refine (impl_from.calls ((rd_T92 l0 x7_1).f0) 0 1099511627776 true _ A5.out).mono ?_); rintro e w' ⟨rfl, ⟨nd, rfl⟩⟩; (try first | exact ⟨rfl, _, World.drewN_drewN _ _ _⟩ | exact ⟨rfl, _, Eq.trans (World.drewN_drewN _ _ _) (congrArg (World.drewN _) (Nat.add_assoc _ _ _))⟩)) | (go_at_call 78; (with_reducible refine (impl_from.calls ((rd_T92 l0 x7_1).f1) (-1099511627776) 1099511627776 true _ A7.out).mono ?_); rintro e w' ⟨rfl, ⟨nd, rfl⟩⟩; (try first | exact ⟨rfl, _, World.drewN_drewN _ _ _⟩ | exact ⟨rfl, _, Eq.trans (World.drewN_drewN _ _ _) (congrArg (World.drewN _) (Nat.add_assoc _ _ _))⟩)))
         repeat (go_quiet (first | ((with_reducible refine gD 4 rfl ?_); refine boxZ 4 #[.int .i64 0, .int .i64 0] 92 ?_; intro gb139 hg w18 hbox hb; have BK139 := Aside0.mk hbox; have GW139 := gw (w := w) hg; have GE139 := gw (w := w) hg; replace HB := bs (w := w) hb; clear hb hbox hg; obtain ⟨Z19_0, Z19_1, Y19_0, Y19_1⟩ := cf2 BK139) | (go_at_call 78; (with_reducible refine (impl_from.calls ((rd_T92 l0 x7_1).f0) 0 1099511627776 true _ A5.out).mono ?_); rintro e w' ⟨rfl, ⟨nd, rfl⟩⟩; (try first | exact ⟨rfl, _, World.drewN_drewN _ _ _⟩ | exact ⟨rfl, _, Eq.trans (World.drewN_drewN _ _ _) (congrArg (World.drewN _) (Nat.add_assoc _ _ _))⟩)) | (go_at_call 78; (with_reducible refine (impl_from.calls ((rd_T92 l0 x7_1).f1) (-1099511627776) 1099511627776 true _ A7.out).mono ?_); rintro e w' ⟨rfl, ⟨nd, rfl⟩⟩; (try first | exact ⟨rfl, _, World.drewN_drewN _ _ _⟩ | exact ⟨rfl, _, Eq.trans (World.drewN_drewN _ _ _) (congrArg (World.drewN _) (Nat.add_assoc _ _ _))⟩))); try go_wp2_with (first | ((with_reducible refine gD 4 rfl ?_); refine boxZ 4 #[.int .i64 0, .int .i64 0] 92 ?_; intro gb139 hg w18 hbox hb; have BK139 := Aside0.mk hbox; have GW139 := gw (w := w) hg; have GE139 := gw (w := w) hg; replace HB := bs (w := w) hb; clear hb hbox hg; obtain ⟨Z19_0, Z19_1, Y19_0, Y19_1⟩ := cf2 BK139) | (go_at_call 78; (with_reducible refine (impl_from.calls ((rd_T92 l0 x7_1).f0) 0 1099511627776 true _ A5.out).mono ?_); rintro e w' ⟨rfl, ⟨nd, rfl⟩⟩; (try first | exact ⟨rfl, _, World.drewN_drewN _ _ _⟩ | exact ⟨rfl, _, Eq.trans (World.drewN_drewN _ _ _) (congrArg (World.drewN _) (Nat.add_assoc _ _ _))⟩)) | (go_at_call 78; (with_reducible refine (impl_from.calls ((rd_T92 l0 x7_1).f1) (-1099511627776) 1099511627776 true _ A7.out).mono ?_); rintro e w' ⟨rfl, ⟨nd, rfl⟩⟩; (try first | exact ⟨rfl, _, World.drewN_drewN _ _ _⟩ | exact ⟨rfl, _, Eq.trans (World.drewN_drewN _ _ _) (congrArg (World.drewN _) (Nat.add_assoc _ _ _))⟩))))
         go_roundg k1
         case measure => have := HK1.out; omega
         case rel => exact ⟨(wrap64 (x7_1 + 1)), fa, H', ⟨by have := HK1.out; omega⟩, ⟨bl⟩⟩
       ·replace c8 := Bool.eq_false_iff.mpr c8
        subst c8
        replace H := iF H
        obtain rfl := Option.some.inj H
        have p138 : 0 ≤ (x7_1 : Int) := of_decide_eq_true am
        have q138 : x7_1 < (l0.length : Int) := of_decide_eq_true am
        obtain ⟨ad138, e138, hx138_0, hx138_1⟩ := at_T92 HR0.out x7_1 p138 q138
        cases e138
        replace hx138_0 := cz HB hx138_0
        replace hx138_1 := cz HB hx138_1
        replace p138 := eq_true p138
        replace q138 := eq_true q138
        go_wp2_with (first | ((with_reducible refine gD 4 rfl ?_); refine boxZ 4 #[.int .i64 0, .int .i64 0] 92 ?_; intro gb139 hg w20 hbox hb; have BK139 := Aside0.mk hbox; have GW139 := gw (w := w) hg; have GE139 := gw (w := w) hg; replace HB := bs (w := w) hb; clear hb hbox hg; obtain ⟨Z21_0, Z21_1, Y21_0, Y21_1⟩ := cf2 BK139) | (go_at_call 78; (with_reducible refine (impl_from.calls ((rd_T92 l0 x7_1).f0) 0 1099511627776 true _ A5.out).mono ?_); rintro e w' ⟨rfl, ⟨nd, rfl⟩⟩; (try first | exact ⟨rfl, _, World.drewN_drewN _ _ _⟩ | exact ⟨rfl, _, Eq.trans (World.drewN_drewN _ _ _) (congrArg (World.drewN _) (Nat.add_assoc _ _ _))⟩)) | (go_at_call 78; (with_reducible refine (impl_from.calls ((rd_T92 l0 x7_1).f1) (-1099511627776) 1099511627776 false _ A7.out).mono ?_); rintro e w' ⟨rfl, ⟨nd, rfl⟩⟩; (try first | exact ⟨rfl, _, World.drewN_drewN _ _ _⟩ | exact ⟨rfl, _, Eq.trans (World.drewN_drewN _ _ _) (congrArg (World.drewN _) (Nat.add_assoc _ _ _))⟩)))
        repeat (go_quiet (first | ((with_reducible refine gD 4 rfl ?_); refine boxZ 4 #[.int .i64 0, .int .i64 0] 92 ?_; intro gb139 hg w20 hbox hb; have BK139 := Aside0.mk hbox; have GW139 := gw (w := w) hg; have GE139 := gw (w := w) hg; replace HB := bs (w := w) hb; clear hb hbox hg; obtain ⟨Z21_0, Z21_1, Y21_0, Y21_1⟩ := cf2 BK139) | (go_at_call 78; (with_reducible refine (impl_from.calls ((rd_T92 l0 x7_1).f0) 0 1099511627776 true _ A5.out).mono ?_); rintro e w' ⟨rfl, ⟨nd, rfl⟩⟩; (try first | exact ⟨rfl, _, World.drewN_drewN _ _ _⟩ | exact ⟨rfl, _, Eq.trans (World.drewN_drewN _ _ _) (congrArg (World.drewN _) (Nat.add_assoc _ _ _))⟩)) | (go_at_call 78; (with_reducible refine (impl_from.calls ((rd_T92 l0 x7_1).f1) (-1099511627776) 1099511627776 false _ A7.out).mono ?_); rintro e w' ⟨rfl, ⟨nd, rfl⟩⟩; (try first | exact ⟨rfl, _, World.drewN_drewN _ _ _⟩ | exact ⟨rfl, _, Eq.trans (World.drewN_drewN _ _ _) (congrArg (World.drewN _) (Nat.add_assoc _ _ _))⟩))); try go_wp2_with (first | ((with_reducible refine gD 4 rfl ?_); refine boxZ 4 #[.int .i64 0, .int .i64 0] 92 ?_; intro gb139 hg w20 hbox hb; have BK139 := Aside0.mk hbox; have GW139 := gw (w := w) hg; have GE139 := gw (w := w) hg; replace HB := bs (w := w) hb; clear hb hbox hg; obtain ⟨Z21_0, Z21_1, Y21_0, Y21_1⟩ := cf2 BK139) | (go_at_call 78; (with_reducible refine (impl_from.calls ((rd_T92 l0 x7_1).f0) 0 1099511627776 true _ A5.out).mono ?_); rintro e w' ⟨rfl, ⟨nd, rfl⟩⟩; (try first | exact ⟨rfl, _, World.drewN_drewN _ _ _⟩ | exact ⟨rfl, _, Eq.trans (World.drewN_drewN _ _ _) (congrArg (World.drewN _) (Nat.add_assoc _ _ _))⟩)) | (go_at_call 78; (with_reducible refine (impl_from.calls ((rd_T92 l0 x7_1).f1) (-1099511627776) 1099511627776 false _ A7.out).mono ?_); rintro e w' ⟨rfl, ⟨nd, rfl⟩⟩; (try first | exact ⟨rfl, _, World.drewN_drewN _ _ _⟩ | exact ⟨rfl, _, Eq.trans (World.drewN_drewN _ _ _) (congrArg (World.drewN _) (Nat.add_assoc _ _ _))⟩))))
        go_ret
        exact ⟨fe, bl⟩
      ·replace c6 := Bool.eq_false_iff.mpr c6
       subst c6
       replace H := iF H
       obtain rfl := Option.some.inj H
       have p138 : 0 ≤ (x7_1 : Int) := of_decide_eq_true am
       have q138 : x7_1 < (l0.length : Int) := of_decide_eq_true am
       obtain ⟨ad138, e138, hx138_0, hx138_1⟩ := at_T92 HR0.out x7_1 p138 q138
       cases e138
       replace hx138_0 := cz HB hx138_0
       replace hx138_1 := cz HB hx138_1
       replace p138 := eq_true p138
       replace q138 := eq_true q138
       go_wp2_with (first | ((with_reducible refine gD 4 rfl ?_); refine boxZ 4 #[.int .i64 0, .int .i64 0] 92 ?_; intro gb139 hg w22 hbox hb; have BK139 := Aside0.mk hbox; have GW139 := gw (w := w) hg; have GE139 := gw (w := w) hg; replace HB := bs (w := w) hb; clear hb hbox hg; obtain ⟨Z23_0, Z23_1, Y23_0, Y23_1⟩ := cf2 BK139) | (go_at_call 78; (with_reducible refine (impl_from.calls ((rd_T92 l0 x7_1).f0) 0 1099511627776 false _ A5.out).mono ?_); rintro e w' ⟨rfl, ⟨nd, rfl⟩⟩; (try first | exact ⟨rfl, _, World.drewN_drewN _ _ _⟩ | exact ⟨rfl, _, Eq.trans (World.drewN_drewN _ _ _) (congrArg (World.drewN _) (Nat.add_assoc _ _ _))⟩)))
       repeat (go_quiet (first | ((with_reducible refine gD 4 rfl ?_); refine boxZ 4 #[.int .i64 0, .int .i64 0] 92 ?_; intro gb139 hg w22 hbox hb; have BK139 := Aside0.mk hbox; have GW139 := gw (w := w) hg; have GE139 := gw (w := w) hg; replace HB := bs (w := w) hb; clear hb hbox hg; obtain ⟨Z23_0, Z23_1, Y23_0, Y23_1⟩ := cf2 BK139) | (go_at_call 78; (with_reducible refine (impl_from.calls ((rd_T92 l0 x7_1).f0) 0 1099511627776 false _ A5.out).mono ?_); rintro e w' ⟨rfl, ⟨nd, rfl⟩⟩; (try first | exact ⟨rfl, _, World.drewN_drewN _ _ _⟩ | exact ⟨rfl, _, Eq.trans (World.drewN_drewN _ _ _) (congrArg (World.drewN _) (Nat.add_assoc _ _ _))⟩))); try go_wp2_with (first | ((with_reducible refine gD 4 rfl ?_); refine boxZ 4 #[.int .i64 0, .int .i64 0] 92 ?_; intro gb139 hg w22 hbox hb; have BK139 := Aside0.mk hbox; have GW139 := gw (w := w) hg; have GE139 := gw (w := w) hg; replace HB := bs (w := w) hb; clear hb hbox hg; obtain ⟨Z23_0, Z23_1, Y23_0, Y23_1⟩ := cf2 BK139) | (go_at_call 78; (with_reducible refine (impl_from.calls ((rd_T92 l0 x7_1).f0) 0 1099511627776 false _ A5.out).mono ?_); rintro e w' ⟨rfl, ⟨nd, rfl⟩⟩; (try first | exact ⟨rfl, _, World.drewN_drewN _ _ _⟩ | exact ⟨rfl, _, Eq.trans (World.drewN_drewN _ _ _) (congrArg (World.drewN _) (Nat.add_assoc _ _ _))⟩))))
       go_ret
       exact ⟨fe, bl⟩
     ·rw [if_neg c4] at H
      exact absurd H (by simp)
    ·rw [if_neg c3] at H
     exact absurd H (by simp)
   ·rw [if_neg c2] at H
    have c2b0 : decide (x7_1 < (l0.length : Int)) = false := decide_eq_false c2
    clear c2
    obtain rfl := Option.some.inj H
    go_wp2
    repeat (go_quiet (fail); try go_wp2)
    go_ret
    exact ⟨fe, bl⟩

-- NOT PRINTED: function 145 (impl_Point_145)

-- NOT PRINTED: function 124 (impl_Point_124)

/-! ### impl_Point_125: function 125 -/
def impl_Point_125.f (l0 : List (S92)) : Option ((List (S92))) := if l0.length < 8796093022208 then some l0 else none
set_option maxHeartbeats 8000000 in
set_option maxRecDepth 100000 in
theorem impl_Point_125.calls (A0 : Option Addr) (c0 : Nat) (l0 : List (S92)) (r : List (S92)) (w : World) (hr0 : Kd.C k92 w A0 l0.length l0) (hc0 : l0.length ≤ c0) (h : impl_Point_125.f l0 = some r) :
 Calls Try.prog 125 #[.slice A0 l0.length c0] w fun e w' => ∃ v0_ : Value, e = .returned (v0_) ∧ Kd.R k92 92 w' w.heap.size (fun _ => True) v0_ r ∧ Below w.heap.size w w' := by
 have c1 : l0.length < 8796093022208 := by
  by_cases c : l0.length < 8796093022208
  ·exact c
  ·simp [impl_Point_125.f, c] at h
 obtain rfl : l0 = r := by simpa [impl_Point_125.f, c1] using h
 have LMc := Aside0.mk c1
 clear c1 h
 have HB := Aside0.mk (Below.refl w.heap.size w)
 cases A0 with
 | none =>
  have hl : l0 = [] := by
   rcases Nat.eq_zero_or_pos l0.length with g | g
   ·exact List.length_eq_zero_iff.1 g
   ·obtain ⟨ad, e, _⟩ := hr0.2.2 g; cases e
  subst hl
  clear hr0 hc0
  have hq := fun (w : World) (n c : Nat) => Lib.run_eql_slice_nil (P := Try.prog) w 25 92 none n c 0 0 Try.underlying25
  simp only [Option.isNone_none] at hq
  go_enter Try.func125, Try.ntmps125
  go_wp2
  go_ret
  exact ⟨_, rfl, Kd.R_nil _ _ _ _ _, bl⟩
 | some ad =>
  have HR0 := Aside0.mk hr0
  clear hr0 hc0
  have hq := fun (w : World) (n c : Nat) => Lib.run_eql_slice_nil (P := Try.prog) w 25 92 (some ad) n c 0 0 Try.underlying25
  simp only [Option.isNone_some] at hq
  go_enter Try.func125, Try.ntmps125
  go_wp2_with (first | ((with_reducible refine gD 5 rfl ?_); refine Kd.R_lit k92 _ 92 ?hg (N := 5) ?hd (xs := ([] : List (S92))) (inner := []) (ok := fun _ => True) (okp := fun _ => True) ?hr ?hp (fun _ hk => hk) trivial (Below.refl _ _) (Nat.le_refl _) (by simp) ?_; (case hd => rfl); (case hg => rfl); (case hr => first | (go_simp; done) | (go_simp; rfl)); (case hp => exact (Reps.none _ _)); intro v1 w1 ho hb hg_ hnew_; clear hg_ hnew_; have HO := Aside0.mk (Kd.R_lower ho (below_size bl)); replace HB := bs (w := w) hb; clear hb ho) | ((with_reducible refine gate_builtin (b := .append) (xs := #[.tmp 5, .tmp 6]) rfl ?_); at_builtin; refine Kd.R_append_rows k92 (w0 := w) w.heap.size rfl (.tmp 5) (.tmp 6) 25 92 (.agg #[(.int .i64 0), (.int .i64 0)]) 16 rfl Try.underlying25 info92 rfl (by decide) (by omega) v1 [] l0 _ _ _ (fun _ => True) (fun _ => False) rfl rfl ?aO ?aR (fun _ _ h => h) (fun _ h => h.elim) ?aF ?aB ?aS ?aL ?_; (case aR => exact (Kd.C_below HR0.out bl)); (case aB => exact bl); (case aF => exact (fun _ _ => trivial)); (case aO => exact HO.out); (case aS => exact (below_size bl)); (case aL => have := LMc.out; simp; omega); intro v2 w2 ho hb hg hat; clear HO HB hg hat; have HO := Aside0.mk ho; have HB := Aside0.mk hb; clear ho hb; obtain ⟨Ao, co, eo⟩ := Kd.R_slice HO.out; subst eo))
  go_ret
  exact ⟨_, rfl, HO.out, bl⟩

def outP (a b : Int) (x : S92) : Bool := decide (x.f0 < a) || decide (x.f0 ≥ b)
set_option maxRecDepth 100000 in
theorem sliced_1 (x0 : Int) (x1 : Int) (a b : Int) (g h : Nat) (w : World) (hb : w.heap[g]? = some (.cells #[.int .i64 a] 3 (0, 0))) (hb2 : w.heap[h]? = some (.cells #[.int .i64 b] 3 (0, 0))) :
 Calls Try.prog 126 #[.agg #[.int .i64 x0, .int .i64 x1], .pointer (some ⟨g, 0, none⟩), .pointer (some ⟨h, 0, none⟩)] w fun e w' => e = .returned (.bool (outP a b ⟨x0, x1⟩)) ∧ Below w.heap.size w w' := by
 have hu92 := Try.underlying92
 have BK1 := Aside0.mk hb
 have BK3 := Aside0.mk hb2
 have HB := Aside0.mk (Below.refl w.heap.size w)
 clear hb hb2
 by_cases c : x0 < a
 · have cb : decide (x0 < a) = true := decide_eq_true c
   clear c
   go_enter Try.func126, Try.ntmps126
   go_wp2_with (first | ((with_reducible refine gD 3 rfl ?_); refine boxZ 3 #[.int .i64 x0, .int .i64 x1] 92 ?_; intro gb hg w1 hbox hb; replace BK1 := bv BK1 hb; replace BK3 := bv BK3 hb; have BK2 := Aside0.mk hbox; have GE2 := gw (w := w) hg; replace HB := bs (w := w) hb; clear hb hbox hg; obtain ⟨hc0, hf0⟩ := cf1 BK1; obtain ⟨hc1, hf1⟩ := cf1 BK3; obtain ⟨hd0, hd1, he0, he1⟩ := cf2 BK2))
   go_ret
   exact ⟨by simp [outP, cb], bl⟩
 · have cb : decide (x0 < a) = false := decide_eq_false c
   clear c
   go_enter Try.func126, Try.ntmps126
   go_wp2_with (first | ((with_reducible refine gD 3 rfl ?_); refine boxZ 3 #[.int .i64 x0, .int .i64 x1] 92 ?_; intro gb hg w1 hbox hb; replace BK1 := bv BK1 hb; replace BK3 := bv BK3 hb; have BK2 := Aside0.mk hbox; have GE2 := gw (w := w) hg; replace HB := bs (w := w) hb; clear hb hbox hg; obtain ⟨hc0, hf0⟩ := cf1 BK1; obtain ⟨hc1, hf1⟩ := cf1 BK3; obtain ⟨hd0, hd1, he0, he1⟩ := cf2 BK2))
   go_ret
   exact ⟨by simp [outP, cb], bl⟩
def ixl (a b : Int) : List (S92) → Int → Int
 | [], _ => -1
 | x :: r, i => if (outP a b x) = true then i else ixl a b r (i + 1)
theorem ixl_drop (a b : Int) (l : List (S92)) (i : Int) (h0 : 0 ≤ i) (h1 : i < (l.length : Int)) : ixl a b (l.drop i.toNat) i = if (outP a b (rd_T92 l i)) = true then i else ixl a b (l.drop (i + 1).toNat) (i + 1) := by
 have hlt : i.toNat < l.length := by omega
 rw [List.drop_eq_getElem_cons hlt, show (i + 1).toNat = i.toNat + 1 by omega]
 have : rd_T92 l i = l[i.toNat] := by unfold rd_T92; rw [List.getD_eq_getElem?_getD, List.getElem?_eq_getElem hlt]; rfl
 rw [this]; rfl
set_option maxHeartbeats 8000000 in
set_option maxRecDepth 100000 in
theorem indexPoint (A0 : Option Addr) (c0 : Nat) (l0 : List (S92)) (a b : Int) (g h : Nat) (w : World) (hr0 : Kd.C k92 w A0 l0.length l0) (hc0 : l0.length ≤ c0) (hb : w.heap[g]? = some (.cells #[.int .i64 a] 3 (0, 0))) (hb2 : w.heap[h]? = some (.cells #[.int .i64 b] 3 (0, 0))) :
 Calls Try.prog 145 #[.slice A0 l0.length c0, .func (.func 126) #[] #[.pointer (some ⟨g, 0, none⟩), .pointer (some ⟨h, 0, none⟩)]] w fun e w' => e = .returned (.int .i64 (ixl a b l0 0)) ∧ Below w.heap.size w w' := by
 have hu92 := Try.underlying92
 have eg := fun (args : Array Value) (w : World) => enters_ (P := Try.prog) Try.func126 (by kernel_rfl) rfl args w
 have hlen := hr0.2.1
 have HL := Aside0.mk hlen
 have HR0 := Aside0.mk hr0
 have HC0 := Aside0.mk hc0
 have BK1 := Aside0.mk hb
 have BK3 := Aside0.mk hb2
 have HB := Aside0.mk (Below.refl w.heap.size w)
 obtain ⟨r, hr⟩ : ∃ r, ixl a b l0 0 = r := ⟨_, rfl⟩
 rw [hr]
 have H' := Aside0.mk (show ixl a b (l0.drop (0 : Int).toNat) 0 = r from hr)
 clear hr0 hc0 hb hb2 hlen hr
 go_enter Try.func145, Try.ntmps145
 go_wp2
 go_loopg [8] l0.length (fun kq v8 w' => ∃ x : Int, v8 = .int .i64 x ∧ Aside0 (0 ≤ x ∧ x + kq = l0.length) ∧ Aside0 (ixl a b (l0.drop x.toNat) x = r) ∧ Aside0 (w'.heap[g]? = some (.cells #[.int .i64 a] 3 (0, 0))) ∧ Aside0 (w'.heap[h]? = some (.cells #[.int .i64 b] 3 (0, 0))) ∧ Aside0 (Below w.heap.size w w'))
 case atStart => exact ⟨0, fa, ⟨by omega, by omega⟩, H', BK1, BK3, HB⟩
 case round =>
  clear H'
  obtain ⟨x, rfl, HX, H, BK1, BK3, HB⟩ := hrel
  have hx := HX.out
  by_cases c : x < (l0.length : Int)
  · have cb : decide (x < (l0.length : Int)) = true := decide_eq_true c
    have hstep := ixl_drop a b l0 x hx.1 c
    rw [H.out] at hstep
    obtain ⟨ad, e, hx0, hx1⟩ := at_T92 HR0.out x hx.1 c
    cases e
    replace hx0 := cz HB hx0
    replace hx1 := cz HB hx1
    have p1 : (0 ≤ x) = True := eq_true hx.1
    have p2 : (x < (l0.length : Int)) = True := eq_true c
    have hw : wrap64 (x + 1) = x + 1 := by have := HL.out; unfold wrap64; omega
    have HW := Aside0.mk hw
    clear hw
    by_cases c2 : (outP a b (rd_T92 l0 x)) = true
    · rw [if_pos c2] at hstep
      have HS := Aside0.mk hstep
      clear hstep hx c
      go_wp2_with (first | (go_at_call 126; (with_reducible refine (sliced_1 _ _ a b g h _ (bk) (bk)).mono ?_); rintro e w' ⟨rfl, hb⟩; replace HB := bs (w := w) hb; clear hb))
      go_ret
      exact ⟨by first | (rw [HS.out]; done) | (rw [HS.out]; rfl), bl⟩
    · rw [if_neg c2] at hstep
      have c2b : (outP a b (rd_T92 l0 x)) = false := by simpa using c2
      have HS := Aside0.mk hstep
      have HX2 := Aside0.mk (And.intro hx.1 c)
      clear hstep hx c c2
      go_wp2_with (first | (go_at_call 126; (with_reducible refine (sliced_1 _ _ a b g h _ (bk) (bk)).mono ?_); rintro e w' ⟨rfl, hb⟩; replace BK1 := bv BK1 hb; replace BK3 := bv BK3 hb; replace HB := bs (w := w) hb; clear hb))
      go_roundg (gk - 1)
      case measure => have := HX.out; have := HX2.out; omega
      case rel => exact ⟨wrap64 (x + 1), fa, ⟨by rw [HW.out]; have := HX2.out; omega, by rw [HW.out]; have := HX.out; have := HX2.out; omega⟩, ⟨by rw [HW.out]; exact HS.out.symm⟩, ⟨bk⟩, ⟨bk⟩, ⟨bl⟩⟩
  · have cb : decide (x < (l0.length : Int)) = false := decide_eq_false c
    have hd : l0.drop x.toNat = [] := List.drop_of_length_le (by omega)
    have HS := Aside0.mk (show r = -1 by rw [← H.out, hd]; rfl)
    clear hx c hd
    go_wp2
    go_ret
    exact ⟨by first | (rw [HS.out]; done) | (rw [HS.out]; rfl), bl⟩
def delM (a b : Int) (l : List (S92)) : List (S92) := l.filter (fun x => !(outP a b x))
theorem ixl_spec (a b : Int) : ∀ (l : List (S92)) (i : Int), 0 ≤ i → (ixl a b l i = -1 ∧ delM a b l = l) ∨ (∃ n : Nat, ixl a b l i = i + n ∧ n < l.length ∧ delM a b l = l.take n ++ delM a b (l.drop (n + 1)))
 | [], i, _ => .inl ⟨rfl, rfl⟩
 | x :: r, i, h => by
  by_cases c : (outP a b x) = true
  · exact .inr ⟨0, by simp [ixl, c], by simp, by simp [delM, c]⟩
  · have c' : (outP a b x) = false := by simpa using c
    have e : delM a b (x :: r) = x :: delM a b r := by simp [delM, c']
    have e2 : ixl a b (x :: r) i = ixl a b r (i + 1) := by simp [ixl, c']
    rcases ixl_spec a b r (i + 1) (by omega) with ⟨h1, h2⟩ | ⟨n, h1, h2, h3⟩
    · exact .inl ⟨by rw [e2, h1], by rw [e, h2]⟩
    · exact .inr ⟨n + 1, by rw [e2, h1]; omega, by simp; omega, by rw [e, h3]; rfl⟩
theorem set_take {α : Type} (xs : List α) (i : Nat) (x : α) (h : i < xs.length) : (xs.set i x).take (i + 1) = xs.take i ++ [x] := by
 rw [List.take_succ_eq_append_getElem (by simpa using h)]
 simp [List.take_set, List.set_eq_of_length_le (show (xs.take i).length ≤ i by simp; omega)]
theorem addz (g m : Nat) : (⟨g, 0, none⟩ : Addr).add m = ⟨g, m, none⟩ := by
 unfold Addr.add
 by_cases h : m = 0
 · rw [if_pos h, h]
 · rw [if_neg h, Nat.zero_add]
theorem R_tail {α : Type} {d : Kd α} {e : Nat} {w : World} {base : Nat} {ok : Nat → Prop} {g n cap : Nat} {xs : List α} (h : d.R e w base ok (.slice (some ⟨g, 0, none⟩) n cap) xs) (o : Nat) (seg : List Value) (ho : n * d.sz ≤ o) (hfit : o + seg.length ≤ cap * d.sz) : d.R e (w.setCells g o seg) base ok (.slice (some ⟨g, 0, none⟩) n cap) xs := by
 obtain ⟨h0, inner, ⟨hl, hown⟩, hr⟩ := h
 rcases hown with ⟨hv, _⟩ | ⟨g', cap', cur, hv, hb, hh, hle, hm, hs, ht⟩
 · cases hv
 injection hv with ha hn hc
 injection ha with ha
 injection ha with hg
 subst hg; subst hc; subst hn
 obtain ⟨cur', h3, h4, h5⟩ := setCells_row seg o w cur hh (by omega)
 refine ⟨h0, inner, ⟨hl, .inr ⟨g, cap, cur', rfl, hb, h3, hle, hm, by rw [h4, hs], ?_⟩⟩, hr.imp_ (fun p c hp => Kd.M_step hp (fun k hk hlt => setCells_far seg o k (fun e_ => hk.2 (by rw [e_]; rfl))))⟩
 rw [h5, List.append_assoc, List.take_append_of_le_length (by have hz : cur.toList.length = cur.size := Array.length_toList; rw [List.length_take]; omega), List.take_take, Nat.min_eq_left ho]
 exact ht
theorem run_clear_cells {P : Program} (w : World) (t e ty : TypeId) (z : Value) (ht : P.underlying t = some (.slice e)) (hv : ∀ w, (zeroValue e).run P w = .ok z w) (b o n c : Nat) (hn : 0 < n) (hz : ∀ v ∈ z.cells.toList, v.oneCell' = true) (hz0 : 0 < z.cells.size)
    (cur : Array Value) (ce : TypeId) (hh : w.heap[b]? = some (.cells cur ce (0, 0))) (hfit : o + n * z.cells.size ≤ cur.size) :
    ∃ zs : List Value, zs.length = n * z.cells.size ∧ (Builtin.clear_ #[t] ty #[.slice (some ⟨b, o, none⟩) n c]).run P w = .ok (.tuple #[]) (w.setCells b o zs) := by
 refine ⟨(Builtin.zeroCells z.cells n).toList, by simp [Builtin.zeroCells], ?_⟩
 have h1 : ∀ v ∈ (Builtin.zeroCells z.cells n).toList, v.oneCell' = true := by
  intro v hv'
  simp only [Builtin.zeroCells, Array.toList_map, List.mem_map] at hv'
  obtain ⟨q, hq, rfl⟩ := hv'
  have hlt : q % z.cells.size < z.cells.size := Nat.mod_lt _ hz0
  rw [getElem!_pos z.cells _ hlt]
  exact hz _ (by simp)
 have hst := run_storeCells_cells (P := P) b o (Builtin.zeroCells z.cells n).toList 0 w (fun j hj => by rw [cell_of_row w b _ cur ce (0, 0) hh]; simp [Builtin.zeroCells] at hj ⊢; omega) (fun j _ => blk_frozen hh _) h1
 simp only [Nat.add_zero] at hst
 obtain ⟨m, rfl⟩ : ∃ m, n = m + 1 := ⟨n - 1, by omega⟩
 simp [Builtin.clear_, run_underlying ht, hv, hst]
set_option maxHeartbeats 8000000 in
set_option maxRecDepth 100000 in
theorem deletePoint (u : Value) (l0 : List (S92)) (a b : Int) (g h : Nat) (w0 w : World) (hB : Below w0.heap.size w0 w) (ho : Kd.R k92 92 w w0.heap.size (fun _ => True) u l0) (hlim : l0.length < 5864062014805) (hb : w.heap[g]? = some (.cells #[.int .i64 a] 3 (0, 0))) (hb2 : w.heap[h]? = some (.cells #[.int .i64 b] 3 (0, 0))) :
 Calls Try.prog 124 #[u, .func (.func 126) #[] #[.pointer (some ⟨g, 0, none⟩), .pointer (some ⟨h, 0, none⟩)]] w fun e w' => ∃ v, e = .returned v ∧ Kd.R k92 92 w' w0.heap.size (fun _ => True) v (delM a b l0) ∧ Below w0.heap.size w0 w' := by
 have hu92 := Try.underlying92
 have eg := fun (args : Array Value) (w : World) => enters_ (P := Try.prog) Try.func126 (by kernel_rfl) rfl args w
 have HL := Aside0.mk hlim
 have BK1 := Aside0.mk hb
 have BK3 := Aside0.mk hb2
 have HB := Aside0.mk hB
 have HO := Aside0.mk ho
 clear hB hb hb2 hlim
 rcases ixl_spec a b l0 0 (by omega) with ⟨h1, h2⟩ | ⟨n, h1, h2, h3⟩
 · obtain ⟨A, c, rfl, hlc, hC⟩ := Kd.R_reads ho
   have HI := Aside0.mk h1
   have HC0 := Aside0.mk hC
   have HLC := Aside0.mk hlc
   rw [h2]
   clear ho h1 h2 hC hlc
   go_enter Try.func124, Try.ntmps124
   go_wp2_with (first | (go_at_call 145; (with_reducible refine (indexPoint A c l0 a b g h _ HC0.out HLC.out (bk) (bk)).mono ?_); rintro e w' ⟨rfl, hb⟩; rw [HI.out]; have HB2 := Aside0.mk (Kd.R_below HO.out hb); replace HB := bs (w := w0) hb; clear hb))
   go_ret
   exact ⟨_, rfl, HB2.out, bl⟩
 · have hn0 : 0 < l0.length := by omega
   obtain ⟨g2, cap, rfl, hcap⟩ : ∃ g2 cap, u = .slice (some ⟨g2, 0, none⟩) l0.length cap ∧ l0.length ≤ cap := by
    obtain ⟨_, inner, ⟨hl, hown⟩, hr⟩ := ho
    rcases hown with ⟨rfl, hz⟩ | ⟨g2, cap, cur, rfl, _, _, hle, _⟩
    · omega
    · exact ⟨g2, cap, rfl, hle⟩
   have HNE := Aside0.mk (show g ≠ g2 from fun e_ => Kd.R_ne ho BK1.out (by decide) (by rw [e_]; rfl))
   have HNE2 := Aside0.mk (show h ≠ g2 from fun e_ => Kd.R_ne ho BK3.out (by decide) (by rw [e_]; rfl))
   have hC := (Kd.R_reads' ho).2.2
   have HC0 := Aside0.mk hC
   have HLC := Aside0.mk hcap
   have HI := Aside0.mk h1
   have HD : Aside0 (l0.take n ++ delM a b (l0.drop (n + 1)) = delM a b l0) := ⟨h3.symm⟩
   have HN := Aside0.mk h2
   obtain ⟨r, hr⟩ : ∃ r, delM a b l0 = r := ⟨_, rfl⟩
   rw [hr] at HD ⊢
   clear ho h1 h2 h3 hC hcap hr hn0
   have e1 : wrap64 ((n : Int) + 1) = (n : Int) + 1 := by have := HN.out; have := HL.out; unfold wrap64; omega
   have hne : ((n : Int) == -1) = false := by simp
   go_enter Try.func124, Try.ntmps124
   go_wp2_with (first | (go_at_call 145; (with_reducible refine (indexPoint (some ⟨g2, 0, none⟩) cap l0 a b g h _ HC0.out HLC.out (bk) (bk)).mono ?_); rintro e w' ⟨rfl, hb⟩; rw [show ixl a b l0 0 = (n : Int) by rw [HI.out]; omega]; replace HO := Aside0.mk (Kd.R_below HO.out hb); replace BK1 := bv BK1 hb; replace BK3 := bv BK3 hb; replace HB := bs (w := w0) hb; clear hb))
   go_loopg [5, 6] (l0.length - (n + 1)) (fun kq v5 v6 w' => ∃ (i j : Int) (xs : List (S92)), v5 = .int .i64 i ∧ v6 = .int .i64 j ∧ Aside0 (0 ≤ i ∧ i < j ∧ j + kq = l0.length) ∧ Aside0 (xs.length = l0.length) ∧ Aside0 (xs.take i.toNat ++ delM a b (l0.drop j.toNat) = r) ∧ Aside0 (xs.drop j.toNat = l0.drop j.toNat) ∧ Aside0 (Kd.R k92 92 w' w0.heap.size (fun _ => True) (.slice (some ⟨g2, 0, none⟩) l0.length cap) xs) ∧ Aside0 (w'.heap[g]? = some (.cells #[.int .i64 a] 3 (0, 0))) ∧ Aside0 (w'.heap[h]? = some (.cells #[.int .i64 b] 3 (0, 0))) ∧ Aside0 (Below w0.heap.size w0 w'))
   case atStart => exact ⟨(n : Int), wrap64 ((n : Int) + 1), l0, fa, fa, ⟨by rw [e1]; have := HN.out; omega⟩, ⟨rfl⟩, ⟨by rw [e1]; exact HD.out⟩, ⟨rfl⟩, HO, BK1, BK3, HB⟩
   case round =>
    clear HC0 e1 hne HD HI
    obtain ⟨i, j, xs, rfl, rfl, HX, HXL, H, HT, HO, BK1, BK3, HB⟩ := hrel
    have hx := HX.out
    by_cases c : j < (l0.length : Int)
    · have cb : decide (j < (l0.length : Int)) = true := decide_eq_true c
      have hC := (Kd.R_reads' HO.out).2.2
      rw [HXL.out] at hC
      obtain ⟨ad, e, hx0, hx1⟩ := at_T92 hC j (by omega) c
      cases e
      obtain ⟨ad, e, hy0, hy1⟩ := at_T92 hC i (by omega) (by omega)
      cases e
      simp only [addz] at hx0 hx1 hy0 hy1
      have p1 : (0 ≤ j) = True := eq_true (by omega)
      have p2 : (j < (l0.length : Int)) = True := eq_true c
      have q1 : (0 ≤ i) = True := eq_true (by omega)
      have q2 : (i < (l0.length : Int)) = True := eq_true (by omega)
      have HW := Aside0.mk (show wrap64 (j + 1) = j + 1 by have := HL.out; unfold wrap64; omega)
      have HW2 := Aside0.mk (show wrap64 (i + 1) = i + 1 by have := HL.out; unfold wrap64; omega)
      have hdj : l0.drop j.toNat = rd_T92 xs j :: l0.drop (j + 1).toNat := by
       have hlt : j.toNat < xs.length := by have := HXL.out; omega
       have hlt2 : j.toNat < l0.length := by omega
       rw [← HT.out, List.drop_eq_getElem_cons hlt, show (j + 1).toNat = j.toNat + 1 by omega]
       have : rd_T92 xs j = xs[j.toNat] := by unfold rd_T92; rw [List.getD_eq_getElem?_getD, List.getElem?_eq_getElem hlt]; rfl
       rw [this]
       have ht := congrArg List.tail HT.out
       rw [List.drop_eq_getElem_cons hlt, List.drop_eq_getElem_cons hlt2, List.tail_cons, List.tail_cons] at ht
       rw [ht]
      have hT2 : xs.drop (j + 1).toNat = l0.drop (j + 1).toNat := by
       rw [show (j + 1).toNat = j.toNat + 1 by omega, ← List.drop_drop, ← List.drop_drop, HT.out]
      have HT2 := Aside0.mk hT2
      have HX2 := Aside0.mk (And.intro hx c)
      have hH := H.out
      rw [hdj] at hH
      clear hx c hC hT2 hdj
      by_cases c2 : (outP a b (rd_T92 xs j)) = true
      · have HH : Aside0 (xs.take i.toNat ++ delM a b (l0.drop (j + 1).toNat) = r) := ⟨by rw [← hH]; simp [delM, c2]⟩
        clear hH H HT
        go_wp2_with (first | ((with_reducible refine gD 7 rfl ?_); refine boxZ 7 #[.int .i64 0, .int .i64 0] 92 ?_; intro gb hg w1 hbox hb; have HO1 := Aside0.mk (Kd.R_below (Kd.R_bound HO.out) hb); have HG := Aside0.mk hg; have NB := nl BK1 hg; have NB2 := nl BK3 hg; replace BK1 := bv BK1 hb; replace BK3 := bv BK3 hb; have BK2 := Aside0.mk hbox; have GE2 := gw (w := w0) hg; replace HB := bs (w := w0) hb; clear hb hbox hg; obtain ⟨hd0, hd1, he0, he1⟩ := cf2 BK2) | (go_at_call 126; (with_reducible refine (sliced_1 _ _ a b g h _ ?sb ?sb2).mono ?_); (case sb => exact blk_far (blk_far BK1.out NB.out _) NB.out _); (case sb2 => exact blk_far (blk_far BK3.out NB2.out _) NB2.out _); rintro e w2 ⟨rfl, hb⟩; replace HO := Aside0.mk (Kd.R_mono (Kd.R_below (Kd.R_far (p := ⟨gb, 1, none⟩) (Kd.R_far (p := ⟨gb, 0, none⟩) HO1.out (fun k hk => by rw [HG.out]; exact Nat.ne_of_lt hk.2.2.1) _) (fun k hk => by rw [HG.out]; exact Nat.ne_of_lt hk.2.2.1) _) hb) (fun _ _ => trivial)); replace BK1 := Aside0.mk (blk_below (blk_far (blk_far BK1.out NB.out _) NB.out _) hb); replace BK3 := Aside0.mk (blk_below (blk_far (blk_far BK3.out NB2.out _) NB2.out _) hb); replace BK2 := Aside0.mk (blk_below (blk_put (blk_put BK2.out 0 _ rfl) 1 _ rfl) hb); replace HB := bs (w := w0) hb; clear hb hd0 hd1 he0 he1; obtain ⟨hd0, hd1, he0, he1⟩ := cf2 BK2))
        go_roundg (gk - 1)
        case measure => have := HX2.out; omega
        case rel => exact ⟨i, wrap64 (j + 1), xs, fa, fa, ⟨by rw [HW.out]; have := HX2.out; omega⟩, HXL, ⟨by rw [HW.out]; exact HH.out⟩, ⟨by rw [HW.out]; exact HT2.out⟩, HO, BK1, BK3, HB⟩
      · have c2b : (outP a b (rd_T92 xs j)) = false := by simpa using c2
        have HH : Aside0 (xs.take i.toNat ++ (rd_T92 xs j :: delM a b (l0.drop (j + 1).toNat)) = r) := ⟨by rw [← hH]; simp [delM, c2b]⟩
        clear hH H HT c2
        go_wp2_with (first | ((with_reducible refine gD 7 rfl ?_); refine boxZ 7 #[.int .i64 0, .int .i64 0] 92 ?_; intro gb hg w1 hbox hb; have HO1 := Aside0.mk (Kd.R_below (Kd.R_bound HO.out) hb); have HG := Aside0.mk hg; have NB := nl BK1 hg; have NB2 := nl BK3 hg; replace BK1 := bv BK1 hb; replace BK3 := bv BK3 hb; have BK2 := Aside0.mk hbox; have GE2 := gw (w := w0) hg; replace HB := bs (w := w0) hb; clear hb hbox hg; obtain ⟨hd0, hd1, he0, he1⟩ := cf2 BK2) | (go_at_call 126; (with_reducible refine (sliced_1 _ _ a b g h _ ?sb ?sb2).mono ?_); (case sb => exact blk_far (blk_far BK1.out NB.out _) NB.out _); (case sb2 => exact blk_far (blk_far BK3.out NB2.out _) NB2.out _); rintro e w2 ⟨rfl, hb⟩; replace HO := Aside0.mk (Kd.R_mono (Kd.R_below (Kd.R_far (p := ⟨gb, 1, none⟩) (Kd.R_far (p := ⟨gb, 0, none⟩) HO1.out (fun k hk => by rw [HG.out]; exact Nat.ne_of_lt hk.2.2.1) _) (fun k hk => by rw [HG.out]; exact Nat.ne_of_lt hk.2.2.1) _) hb) (fun _ _ => trivial)); replace BK1 := Aside0.mk (blk_below (blk_far (blk_far BK1.out NB.out _) NB.out _) hb); replace BK3 := Aside0.mk (blk_below (blk_far (blk_far BK3.out NB2.out _) NB2.out _) hb); replace BK2 := Aside0.mk (blk_below (blk_put (blk_put BK2.out 0 _ rfl) 1 _ rfl) hb); replace HB := bs (w := w0) hb; clear hb hd0 hd1 he0 he1; obtain ⟨hd0, hd1, he0, he1⟩ := cf2 BK2) | ((with_reducible refine gate_store (t := 92) (p := 33) rfl ?_); refine Kd.R_store k92 (w0 := w0) w0.heap.size rfl rfl 92 (.tmp 33) (.tmp 32) rfl 92 (g := g2) (n := l0.length) (cap := cap) i 0 xs (rd_T92 xs j) (.agg #[.int .i64 (rd_T92 xs j).f0, .int .i64 (rd_T92 xs j).f1]) [.int .i64 (rd_T92 xs j).f0, .int .i64 (rd_T92 xs j).f1] [.int .i64 (rd_T92 xs i).f0, .int .i64 (rd_T92 xs i).f1] (fun _ => True) (fun _ => False) rfl (show i.toNat * 2 = i.toNat * k92.sz + 0 from rfl) rfl rfl ?ht ?h1 HO.out ?h0 ?hi rfl ?hcc (show 0 + 2 ≤ 2 from Nat.le_refl _) ?hM (fun _ h => h.elim) HB.out ?_; (case ht => kernel_rfl); (case h1 => intro q hq; rcases List.mem_cons.1 hq with rfl | hq; rfl; rcases List.mem_cons.1 hq with rfl | hq; rfl; cases hq); (case h0 => have := HX2.out; omega); (case hi => have := HX2.out; omega); (case hcc => have hC2 := (Kd.R_reads' HO.out).2.2; rw [HXL.out] at hC2; obtain ⟨ad, e, hz0, hz1⟩ := at_T92 hC2 i (by have := HX2.out; omega) (by have := HX2.out; omega); cases e; simp only [addz] at hz0 hz1; intro q u hq; match q, hq with | 0, hq => (cases hq; exact hz0) | 1, hq => (cases hq; exact hz1)); (case hM => exact k92_mkM _ _ _ _); intro w3 ho hb hg; replace BK1 := Aside0.mk (blk_grown BK1.out hg (fun e_ => HNE.out (by injection e_))); replace BK3 := Aside0.mk (blk_grown BK3.out hg (fun e_ => HNE2.out (by injection e_))); replace HO := Aside0.mk ho; replace HB := Aside0.mk hb; clear hb hg ho))
        go_roundg (gk - 1)
        case measure => have := HX2.out; omega
        case rel => exact ⟨wrap64 (i + 1), wrap64 (j + 1), xs.set i.toNat (rd_T92 xs j), fa, fa, ⟨by rw [HW.out, HW2.out]; have := HX2.out; omega⟩, ⟨by rw [List.length_set]; exact HXL.out⟩, ⟨by rw [HW.out, HW2.out, show (i + 1).toNat = i.toNat + 1 by have := HX2.out; omega, set_take _ _ _ (by have := HX2.out; have := HXL.out; omega), List.append_assoc]; exact HH.out⟩, ⟨by rw [HW.out, List.drop_set_of_lt (by have := HX2.out; omega)]; exact HT2.out⟩, HO, BK1, BK3, HB⟩
    · have cb : decide (j < (l0.length : Int)) = false := decide_eq_false c
      have hfin : xs.take i.toNat = r := by
       have h := H.out
       rw [List.drop_of_length_le (show l0.length ≤ j.toNat by omega)] at h
       simpa [delM] using h
      have HF := Aside0.mk hfin
      have HX2 := Aside0.mk (And.intro hx c)
      have q1 : (0 ≤ i) = True := eq_true (by omega)
      have q2 : (i ≤ (l0.length : Int)) = True := eq_true (by omega)
      have hcl : ∃ zs : List Value, zs.length = (l0.length - i.toNat) * 2 ∧ (Builtin.clear_ #[25] 0 #[.slice (some ⟨g2, i.toNat * 2, none⟩) (l0.length - i.toNat) (cap - i.toNat)]).run Try.prog wr = .ok (.tuple #[]) (wr.setCells g2 (i.toNat * 2) zs) := by
       obtain ⟨_, inner, ⟨_, hown⟩, _⟩ := HO.out
       rcases hown with ⟨hv, _⟩ | ⟨g', cap', cur, hv, hb, hh, hle, hm, hs, ht⟩
       · cases hv
       injection hv with ha hn hc
       injection ha with ha
       injection ha with hg
       subst hg; subst hc
       have hs2 : cur.size = cap * 2 := hs
       exact run_clear_cells wr 25 92 0 (.agg #[.int .i64 0, .int .i64 0]) Try.underlying25 (fun w => by kernel_rfl) g2 (i.toNat * 2) (l0.length - i.toNat) (cap - i.toNat) (by omega) (by intro v hv; rcases List.mem_cons.1 hv with rfl | hv; rfl; rcases List.mem_cons.1 hv with rfl | hv; rfl; cases hv) (by decide) cur 92 hh (by have := HLC.out; show i.toNat * 2 + (l0.length - i.toNat) * 2 ≤ cur.size; omega)
      obtain ⟨zs, hz1, hz2⟩ := hcl
      have HOF : Aside0 (Kd.R k92 92 (wr.setCells g2 (i.toNat * 2) zs) w0.heap.size (fun _ => True) (.slice (some ⟨g2, 0, none⟩) i.toNat cap) r) := ⟨by
       have h := Kd.R_take HO.out (m := i.toNat) (by have := HXL.out; omega)
       rw [HF.out] at h
       exact R_tail h _ _ (Nat.le_refl _) (by have := HLC.out; show i.toNat * 2 + zs.length ≤ cap * 2; omega)⟩
      have HBF : Aside0 (Below w0.heap.size w0 (wr.setCells g2 (i.toNat * 2) zs)) := ⟨by
       obtain ⟨s1, s2, s3, s4⟩ := setCells_same g2 zs (i.toNat * 2) wr
       have hg0 := Kd.R_base HO.out g2 rfl
       exact ⟨s1.trans HB.out.os, s2.trans HB.out.tape, s3.trans HB.out.output, by rw [s4]; exact HB.out.size, fun k hk => (setCells_far zs _ k (by omega)).trans (HB.out.block k hk)⟩⟩
      have q3 : (i ≤ (cap : Int)) = True := eq_true (by have := HLC.out; omega)
      have n1 : ¬ (i.toNat = cap) := by have := HLC.out; omega
      have n2 : ¬ (cap = i.toNat) := by have := HLC.out; omega
      clear H HT hx c hfin hz1
      go_wp2_with fail
      go_ret
      exact ⟨_, rfl, HOF.out, HBF.out⟩
def impl_sliced.f (l0 : List (S92)) (a1 a2 : Int) : Option ((List (S92))) := if l0.length < 5864062014805 then some (delM a1 a2 l0) else none
set_option maxHeartbeats 8000000 in
set_option maxRecDepth 100000 in
theorem impl_sliced.calls (A0 : Option Addr) (c0 : Nat) (l0 : List (S92)) (a1 a2 : Int) (r : List (S92)) (w : World) (hr0 : Kd.C k92 w A0 l0.length l0) (hc0 : l0.length ≤ c0) (h : impl_sliced.f l0 a1 a2 = some r) :
 Calls Try.prog 86 #[.slice A0 l0.length c0, .int .i64 a1, .int .i64 a2] w fun e w' => ∃ v0_ : Value, e = .returned (v0_) ∧ Kd.R k92 92 w' w.heap.size (fun _ => True) v0_ r ∧ Below w.heap.size w w' := by
 have c1 : l0.length < 5864062014805 := by
  by_cases c : l0.length < 5864062014805
  · exact c
  · simp [impl_sliced.f, c] at h
 obtain rfl : delM a1 a2 l0 = r := by simpa [impl_sliced.f, c1] using h
 have HL := Aside0.mk c1
 have HF := Aside0.mk (show impl_Point_125.f l0 = some l0 by simp [impl_Point_125.f, show l0.length < 8796093022208 by omega])
 have HR0 := Aside0.mk hr0
 have HC0 := Aside0.mk hc0
 have HB := Aside0.mk (Below.refl w.heap.size w)
 obtain ⟨r, hr⟩ : ∃ r, delM a1 a2 l0 = r := ⟨_, rfl⟩
 have HQ := Aside0.mk hr
 rw [hr]
 clear hr0 hc0 c1 h hr
 go_enter Try.func86, Try.ntmps86
 go_wp2_with (first | ((with_reducible refine gD 4 rfl ?_); refine boxZ 4 #[.int .i64 a1] 3 ?_; intro g hg w1 hbox hb; have BK1 := Aside0.mk hbox; have GE1 := gw (w := w) hg; replace HB := bs (w := w) hb; clear hb hbox hg) | ((with_reducible refine gD 5 rfl ?_); refine boxZ 5 #[.int .i64 a2] 3 ?_; intro g2 hg w2 hbox hb; replace BK1 := bv BK1 hb; have BK3 := Aside0.mk hbox; have GE2 := gw (w := w) hg; replace HB := bs (w := w) hb; clear hb hbox hg) | (go_at_call 125; (with_reducible refine (impl_Point_125.calls A0 c0 l0 l0 _ ?s1 HC0.out HF.out).mono ?_); (case s1 => exact (Kd.C_below HR0.out bl)); rintro e w3 ⟨v, rfl, ho, hb⟩; have HO := Aside0.mk (Kd.R_lower ho (below_size bl)); replace BK1 := bv BK1 hb; replace BK3 := bv BK3 hb; replace HB := bs (w := w) hb; clear hb ho) | (go_at_call 124; (with_reducible refine (deletePoint v l0 a1 a2 g g2 w _ bl HO.out HL.out (bk) (bk)).mono ?_); rintro e w3 ⟨v2, rfl, ho, hb⟩; rw [HQ.out] at ho; replace HO := Aside0.mk ho; replace HB := Aside0.mk hb; clear hb ho))
 go_ret
 exact ⟨_, rfl, HO.out, HB.out⟩

/-! ### impl_Slice: function 27 -/
def impl_Slice.f (k : Nat) (l0 : List (S92)) (a1 : Int) (a2 : Int) : Option ((List (S92))) := (impl_PointsOk.f k l0).bind fun t143 => (if t143 = true then ((impl_sliced.f l0 a1 a2).bind fun t144 => (some t144)) else (some ([] : List (S92))))
theorem impl_Slice.mono : ∀ a0 a1 a2 k, LeO (impl_Slice.f k a0 a1 a2) (impl_Slice.f (k + 1) a0 a1 a2) := by
 intro a0 a1 a2 k
 unfold impl_Slice.f
 repeat' first
  | (with_reducible exact impl_PointsOk.mono _ _)
  | (with_reducible exact LeO.refl _)
  | (with_reducible exact LeO.none _)
  | (with_reducible refine LeO.ite ?_ ?_)
  | (with_reducible refine LeO.bind ?_ (fun _ => ?_))
  | exact impl_PointsOk.mono _ _
  | exact LeO.none _
  | refine LeO.ite ?_ ?_
  | refine LeO.bind ?_ (fun _ => ?_)
set_option maxHeartbeats 8000000 in
set_option maxRecDepth 100000 in
theorem impl_Slice.calls (k : Nat) (A0 : Option Addr) (c0 : Nat) (l0 : List (S92)) (a1 : Int) (a2 : Int) (r : List (S92)) (w : World) (hr0 : Kd.C k92 w A0 l0.length l0) (hc0 : l0.length ≤ c0) (h : impl_Slice.f k l0 a1 a2 = some r) :
 Calls Try.prog 27 #[.slice A0 l0.length c0, .int .i64 a1, .int .i64 a2] w fun e w' => ∃ v0_ : Value, e = .returned (v0_) ∧ Kd.R k92 92 w' w.heap.size (fun _ => True) v0_ r ∧ Below w.heap.size w w' := by
 have HR0 := Aside0.mk hr0
 have HC0 := Aside0.mk hc0
 clear hr0 hc0
 have HB := Aside0.mk (Below.refl w.heap.size w)
 have H : ((impl_PointsOk.f k l0).bind fun t143 => (if t143 = true then ((impl_sliced.f l0 a1 a2).bind fun t144 => (some t144)) else (some ([] : List (S92))))) = some r := h
 clear h
 obtain ⟨t143, A4, H⟩ := bd H
 by_cases c5 : t143 = true
 ·subst c5
  replace H := iT H
  obtain ⟨t144, A6, H⟩ := bd H
  obtain rfl := Option.some.inj H
  go_enter Try.func27, Try.ntmps27
  go_wp2_with (first | ((with_reducible refine gC 18 rfl ?_); refine goesZ (some 8) rfl Try.func18 #[.slice A0 l0.length c0] ?_; (with_reducible refine (impl_PointsOk.calls k _ _ l0 true _ ?side1 ?side2 A4.out).mono ?_); (case side1 => exact ca HR0.out); (case side2 => exact HC0.out); rintro e w7 ⟨rfl, hb⟩; refine ⟨_, rfl, ?_⟩; replace HB := bs (w := w) hb; (try clear hb)) | ((with_reducible refine gC 86 rfl ?_); refine goesZ (some 13) rfl Try.func86 #[.slice A0 l0.length c0, .int .i64 a1, .int .i64 a2] ?_; (with_reducible refine (impl_sliced.calls _ _ l0 a1 a2 t144 _ ?side1 ?side2 A6.out).mono ?_); (case side1 => exact ca (Kd.C_below HR0.out HB.out)); (case side2 => exact HC0.out); rintro e w8 ⟨v145, rfl, ho0, hb⟩; refine ⟨_, rfl, ?_⟩; have HO146 := Aside0.mk (Kd.R_lower ho0 (below_size bl)); replace HB := bs (w := w) hb; (try clear hb ho0)))
  go_ret
  exact ⟨_, fe, rpR HO146.out, bl⟩
 ·replace c5 := Bool.eq_false_iff.mpr c5
  subst c5
  replace H := iF H
  obtain rfl := Option.some.inj H
  go_enter Try.func27, Try.ntmps27
  go_wp2_with (first | ((with_reducible refine gC 18 rfl ?_); refine goesZ (some 8) rfl Try.func18 #[.slice A0 l0.length c0] ?_; (with_reducible refine (impl_PointsOk.calls k _ _ l0 false _ ?side1 ?side2 A4.out).mono ?_); (case side1 => exact ca HR0.out); (case side2 => exact HC0.out); rintro e w9 ⟨rfl, hb⟩; refine ⟨_, rfl, ?_⟩; replace HB := bs (w := w) hb; (try clear hb)))
  go_ret
  exact ⟨_, fe, by first | exact Kd.R_nil _ _ _ _ _ | exact Kd.N_nil _ _ _ _ _ | exact Kd.V_nil _ _ _ _ _ | exact Kd.Q_nil _ _ _ _ _ | exact Kd.S_nil _ _ _ _ _, bl⟩

/-! ### laws_markPointS: function 28 -/
def laws_markPointS.l0 : Nat → List (S92) → Int → Int → Option (Int × (List (S92)))
 | 0, _, _, _ => none
 | k + 1, x0, x1, x5 => if x5 < (x0.length : Int) then (if 0 ≤ x5 then ((some (x0.set (x5 : Int).toNat (⟨x1, (rd_T92 x0 x5).f1⟩ : S92) : List (S92))).bind fun y147 => (laws_markPointS.l0 k (y147.set (x5 : Int).toNat (⟨(rd_T92 y147 x5).f0, wrap64 (x1 + 1)⟩ : S92)) (wrap64 ((wrap64 (x1 + 1)) + 1)) (wrap64 (x5 + 1)))) else (none)) else (some (x1, x0))
def laws_markPointS.f (k : Nat) (l0 : List (S92)) (a1 : Int) : Option (Int × (List (S92))) := laws_markPointS.l0 k l0 a1 0
theorem laws_markPointS.mono_l : ∀ k, (∀ y0 y1 y2, LeO (laws_markPointS.l0 k y0 y1 y2) (laws_markPointS.l0 (k + 1) y0 y1 y2))
 | 0 => fun _ _ _ r h => by simp [laws_markPointS.l0] at h
 | k + 1 => by
  have ih0 := laws_markPointS.mono_l k
  ·intro y0 y1 y2
   unfold laws_markPointS.l0
   repeat' first
   | (with_reducible exact ih0 _ _ _)
   | (with_reducible exact LeO.refl _)
   | (with_reducible exact LeO.none _)
   | (with_reducible refine LeO.ite ?_ ?_)
   | (with_reducible refine LeO.bind ?_ (fun _ => ?_))
   | exact ih0 _ _ _
   | exact LeO.none _
   | refine LeO.ite ?_ ?_
   | refine LeO.bind ?_ (fun _ => ?_)
theorem laws_markPointS.mono : ∀ a0 a1 k, LeO (laws_markPointS.f k a0 a1) (laws_markPointS.f (k + 1) a0 a1) := by
 intro a0 a1 k
 have ih0 := laws_markPointS.mono_l k
 unfold laws_markPointS.f
 repeat' first
  | (with_reducible exact ih0 _ _ _)
  | (with_reducible exact LeO.refl _)
  | (with_reducible exact LeO.none _)
  | (with_reducible refine LeO.ite ?_ ?_)
  | (with_reducible refine LeO.bind ?_ (fun _ => ?_))
  | exact ih0 _ _ _
  | exact LeO.none _
  | refine LeO.ite ?_ ?_
  | refine LeO.bind ?_ (fun _ => ?_)
set_option maxHeartbeats 8000000 in
set_option maxRecDepth 100000 in
theorem laws_markPointS.calls (k : Nat) (P0_ : Nat → Prop) (u9000_ : Value) (l0 : List (S92)) (a1 : Int) (r1 : Int) (r2 : List (S92)) (w0 w : World) (hB : Below w0.heap.size w0 w) (ho0 : Kd.R k92 92 w w0.heap.size P0_ u9000_ l0) (h : laws_markPointS.f k l0 a1 = some (r1, r2)) :
 Calls Try.prog 28 #[u9000_, .int .i64 a1] w fun e w' => e = .returned (.int .i64 r1) ∧ Kd.R k92 92 w' w0.heap.size (fun k_ => (P0_ k_ ∨ w.heap.size ≤ k_)) u9000_ r2 ∧ Below w0.heap.size w0 w' ∧ Kept w w' (fun k_ => P0_ k_) := by
 have HO0 := Aside0.mk (show Kd.R k92 92 w w0.heap.size (fun k_ => (P0_ k_ ∨ w.heap.size ≤ k_)) u9000_ l0 from Kd.R_mono ho0 (fun k_ hk => (.inl hk)))
 have HK := Aside0.mk (Kept.refl w (fun k_ => P0_ k_))
 have HW0 := Aside0.mk hB.size
 have HB := Aside0.mk hB
 clear hB
 have H : (laws_markPointS.l0 k l0 a1 0) = some (r1, r2) := h
 clear h
 have H' := Aside0.mk H
 clear H
 go_enter Try.func28, Try.ntmps28
 go_wp2
 go_loopg [1, 5] k (fun kq v1 v5 w' => ∃ (x0_1 : List (S92)) (x1_1 : Int) (x5_1 : Int), v1 = .int .i64 x1_1 ∧ v5 = .int .i64 x5_1 ∧ Aside0 (laws_markPointS.l0 kq x0_1 x1_1 x5_1 = some (r1, r2)) ∧ Aside0 (kq ≤ k) ∧ Aside0 (Kd.R k92 92 w' w0.heap.size (fun k_ => (P0_ k_ ∨ w.heap.size ≤ k_)) u9000_ x0_1) ∧ Aside0 (Kept w w' (fun k_ => P0_ k_)) ∧ Aside0 (Below w0.heap.size w0 w'))
 case atStart => exact ⟨(l0), (a1), (0), fa, fa, H', ⟨Nat.le_refl _⟩, ⟨rpR HO0.out⟩, ⟨by repeat (first | (with_reducible first | exact HK.out | apply Kept.alloc | apply Kept.drewN | apply Kept.drew) | exact HK.out)⟩, ⟨bl⟩⟩
 case round =>
  clear H'
  try clear c2
  try clear p2
  obtain ⟨x0_1, x1_1, x5_1, rfl, rfl, HA, HK1, HO_0, HK, HB⟩ := hrel
  cases gk with
  | zero => exact absurd HA.out (by simp [laws_markPointS.l0])
  | succ k1 =>
   have H := HA.out
   clear HA
   simp only [laws_markPointS.l0] at H
   by_cases c3 : x5_1 < (x0_1.length : Int)
   ·rw [if_pos c3] at H
    have c3b0 : decide (x5_1 < (x0_1.length : Int)) = true := decide_eq_true c3
    clear c3
    by_cases c4 : 0 ≤ x5_1
    ·rw [if_pos c4] at H
     have c4b0 : decide (0 ≤ x5_1) = true := decide_eq_true c4
     clear c4
     obtain ⟨y147, hy147⟩ : ∃ y_ : List (S92), y_ = (x0_1.set (x5_1 : Int).toNat (⟨x1_1, (rd_T92 x0_1 x5_1).f1⟩ : S92)) := ⟨_, rfl⟩
     replace H : (laws_markPointS.l0 k1 (y147.set (x5_1 : Int).toNat (⟨(rd_T92 y147 x5_1).f0, wrap64 (x1_1 + 1)⟩ : S92)) (wrap64 ((wrap64 (x1_1 + 1)) + 1)) (wrap64 (x5_1 + 1))) = some (r1, r2) := by first | (rw [hy147]; with_reducible exact H) | (have H2_ := (Option.bind_some _ _).symm.trans H; rw [hy147]; with_reducible exact H2_) | (have H2_ := (Option.bind_some _ _).symm.trans H; with_reducible exact H2_) | with_reducible exact H | (rw [hy147]; exact H) | exact H
     have Ny147 := Aside0.mk hy147
     clear hy147
     obtain ⟨y148, hy148⟩ : ∃ y_ : List (S92), y_ = (y147.set (x5_1 : Int).toNat (⟨(rd_T92 y147 x5_1).f0, wrap64 (x1_1 + 1)⟩ : S92)) := ⟨_, rfl⟩
     replace H : (laws_markPointS.l0 k1 y148 (wrap64 ((wrap64 (x1_1 + 1)) + 1)) (wrap64 (x5_1 + 1))) = some (r1, r2) := by first | (rw [hy148]; with_reducible exact H) | (have H2_ := (Option.bind_some _ _).symm.trans H; rw [hy148]; with_reducible exact H2_) | (have H2_ := (Option.bind_some _ _).symm.trans H; with_reducible exact H2_) | with_reducible exact H | (rw [hy148]; exact H) | exact H
     have Ny148 := Aside0.mk hy148
     clear hy148
     have H' := Aside0.mk H
     clear H
     obtain ⟨Ao7, co7, eo7⟩ := Kd.R_slice HO_0.out
     subst eo7
     have p5 : 0 ≤ (x5_1 : Int) := of_decide_eq_true am
     have q5 : (x5_1 : Int) < ((x0_1.length : Int) : Int) := of_decide_eq_true am
     obtain ⟨go5, co5, eo5, gb5, gl5, cl5, HG5⟩ := Kd.R_form HO_0.out (by omega)
     (first | cases eo5 | (injection eo5 with ea_ en_ ec_; (first | subst ea_ | (injection ea_ with ea_; subst ea_)); subst ec_; clear en_))
     have GB5 := Aside0.mk gb5
     have GG5 := Aside0.mk HG5
     clear gb5 gl5 HG5
     have HMgo5 := Aside0.mk (show (P0_ go5 ∨ w.heap.size ≤ go5) from (HO_0.out.1 _ rfl))
     obtain ⟨ce5, hcl5, hM5, hcc5, hfr5⟩ := Kd.R_elem HO_0.out z92 (x5_1 : Int) p5 q5
     obtain rfl := k92_openM hM5
     have hx5_0 : wr.cell? ⟨go5, (x5_1 : Int).toNat * 2, none⟩ = some (.int .i64 ((rd_T92 x0_1 x5_1).f0)) := hcc5 0 _ rfl
     have hx5_1 : wr.cell? ⟨go5, (x5_1 : Int).toNat * 2 + 1, none⟩ = some (.int .i64 ((rd_T92 x0_1 x5_1).f1)) := hcc5 1 _ rfl
     have hf5_0 : wr.frozen? ⟨go5, (x5_1 : Int).toNat * 2, none⟩ = false := hfr5 0
     have hf5_1 : wr.frozen? ⟨go5, (x5_1 : Int).toNat * 2 + 1, none⟩ = false := hfr5 1
     clear hcl5 hcc5 hfr5 hM5
     replace p5 := eq_true p5
     replace q5 := eq_true q5
     have HX8 := Aside0.mk (show Kd.R k92 92 wr w0.heap.size (fun k_ => (P0_ k_ ∨ w.heap.size ≤ k_)) (.slice (some ⟨go5, 0, none⟩) x0_1.length co7) x0_1 from (rpR HO_0.out))
     obtain ⟨ce8, hcl8, hM8, hcc8, hfr8⟩ := Kd.R_elem HX8.out z92 (x5_1 : Int) (of_decide_eq_true am) (by have h_ : (x5_1 : Int) < ((x0_1.length : Int) : Int) := of_decide_eq_true am; first | exact h_ | (have e_ := (Kd.R_reads' HO_0.out).1; omega) | simpa using h_)
     obtain rfl := k92_openM hM8
     have HP8 := Kd.R_seg HX8.out (x5_1 : Int) (of_decide_eq_true am) (by have h_ : (x5_1 : Int) < ((x0_1.length : Int) : Int) := of_decide_eq_true am; first | exact h_ | (have e_ := (Kd.R_reads' HO_0.out).1; omega) | simpa using h_) (seg := [.int .i64 x1_1]) (j := 0) hcl8 hcc8 (show 1 ≤ 2 from by decide) (x' := (⟨x1_1, (rd_T92 x0_1 x5_1).f1⟩ : S92)) (k92_mkM _ _ _ (⟨x1_1, (rd_T92 x0_1 x5_1).f1⟩ : S92) ) (fun _ hk => hk)
     have hx8_0 := hcc8 0 _ rfl
     (try simp only [show (k92).sz = 2 from rfl, Nat.mul_one, Nat.add_zero] at hx8_0)
     have hf8_0 := hfr8 0
     (try simp only [show (k92).sz = 2 from rfl, Nat.mul_one, Nat.add_zero] at hf8_0)
     clear hcl8 hcc8 hfr8 hM8
     go_wp2_with (first | ((with_reducible refine gate_store (t := 3) (p := 16) rfl ?_); refine store_event (t := 3) (p := 16) (v := ?vo_w9) (w1 := (wr.setCell ⟨go5, (x5_1 : Int).toNat * 2, none⟩ (.int .i64 x1_1))) ?hg ?ho ?hn ?hr ?_; (case ho => rfl); (case hg => rfl); (case hn => rfl); (case hr => first | (go_simp; done) | (go_simp; rfl)); intro w9 hw; have hg : wr.grownBy w9 (some go5) := (by rw [hw]; exact HP8.2); have hp_ : Kd.R k92 92 w9 w0.heap.size (fun k_ => (P0_ k_ ∨ w.heap.size ≤ k_)) (.slice (some ⟨go5, 0, none⟩) x0_1.length co7) y147 := (by rw [hw, Ny147.out]; exact HP8.1); clear HP8; replace HB := Aside0.mk ((by rw [hw]; exact below_set (HB.out) GB5.out : Below w0.heap.size w0 w9)); replace HK := Aside0.mk (Kept.of_grown (S := (fun k_ => P0_ k_)) hg (by repeat (first | (with_reducible first | exact HK.out | apply Kept.alloc | apply Kept.drewN | apply Kept.drew) | exact HK.out)) (fun k_ e_ => (HO_0.out.1 k_ e_))); replace HO_0 := Aside0.mk (hp_); clear hg hw hp_; have p6 : 0 ≤ (x5_1 : Int) := of_decide_eq_true am; have q6 : (x5_1 : Int) < ((x0_1.length : Int) : Int) := of_decide_eq_true am; obtain ⟨ce6, hcl6, hM6, hcc6, hfr6⟩ := Kd.R_elem HO_0.out z92 (x5_1 : Int) p6 q6; obtain rfl := k92_openM hM6; have hx6_0 : w9.cell? ⟨go5, (x5_1 : Int).toNat * 2, none⟩ = some (.int .i64 ((rd_T92 y147 x5_1).f0)) := hcc6 0 _ rfl; have hx6_1 : w9.cell? ⟨go5, (x5_1 : Int).toNat * 2 + 1, none⟩ = some (.int .i64 ((rd_T92 y147 x5_1).f1)) := hcc6 1 _ rfl; have hf6_0 : w9.frozen? ⟨go5, (x5_1 : Int).toNat * 2, none⟩ = false := hfr6 0; have hf6_1 : w9.frozen? ⟨go5, (x5_1 : Int).toNat * 2 + 1, none⟩ = false := hfr6 1; clear hcl6 hcc6 hfr6 hM6; replace p6 := eq_true p6; replace q6 := eq_true q6; have HX10 := Aside0.mk (show Kd.R k92 92 w9 w0.heap.size (fun k_ => (P0_ k_ ∨ w.heap.size ≤ k_)) (.slice (some ⟨go5, 0, none⟩) x0_1.length co7) y147 from (rpR HO_0.out)); obtain ⟨ce10, hcl10, hM10, hcc10, hfr10⟩ := Kd.R_elem HX10.out z92 (x5_1 : Int) (of_decide_eq_true am) (by have h_ : (x5_1 : Int) < ((x0_1.length : Int) : Int) := of_decide_eq_true am; first | exact h_ | (have e_ := (Kd.R_reads' HO_0.out).1; omega) | simpa using h_); obtain rfl := k92_openM hM10; have HP10 := Kd.R_seg HX10.out (x5_1 : Int) (of_decide_eq_true am) (by have h_ : (x5_1 : Int) < ((x0_1.length : Int) : Int) := of_decide_eq_true am; first | exact h_ | (have e_ := (Kd.R_reads' HO_0.out).1; omega) | simpa using h_) (seg := [.int .i64 (wrap64 (x1_1 + 1))]) (j := 1) hcl10 hcc10 (show 2 ≤ 2 from by decide) (x' := (⟨(rd_T92 y147 x5_1).f0, wrap64 (x1_1 + 1)⟩ : S92)) (k92_mkM _ _ _ (⟨(rd_T92 y147 x5_1).f0, wrap64 (x1_1 + 1)⟩ : S92) ) (fun _ hk => hk); have hx10_1 := hcc10 1 _ rfl; (try simp only [show (k92).sz = 2 from rfl, Nat.mul_one, Nat.add_zero] at hx10_1); have hf10_1 := hfr10 1; (try simp only [show (k92).sz = 2 from rfl, Nat.mul_one, Nat.add_zero] at hf10_1); clear hcl10 hcc10 hfr10 hM10) | ((with_reducible refine gate_store (t := 3) (p := 23) rfl ?_); refine store_event (t := 3) (p := 23) (v := ?vo_w11) (w1 := (w9.setCell ⟨go5, (x5_1 : Int).toNat * 2 + 1, none⟩ (.int .i64 (wrap64 (x1_1 + 1))))) ?hg ?ho ?hn ?hr ?_; (case ho => rfl); (case hg => rfl); (case hn => rfl); (case hr => first | (go_simp; done) | (go_simp; rfl)); intro w11 hw; have hg : w9.grownBy w11 (some go5) := (by rw [hw]; exact HP10.2); have hp_ : Kd.R k92 92 w11 w0.heap.size (fun k_ => (P0_ k_ ∨ w.heap.size ≤ k_)) (.slice (some ⟨go5, 0, none⟩) x0_1.length co7) y148 := (by rw [hw, Ny148.out]; exact HP10.1); clear HP10; replace HB := Aside0.mk ((by rw [hw]; exact below_set (HB.out) GB5.out : Below w0.heap.size w0 w11)); replace HK := Aside0.mk (Kept.of_grown (S := (fun k_ => P0_ k_)) hg (by repeat (first | (with_reducible first | exact HK.out | apply Kept.alloc | apply Kept.drewN | apply Kept.drew) | exact HK.out)) (fun k_ e_ => (HO_0.out.1 k_ e_))); replace HO_0 := Aside0.mk (hp_); clear hg hw hp_))
     go_roundg k1
     case measure => have := HK1.out; omega
     case rel => exact ⟨(y148), (wrap64 ((wrap64 (x1_1 + 1)) + 1)), (wrap64 (x5_1 + 1)), fa, fa, H', ⟨by have := HK1.out; omega⟩, ⟨rpR HO_0.out⟩, ⟨by repeat (first | (with_reducible first | exact HK.out | apply Kept.alloc | apply Kept.drewN | apply Kept.drew) | exact HK.out)⟩, ⟨bl⟩⟩
    ·rw [if_neg c4] at H
     exact absurd H (by simp)
   ·rw [if_neg c3] at H
    have c3b0 : decide (x5_1 < (x0_1.length : Int)) = false := decide_eq_false c3
    clear c3
    simp only [Option.some.injEq, Prod.mk.injEq] at H
    obtain ⟨rfl, rfl⟩ := H
    obtain ⟨Ao12, co12, eo12⟩ := Kd.R_slice HO_0.out
    subst eo12
    go_wp2
    go_ret
    exact ⟨fe, rpR HO_0.out, bl, by repeat (first | (with_reducible first | exact HK.out | apply Kept.alloc | apply Kept.drewN | apply Kept.drew) | exact HK.out)⟩

/-! ### laws_heldPointS: function 29 -/
def laws_heldPointS.l0 : Nat → List (S92) → Int → Int → Option (Int)
 | 0, _, _, _ => none
 | k + 1, x0, x1, x5 => if x5 < (x0.length : Int) then (if 0 ≤ x5 then (if ((rd_T92 x0 x5).f0) = x1 then (if ((rd_T92 x0 x5).f1) = (wrap64 (x1 + 1)) then (laws_heldPointS.l0 k x0 (wrap64 ((wrap64 (x1 + 1)) + 1)) (wrap64 (x5 + 1))) else (some (-1))) else (some (-1))) else (none)) else (some x1)
def laws_heldPointS.f (k : Nat) (l0 : List (S92)) (a1 : Int) : Option (Int) := laws_heldPointS.l0 k l0 a1 0
theorem laws_heldPointS.mono_l : ∀ k, (∀ y0 y1 y2, LeO (laws_heldPointS.l0 k y0 y1 y2) (laws_heldPointS.l0 (k + 1) y0 y1 y2))
 | 0 => fun _ _ _ r h => by simp [laws_heldPointS.l0] at h
 | k + 1 => by
  have ih0 := laws_heldPointS.mono_l k
  ·intro y0 y1 y2
   unfold laws_heldPointS.l0
   repeat' first
   | (with_reducible exact ih0 _ _ _)
   | (with_reducible exact LeO.refl _)
   | (with_reducible exact LeO.none _)
   | (with_reducible refine LeO.ite ?_ ?_)
   | (with_reducible refine LeO.bind ?_ (fun _ => ?_))
   | exact ih0 _ _ _
   | exact LeO.none _
   | refine LeO.ite ?_ ?_
   | refine LeO.bind ?_ (fun _ => ?_)
theorem laws_heldPointS.mono : ∀ a0 a1 k, LeO (laws_heldPointS.f k a0 a1) (laws_heldPointS.f (k + 1) a0 a1) := by
 intro a0 a1 k
 have ih0 := laws_heldPointS.mono_l k
 unfold laws_heldPointS.f
 repeat' first
  | (with_reducible exact ih0 _ _ _)
  | (with_reducible exact LeO.refl _)
  | (with_reducible exact LeO.none _)
  | (with_reducible refine LeO.ite ?_ ?_)
  | (with_reducible refine LeO.bind ?_ (fun _ => ?_))
  | exact ih0 _ _ _
  | exact LeO.none _
  | refine LeO.ite ?_ ?_
  | refine LeO.bind ?_ (fun _ => ?_)
set_option maxHeartbeats 8000000 in
set_option maxRecDepth 100000 in
theorem laws_heldPointS.calls (k : Nat) (A0 : Option Addr) (c0 : Nat) (l0 : List (S92)) (a1 : Int) (r : Int) (w : World) (hr0 : Kd.C k92 w A0 l0.length l0) (hc0 : l0.length ≤ c0) (h : laws_heldPointS.f k l0 a1 = some r) :
 Calls Try.prog 29 #[.slice A0 l0.length c0, .int .i64 a1] w fun e w' => e = .returned (.int .i64 r) ∧ Drawn0 w w' := by
 have HR0 := Aside0.mk hr0
 have HC0 := Aside0.mk hc0
 clear hr0 hc0
 have H : (laws_heldPointS.l0 k l0 a1 0) = some r := h
 clear h
 have H' := Aside0.mk H
 clear H
 go_enter Try.func29, Try.ntmps29
 go_wp2
 go_loopg [1, 5] k (fun kq v1 v5 w' => ∃ (x1_1 : Int) (x5_1 : Int), v1 = .int .i64 x1_1 ∧ v5 = .int .i64 x5_1 ∧ Aside0 (laws_heldPointS.l0 kq l0 x1_1 x5_1 = some r) ∧ Aside0 (kq ≤ k) ∧ Drawn0 w w')
 case atStart => exact ⟨(a1), (0), fa, fa, H', ⟨Nat.le_refl _⟩, fd⟩
 case round =>
  clear H'
  try clear c2
  try clear p2
  obtain ⟨x1_1, x5_1, rfl, rfl, HA, HK1, ⟨m1, rfl⟩⟩ := hrel
  cases gk with
  | zero => exact absurd HA.out (by simp [laws_heldPointS.l0])
  | succ k1 =>
   have H := HA.out
   clear HA
   simp only [laws_heldPointS.l0] at H
   by_cases c3 : x5_1 < (l0.length : Int)
   ·rw [if_pos c3] at H
    have c3b0 : decide (x5_1 < (l0.length : Int)) = true := decide_eq_true c3
    clear c3
    by_cases c4 : 0 ≤ x5_1
    ·rw [if_pos c4] at H
     have c4b0 : decide (0 ≤ x5_1) = true := decide_eq_true c4
     clear c4
     by_cases c5 : ((rd_T92 l0 x5_1).f0) = x1_1
     ·rw [if_pos c5] at H
      have c5b0 : (((rd_T92 l0 x5_1).f0) == x1_1) = true := beq_iff_eq.mpr c5
      have c5b1 : (((rd_T92 l0 x5_1).f0) != x1_1) = false := bne_eq_false_iff_eq.mpr c5
      clear c5
      by_cases c6 : ((rd_T92 l0 x5_1).f1) = (wrap64 (x1_1 + 1))
      ·rw [if_pos c6] at H
       have c6b0 : (((rd_T92 l0 x5_1).f1) == (wrap64 (x1_1 + 1))) = true := beq_iff_eq.mpr c6
       have c6b1 : (((rd_T92 l0 x5_1).f1) != (wrap64 (x1_1 + 1))) = false := bne_eq_false_iff_eq.mpr c6
       clear c6
       have H' := Aside0.mk H
       clear H
       have p149 : 0 ≤ (x5_1 : Int) := of_decide_eq_true am
       have q149 : x5_1 < (l0.length : Int) := of_decide_eq_true am
       obtain ⟨ad149, e149, hx149_0, hx149_1⟩ := at_T92 HR0.out x5_1 p149 q149
       cases e149
       replace p149 := eq_true p149
       replace q149 := eq_true q149
       have p150 : 0 ≤ (x5_1 : Int) := of_decide_eq_true am
       have q150 : x5_1 < (l0.length : Int) := of_decide_eq_true am
       obtain ⟨ad150, e150, hx150_0, hx150_1⟩ := at_T92 HR0.out x5_1 p150 q150
       obtain rfl : ad149 = ad150 := (by injection e150)
       replace p150 := eq_true p150
       replace q150 := eq_true q150
       go_wp2
       go_roundg k1
       case measure => have := HK1.out; omega
       case rel => exact ⟨(wrap64 ((wrap64 (x1_1 + 1)) + 1)), (wrap64 (x5_1 + 1)), fa, fa, H', ⟨by have := HK1.out; omega⟩, fd⟩
      ·rw [if_neg c6] at H
       have c6b0 : (((rd_T92 l0 x5_1).f1) == (wrap64 (x1_1 + 1))) = false := beq_eq_false_iff_ne.mpr c6
       have c6b1 : (((rd_T92 l0 x5_1).f1) != (wrap64 (x1_1 + 1))) = true := bne_iff_ne.mpr c6
       obtain rfl := Option.some.inj H
       have p149 : 0 ≤ (x5_1 : Int) := of_decide_eq_true am
       have q149 : x5_1 < (l0.length : Int) := of_decide_eq_true am
       obtain ⟨ad149, e149, hx149_0, hx149_1⟩ := at_T92 HR0.out x5_1 p149 q149
       cases e149
       replace p149 := eq_true p149
       replace q149 := eq_true q149
       have p150 : 0 ≤ (x5_1 : Int) := of_decide_eq_true am
       have q150 : x5_1 < (l0.length : Int) := of_decide_eq_true am
       obtain ⟨ad150, e150, hx150_0, hx150_1⟩ := at_T92 HR0.out x5_1 p150 q150
       obtain rfl : ad149 = ad150 := (by injection e150)
       replace p150 := eq_true p150
       replace q150 := eq_true q150
       go_wp2
       go_ret
       exact ⟨fa, fd⟩
     ·rw [if_neg c5] at H
      have c5b0 : (((rd_T92 l0 x5_1).f0) == x1_1) = false := beq_eq_false_iff_ne.mpr c5
      have c5b1 : (((rd_T92 l0 x5_1).f0) != x1_1) = true := bne_iff_ne.mpr c5
      obtain rfl := Option.some.inj H
      have p149 : 0 ≤ (x5_1 : Int) := of_decide_eq_true am
      have q149 : x5_1 < (l0.length : Int) := of_decide_eq_true am
      obtain ⟨ad149, e149, hx149_0, hx149_1⟩ := at_T92 HR0.out x5_1 p149 q149
      cases e149
      replace p149 := eq_true p149
      replace q149 := eq_true q149
      go_wp2
      go_ret
      exact ⟨fa, fd⟩
    ·rw [if_neg c4] at H
     exact absurd H (by simp)
   ·rw [if_neg c3] at H
    have c3b0 : decide (x5_1 < (l0.length : Int)) = false := decide_eq_false c3
    clear c3
    obtain rfl := Option.some.inj H
    go_wp2
    go_ret
    exact ⟨fa, fd⟩

end Go.Proofs.Ytfmddjbekophnaa.PFnExactSlice
