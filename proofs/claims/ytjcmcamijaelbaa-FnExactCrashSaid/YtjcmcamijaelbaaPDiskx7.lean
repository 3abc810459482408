/- Functions of the program, each with its contract, written by a program out of the translation. -/
import Derived.Test.YtjcmcamijaelbaaPDiskx0
import Derived.Test.YtjcmcamijaelbaaZap
namespace Go.Proofs.Ytjcmcamijaelbaa.PDisk
open Go.RowKit Go.Proofs.YtjcmcamijaelbaaW.PrintWords Go.Proofs.YtjcmcamijaelbaaW.PrintLast Go.Proofs.YtjcmcamijaelbaaW.PrintMore Go.Proofs.Ytjcmcamijaelbaa.Zip
attribute [local go_sem] max2_int min2_int max_two min_two max_three min_three max_four min_four   -- for this text's walks alone
set_option linter.unusedVariables false
set_option linter.unusedSimpArgs false
/-! ### impl_from: function 54 -/
def impl_from.f (a0 : Int) (a1 : Int) (a2 : Int) : Option (Bool) := if a0 ≥ a1 then (some (decide (a0 ≤ a2))) else (some false)
set_option maxHeartbeats 8000000 in
set_option maxRecDepth 100000 in
theorem impl_from.calls (a0 : Int) (a1 : Int) (a2 : Int) (r : Bool) (w : World) (h : impl_from.f a0 a1 a2 = some r) :
 Calls Try.prog 54 #[.int .i64 a0, .int .i64 a1, .int .i64 a2] w fun e w' => e = .returned (.bool r) ∧ Drawn0 w w' := by
 have H : (if a0 ≥ a1 then (some (decide (a0 ≤ a2))) else (some false)) = some r := h; clear h; by_cases c4 : a0 ≥ a1
 ·rw [if_pos c4] at H; have c4b0 : decide (a1 ≤ a0) = true := dt c4; clear c4; obtain rfl := oj H
  go_enter Try.func54, Try.ntmps54
  go_wp2
  go_ret
  exact ⟨fa, fd⟩
 ·rw [if_neg c4] at H; have c4b0 : decide (a1 ≤ a0) = false := df c4; clear c4; obtain rfl := oj H
  go_enter Try.func54, Try.ntmps54
  go_wp2
  go_ret
  exact ⟨fa, fd⟩
/-! ### impl_nameOk: function 86 -/
def impl_nameOk.l0 : Nat → ByteArray → Int → Int → Option (Bool)
 | 0, _, _, _ => none
 | k + 1, x0, x5, x6 => if x6 < x5 then (if 0 ≤ x6 then (if x6 < (x0.size : Int) then (if (bt x0 x6) < 97 then (if (bt x0 x6) < 48 then (if (bt x0 x6) = 46 then (impl_nameOk.l0 k x0 x5 (wrap64 (x6 + 1))) else (some false)) else (if (bt x0 x6) > 57 then (if (bt x0 x6) = 46 then (impl_nameOk.l0 k x0 x5 (wrap64 (x6 + 1))) else (some false)) else (impl_nameOk.l0 k x0 x5 (wrap64 (x6 + 1))))) else (if (bt x0 x6) > 122 then (if (bt x0 x6) < 48 then (if (bt x0 x6) = 46 then (impl_nameOk.l0 k x0 x5 (wrap64 (x6 + 1))) else (some false)) else (if (bt x0 x6) > 57 then (if (bt x0 x6) = 46 then (impl_nameOk.l0 k x0 x5 (wrap64 (x6 + 1))) else (some false)) else (impl_nameOk.l0 k x0 x5 (wrap64 (x6 + 1))))) else (impl_nameOk.l0 k x0 x5 (wrap64 (x6 + 1))))) else (none)) else (none)) else ((impl_from.f (x0.size : Int) 1 12).bind fun t294 => (some t294))
def impl_nameOk.f (k : Nat) (a0 : ByteArray) : Option (Bool) := impl_nameOk.l0 k a0 (a0.size : Int) 0
theorem impl_nameOk.mono_l : ∀ k, (∀ y0 y1 y2, LeO (impl_nameOk.l0 k y0 y1 y2) (impl_nameOk.l0 (k + 1) y0 y1 y2))
 | 0 => fun _ _ _ r h => by simp [impl_nameOk.l0] at h
 | k + 1 => by
  have ih0 := impl_nameOk.mono_l k
  ·intro y0 y1 y2
   unfold impl_nameOk.l0
   repeat' first
   | (with_reducible exact ih0 _ _ _)
   | (with_reducible exact LeO.refl _)
   | (with_reducible exact LeO.none _)
   | (with_reducible refine LeO.ite ?_ ?_)
   | (with_reducible refine LeO.bind ?_ (fun _ => ?_))
theorem impl_nameOk.mono : ∀ a0 k, LeO (impl_nameOk.f k a0) (impl_nameOk.f (k + 1) a0) := by
 intro a0 k; have ih0 := impl_nameOk.mono_l k; unfold impl_nameOk.f
 repeat' first
  | (with_reducible exact ih0 _ _ _)
  | (with_reducible exact LeO.refl _)
  | (with_reducible exact LeO.none _)
  | (with_reducible refine LeO.ite ?_ ?_)
  | (with_reducible refine LeO.bind ?_ (fun _ => ?_))
set_option maxHeartbeats 8000000 in
set_option maxRecDepth 100000 in
theorem impl_nameOk.calls (k : Nat) (a0 : ByteArray) (r : Bool) (w : World) (h : impl_nameOk.f k a0 = some r) :
 Calls Try.prog 86 #[.string a0] w fun e w' => e = .returned (.bool r) ∧ Drawn0 w w' := by
 have H : (impl_nameOk.l0 k a0 (a0.size : Int) 0) = some r := h; clear h; have H' := aK H; clear H
 go_enter Try.func86, Try.ntmps86
 go_wp2
 go_loopg [6] k (fun kq v6 w' => ∃ (x6_1 : Int), v6 = .int .i64 x6_1 ∧ Aside0 (impl_nameOk.l0 kq a0 (a0.size : Int) x6_1 = some r) ∧ Aside0 (kq ≤ k) ∧ Drawn0 w w')
 case atStart => exact ⟨(0), fa, H', ⟨Nat.le_refl _⟩, fd⟩
 case round =>
  clear H'; obtain ⟨x6_1, rfl, HA, HK1, ⟨m1, rfl⟩⟩ := hrel; cases gk with
  | zero => exact absurd HA.o (by simp [impl_nameOk.l0])
  | succ k1 =>
   have H := HA.o; clear HA; simp only [impl_nameOk.l0] at H; by_cases c2 : x6_1 < (a0.size : Int)
   ·rw [if_pos c2] at H; have c2b0 : decide (x6_1 < (a0.size : Int)) = true := dt c2; clear c2; by_cases c3 : 0 ≤ x6_1
    ·rw [if_pos c3] at H; have c3b0 : decide (0 ≤ x6_1) = true := dt c3; clear c3; by_cases c4 : x6_1 < (a0.size : Int)
     ·rw [if_pos c4] at H; have c4b0 : decide (x6_1 < (a0.size : Int)) = true := dt c4; clear c4; have Hq_ := aK H; clear H; have p5 : 0 ≤ (x6_1 : Int) := dT am; have q5 : x6_1 < (a0.size : Int) := dT am; have hx5 := bt_at a0 x6_1; replace p5 := eq_true p5; replace q5 := eq_true q5; have H := Hq_.o; clear Hq_; by_cases c6 : (bt a0 x6_1) < 97
      ·rw [if_pos c6] at H; have c6b0 : decide ((bt a0 x6_1) < 97) = true := dt c6; (try rw [c6b0]); clear c6; have Hq_ := aK H; clear H; have p7 : 0 ≤ (x6_1 : Int) := dT am; have q7 : x6_1 < (a0.size : Int) := dT am; have hx7 := bt_at a0 x6_1; replace p7 := eq_true p7; replace q7 := eq_true q7; have H := Hq_.o; clear Hq_; by_cases c8 : (bt a0 x6_1) < 48
       ·rw [if_pos c8] at H; have c8b0 : decide ((bt a0 x6_1) < 48) = true := dt c8; (try rw [c8b0]); clear c8; have Hq_ := aK H; clear H; have p9 : 0 ≤ (x6_1 : Int) := dT am; have q9 : x6_1 < (a0.size : Int) := dT am; have hx9 := bt_at a0 x6_1; replace p9 := eq_true p9; replace q9 := eq_true q9; have H := Hq_.o; clear Hq_; by_cases c10 : (bt a0 x6_1) = 46
        ·rw [if_pos c10] at H; have c10b0 : ((bt a0 x6_1) == 46) = true := beq_iff_eq.mpr c10; (try rw [c10b0]); have c10b1 : ((bt a0 x6_1) != 46) = false := bE c10; (try rw [c10b1]); clear c10; have H' := aK H; clear H; go_wp2
         go_roundg k1
         case measure => have := HK1.o; omega
         case rel => exact ⟨(wrap64 (x6_1 + 1)), fa, H', ⟨by have := HK1.o; omega⟩, fd⟩
        ·rw [if_neg c10] at H; have c10b0 : ((bt a0 x6_1) == 46) = false := bN c10; (try rw [c10b0]); have c10b1 : ((bt a0 x6_1) != 46) = true := bne_iff_ne.mpr c10; (try rw [c10b1]); obtain rfl := oj H; go_wp2
         go_ret
         exact ⟨fa, fd⟩
       ·rw [if_neg c8] at H; have c8b0 : decide ((bt a0 x6_1) < 48) = false := df c8; (try rw [c8b0]); clear c8; have Hq_ := aK H; clear H; have p11 : 0 ≤ (x6_1 : Int) := dT am; have q11 : x6_1 < (a0.size : Int) := dT am; have hx11 := bt_at a0 x6_1; replace p11 := eq_true p11; replace q11 := eq_true q11; have H := Hq_.o; clear Hq_; by_cases c12 : (bt a0 x6_1) > 57
        ·rw [if_pos c12] at H; have c12b0 : decide (57 < (bt a0 x6_1)) = true := dt c12; (try rw [c12b0]); clear c12; have Hq_ := aK H; clear H; have p13 : 0 ≤ (x6_1 : Int) := dT am; have q13 : x6_1 < (a0.size : Int) := dT am; have hx13 := bt_at a0 x6_1; replace p13 := eq_true p13; replace q13 := eq_true q13; have H := Hq_.o; clear Hq_; by_cases c14 : (bt a0 x6_1) = 46
         ·rw [if_pos c14] at H; have c14b0 : ((bt a0 x6_1) == 46) = true := beq_iff_eq.mpr c14; (try rw [c14b0]); have c14b1 : ((bt a0 x6_1) != 46) = false := bE c14; (try rw [c14b1]); clear c14; have H' := aK H; clear H; go_wp2
          go_roundg k1
          case measure => have := HK1.o; omega
          case rel => exact ⟨(wrap64 (x6_1 + 1)), fa, H', ⟨by have := HK1.o; omega⟩, fd⟩
         ·rw [if_neg c14] at H; have c14b0 : ((bt a0 x6_1) == 46) = false := bN c14; (try rw [c14b0]); have c14b1 : ((bt a0 x6_1) != 46) = true := bne_iff_ne.mpr c14; (try rw [c14b1]); obtain rfl := oj H; go_wp2
          go_ret
          exact ⟨fa, fd⟩
        ·rw [if_neg c12] at H; have c12b0 : decide (57 < (bt a0 x6_1)) = false := df c12; (try rw [c12b0]); clear c12; have H' := aK H; clear H; go_wp2
         go_roundg k1
         case measure => have := HK1.o; omega
         case rel => exact ⟨(wrap64 (x6_1 + 1)), fa, H', ⟨by have := HK1.o; omega⟩, fd⟩
      ·rw [if_neg c6] at H; have c6b0 : decide ((bt a0 x6_1) < 97) = false := df c6; (try rw [c6b0]); clear c6; have Hq_ := aK H; clear H; have p15 : 0 ≤ (x6_1 : Int) := dT am; have q15 : x6_1 < (a0.size : Int) := dT am; have hx15 := bt_at a0 x6_1; replace p15 := eq_true p15; replace q15 := eq_true q15; have H := Hq_.o; clear Hq_; by_cases c16 : (bt a0 x6_1) > 122
       ·rw [if_pos c16] at H; have c16b0 : decide (122 < (bt a0 x6_1)) = true := dt c16; (try rw [c16b0]); clear c16; have Hq_ := aK H; clear H; have p17 : 0 ≤ (x6_1 : Int) := dT am; have q17 : x6_1 < (a0.size : Int) := dT am; have hx17 := bt_at a0 x6_1; replace p17 := eq_true p17; replace q17 := eq_true q17; have H := Hq_.o; clear Hq_; by_cases c18 : (bt a0 x6_1) < 48
        ·rw [if_pos c18] at H; have c18b0 : decide ((bt a0 x6_1) < 48) = true := dt c18; (try rw [c18b0]); clear c18; have Hq_ := aK H; clear H; have p19 : 0 ≤ (x6_1 : Int) := dT am; have q19 : x6_1 < (a0.size : Int) := dT am; have hx19 := bt_at a0 x6_1; replace p19 := eq_true p19; replace q19 := eq_true q19; have H := Hq_.o; clear Hq_; by_cases c20 : (bt a0 x6_1) = 46
         ·rw [if_pos c20] at H; have c20b0 : ((bt a0 x6_1) == 46) = true := beq_iff_eq.mpr c20; (try rw [c20b0]); have c20b1 : ((bt a0 x6_1) != 46) = false := bE c20; (try rw [c20b1]); clear c20; have H' := aK H; clear H; go_wp2
          go_roundg k1
          case measure => have := HK1.o; omega
          case rel => exact ⟨(wrap64 (x6_1 + 1)), fa, H', ⟨by have := HK1.o; omega⟩, fd⟩
         ·rw [if_neg c20] at H; have c20b0 : ((bt a0 x6_1) == 46) = false := bN c20; (try rw [c20b0]); have c20b1 : ((bt a0 x6_1) != 46) = true := bne_iff_ne.mpr c20; (try rw [c20b1]); obtain rfl := oj H; go_wp2
          go_ret
          exact ⟨fa, fd⟩
        ·rw [if_neg c18] at H; have c18b0 : decide ((bt a0 x6_1) < 48) = false := df c18; (try rw [c18b0]); clear c18; have Hq_ := aK H; clear H; have p21 : 0 ≤ (x6_1 : Int) := dT am; have q21 : x6_1 < (a0.size : Int) := dT am; have hx21 := bt_at a0 x6_1; replace p21 := eq_true p21; replace q21 := eq_true q21; have H := Hq_.o; clear Hq_; by_cases c22 : (bt a0 x6_1) > 57
         ·rw [if_pos c22] at H; have c22b0 : decide (57 < (bt a0 x6_1)) = true := dt c22; (try rw [c22b0]); clear c22; have Hq_ := aK H; clear H; have p23 : 0 ≤ (x6_1 : Int) := dT am; have q23 : x6_1 < (a0.size : Int) := dT am; have hx23 := bt_at a0 x6_1; replace p23 := eq_true p23; replace q23 := eq_true q23; have H := Hq_.o; clear Hq_; by_cases c24 : (bt a0 x6_1) = 46
          ·rw [if_pos c24] at H; have c24b0 : ((bt a0 x6_1) == 46) = true := beq_iff_eq.mpr c24; (try rw [c24b0]); have c24b1 : ((bt a0 x6_1) != 46) = false := bE c24; (try rw [c24b1]); clear c24; have H' := aK H; clear H; go_wp2
           go_roundg k1
           case measure => have := HK1.o; omega
           case rel => exact ⟨(wrap64 (x6_1 + 1)), fa, H', ⟨by have := HK1.o; omega⟩, fd⟩
          ·rw [if_neg c24] at H; have c24b0 : ((bt a0 x6_1) == 46) = false := bN c24; (try rw [c24b0]); have c24b1 : ((bt a0 x6_1) != 46) = true := bne_iff_ne.mpr c24; (try rw [c24b1]); obtain rfl := oj H; go_wp2
           go_ret
           exact ⟨fa, fd⟩
         ·rw [if_neg c22] at H; have c22b0 : decide (57 < (bt a0 x6_1)) = false := df c22; (try rw [c22b0]); clear c22; have H' := aK H; clear H; go_wp2
          go_roundg k1
          case measure => have := HK1.o; omega
          case rel => exact ⟨(wrap64 (x6_1 + 1)), fa, H', ⟨by have := HK1.o; omega⟩, fd⟩
       ·rw [if_neg c16] at H; have c16b0 : decide (122 < (bt a0 x6_1)) = false := df c16; (try rw [c16b0]); clear c16; have H' := aK H; clear H; go_wp2
        go_roundg k1
        case measure => have := HK1.o; omega
        case rel => exact ⟨(wrap64 (x6_1 + 1)), fa, H', ⟨by have := HK1.o; omega⟩, fd⟩
     ·rw [if_neg c4] at H; exact absurd H (by simp)
    ·rw [if_neg c3] at H; exact absurd H (by simp)
   ·rw [if_neg c2] at H; have c2b0 : decide (x6_1 < (a0.size : Int)) = false := df c2; clear c2; obtain ⟨t294, A25, H⟩ := bd H; obtain rfl := oj H; go_wp2_with (first | ((with_reducible refine gC 54 rfl ?_); refine goesZ (some 40) rfl Try.func54 #[.int .i64 (a0.size : Int), .int .i64 1, .int .i64 12] ?_; (with_reducible refine (impl_from.calls (a0.size : Int) 1 12 t294 _ A25.o).mono ?_); rintro e w' ⟨rfl, ⟨nd, rfl⟩⟩; refine ⟨_, rfl, ?_⟩))
    go_ret
    exact ⟨fa, fd⟩
-- NOT PRINTED: function 132 (impl_Inode)
/-! ### slices_Index_int_int: function 134 -/
def slices_Index_int_int.l0 : Nat → List Int → Int → Int → Int → Option (Int)
 | 0, _, _, _, _ => none
 | k + 1, x0, x1, x7, x8 => if x8 < x7 then (if 0 ≤ x8 then (if x8 < (x0.length : Int) then (if x1 = (rd x0 x8) then (some x8) else (slices_Index_int_int.l0 k x0 x1 x7 (wrap64 (x8 + 1)))) else (none)) else (none)) else (some (-1))
def slices_Index_int_int.f (k : Nat) (l0 : List Int) (a1 : Int) : Option (Int) := slices_Index_int_int.l0 k l0 a1 (l0.length : Int) 0
theorem slices_Index_int_int.mono_l : ∀ k, (∀ y0 y1 y2 y3, LeO (slices_Index_int_int.l0 k y0 y1 y2 y3) (slices_Index_int_int.l0 (k + 1) y0 y1 y2 y3))
 | 0 => fun _ _ _ _ r h => by simp [slices_Index_int_int.l0] at h
 | k + 1 => by
  have ih0 := slices_Index_int_int.mono_l k
  ·intro y0 y1 y2 y3
   unfold slices_Index_int_int.l0
   repeat' first
   | (with_reducible exact ih0 _ _ _ _)
   | (with_reducible exact LeO.refl _)
   | (with_reducible exact LeO.none _)
   | (with_reducible refine LeO.ite ?_ ?_)
   | (with_reducible refine LeO.bind ?_ (fun _ => ?_))
theorem slices_Index_int_int.mono : ∀ a0 a1 k, LeO (slices_Index_int_int.f k a0 a1) (slices_Index_int_int.f (k + 1) a0 a1) := by
 intro a0 a1 k; have ih0 := slices_Index_int_int.mono_l k; unfold slices_Index_int_int.f
 repeat' first
  | (with_reducible exact ih0 _ _ _ _)
  | (with_reducible exact LeO.refl _)
  | (with_reducible exact LeO.none _)
  | (with_reducible refine LeO.ite ?_ ?_)
  | (with_reducible refine LeO.bind ?_ (fun _ => ?_))
set_option maxHeartbeats 8000000 in
set_option maxRecDepth 100000 in
theorem slices_Index_int_int.calls (k : Nat) (A0 : Option Addr) (c0 : Nat) (l0 : List Int) (a1 : Int) (r : Int) (w : World) (hr0 : Kd.C (Kd.int .i64) w A0 l0.length l0) (hc0 : l0.length ≤ c0) (h : slices_Index_int_int.f k l0 a1 = some r) :
 Calls Try.prog 134 #[.slice A0 l0.length c0, .int .i64 a1] w fun e w' => e = .returned (.int .i64 r) ∧ Drawn0 w w' := by
 have HR0 := aK hr0; have HC0 := aK hc0; clear hr0 hc0; have H : (slices_Index_int_int.l0 k l0 a1 (l0.length : Int) 0) = some r := h; clear h; have H' := aK H; clear H
 go_enter Try.func134, Try.ntmps134
 go_wp2
 go_loopg [8] k (fun kq v8 w' => ∃ (x8_1 : Int), v8 = .int .i64 x8_1 ∧ Aside0 (slices_Index_int_int.l0 kq l0 a1 (l0.length : Int) x8_1 = some r) ∧ Aside0 (kq ≤ k) ∧ Drawn0 w w')
 case atStart => exact ⟨(0), fa, H', ⟨Nat.le_refl _⟩, fd⟩
 case round =>
  clear H'; (try clear c1); (try clear p2); obtain ⟨x8_1, rfl, HA, HK1, ⟨m1, rfl⟩⟩ := hrel; cases gk with
  | zero => exact absurd HA.o (by simp [slices_Index_int_int.l0])
  | succ k1 =>
   have H := HA.o; clear HA; simp only [slices_Index_int_int.l0] at H; by_cases c3 : x8_1 < (l0.length : Int)
   ·rw [if_pos c3] at H; have c3b0 : decide (x8_1 < (l0.length : Int)) = true := dt c3; clear c3; by_cases c4 : 0 ≤ x8_1
    ·rw [if_pos c4] at H; have c4b0 : decide (0 ≤ x8_1) = true := dt c4; clear c4; by_cases c5 : x8_1 < (l0.length : Int)
     ·rw [if_pos c5] at H; have c5b0 : decide (x8_1 < (l0.length : Int)) = true := dt c5; clear c5; have Hq_ := aK H; clear H; have p295 : 0 ≤ (x8_1 : Int) := dT am; have q295 : x8_1 < (l0.length : Int) := dT am; obtain ⟨ad295, e295, hx295_0⟩ := Kd.at_int HR0.o x8_1 p295 q295; cases e295; replace p295 := eq_true p295; replace q295 := eq_true q295; have H := Hq_.o; clear Hq_; by_cases c6 : a1 = (rd l0 x8_1)
      ·rw [if_pos c6] at H; have c6b0 : (a1 == (rd l0 x8_1)) = true := beq_iff_eq.mpr c6; (try rw [c6b0]); have c6b1 : (a1 != (rd l0 x8_1)) = false := bE c6; (try rw [c6b1]); clear c6; obtain rfl := oj H; go_wp2
       go_ret
       exact ⟨fa, fd⟩
      ·rw [if_neg c6] at H; have c6b0 : (a1 == (rd l0 x8_1)) = false := bN c6; (try rw [c6b0]); have c6b1 : (a1 != (rd l0 x8_1)) = true := bne_iff_ne.mpr c6; (try rw [c6b1]); have H' := aK H; clear H; go_wp2
       go_roundg k1
       case measure => have := HK1.o; omega
       case rel => exact ⟨(wrap64 (x8_1 + 1)), fa, H', ⟨by have := HK1.o; omega⟩, fd⟩
     ·rw [if_neg c5] at H; exact absurd H (by simp)
    ·rw [if_neg c4] at H; exact absurd H (by simp)
   ·rw [if_neg c3] at H; have c3b0 : decide (x8_1 < (l0.length : Int)) = false := df c3; clear c3; obtain rfl := oj H; go_wp2
    go_ret
    exact ⟨fa, fd⟩
/-! ### slices_Contains_int_int: function 88 -/
def slices_Contains_int_int.f (k : Nat) (l0 : List Int) (a1 : Int) : Option (Bool) := (slices_Index_int_int.f k l0 a1).bind fun t296 => (some (decide (t296 ≥ 0)))
theorem slices_Contains_int_int.mono : ∀ a0 a1 k, LeO (slices_Contains_int_int.f k a0 a1) (slices_Contains_int_int.f (k + 1) a0 a1) := by
 intro a0 a1 k; unfold slices_Contains_int_int.f
 repeat' first
  | (with_reducible exact slices_Index_int_int.mono _ _ _)
  | (with_reducible exact LeO.refl _)
  | (with_reducible exact LeO.none _)
  | (with_reducible refine LeO.ite ?_ ?_)
  | (with_reducible refine LeO.bind ?_ (fun _ => ?_))
set_option maxHeartbeats 8000000 in
set_option maxRecDepth 100000 in
theorem slices_Contains_int_int.calls (k : Nat) (A0 : Option Addr) (c0 : Nat) (l0 : List Int) (a1 : Int) (r : Bool) (w : World) (hr0 : Kd.C (Kd.int .i64) w A0 l0.length l0) (hc0 : l0.length ≤ c0) (h : slices_Contains_int_int.f k l0 a1 = some r) :
 Calls Try.prog 88 #[.slice A0 l0.length c0, .int .i64 a1] w fun e w' => e = .returned (.bool r) ∧ Drawn0 w w' := by
 have HR0 := aK hr0; have HC0 := aK hc0; clear hr0 hc0; have H : ((slices_Index_int_int.f k l0 a1).bind fun t296 => (some (decide (t296 ≥ 0)))) = some r := h; clear h; obtain ⟨t296, A3, H⟩ := bd H; obtain rfl := oj H
 go_enter Try.func88, Try.ntmps88
 go_wp2_with (first | ((with_reducible refine gC 134 rfl ?_); refine goesZ (some 7) rfl Try.func134 #[.slice A0 l0.length c0, .int .i64 a1] ?_; (with_reducible refine (slices_Index_int_int.calls k _ _ l0 a1 t296 _ ?_ ?_ A3.o).mono ?_); exact ca HR0.o; exact HC0.o; rintro e w' ⟨rfl, ⟨nd, rfl⟩⟩; refine ⟨_, rfl, ?_⟩))
 go_ret
 exact ⟨fa, fd⟩
-- NOT PRINTED: function 160 (impl_Link_string)
/-! ### impl_Link_138: function 138 -/
def impl_Link_138.f (l0 : List (S93)) : Option ((List (S93))) := if l0.length < 5864062014805 then some l0 else none
set_option maxHeartbeats 8000000 in
set_option maxRecDepth 100000 in
theorem impl_Link_138.calls (A0 : Option Addr) (c0 : Nat) (l0 : List (S93)) (r : List (S93)) (w : World) (hr0 : Kd.C k93 w A0 l0.length l0) (hc0 : l0.length ≤ c0) (h : impl_Link_138.f l0 = some r) :
 Calls Try.prog 138 #[.slice A0 l0.length c0] w fun e w' => ∃ v0_ : Value, e = .returned (v0_) ∧ Kd.R k93 93 w' w.heap.size (fun _ => True) v0_ r ∧ Below w.heap.size w w' := by
 have c1 : l0.length < 5864062014805 := by
  by_cases c : l0.length < 5864062014805
  ·exact c
  ·simp [impl_Link_138.f, c] at h
 obtain rfl : l0 = r := by simpa [impl_Link_138.f, c1] using h
 have LMc := aK c1; clear c1 h; have HB := aK (Below.refl w.heap.size w); cases A0 with
 | none =>
  have hl : l0 = [] := by
   rcases Nat.eq_zero_or_pos l0.length with g | g
   ·exact List.length_eq_zero_iff.1 g
   ·obtain ⟨ad, e, _⟩ := hr0.2.2 g; cases e
  subst hl; clear hr0 hc0; have hq := fun (w : World) (n c : Nat) => Lib.run_eql_slice_nil (P := Try.prog) w 23 93 none n c 0 0 Try.underlying23
  simp only [Option.isNone_none] at hq
  go_enter Try.func138, Try.ntmps138
  go_wp2
  go_ret
  exact ⟨_, rfl, Kd.R_nil _ _ _ _ _, bl⟩
 | some ad =>
  have HR0 := aK hr0; clear hr0 hc0; have hq := fun (w : World) (n c : Nat) => Lib.run_eql_slice_nil (P := Try.prog) w 23 93 (some ad) n c 0 0 Try.underlying23
  simp only [Option.isNone_some] at hq
  go_enter Try.func138, Try.ntmps138
  go_wp2_with (first | ((with_reducible refine gD 5 rfl ?_); refine Kd.R_lit k93 _ 93 ?hg (N := 5) ?hd (xs := ([] : List (S93))) (inner := []) (ok := fun _ => True) (okp := fun _ => True) ?hr ?hp (fun _ hk => hk) trivial (Below.refl _ _) (Nat.le_refl _) (by simp) ?_; (case hd => rfl); (case hg => rfl); (case hr => first | (go_simp; done) | (go_simp; rfl)); (case hp => exact (Reps.none _ _)); intro v1 w1 ho hb hg_ hnew_; clear hg_ hnew_; have HO := rl HB ho; replace HB := bS HB hb; clear hb ho) | ((with_reducible refine gate_builtin (b := .append) (xs := #[.tmp 5, .tmp 6]) rfl ?_); at_builtin; refine Kd.R_append_rows k93 (w0 := w) w.heap.size rfl (.tmp 5) (.tmp 6) 23 93 (.agg #[(.string ⟨#[]⟩), (.int .i64 0)]) 24 rfl Try.underlying23 info93 rfl (by decide) (by omega) v1 [] l0 _ _ _ (fun _ => True) (fun _ => False) rfl rfl ?aO ?aR (fun _ _ h => h) (fun _ h => h.elim) ?aF ?aB ?aS ?aL ?_; (case aR => exact (Kd.C_below HR0.o bl)); (case aB => exact bl); (case aF => exact (fun _ _ => trivial)); (case aO => exact HO.o); (case aS => exact (below_size bl)); (case aL => have := LMc.o; simp; omega); intro v2 w2 ho hb hg hat; clear HO HB hg hat; have HO := aK ho; have HB := aK hb; clear ho hb; obtain ⟨Ao, co, eo⟩ := rs HO; subst eo))
  go_ret
  exact ⟨_, rfl, HO.o, bl⟩
-- NOT PRINTED: function 166 (impl_Link_166)
-- NOT PRINTED: function 164 (impl_Link_164)
-- NOT PRINTED: function 172 (impl_Link_172)
end Go.Proofs.Ytjcmcamijaelbaa.PDisk
