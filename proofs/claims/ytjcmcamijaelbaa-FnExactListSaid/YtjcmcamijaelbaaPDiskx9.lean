/- Functions of the program, each with its contract, written by a program out of the translation. -/
import Derived.Test.YtjcmcamijaelbaaPDiskx0
import Derived.Test.YtjcmcamijaelbaaPDiskx7
import Derived.Test.YtjcmcamijaelbaaZip
namespace Go.Proofs.Ytjcmcamijaelbaa.PDisk
open Go.RowKit Go.Proofs.YtjcmcamijaelbaaW.PrintWords Go.Proofs.YtjcmcamijaelbaaW.PrintLast Go.Proofs.YtjcmcamijaelbaaW.PrintMore Go.Proofs.Ytjcmcamijaelbaa.Zip
attribute [local go_sem] max2_int min2_int max_two min_two max_three min_three max_four min_four   -- for this text's walks alone
set_option linter.unusedVariables false
set_option linter.unusedSimpArgs false
/-! ### impl_nameOk: function 86 -/
def impl_nameOk.l0 : Nat → ByteArray → Int → Int → Option (Bool)
 | 0, _, _, _ => none
 | k + 1, x0, x5, x6 => if x6 < x5 then (if 0 ≤ x6 then (if x6 < (x0.size : Int) then (if (bt x0 x6) < 97 then (if (bt x0 x6) < 48 then (if (bt x0 x6) = 46 then (impl_nameOk.l0 k x0 x5 (wrap64 (x6 + 1))) else (some false)) else (if (bt x0 x6) > 57 then (if (bt x0 x6) = 46 then (impl_nameOk.l0 k x0 x5 (wrap64 (x6 + 1))) else (some false)) else (impl_nameOk.l0 k x0 x5 (wrap64 (x6 + 1))))) else (if (bt x0 x6) > 122 then (if (bt x0 x6) < 48 then (if (bt x0 x6) = 46 then (impl_nameOk.l0 k x0 x5 (wrap64 (x6 + 1))) else (some false)) else (if (bt x0 x6) > 57 then (if (bt x0 x6) = 46 then (impl_nameOk.l0 k x0 x5 (wrap64 (x6 + 1))) else (some false)) else (impl_nameOk.l0 k x0 x5 (wrap64 (x6 + 1))))) else (impl_nameOk.l0 k x0 x5 (wrap64 (x6 + 1))))) else (none)) else (none)) else ((impl_from.f (x0.size : Int) 1 12).bind fun t294 => (some t294))
def impl_nameOk.f (k : Nat) (a0 : ByteArray) : Option (Bool) := impl_nameOk.l0 k a0 (a0.size : Int) 0
theorem impl_nameOk.mono_l : ∀ k, (∀ y0 y1 y2, LeO (impl_nameOk.l0 k y0 y1 y2) (impl_nameOk.l0 (k + 1) y0 y1 y2))
 | 0 => fun _ _ _ r h => by simp [impl_nameOk.l0] at h
 | k + 1 => by
  have ih0 := impl_nameOk.mono_l k
  ·intro y0 y1 y2
   unfold impl_nameOk.l0
   repeat' first
   | (with_reducible exact ih0 _ _ _)
   | (with_reducible exact LeO.refl _)
   | (with_reducible exact LeO.none _)
   | (with_reducible refine LeO.ite ?_ ?_)
   | (with_reducible refine LeO.bind ?_ (fun _ => ?_))
theorem impl_nameOk.mono : ∀ a0 k, LeO (impl_nameOk.f k a0) (impl_nameOk.f (k + 1) a0) := by
 intro a0 k; have ih0 := impl_nameOk.mono_l k; unfold impl_nameOk.f
 repeat' first
  | (with_reducible exact ih0 _ _ _)
  | (with_reducible exact LeO.refl _)
  | (with_reducible exact LeO.none _)
  | (with_reducible refine LeO.ite ?_ ?_)
  | (with_reducible refine LeO.bind ?_ (fun _ => ?_))
set_option maxHeartbeats 8000000 in
set_option maxRecDepth 100000 in
theorem impl_nameOk.calls (k : Nat) (a0 : ByteArray) (r : Bool) (w : World) (h : impl_nameOk.f k a0 = some r) :
 Calls Try.prog 86 #[.string a0] w fun e w' => e = .returned (.bool r) ∧ Drawn0 w w' := by
 have H : (impl_nameOk.l0 k a0 (a0.size : Int) 0) = some r := h; clear h; have H' := Aside0.mk H; clear H
 go_enter Try.func86, Try.ntmps86
 go_wp2
 go_loopg [6] k (fun kq v6 w' => ∃ (x6_1 : Int), v6 = .int .i64 x6_1 ∧ Aside0 (impl_nameOk.l0 kq a0 (a0.size : Int) x6_1 = some r) ∧ Aside0 (kq ≤ k) ∧ Drawn0 w w')
 case atStart => exact ⟨(0), fa, H', ⟨Nat.le_refl _⟩, fd⟩
 case round =>
  clear H'; obtain ⟨x6_1, rfl, HA, HK1, ⟨m1, rfl⟩⟩ := hrel
  cases gk with
  | zero => exact absurd HA.out (by simp [impl_nameOk.l0])
  | succ k1 =>
   have H := HA.out; clear HA; simp only [impl_nameOk.l0] at H; by_cases c2 : x6_1 < (a0.size : Int)
   ·rw [if_pos c2] at H; have c2b0 : decide (x6_1 < (a0.size : Int)) = true := decide_eq_true c2; clear c2; by_cases c3 : 0 ≤ x6_1
    ·rw [if_pos c3] at H; have c3b0 : decide (0 ≤ x6_1) = true := decide_eq_true c3; clear c3; by_cases c4 : x6_1 < (a0.size : Int)
     ·rw [if_pos c4] at H; have c4b0 : decide (x6_1 < (a0.size : Int)) = true := decide_eq_true c4; clear c4; by_cases c6 : (bt a0 x6_1) < 97
      ·rw [if_pos c6] at H; have c6b0 : decide ((bt a0 x6_1) < 97) = true := decide_eq_true c6; clear c6; by_cases c8 : (bt a0 x6_1) < 48
       ·rw [if_pos c8] at H; have c8b0 : decide ((bt a0 x6_1) < 48) = true := decide_eq_true c8; clear c8; by_cases c10 : (bt a0 x6_1) = 46
        ·rw [if_pos c10] at H; have c10b0 : ((bt a0 x6_1) == 46) = true := beq_iff_eq.mpr c10; have c10b1 : ((bt a0 x6_1) != 46) = false := bne_eq_false_iff_eq.mpr c10; clear c10; have H' := Aside0.mk H; clear H; have p5 : 0 ≤ (x6_1 : Int) := of_decide_eq_true am; have q5 : x6_1 < (a0.size : Int) := of_decide_eq_true am; have hx5 := bt_at a0 x6_1; replace p5 := eq_true p5; replace q5 := eq_true q5; have p7 : 0 ≤ (x6_1 : Int) := of_decide_eq_true am; have q7 : x6_1 < (a0.size : Int) := of_decide_eq_true am; have hx7 := bt_at a0 x6_1; replace p7 := eq_true p7; replace q7 := eq_true q7; have p9 : 0 ≤ (x6_1 : Int) := of_decide_eq_true am; have q9 : x6_1 < (a0.size : Int) := of_decide_eq_true am; have hx9 := bt_at a0 x6_1; replace p9 := eq_true p9; replace q9 := eq_true q9
         go_wp2
         go_roundg k1
         case measure => have := HK1.out; omega
         case rel => exact ⟨(wrap64 (x6_1 + 1)), fa, H', ⟨by have := HK1.out; omega⟩, fd⟩
        ·rw [if_neg c10] at H; have c10b0 : ((bt a0 x6_1) == 46) = false := beq_eq_false_iff_ne.mpr c10; have c10b1 : ((bt a0 x6_1) != 46) = true := bne_iff_ne.mpr c10; obtain rfl := Option.some.inj H; have p5 : 0 ≤ (x6_1 : Int) := of_decide_eq_true am; have q5 : x6_1 < (a0.size : Int) := of_decide_eq_true am; have hx5 := bt_at a0 x6_1; replace p5 := eq_true p5; replace q5 := eq_true q5; have p7 : 0 ≤ (x6_1 : Int) := of_decide_eq_true am; have q7 : x6_1 < (a0.size : Int) := of_decide_eq_true am; have hx7 := bt_at a0 x6_1; replace p7 := eq_true p7; replace q7 := eq_true q7; have p9 : 0 ≤ (x6_1 : Int) := of_decide_eq_true am; have q9 : x6_1 < (a0.size : Int) := of_decide_eq_true am; have hx9 := bt_at a0 x6_1; replace p9 := eq_true p9; replace q9 := eq_true q9
         go_wp2
         go_ret
         exact ⟨fa, fd⟩
       ·rw [if_neg c8] at H; have c8b0 : decide ((bt a0 x6_1) < 48) = false := decide_eq_false c8; clear c8; by_cases c12 : (bt a0 x6_1) > 57
        ·rw [if_pos c12] at H; have c12b0 : decide (57 < (bt a0 x6_1)) = true := decide_eq_true c12; clear c12; by_cases c14 : (bt a0 x6_1) = 46
         ·rw [if_pos c14] at H; have c14b0 : ((bt a0 x6_1) == 46) = true := beq_iff_eq.mpr c14; have c14b1 : ((bt a0 x6_1) != 46) = false := bne_eq_false_iff_eq.mpr c14; clear c14; have H' := Aside0.mk H; clear H; have p5 : 0 ≤ (x6_1 : Int) := of_decide_eq_true am; have q5 : x6_1 < (a0.size : Int) := of_decide_eq_true am; have hx5 := bt_at a0 x6_1; replace p5 := eq_true p5; replace q5 := eq_true q5; have p7 : 0 ≤ (x6_1 : Int) := of_decide_eq_true am; have q7 : x6_1 < (a0.size : Int) := of_decide_eq_true am; have hx7 := bt_at a0 x6_1; replace p7 := eq_true p7; replace q7 := eq_true q7; have p11 : 0 ≤ (x6_1 : Int) := of_decide_eq_true am; have q11 : x6_1 < (a0.size : Int) := of_decide_eq_true am; have hx11 := bt_at a0 x6_1; replace p11 := eq_true p11; replace q11 := eq_true q11; have p13 : 0 ≤ (x6_1 : Int) := of_decide_eq_true am; have q13 : x6_1 < (a0.size : Int) := of_decide_eq_true am; have hx13 := bt_at a0 x6_1; replace p13 := eq_true p13; replace q13 := eq_true q13
          go_wp2
          go_roundg k1
          case measure => have := HK1.out; omega
          case rel => exact ⟨(wrap64 (x6_1 + 1)), fa, H', ⟨by have := HK1.out; omega⟩, fd⟩
         ·rw [if_neg c14] at H; have c14b0 : ((bt a0 x6_1) == 46) = false := beq_eq_false_iff_ne.mpr c14; have c14b1 : ((bt a0 x6_1) != 46) = true := bne_iff_ne.mpr c14; obtain rfl := Option.some.inj H; have p5 : 0 ≤ (x6_1 : Int) := of_decide_eq_true am; have q5 : x6_1 < (a0.size : Int) := of_decide_eq_true am; have hx5 := bt_at a0 x6_1; replace p5 := eq_true p5; replace q5 := eq_true q5; have p7 : 0 ≤ (x6_1 : Int) := of_decide_eq_true am; have q7 : x6_1 < (a0.size : Int) := of_decide_eq_true am; have hx7 := bt_at a0 x6_1; replace p7 := eq_true p7; replace q7 := eq_true q7; have p11 : 0 ≤ (x6_1 : Int) := of_decide_eq_true am; have q11 : x6_1 < (a0.size : Int) := of_decide_eq_true am; have hx11 := bt_at a0 x6_1; replace p11 := eq_true p11; replace q11 := eq_true q11; have p13 : 0 ≤ (x6_1 : Int) := of_decide_eq_true am; have q13 : x6_1 < (a0.size : Int) := of_decide_eq_true am; have hx13 := bt_at a0 x6_1; replace p13 := eq_true p13; replace q13 := eq_true q13
          go_wp2
          go_ret
          exact ⟨fa, fd⟩
        ·rw [if_neg c12] at H; have c12b0 : decide (57 < (bt a0 x6_1)) = false := decide_eq_false c12; clear c12; have H' := Aside0.mk H; clear H; have p5 : 0 ≤ (x6_1 : Int) := of_decide_eq_true am; have q5 : x6_1 < (a0.size : Int) := of_decide_eq_true am; have hx5 := bt_at a0 x6_1; replace p5 := eq_true p5; replace q5 := eq_true q5; have p7 : 0 ≤ (x6_1 : Int) := of_decide_eq_true am; have q7 : x6_1 < (a0.size : Int) := of_decide_eq_true am; have hx7 := bt_at a0 x6_1; replace p7 := eq_true p7; replace q7 := eq_true q7; have p11 : 0 ≤ (x6_1 : Int) := of_decide_eq_true am; have q11 : x6_1 < (a0.size : Int) := of_decide_eq_true am; have hx11 := bt_at a0 x6_1; replace p11 := eq_true p11; replace q11 := eq_true q11
         go_wp2
         go_roundg k1
         case measure => have := HK1.out; omega
         case rel => exact ⟨(wrap64 (x6_1 + 1)), fa, H', ⟨by have := HK1.out; omega⟩, fd⟩
      ·rw [if_neg c6] at H; have c6b0 : decide ((bt a0 x6_1) < 97) = false := decide_eq_false c6; clear c6; by_cases c16 : (bt a0 x6_1) > 122
       ·rw [if_pos c16] at H; have c16b0 : decide (122 < (bt a0 x6_1)) = true := decide_eq_true c16; clear c16; by_cases c18 : (bt a0 x6_1) < 48
        ·rw [if_pos c18] at H; have c18b0 : decide ((bt a0 x6_1) < 48) = true := decide_eq_true c18; clear c18; by_cases c20 : (bt a0 x6_1) = 46
         ·rw [if_pos c20] at H; have c20b0 : ((bt a0 x6_1) == 46) = true := beq_iff_eq.mpr c20; have c20b1 : ((bt a0 x6_1) != 46) = false := bne_eq_false_iff_eq.mpr c20; clear c20; have H' := Aside0.mk H; clear H; have p5 : 0 ≤ (x6_1 : Int) := of_decide_eq_true am; have q5 : x6_1 < (a0.size : Int) := of_decide_eq_true am; have hx5 := bt_at a0 x6_1; replace p5 := eq_true p5; replace q5 := eq_true q5; have p15 : 0 ≤ (x6_1 : Int) := of_decide_eq_true am; have q15 : x6_1 < (a0.size : Int) := of_decide_eq_true am; have hx15 := bt_at a0 x6_1; replace p15 := eq_true p15; replace q15 := eq_true q15; have p17 : 0 ≤ (x6_1 : Int) := of_decide_eq_true am; have q17 : x6_1 < (a0.size : Int) := of_decide_eq_true am; have hx17 := bt_at a0 x6_1; replace p17 := eq_true p17; replace q17 := eq_true q17; have p19 : 0 ≤ (x6_1 : Int) := of_decide_eq_true am; have q19 : x6_1 < (a0.size : Int) := of_decide_eq_true am; have hx19 := bt_at a0 x6_1; replace p19 := eq_true p19; replace q19 := eq_true q19
          go_wp2
          go_roundg k1
          case measure => have := HK1.out; omega
          case rel => exact ⟨(wrap64 (x6_1 + 1)), fa, H', ⟨by have := HK1.out; omega⟩, fd⟩
         ·rw [if_neg c20] at H; have c20b0 : ((bt a0 x6_1) == 46) = false := beq_eq_false_iff_ne.mpr c20; have c20b1 : ((bt a0 x6_1) != 46) = true := bne_iff_ne.mpr c20; obtain rfl := Option.some.inj H; have p5 : 0 ≤ (x6_1 : Int) := of_decide_eq_true am; have q5 : x6_1 < (a0.size : Int) := of_decide_eq_true am; have hx5 := bt_at a0 x6_1; replace p5 := eq_true p5; replace q5 := eq_true q5; have p15 : 0 ≤ (x6_1 : Int) := of_decide_eq_true am; have q15 : x6_1 < (a0.size : Int) := of_decide_eq_true am; have hx15 := bt_at a0 x6_1; replace p15 := eq_true p15; replace q15 := eq_true q15; have p17 : 0 ≤ (x6_1 : Int) := of_decide_eq_true am; have q17 : x6_1 < (a0.size : Int) := of_decide_eq_true am; have hx17 := bt_at a0 x6_1; replace p17 := eq_true p17; replace q17 := eq_true q17; have p19 : 0 ≤ (x6_1 : Int) := of_decide_eq_true am; have q19 : x6_1 < (a0.size : Int) := of_decide_eq_true am; have hx19 := bt_at a0 x6_1; replace p19 := eq_true p19; replace q19 := eq_true q19
          go_wp2
          go_ret
          exact ⟨fa, fd⟩
        ·rw [if_neg c18] at H; have c18b0 : decide ((bt a0 x6_1) < 48) = false := decide_eq_false c18; clear c18; by_cases c22 : (bt a0 x6_1) > 57
         ·rw [if_pos c22] at H; have c22b0 : decide (57 < (bt a0 x6_1)) = true := decide_eq_true c22; clear c22; by_cases c24 : (bt a0 x6_1) = 46
          ·rw [if_pos c24] at H; have c24b0 : ((bt a0 x6_1) == 46) = true := beq_iff_eq.mpr c24; have c24b1 : ((bt a0 x6_1) != 46) = false := bne_eq_false_iff_eq.mpr c24; clear c24; have H' := Aside0.mk H; clear H; have p5 : 0 ≤ (x6_1 : Int) := of_decide_eq_true am; have q5 : x6_1 < (a0.size : Int) := of_decide_eq_true am; have hx5 := bt_at a0 x6_1; replace p5 := eq_true p5; replace q5 := eq_true q5; have p15 : 0 ≤ (x6_1 : Int) := of_decide_eq_true am; have q15 : x6_1 < (a0.size : Int) := of_decide_eq_true am; have hx15 := bt_at a0 x6_1; replace p15 := eq_true p15; replace q15 := eq_true q15; have p17 : 0 ≤ (x6_1 : Int) := of_decide_eq_true am; have q17 : x6_1 < (a0.size : Int) := of_decide_eq_true am; have hx17 := bt_at a0 x6_1; replace p17 := eq_true p17; replace q17 := eq_true q17; have p21 : 0 ≤ (x6_1 : Int) := of_decide_eq_true am; have q21 : x6_1 < (a0.size : Int) := of_decide_eq_true am; have hx21 := bt_at a0 x6_1; replace p21 := eq_true p21; replace q21 := eq_true q21; have p23 : 0 ≤ (x6_1 : Int) := of_decide_eq_true am; have q23 : x6_1 < (a0.size : Int) := of_decide_eq_true am; have hx23 := bt_at a0 x6_1; replace p23 := eq_true p23; replace q23 := eq_true q23
           go_wp2
           go_roundg k1
           case measure => have := HK1.out; omega
           case rel => exact ⟨(wrap64 (x6_1 + 1)), fa, H', ⟨by have := HK1.out; omega⟩, fd⟩
          ·rw [if_neg c24] at H; have c24b0 : ((bt a0 x6_1) == 46) = false := beq_eq_false_iff_ne.mpr c24; have c24b1 : ((bt a0 x6_1) != 46) = true := bne_iff_ne.mpr c24; obtain rfl := Option.some.inj H; have p5 : 0 ≤ (x6_1 : Int) := of_decide_eq_true am; have q5 : x6_1 < (a0.size : Int) := of_decide_eq_true am; have hx5 := bt_at a0 x6_1; replace p5 := eq_true p5; replace q5 := eq_true q5; have p15 : 0 ≤ (x6_1 : Int) := of_decide_eq_true am; have q15 : x6_1 < (a0.size : Int) := of_decide_eq_true am; have hx15 := bt_at a0 x6_1; replace p15 := eq_true p15; replace q15 := eq_true q15; have p17 : 0 ≤ (x6_1 : Int) := of_decide_eq_true am; have q17 : x6_1 < (a0.size : Int) := of_decide_eq_true am; have hx17 := bt_at a0 x6_1; replace p17 := eq_true p17; replace q17 := eq_true q17; have p21 : 0 ≤ (x6_1 : Int) := of_decide_eq_true am; have q21 : x6_1 < (a0.size : Int) := of_decide_eq_true am; have hx21 := bt_at a0 x6_1; replace p21 := eq_true p21; replace q21 := eq_true q21; have p23 : 0 ≤ (x6_1 : Int) := of_decide_eq_true am; have q23 : x6_1 < (a0.size : Int) := of_decide_eq_true am; have hx23 := bt_at a0 x6_1; replace p23 := eq_true p23; replace q23 := eq_true q23
           go_wp2
           go_ret
           exact ⟨fa, fd⟩
         ·rw [if_neg c22] at H; have c22b0 : decide (57 < (bt a0 x6_1)) = false := decide_eq_false c22; clear c22; have H' := Aside0.mk H; clear H; have p5 : 0 ≤ (x6_1 : Int) := of_decide_eq_true am; have q5 : x6_1 < (a0.size : Int) := of_decide_eq_true am; have hx5 := bt_at a0 x6_1; replace p5 := eq_true p5; replace q5 := eq_true q5; have p15 : 0 ≤ (x6_1 : Int) := of_decide_eq_true am; have q15 : x6_1 < (a0.size : Int) := of_decide_eq_true am; have hx15 := bt_at a0 x6_1; replace p15 := eq_true p15; replace q15 := eq_true q15; have p17 : 0 ≤ (x6_1 : Int) := of_decide_eq_true am; have q17 : x6_1 < (a0.size : Int) := of_decide_eq_true am; have hx17 := bt_at a0 x6_1; replace p17 := eq_true p17; replace q17 := eq_true q17; have p21 : 0 ≤ (x6_1 : Int) := of_decide_eq_true am; have q21 : x6_1 < (a0.size : Int) := of_decide_eq_true am; have hx21 := bt_at a0 x6_1; replace p21 := eq_true p21; replace q21 := eq_true q21
          go_wp2
          go_roundg k1
          case measure => have := HK1.out; omega
          case rel => exact ⟨(wrap64 (x6_1 + 1)), fa, H', ⟨by have := HK1.out; omega⟩, fd⟩
       ·rw [if_neg c16] at H; have c16b0 : decide (122 < (bt a0 x6_1)) = false := decide_eq_false c16; clear c16; have H' := Aside0.mk H; clear H; have p5 : 0 ≤ (x6_1 : Int) := of_decide_eq_true am; have q5 : x6_1 < (a0.size : Int) := of_decide_eq_true am; have hx5 := bt_at a0 x6_1; replace p5 := eq_true p5; replace q5 := eq_true q5; have p15 : 0 ≤ (x6_1 : Int) := of_decide_eq_true am; have q15 : x6_1 < (a0.size : Int) := of_decide_eq_true am; have hx15 := bt_at a0 x6_1; replace p15 := eq_true p15; replace q15 := eq_true q15
        go_wp2
        go_roundg k1
        case measure => have := HK1.out; omega
        case rel => exact ⟨(wrap64 (x6_1 + 1)), fa, H', ⟨by have := HK1.out; omega⟩, fd⟩
     ·rw [if_neg c4] at H
      exact absurd H (by simp)
    ·rw [if_neg c3] at H
     exact absurd H (by simp)
   ·rw [if_neg c2] at H; have c2b0 : decide (x6_1 < (a0.size : Int)) = false := decide_eq_false c2; clear c2; obtain ⟨t294, A25, H⟩ := bd H; obtain rfl := Option.some.inj H
    go_wp2_with (first | ((with_reducible refine gC 54 rfl ?_); refine goesZ (some 40) rfl Try.func54 #[.int .i64 (a0.size : Int), .int .i64 1, .int .i64 12] ?_; (with_reducible refine (impl_from.calls (a0.size : Int) 1 12 t294 _ A25.out).mono ?_); rintro e w' ⟨rfl, ⟨nd, rfl⟩⟩; refine ⟨_, rfl, ?_⟩))
    go_ret
    exact ⟨fa, fd⟩
-- NOT PRINTED: function 132 (impl_Inode)
end Go.Proofs.Ytjcmcamijaelbaa.PDisk
