/- Functions of the program, each with its contract, written by a program out of the translation. -/
import Derived.Test.YtjcmcamijaelbaaPDiskx0
import Derived.Test.YtjcmcamijaelbaaZap
namespace Go.Proofs.Ytjcmcamijaelbaa.PDisk
open Go.RowKit Go.Proofs.YtjcmcamijaelbaaW.PrintWords Go.Proofs.YtjcmcamijaelbaaW.PrintLast Go.Proofs.YtjcmcamijaelbaaW.PrintMore Go.Proofs.Ytjcmcamijaelbaa.Zip
attribute [local go_sem] max2_int min2_int max_two min_two max_three min_three max_four min_four   -- for this text's walks alone
set_option linter.unusedVariables false
set_option linter.unusedSimpArgs false
/-! ### impl_used: function 102 -/
def impl_used.l0 : Nat → Int → List (S89) → Int → Int → Option (Int)
 | 0, _, _, _, _ => none
 | k + 1, x3, x7, x8, x9 => if x9 < x8 then (if 0 ≤ x9 then (if x9 < (x7.length : Int) then (impl_used.l0 k (wrap64 (x3 + (((rd_T89 x7 x9).f1).size : Int))) x7 x8 (wrap64 (x9 + 1))) else (none)) else (none)) else (some x3)
def impl_used.f (k : Nat) (a0_0 : Int) (a0_1 : Int) (l0_2 : List (S89)) (l0_3 : List (S93)) (l0_4 : List (S95)) : Option (Int) := impl_used.l0 k 0 l0_2 (l0_2.length : Int) 0
theorem impl_used.mono_l : ∀ k, (∀ y0 y1 y2 y3, LeO (impl_used.l0 k y0 y1 y2 y3) (impl_used.l0 (k + 1) y0 y1 y2 y3))
 | 0 => fun _ _ _ _ r h => by simp [impl_used.l0] at h
 | k + 1 => by
  have ih0 := impl_used.mono_l k
  ·intro y0 y1 y2 y3
   unfold impl_used.l0
   repeat' first
   | (with_reducible exact ih0 _ _ _ _)
   | (with_reducible exact LeO.refl _)
   | (with_reducible exact LeO.none _)
   | (with_reducible refine LeO.ite ?_ ?_)
   | (with_reducible refine LeO.bind ?_ (fun _ => ?_))
theorem impl_used.mono : ∀ a0 a1 a2 a3 a4 k, LeO (impl_used.f k a0 a1 a2 a3 a4) (impl_used.f (k + 1) a0 a1 a2 a3 a4) := by
 intro a0 a1 a2 a3 a4 k; have ih0 := impl_used.mono_l k; unfold impl_used.f
 repeat' first
  | (with_reducible exact ih0 _ _ _ _)
  | (with_reducible exact LeO.refl _)
  | (with_reducible exact LeO.none _)
  | (with_reducible refine LeO.ite ?_ ?_)
  | (with_reducible refine LeO.bind ?_ (fun _ => ?_))
set_option maxHeartbeats 8000000 in
set_option maxRecDepth 100000 in
theorem impl_used.calls (k : Nat) (a0_0 : Int) (a0_1 : Int) (A0_2 : Option Addr) (c0_2 : Nat) (l0_2 : List (S89)) (A0_3 : Option Addr) (c0_3 : Nat) (l0_3 : List (S93)) (A0_4 : Option Addr) (c0_4 : Nat) (l0_4 : List (S95)) (r : Int) (w : World) (hr0_2 : Kd.C k89 w A0_2 l0_2.length l0_2) (hc0_2 : l0_2.length ≤ c0_2) (hr0_3 : Kd.C k93 w A0_3 l0_3.length l0_3) (hc0_3 : l0_3.length ≤ c0_3) (hr0_4 : Kd.C k95 w A0_4 l0_4.length l0_4) (hc0_4 : l0_4.length ≤ c0_4) (h : impl_used.f k a0_0 a0_1 l0_2 l0_3 l0_4 = some r) :
 Calls Try.prog 102 #[.agg #[.int .i64 a0_0, .int .i64 a0_1, .slice A0_2 l0_2.length c0_2, .slice A0_3 l0_3.length c0_3, .slice A0_4 l0_4.length c0_4]] w fun e w' => e = .returned (.int .i64 r) ∧ Below w.heap.size w w' := by
 have hu26 := Try.underlying26; have hu89 := Try.underlying89; have HR0_2 := aK hr0_2; have HC0_2 := aK hc0_2; clear hr0_2 hc0_2; have HR0_3 := aK hr0_3; have HC0_3 := aK hc0_3; clear hr0_3 hc0_3; have HR0_4 := aK hr0_4; have HC0_4 := aK hc0_4; clear hr0_4 hc0_4; have HB := aK (Below.refl w.heap.size w); have H : (impl_used.l0 k 0 l0_2 (l0_2.length : Int) 0) = some r := h; clear h; have H' := aK H; clear H
 go_enter Try.func102, Try.ntmps102
 go_wp2_with (first | ((with_reducible refine gD 1 rfl ?_); refine boxZ 1 #[.int .i64 a0_0, .int .i64 a0_1, .slice A0_2 l0_2.length c0_2, .slice A0_3 l0_3.length c0_3, .slice A0_4 l0_4.length c0_4] 26 ?_; intro gb491 hg w2 hbox hb; have BK491 := aK hbox; have GW491 := gW HB hg; replace HB := bS HB hb; clear hb hbox hg; obtain ⟨_, _, _, _, _, _, _, _, _, _⟩ := cf5 BK491))
 go_loopg [3, 9] k (fun kq v3 v9 w' => ∃ (x3_1 : Int) (x9_1 : Int), v3 = .int .i64 x3_1 ∧ v9 = .int .i64 x9_1 ∧ Aside0 (impl_used.l0 kq x3_1 l0_2 (l0_2.length : Int) x9_1 = some r) ∧ Aside0 (kq ≤ k) ∧ Aside0 (w'.heap[gb491]? = some (.cells #[.int .i64 a0_0, .int .i64 a0_1, (.slice A0_2 l0_2.length c0_2), (.slice A0_3 l0_3.length c0_3), (.slice A0_4 l0_4.length c0_4)] 26 (0, 0))) ∧ Aside0 (Below w.heap.size w w'))
 case atStart => exact ⟨(0), (0), fa, fa, H', ⟨Nat.le_refl _⟩, ⟨by (with_reducible repeat (first | refine blk_drewN ?_ _ | refine blk_drew ?_ | refine blk_alloc ?_ _)); exact BK491.o⟩, ⟨bl⟩⟩
 case round =>
  clear H'; (try clear c1); (try clear p2); obtain ⟨x3_1, x9_1, rfl, rfl, HA, HK1, BK491, HB⟩ := hrel; cases gk with
  | zero => exact absurd HA.o (by simp [impl_used.l0])
  | succ k1 =>
   have H := HA.o; clear HA; simp only [impl_used.l0] at H; by_cases c4 : x9_1 < (l0_2.length : Int)
   ·rw [if_pos c4] at H; have c4b0 : decide (x9_1 < (l0_2.length : Int)) = true := dt c4; clear c4; by_cases c5 : 0 ≤ x9_1
    ·rw [if_pos c5] at H; have c5b0 : decide (0 ≤ x9_1) = true := dt c5; clear c5; by_cases c6 : x9_1 < (l0_2.length : Int)
     ·rw [if_pos c6] at H; have c6b0 : decide (x9_1 < (l0_2.length : Int)) = true := dt c6; clear c6; have H' := aK H; clear H; have pq1 : 0 ≤ (x9_1 : Int) := dT am; have qq1 : x9_1 < (l0_2.length : Int) := dT am; obtain ⟨adq1, eq1, hxq1_0, hxq1_1, hxq1_2⟩ := at_T89 HR0_2.o x9_1 pq1 qq1; cases eq1; replace hxq1_0 := cz HB hxq1_0; replace hxq1_1 := cz HB hxq1_1; replace hxq1_2 := cz HB hxq1_2; replace pq1 := eq_true pq1; replace qq1 := eq_true qq1; go_wp2_with (first | ((with_reducible refine gD 5 rfl ?_); refine boxZ 5 #[.int .i64 0, .string (⟨#[]⟩ : ByteArray), .int .i64 0] 89 ?_; intro gbq1 hg wq1 hbox hb; have BKq1 := aK hbox; have GWq1 := gW HB hg; replace HB := bS HB hb; have NBq1_493 := nl BK491 hg; have NBq1_491 := nr BK491 hg; replace BK491 := bv BK491 hb; clear hb hbox hg; have hnbq1 := NBq1_491.o; have hncq1 := NBq1_493.o; obtain ⟨_, _, _, _, _, _⟩ := cf3 BKq1))
      go_roundg k1
      case measure => have := HK1.o; omega
      case rel => exact ⟨(wrap64 (x3_1 + (((rd_T89 l0_2 x9_1).f1).size : Int))), (wrap64 (x9_1 + 1)), fa, fa, H', ⟨by have := HK1.o; omega⟩, ⟨bkk⟩, ⟨bl⟩⟩
     ·rw [if_neg c6] at H; exact absurd H (by simp)
    ·rw [if_neg c5] at H; exact absurd H (by simp)
   ·rw [if_neg c4] at H; have c4b0 : decide (x9_1 < (l0_2.length : Int)) = false := df c4; clear c4; obtain rfl := oj H; go_wp2
    go_ret
    exact ⟨fe, bl⟩
end Go.Proofs.Ytjcmcamijaelbaa.PDisk
