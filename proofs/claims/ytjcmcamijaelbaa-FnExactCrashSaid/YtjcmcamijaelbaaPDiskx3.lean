/- Functions of the program, each with its contract, written by a program out of the translation. -/
import Derived.Test.YtjcmcamijaelbaaPDiskx0
import Derived.Test.YtjcmcamijaelbaaZap
namespace Go.Proofs.Ytjcmcamijaelbaa.PDisk
open Go.RowKit Go.Proofs.YtjcmcamijaelbaaW.PrintWords Go.Proofs.YtjcmcamijaelbaaW.PrintLast Go.Proofs.YtjcmcamijaelbaaW.PrintMore Go.Proofs.Ytjcmcamijaelbaa.Zip
attribute [local go_sem] max2_int min2_int max_two min_two max_three min_three max_four min_four   -- for this text's walks alone
set_option linter.unusedVariables false
set_option linter.unusedSimpArgs false
/-! ### spec_l1In: function 53 -/
def spec_l1In.f (a0 : Int) (a1 : Int) (a2 : Int) : Option (Bool) := if a0 ≥ a1 then (some (decide (a0 ≤ a2))) else (some false)
set_option maxHeartbeats 8000000 in
set_option maxRecDepth 100000 in
theorem spec_l1In.calls (a0 : Int) (a1 : Int) (a2 : Int) (r : Bool) (w : World) (h : spec_l1In.f a0 a1 a2 = some r) :
 Calls Try.prog 53 #[.int .i64 a0, .int .i64 a1, .int .i64 a2] w fun e w' => e = .returned (.bool r) ∧ Drawn0 w w' := by
 have H : (if a0 ≥ a1 then (some (decide (a0 ≤ a2))) else (some false)) = some r := h; clear h; by_cases c4 : a0 ≥ a1
 ·rw [if_pos c4] at H; have c4b0 : decide (a1 ≤ a0) = true := dt c4; clear c4; obtain rfl := oj H
  go_enter Try.func53, Try.ntmps53
  go_wp2
  go_ret
  exact ⟨fa, fd⟩
 ·rw [if_neg c4] at H; have c4b0 : decide (a1 ≤ a0) = false := df c4; clear c4; obtain rfl := oj H
  go_enter Try.func53, Try.ntmps53
  go_wp2
  go_ret
  exact ⟨fa, fd⟩
/-! ### spec_l4Bytes: function 76 -/
def spec_l4Bytes.l0 : Nat → Int → Int → Int → Int → List (S89) → List (S93) → List (S95) → Option (Int)
 | 0, _, _, _, _, _, _, _ => none
 | k + 1, x3, x4, x135000, x135001, x135002, x135003, x135004 => if x4 < (x135002.length : Int) then (if 0 ≤ x4 then (spec_l4Bytes.l0 k (wrap64 (x3 + (((rd_T89 x135002 x4).f1).size : Int))) (wrap64 (x4 + 1)) x135000 x135001 x135002 x135003 x135004) else (none)) else (some x3)
def spec_l4Bytes.f (k : Nat) (a0_0 : Int) (a0_1 : Int) (l0_2 : List (S89)) (l0_3 : List (S93)) (l0_4 : List (S95)) : Option (Int) := spec_l4Bytes.l0 k 0 0 a0_0 a0_1 l0_2 l0_3 l0_4
theorem spec_l4Bytes.mono_l : ∀ k, (∀ y0 y1 y2 y3 y4 y5 y6, LeO (spec_l4Bytes.l0 k y0 y1 y2 y3 y4 y5 y6) (spec_l4Bytes.l0 (k + 1) y0 y1 y2 y3 y4 y5 y6))
 | 0 => fun _ _ _ _ _ _ _ r h => by simp [spec_l4Bytes.l0] at h
 | k + 1 => by
  have ih0 := spec_l4Bytes.mono_l k
  ·intro y0 y1 y2 y3 y4 y5 y6
   unfold spec_l4Bytes.l0
   repeat' first
   | (with_reducible exact ih0 _ _ _ _ _ _ _)
   | (with_reducible exact LeO.refl _)
   | (with_reducible exact LeO.none _)
   | (with_reducible refine LeO.ite ?_ ?_)
   | (with_reducible refine LeO.bind ?_ (fun _ => ?_))
theorem spec_l4Bytes.mono : ∀ a0 a1 a2 a3 a4 k, LeO (spec_l4Bytes.f k a0 a1 a2 a3 a4) (spec_l4Bytes.f (k + 1) a0 a1 a2 a3 a4) := by
 intro a0 a1 a2 a3 a4 k; have ih0 := spec_l4Bytes.mono_l k; unfold spec_l4Bytes.f
 repeat' first
  | (with_reducible exact ih0 _ _ _ _ _ _ _)
  | (with_reducible exact LeO.refl _)
  | (with_reducible exact LeO.none _)
  | (with_reducible refine LeO.ite ?_ ?_)
  | (with_reducible refine LeO.bind ?_ (fun _ => ?_))
set_option maxHeartbeats 8000000 in
set_option maxRecDepth 100000 in
theorem spec_l4Bytes.calls (k : Nat) (a0_0 : Int) (a0_1 : Int) (A0_2 : Option Addr) (c0_2 : Nat) (l0_2 : List (S89)) (A0_3 : Option Addr) (c0_3 : Nat) (l0_3 : List (S93)) (A0_4 : Option Addr) (c0_4 : Nat) (l0_4 : List (S95)) (r : Int) (w : World) (hr0_2 : Kd.C k89 w A0_2 l0_2.length l0_2) (hc0_2 : l0_2.length ≤ c0_2) (hr0_3 : Kd.C k93 w A0_3 l0_3.length l0_3) (hc0_3 : l0_3.length ≤ c0_3) (hr0_4 : Kd.C k95 w A0_4 l0_4.length l0_4) (hc0_4 : l0_4.length ≤ c0_4) (h : spec_l4Bytes.f k a0_0 a0_1 l0_2 l0_3 l0_4 = some r) :
 Calls Try.prog 76 #[.agg #[.int .i64 a0_0, .int .i64 a0_1, .slice A0_2 l0_2.length c0_2, .slice A0_3 l0_3.length c0_3, .slice A0_4 l0_4.length c0_4]] w fun e w' => e = .returned (.int .i64 r) ∧ Below w.heap.size w w' := by
 have hu26 := Try.underlying26; have HR0_2 := aK hr0_2; have HC0_2 := aK hc0_2; clear hr0_2 hc0_2; have HR0_3 := aK hr0_3; have HC0_3 := aK hc0_3; clear hr0_3 hc0_3; have HR0_4 := aK hr0_4; have HC0_4 := aK hc0_4; clear hr0_4 hc0_4; have HB := aK (Below.refl w.heap.size w); have H : (spec_l4Bytes.l0 k 0 0 a0_0 a0_1 l0_2 l0_3 l0_4) = some r := h; clear h; have H' := aK H; clear H
 go_enter Try.func76, Try.ntmps76
 go_wp2_with (first | ((with_reducible refine gD 1 rfl ?_); refine boxZ 1 #[.int .i64 a0_0, .int .i64 a0_1, .slice A0_2 l0_2.length c0_2, .slice A0_3 l0_3.length c0_3, .slice A0_4 l0_4.length c0_4] 26 ?_; intro gb134 hg w2 hbox hb; have BK134 := aK hbox; have GW134 := gW HB hg; replace HB := bS HB hb; clear hb hbox hg))
 go_loopg [3, 4] k (fun kq v3 v4 w' => ∃ (x3_1 : Int) (x4_1 : Int), v3 = .int .i64 x3_1 ∧ v4 = .int .i64 x4_1 ∧ Aside0 (spec_l4Bytes.l0 kq x3_1 x4_1 a0_0 a0_1 l0_2 l0_3 l0_4 = some r) ∧ Aside0 (kq ≤ k) ∧ Aside0 (w'.heap[gb134]? = some (.cells #[.int .i64 a0_0, .int .i64 a0_1, (.slice A0_2 l0_2.length c0_2), (.slice A0_3 l0_3.length c0_3), (.slice A0_4 l0_4.length c0_4)] 26 (0, 0))) ∧ Aside0 (Below w.heap.size w w'))
 case atStart => exact ⟨(0), (0), fa, fa, H', ⟨Nat.le_refl _⟩, ⟨by (with_reducible repeat (first | refine blk_drewN ?_ _ | refine blk_drew ?_ | refine blk_alloc ?_ _)); exact BK134.o⟩, ⟨bl⟩⟩
 case round =>
  clear H'; (try clear p2); obtain ⟨x3_1, x4_1, rfl, rfl, HA, HK1, BK134, HB⟩ := hrel; cases gk with
  | zero => exact absurd HA.o (by simp [spec_l4Bytes.l0])
  | succ k1 =>
   have H := HA.o; clear HA; simp only [spec_l4Bytes.l0] at H; by_cases c3 : x4_1 < (l0_2.length : Int)
   ·rw [if_pos c3] at H; have c3b0 : decide (x4_1 < (l0_2.length : Int)) = true := dt c3; clear c3; by_cases c4 : 0 ≤ x4_1
    ·rw [if_pos c4] at H; have c4b0 : decide (0 ≤ x4_1) = true := dt c4; clear c4; have H' := aK H; clear H; obtain ⟨_, _, _, _, _, _, _, _, _, _⟩ := cf5 BK134; have pq1 : 0 ≤ (x4_1 : Int) := dT am; have qq1 : x4_1 < (l0_2.length : Int) := dT am; obtain ⟨adq1, eq1, hxq1_0, hxq1_1, hxq1_2⟩ := at_T89 HR0_2.o x4_1 pq1 qq1; cases eq1; replace hxq1_0 := cz HB hxq1_0; replace hxq1_1 := cz HB hxq1_1; replace hxq1_2 := cz HB hxq1_2; replace pq1 := eq_true pq1; replace qq1 := eq_true qq1; go_wp2
     go_roundg k1
     case measure => have := HK1.o; omega
     case rel => exact ⟨(wrap64 (x3_1 + (((rd_T89 l0_2 x4_1).f1).size : Int))), (wrap64 (x4_1 + 1)), fa, fa, H', ⟨by have := HK1.o; omega⟩, ⟨by (with_reducible repeat (first | refine blk_drewN ?_ _ | refine blk_drew ?_ | refine blk_alloc ?_ _)); exact BK134.o⟩, ⟨bl⟩⟩
    ·rw [if_neg c4] at H; exact absurd H (by simp)
   ·rw [if_neg c3] at H; have c3b0 : decide (x4_1 < (l0_2.length : Int)) = false := df c3; clear c3; obtain rfl := oj H; obtain ⟨_, _, _, _, _, _, _, _, _, _⟩ := cf5 BK134; go_wp2
    go_ret
    exact ⟨fe, bl⟩
/-! ### spec_l4Linked: function 77 -/
def spec_l4Linked.l0 : Nat → List (S93) → Int → Int → Option (Bool)
 | 0, _, _, _ => none
 | k + 1, x0, x1, x5 => if x5 < (x0.length : Int) then (if 0 ≤ x5 then (if ((rd_T93 x0 x5).f1) = x1 then (some true) else (spec_l4Linked.l0 k x0 x1 (wrap64 (x5 + 1)))) else (none)) else (some false)
def spec_l4Linked.f (k : Nat) (l0 : List (S93)) (a1 : Int) : Option (Bool) := spec_l4Linked.l0 k l0 a1 0
theorem spec_l4Linked.mono_l : ∀ k, (∀ y0 y1 y2, LeO (spec_l4Linked.l0 k y0 y1 y2) (spec_l4Linked.l0 (k + 1) y0 y1 y2))
 | 0 => fun _ _ _ r h => by simp [spec_l4Linked.l0] at h
 | k + 1 => by
  have ih0 := spec_l4Linked.mono_l k
  ·intro y0 y1 y2
   unfold spec_l4Linked.l0
   repeat' first
   | (with_reducible exact ih0 _ _ _)
   | (with_reducible exact LeO.refl _)
   | (with_reducible exact LeO.none _)
   | (with_reducible refine LeO.ite ?_ ?_)
   | (with_reducible refine LeO.bind ?_ (fun _ => ?_))
theorem spec_l4Linked.mono : ∀ a0 a1 k, LeO (spec_l4Linked.f k a0 a1) (spec_l4Linked.f (k + 1) a0 a1) := by
 intro a0 a1 k; have ih0 := spec_l4Linked.mono_l k; unfold spec_l4Linked.f
 repeat' first
  | (with_reducible exact ih0 _ _ _)
  | (with_reducible exact LeO.refl _)
  | (with_reducible exact LeO.none _)
  | (with_reducible refine LeO.ite ?_ ?_)
  | (with_reducible refine LeO.bind ?_ (fun _ => ?_))
set_option maxHeartbeats 8000000 in
set_option maxRecDepth 100000 in
theorem spec_l4Linked.calls (k : Nat) (A0 : Option Addr) (c0 : Nat) (l0 : List (S93)) (a1 : Int) (r : Bool) (w : World) (hr0 : Kd.C k93 w A0 l0.length l0) (hc0 : l0.length ≤ c0) (h : spec_l4Linked.f k l0 a1 = some r) :
 Calls Try.prog 77 #[.slice A0 l0.length c0, .int .i64 a1] w fun e w' => e = .returned (.bool r) ∧ Drawn0 w w' := by
 have HR0 := aK hr0; have HC0 := aK hc0; clear hr0 hc0; have H : (spec_l4Linked.l0 k l0 a1 0) = some r := h; clear h; have H' := aK H; clear H
 go_enter Try.func77, Try.ntmps77
 go_wp2
 go_loopg [5] k (fun kq v5 w' => ∃ (x5_1 : Int), v5 = .int .i64 x5_1 ∧ Aside0 (spec_l4Linked.l0 kq l0 a1 x5_1 = some r) ∧ Aside0 (kq ≤ k) ∧ Drawn0 w w')
 case atStart => exact ⟨(0), fa, H', ⟨Nat.le_refl _⟩, fd⟩
 case round =>
  clear H'; (try clear p2); obtain ⟨x5_1, rfl, HA, HK1, ⟨m1, rfl⟩⟩ := hrel; cases gk with
  | zero => exact absurd HA.o (by simp [spec_l4Linked.l0])
  | succ k1 =>
   have H := HA.o; clear HA; simp only [spec_l4Linked.l0] at H; by_cases c3 : x5_1 < (l0.length : Int)
   ·rw [if_pos c3] at H; have c3b0 : decide (x5_1 < (l0.length : Int)) = true := dt c3; clear c3; by_cases c4 : 0 ≤ x5_1
    ·rw [if_pos c4] at H; have c4b0 : decide (0 ≤ x5_1) = true := dt c4; clear c4; have Hq_ := aK H; clear H; have p136 : 0 ≤ (x5_1 : Int) := dT am; have q136 : x5_1 < (l0.length : Int) := dT am; obtain ⟨ad136, e136, hx136_0, hx136_1⟩ := at_T93 HR0.o x5_1 p136 q136; cases e136; replace p136 := eq_true p136; replace q136 := eq_true q136; have H := Hq_.o; clear Hq_; by_cases c5 : ((rd_T93 l0 x5_1).f1) = a1
     ·rw [if_pos c5] at H; have c5b0 : (((rd_T93 l0 x5_1).f1) == a1) = true := beq_iff_eq.mpr c5; (try rw [c5b0]); have c5b1 : (((rd_T93 l0 x5_1).f1) != a1) = false := bE c5; (try rw [c5b1]); clear c5; obtain rfl := oj H; go_wp2
      go_ret
      exact ⟨fa, fd⟩
     ·rw [if_neg c5] at H; have c5b0 : (((rd_T93 l0 x5_1).f1) == a1) = false := bN c5; (try rw [c5b0]); have c5b1 : (((rd_T93 l0 x5_1).f1) != a1) = true := bne_iff_ne.mpr c5; (try rw [c5b1]); have H' := aK H; clear H; go_wp2
      go_roundg k1
      case measure => have := HK1.o; omega
      case rel => exact ⟨(wrap64 (x5_1 + 1)), fa, H', ⟨by have := HK1.o; omega⟩, fd⟩
    ·rw [if_neg c4] at H; exact absurd H (by simp)
   ·rw [if_neg c3] at H; have c3b0 : decide (x5_1 < (l0.length : Int)) = false := df c3; clear c3; obtain rfl := oj H; go_wp2
    go_ret
    exact ⟨fa, fd⟩
/-! ### spec_l4Made: function 78 -/
def spec_l4Made.l0 : Nat → List (S95) → Int → Int → Option (Bool)
 | 0, _, _, _ => none
 | k + 1, x0, x1, x5 => if x5 < (x0.length : Int) then (if 0 ≤ x5 then (if ((rd_T95 x0 x5).f0) = 1 then (if ((rd_T95 x0 x5).f3) = x1 then (some true) else (spec_l4Made.l0 k x0 x1 (wrap64 (x5 + 1)))) else (spec_l4Made.l0 k x0 x1 (wrap64 (x5 + 1)))) else (none)) else (some false)
def spec_l4Made.f (k : Nat) (l0 : List (S95)) (a1 : Int) : Option (Bool) := spec_l4Made.l0 k l0 a1 0
theorem spec_l4Made.mono_l : ∀ k, (∀ y0 y1 y2, LeO (spec_l4Made.l0 k y0 y1 y2) (spec_l4Made.l0 (k + 1) y0 y1 y2))
 | 0 => fun _ _ _ r h => by simp [spec_l4Made.l0] at h
 | k + 1 => by
  have ih0 := spec_l4Made.mono_l k
  ·intro y0 y1 y2
   unfold spec_l4Made.l0
   repeat' first
   | (with_reducible exact ih0 _ _ _)
   | (with_reducible exact LeO.refl _)
   | (with_reducible exact LeO.none _)
   | (with_reducible refine LeO.ite ?_ ?_)
   | (with_reducible refine LeO.bind ?_ (fun _ => ?_))
theorem spec_l4Made.mono : ∀ a0 a1 k, LeO (spec_l4Made.f k a0 a1) (spec_l4Made.f (k + 1) a0 a1) := by
 intro a0 a1 k; have ih0 := spec_l4Made.mono_l k; unfold spec_l4Made.f
 repeat' first
  | (with_reducible exact ih0 _ _ _)
  | (with_reducible exact LeO.refl _)
  | (with_reducible exact LeO.none _)
  | (with_reducible refine LeO.ite ?_ ?_)
  | (with_reducible refine LeO.bind ?_ (fun _ => ?_))
set_option maxHeartbeats 8000000 in
set_option maxRecDepth 100000 in
theorem spec_l4Made.calls (k : Nat) (A0 : Option Addr) (c0 : Nat) (l0 : List (S95)) (a1 : Int) (r : Bool) (w : World) (hr0 : Kd.C k95 w A0 l0.length l0) (hc0 : l0.length ≤ c0) (h : spec_l4Made.f k l0 a1 = some r) :
 Calls Try.prog 78 #[.slice A0 l0.length c0, .int .i64 a1] w fun e w' => e = .returned (.bool r) ∧ Drawn0 w w' := by
 have HR0 := aK hr0; have HC0 := aK hc0; clear hr0 hc0; have H : (spec_l4Made.l0 k l0 a1 0) = some r := h; clear h; have H' := aK H; clear H
 go_enter Try.func78, Try.ntmps78
 go_wp2
 go_loopg [5] k (fun kq v5 w' => ∃ (x5_1 : Int), v5 = .int .i64 x5_1 ∧ Aside0 (spec_l4Made.l0 kq l0 a1 x5_1 = some r) ∧ Aside0 (kq ≤ k) ∧ Drawn0 w w')
 case atStart => exact ⟨(0), fa, H', ⟨Nat.le_refl _⟩, fd⟩
 case round =>
  clear H'; (try clear p2); obtain ⟨x5_1, rfl, HA, HK1, ⟨m1, rfl⟩⟩ := hrel; cases gk with
  | zero => exact absurd HA.o (by simp [spec_l4Made.l0])
  | succ k1 =>
   have H := HA.o; clear HA; simp only [spec_l4Made.l0] at H; by_cases c3 : x5_1 < (l0.length : Int)
   ·rw [if_pos c3] at H; have c3b0 : decide (x5_1 < (l0.length : Int)) = true := dt c3; clear c3; by_cases c4 : 0 ≤ x5_1
    ·rw [if_pos c4] at H; have c4b0 : decide (0 ≤ x5_1) = true := dt c4; clear c4; have Hq_ := aK H; clear H; have p137 : 0 ≤ (x5_1 : Int) := dT am; have q137 : x5_1 < (l0.length : Int) := dT am; obtain ⟨ad137, e137, hx137_0, hx137_1, hx137_2, hx137_3⟩ := at_T95 HR0.o x5_1 p137 q137; cases e137; replace p137 := eq_true p137; replace q137 := eq_true q137; have H := Hq_.o; clear Hq_; by_cases c5 : ((rd_T95 l0 x5_1).f0) = 1
     ·rw [if_pos c5] at H; have c5b0 : (((rd_T95 l0 x5_1).f0) == 1) = true := beq_iff_eq.mpr c5; (try rw [c5b0]); have c5b1 : (((rd_T95 l0 x5_1).f0) != 1) = false := bE c5; (try rw [c5b1]); clear c5; have Hq_ := aK H; clear H; have p138 : 0 ≤ (x5_1 : Int) := dT am; have q138 : x5_1 < (l0.length : Int) := dT am; obtain ⟨ad138, e138, hx138_0, hx138_1, hx138_2, hx138_3⟩ := at_T95 HR0.o x5_1 p138 q138; obtain rfl : ad137 = ad138 := (by injection e138); replace p138 := eq_true p138; replace q138 := eq_true q138; have H := Hq_.o; clear Hq_; by_cases c6 : ((rd_T95 l0 x5_1).f3) = a1
      ·rw [if_pos c6] at H; have c6b0 : (((rd_T95 l0 x5_1).f3) == a1) = true := beq_iff_eq.mpr c6; (try rw [c6b0]); have c6b1 : (((rd_T95 l0 x5_1).f3) != a1) = false := bE c6; (try rw [c6b1]); clear c6; obtain rfl := oj H; go_wp2
       go_ret
       exact ⟨fa, fd⟩
      ·rw [if_neg c6] at H; have c6b0 : (((rd_T95 l0 x5_1).f3) == a1) = false := bN c6; (try rw [c6b0]); have c6b1 : (((rd_T95 l0 x5_1).f3) != a1) = true := bne_iff_ne.mpr c6; (try rw [c6b1]); have H' := aK H; clear H; go_wp2
       go_roundg k1
       case measure => have := HK1.o; omega
       case rel => exact ⟨(wrap64 (x5_1 + 1)), fa, H', ⟨by have := HK1.o; omega⟩, fd⟩
     ·rw [if_neg c5] at H; have c5b0 : (((rd_T95 l0 x5_1).f0) == 1) = false := bN c5; (try rw [c5b0]); have c5b1 : (((rd_T95 l0 x5_1).f0) != 1) = true := bne_iff_ne.mpr c5; (try rw [c5b1]); have H' := aK H; clear H; go_wp2
      go_roundg k1
      case measure => have := HK1.o; omega
      case rel => exact ⟨(wrap64 (x5_1 + 1)), fa, H', ⟨by have := HK1.o; omega⟩, fd⟩
    ·rw [if_neg c4] at H; exact absurd H (by simp)
   ·rw [if_neg c3] at H; have c3b0 : decide (x5_1 < (l0.length : Int)) = false := df c3; clear c3; obtain rfl := oj H; go_wp2
    go_ret
    exact ⟨fa, fd⟩
/-! ### spec_l4Name: function 79 -/
def spec_l4Name.l0 : Nat → ByteArray → Int → Option (Bool)
 | 0, _, _ => none
 | k + 1, x0, x3 => if x3 < (x0.size : Int) then (if 0 ≤ x3 then (if (bt x0 x3) ≥ 97 then (if (bt x0 x3) ≤ 122 then (spec_l4Name.l0 k x0 (wrap64 (x3 + 1))) else (if (bt x0 x3) ≥ 48 then (if (bt x0 x3) ≤ 57 then (spec_l4Name.l0 k x0 (wrap64 (x3 + 1))) else (if ((bt x0 x3) = 46) then (spec_l4Name.l0 k x0 (wrap64 (x3 + 1))) else (some false))) else (if ((bt x0 x3) = 46) then (spec_l4Name.l0 k x0 (wrap64 (x3 + 1))) else (some false)))) else (if (bt x0 x3) ≥ 48 then (if (bt x0 x3) ≤ 57 then (spec_l4Name.l0 k x0 (wrap64 (x3 + 1))) else (if ((bt x0 x3) = 46) then (spec_l4Name.l0 k x0 (wrap64 (x3 + 1))) else (some false))) else (if ((bt x0 x3) = 46) then (spec_l4Name.l0 k x0 (wrap64 (x3 + 1))) else (some false)))) else (none)) else (some true)
def spec_l4Name.f (k : Nat) (a0 : ByteArray) : Option (Bool) := (spec_l1In.f (a0.size : Int) 1 12).bind fun t139 => (if t139 = true then (spec_l4Name.l0 k a0 0) else (some false))
theorem spec_l4Name.mono_l : ∀ k, (∀ y0 y1, LeO (spec_l4Name.l0 k y0 y1) (spec_l4Name.l0 (k + 1) y0 y1))
 | 0 => fun _ _ r h => by simp [spec_l4Name.l0] at h
 | k + 1 => by
  have ih0 := spec_l4Name.mono_l k
  ·intro y0 y1
   unfold spec_l4Name.l0
   repeat' first
   | (with_reducible exact ih0 _ _)
   | (with_reducible exact LeO.refl _)
   | (with_reducible exact LeO.none _)
   | (with_reducible refine LeO.ite ?_ ?_)
   | (with_reducible refine LeO.bind ?_ (fun _ => ?_))
theorem spec_l4Name.mono : ∀ a0 k, LeO (spec_l4Name.f k a0) (spec_l4Name.f (k + 1) a0) := by
 intro a0 k; have ih0 := spec_l4Name.mono_l k; unfold spec_l4Name.f
 repeat' first
  | (with_reducible exact ih0 _ _)
  | (with_reducible exact LeO.refl _)
  | (with_reducible exact LeO.none _)
  | (with_reducible refine LeO.ite ?_ ?_)
  | (with_reducible refine LeO.bind ?_ (fun _ => ?_))
set_option maxHeartbeats 8000000 in
set_option maxRecDepth 100000 in
theorem spec_l4Name.calls (k : Nat) (a0 : ByteArray) (r : Bool) (w : World) (h : spec_l4Name.f k a0 = some r) :
 Calls Try.prog 79 #[.string a0] w fun e w' => e = .returned (.bool r) ∧ Drawn0 w w' := by
 have H : ((spec_l1In.f (a0.size : Int) 1 12).bind fun t139 => (if t139 = true then (spec_l4Name.l0 k a0 0) else (some false))) = some r := h; clear h; obtain ⟨t139, A2, H⟩ := bd H; by_cases c3 : t139 = true
 ·subst c3; replace H := iT H; have H' := aK H; clear H
  go_enter Try.func79, Try.ntmps79
  go_wp2_with (first | ((with_reducible refine gC 53 rfl ?_); refine goesZ (some 7) rfl Try.func53 #[.int .i64 (a0.size : Int), .int .i64 1, .int .i64 12] ?_; (with_reducible refine (spec_l1In.calls (a0.size : Int) 1 12 _ _ A2.o).mono ?_); rintro e w' ⟨rfl, ⟨nd, rfl⟩⟩; refine ⟨_, rfl, ?_⟩))
  go_loopg [3] k (fun kq v3 w' => ∃ (x3_1 : Int), v3 = .int .i64 x3_1 ∧ Aside0 (spec_l4Name.l0 kq a0 x3_1 = some r) ∧ Aside0 (kq ≤ k) ∧ Drawn0 w w')
  case atStart => exact ⟨(0), fa, H', ⟨Nat.le_refl _⟩, fd⟩
  case round =>
   clear H'; (try clear p2); (try clear c3); obtain ⟨x3_1, rfl, HA, HK1, ⟨m1, rfl⟩⟩ := hrel; cases gk with
   | zero => exact absurd HA.o (by simp [spec_l4Name.l0])
   | succ k1 =>
    have H := HA.o; clear HA; simp only [spec_l4Name.l0] at H; by_cases c4 : x3_1 < (a0.size : Int)
    ·rw [if_pos c4] at H; have c4b0 : decide (x3_1 < (a0.size : Int)) = true := dt c4; clear c4; by_cases c5 : 0 ≤ x3_1
     ·rw [if_pos c5] at H; have c5b0 : decide (0 ≤ x3_1) = true := dt c5; clear c5; have Hq_ := aK H; clear H; have p6 : 0 ≤ (x3_1 : Int) := dT am; have q6 : x3_1 < (a0.size : Int) := dT am; have hx6 := bt_at a0 x3_1; replace p6 := eq_true p6; replace q6 := eq_true q6; have H := Hq_.o; clear Hq_; by_cases c7 : (bt a0 x3_1) ≥ 97
      ·rw [if_pos c7] at H; have c7b0 : decide (97 ≤ (bt a0 x3_1)) = true := dt c7; (try rw [c7b0]); clear c7; by_cases c8 : (bt a0 x3_1) ≤ 122
       ·rw [if_pos c8] at H; have c8b0 : decide ((bt a0 x3_1) ≤ 122) = true := dt c8; (try rw [c8b0]); clear c8; have H' := aK H; clear H; go_wp2
        go_roundg k1
        case measure => have := HK1.o; omega
        case rel => exact ⟨(wrap64 (x3_1 + 1)), fa, H', ⟨by have := HK1.o; omega⟩, fd⟩
       ·rw [if_neg c8] at H; have c8b0 : decide ((bt a0 x3_1) ≤ 122) = false := df c8; (try rw [c8b0]); clear c8; by_cases c9 : (bt a0 x3_1) ≥ 48
        ·rw [if_pos c9] at H; have c9b0 : decide (48 ≤ (bt a0 x3_1)) = true := dt c9; (try rw [c9b0]); clear c9; by_cases c10 : (bt a0 x3_1) ≤ 57
         ·rw [if_pos c10] at H; have c10b0 : decide ((bt a0 x3_1) ≤ 57) = true := dt c10; (try rw [c10b0]); clear c10; have H' := aK H; clear H; go_wp2
          go_roundg k1
          case measure => have := HK1.o; omega
          case rel => exact ⟨(wrap64 (x3_1 + 1)), fa, H', ⟨by have := HK1.o; omega⟩, fd⟩
         ·rw [if_neg c10] at H; have c10b0 : decide ((bt a0 x3_1) ≤ 57) = false := df c10; (try rw [c10b0]); clear c10; by_cases c11 : ((bt a0 x3_1) = 46)
          ·rw [if_pos c11] at H; have c11b0 : ((bt a0 x3_1) == 46) = true := beq_iff_eq.mpr c11; (try rw [c11b0]); have c11b1 : ((bt a0 x3_1) != 46) = false := bE c11; (try rw [c11b1]); clear c11; have H' := aK H; clear H; go_wp2
           go_roundg k1
           case measure => have := HK1.o; omega
           case rel => exact ⟨(wrap64 (x3_1 + 1)), fa, H', ⟨by have := HK1.o; omega⟩, fd⟩
          ·rw [if_neg c11] at H; have c11b0 : ((bt a0 x3_1) == 46) = false := bN c11; (try rw [c11b0]); have c11b1 : ((bt a0 x3_1) != 46) = true := bne_iff_ne.mpr c11; (try rw [c11b1]); obtain rfl := oj H; go_wp2
           go_ret
           exact ⟨fa, fd⟩
        ·rw [if_neg c9] at H; have c9b0 : decide (48 ≤ (bt a0 x3_1)) = false := df c9; (try rw [c9b0]); clear c9; by_cases c12 : ((bt a0 x3_1) = 46)
         ·rw [if_pos c12] at H; have c12b0 : ((bt a0 x3_1) == 46) = true := beq_iff_eq.mpr c12; (try rw [c12b0]); have c12b1 : ((bt a0 x3_1) != 46) = false := bE c12; (try rw [c12b1]); clear c12; have H' := aK H; clear H; go_wp2
          go_roundg k1
          case measure => have := HK1.o; omega
          case rel => exact ⟨(wrap64 (x3_1 + 1)), fa, H', ⟨by have := HK1.o; omega⟩, fd⟩
         ·rw [if_neg c12] at H; have c12b0 : ((bt a0 x3_1) == 46) = false := bN c12; (try rw [c12b0]); have c12b1 : ((bt a0 x3_1) != 46) = true := bne_iff_ne.mpr c12; (try rw [c12b1]); obtain rfl := oj H; go_wp2
          go_ret
          exact ⟨fa, fd⟩
      ·rw [if_neg c7] at H; have c7b0 : decide (97 ≤ (bt a0 x3_1)) = false := df c7; (try rw [c7b0]); clear c7; by_cases c13 : (bt a0 x3_1) ≥ 48
       ·rw [if_pos c13] at H; have c13b0 : decide (48 ≤ (bt a0 x3_1)) = true := dt c13; (try rw [c13b0]); clear c13; by_cases c14 : (bt a0 x3_1) ≤ 57
        ·rw [if_pos c14] at H; have c14b0 : decide ((bt a0 x3_1) ≤ 57) = true := dt c14; (try rw [c14b0]); clear c14; have H' := aK H; clear H; go_wp2
         go_roundg k1
         case measure => have := HK1.o; omega
         case rel => exact ⟨(wrap64 (x3_1 + 1)), fa, H', ⟨by have := HK1.o; omega⟩, fd⟩
        ·rw [if_neg c14] at H; have c14b0 : decide ((bt a0 x3_1) ≤ 57) = false := df c14; (try rw [c14b0]); clear c14; by_cases c15 : ((bt a0 x3_1) = 46)
         ·rw [if_pos c15] at H; have c15b0 : ((bt a0 x3_1) == 46) = true := beq_iff_eq.mpr c15; (try rw [c15b0]); have c15b1 : ((bt a0 x3_1) != 46) = false := bE c15; (try rw [c15b1]); clear c15; have H' := aK H; clear H; go_wp2
          go_roundg k1
          case measure => have := HK1.o; omega
          case rel => exact ⟨(wrap64 (x3_1 + 1)), fa, H', ⟨by have := HK1.o; omega⟩, fd⟩
         ·rw [if_neg c15] at H; have c15b0 : ((bt a0 x3_1) == 46) = false := bN c15; (try rw [c15b0]); have c15b1 : ((bt a0 x3_1) != 46) = true := bne_iff_ne.mpr c15; (try rw [c15b1]); obtain rfl := oj H; go_wp2
          go_ret
          exact ⟨fa, fd⟩
       ·rw [if_neg c13] at H; have c13b0 : decide (48 ≤ (bt a0 x3_1)) = false := df c13; (try rw [c13b0]); clear c13; by_cases c16 : ((bt a0 x3_1) = 46)
        ·rw [if_pos c16] at H; have c16b0 : ((bt a0 x3_1) == 46) = true := beq_iff_eq.mpr c16; (try rw [c16b0]); have c16b1 : ((bt a0 x3_1) != 46) = false := bE c16; (try rw [c16b1]); clear c16; have H' := aK H; clear H; go_wp2
         go_roundg k1
         case measure => have := HK1.o; omega
         case rel => exact ⟨(wrap64 (x3_1 + 1)), fa, H', ⟨by have := HK1.o; omega⟩, fd⟩
        ·rw [if_neg c16] at H; have c16b0 : ((bt a0 x3_1) == 46) = false := bN c16; (try rw [c16b0]); have c16b1 : ((bt a0 x3_1) != 46) = true := bne_iff_ne.mpr c16; (try rw [c16b1]); obtain rfl := oj H; go_wp2
         go_ret
         exact ⟨fa, fd⟩
     ·rw [if_neg c5] at H; exact absurd H (by simp)
    ·rw [if_neg c4] at H; have c4b0 : decide (x3_1 < (a0.size : Int)) = false := df c4; clear c4; obtain rfl := oj H; go_wp2
     go_ret
     exact ⟨fa, fd⟩
 ·replace c3 := bF c3; subst c3; replace H := iF H; obtain rfl := oj H
  go_enter Try.func79, Try.ntmps79
  go_wp2_with (first | ((with_reducible refine gC 53 rfl ?_); refine goesZ (some 7) rfl Try.func53 #[.int .i64 (a0.size : Int), .int .i64 1, .int .i64 12] ?_; (with_reducible refine (spec_l1In.calls (a0.size : Int) 1 12 _ _ A2.o).mono ?_); rintro e w' ⟨rfl, ⟨nd, rfl⟩⟩; refine ⟨_, rfl, ?_⟩))
  go_ret
  exact ⟨fa, fd⟩
/-! ### spec_l4Inode: function 80 -/
def spec_l4Inode.l0 : Nat → Int → Int → Int → Int → List (S89) → List (S93) → List (S95) → Option (Int)
 | 0, _, _, _, _, _, _, _ => none
 | k + 1, x1, x5, x141000, x141001, x141002, x141003, x141004 => if x5 < (x141002.length : Int) then (if 0 ≤ x5 then (if ((rd_T89 x141002 x5).f0) = x1 then (some x5) else (spec_l4Inode.l0 k x1 (wrap64 (x5 + 1)) x141000 x141001 x141002 x141003 x141004)) else (none)) else (some (-1))
def spec_l4Inode.f (k : Nat) (a0_0 : Int) (a0_1 : Int) (l0_2 : List (S89)) (l0_3 : List (S93)) (l0_4 : List (S95)) (a1 : Int) : Option (Int) := spec_l4Inode.l0 k a1 0 a0_0 a0_1 l0_2 l0_3 l0_4
theorem spec_l4Inode.mono_l : ∀ k, (∀ y0 y1 y2 y3 y4 y5 y6, LeO (spec_l4Inode.l0 k y0 y1 y2 y3 y4 y5 y6) (spec_l4Inode.l0 (k + 1) y0 y1 y2 y3 y4 y5 y6))
 | 0 => fun _ _ _ _ _ _ _ r h => by simp [spec_l4Inode.l0] at h
 | k + 1 => by
  have ih0 := spec_l4Inode.mono_l k
  ·intro y0 y1 y2 y3 y4 y5 y6
   unfold spec_l4Inode.l0
   repeat' first
   | (with_reducible exact ih0 _ _ _ _ _ _ _)
   | (with_reducible exact LeO.refl _)
   | (with_reducible exact LeO.none _)
   | (with_reducible refine LeO.ite ?_ ?_)
   | (with_reducible refine LeO.bind ?_ (fun _ => ?_))
theorem spec_l4Inode.mono : ∀ a0 a1 a2 a3 a4 a5 k, LeO (spec_l4Inode.f k a0 a1 a2 a3 a4 a5) (spec_l4Inode.f (k + 1) a0 a1 a2 a3 a4 a5) := by
 intro a0 a1 a2 a3 a4 a5 k; have ih0 := spec_l4Inode.mono_l k; unfold spec_l4Inode.f
 repeat' first
  | (with_reducible exact ih0 _ _ _ _ _ _ _)
  | (with_reducible exact LeO.refl _)
  | (with_reducible exact LeO.none _)
  | (with_reducible refine LeO.ite ?_ ?_)
  | (with_reducible refine LeO.bind ?_ (fun _ => ?_))
set_option maxHeartbeats 8000000 in
set_option maxRecDepth 100000 in
theorem spec_l4Inode.calls (k : Nat) (a0_0 : Int) (a0_1 : Int) (A0_2 : Option Addr) (c0_2 : Nat) (l0_2 : List (S89)) (A0_3 : Option Addr) (c0_3 : Nat) (l0_3 : List (S93)) (A0_4 : Option Addr) (c0_4 : Nat) (l0_4 : List (S95)) (a1 : Int) (r : Int) (w : World) (hr0_2 : Kd.C k89 w A0_2 l0_2.length l0_2) (hc0_2 : l0_2.length ≤ c0_2) (hr0_3 : Kd.C k93 w A0_3 l0_3.length l0_3) (hc0_3 : l0_3.length ≤ c0_3) (hr0_4 : Kd.C k95 w A0_4 l0_4.length l0_4) (hc0_4 : l0_4.length ≤ c0_4) (h : spec_l4Inode.f k a0_0 a0_1 l0_2 l0_3 l0_4 a1 = some r) :
 Calls Try.prog 80 #[.agg #[.int .i64 a0_0, .int .i64 a0_1, .slice A0_2 l0_2.length c0_2, .slice A0_3 l0_3.length c0_3, .slice A0_4 l0_4.length c0_4], .int .i64 a1] w fun e w' => e = .returned (.int .i64 r) ∧ Below w.heap.size w w' := by
 have hu26 := Try.underlying26; have HR0_2 := aK hr0_2; have HC0_2 := aK hc0_2; clear hr0_2 hc0_2; have HR0_3 := aK hr0_3; have HC0_3 := aK hc0_3; clear hr0_3 hc0_3; have HR0_4 := aK hr0_4; have HC0_4 := aK hc0_4; clear hr0_4 hc0_4; have HB := aK (Below.refl w.heap.size w); have H : (spec_l4Inode.l0 k a1 0 a0_0 a0_1 l0_2 l0_3 l0_4) = some r := h; clear h; have H' := aK H; clear H
 go_enter Try.func80, Try.ntmps80
 go_wp2_with (first | ((with_reducible refine gD 2 rfl ?_); refine boxZ 2 #[.int .i64 a0_0, .int .i64 a0_1, .slice A0_2 l0_2.length c0_2, .slice A0_3 l0_3.length c0_3, .slice A0_4 l0_4.length c0_4] 26 ?_; intro gb140 hg w3 hbox hb; have BK140 := aK hbox; have GW140 := gW HB hg; replace HB := bS HB hb; clear hb hbox hg))
 go_loopg [5] k (fun kq v5 w' => ∃ (x5_1 : Int), v5 = .int .i64 x5_1 ∧ Aside0 (spec_l4Inode.l0 kq a1 x5_1 a0_0 a0_1 l0_2 l0_3 l0_4 = some r) ∧ Aside0 (kq ≤ k) ∧ Aside0 (w'.heap[gb140]? = some (.cells #[.int .i64 a0_0, .int .i64 a0_1, (.slice A0_2 l0_2.length c0_2), (.slice A0_3 l0_3.length c0_3), (.slice A0_4 l0_4.length c0_4)] 26 (0, 0))) ∧ Aside0 (Below w.heap.size w w'))
 case atStart => exact ⟨(0), fa, H', ⟨Nat.le_refl _⟩, ⟨by (with_reducible repeat (first | refine blk_drewN ?_ _ | refine blk_drew ?_ | refine blk_alloc ?_ _)); exact BK140.o⟩, ⟨bl⟩⟩
 case round =>
  clear H'; (try clear p2); obtain ⟨x5_1, rfl, HA, HK1, BK140, HB⟩ := hrel; cases gk with
  | zero => exact absurd HA.o (by simp [spec_l4Inode.l0])
  | succ k1 =>
   have H := HA.o; clear HA; simp only [spec_l4Inode.l0] at H; by_cases c4 : x5_1 < (l0_2.length : Int)
   ·rw [if_pos c4] at H; have c4b0 : decide (x5_1 < (l0_2.length : Int)) = true := dt c4; clear c4; by_cases c5 : 0 ≤ x5_1
    ·rw [if_pos c5] at H; have c5b0 : decide (0 ≤ x5_1) = true := dt c5; clear c5; have Hq_ := aK H; clear H; obtain ⟨_, _, _, _, _, _, _, _, _, _⟩ := cf5 BK140; have p141 : 0 ≤ (x5_1 : Int) := dT am; have q141 : x5_1 < (l0_2.length : Int) := dT am; obtain ⟨ad141, e141, hx141_0, hx141_1, hx141_2⟩ := at_T89 HR0_2.o x5_1 p141 q141; cases e141; replace hx141_0 := cz HB hx141_0; replace hx141_1 := cz HB hx141_1; replace hx141_2 := cz HB hx141_2; replace p141 := eq_true p141; replace q141 := eq_true q141; have H := Hq_.o; clear Hq_; by_cases c6 : ((rd_T89 l0_2 x5_1).f0) = a1
     ·rw [if_pos c6] at H; have c6b0 : (((rd_T89 l0_2 x5_1).f0) == a1) = true := beq_iff_eq.mpr c6; (try rw [c6b0]); have c6b1 : (((rd_T89 l0_2 x5_1).f0) != a1) = false := bE c6; (try rw [c6b1]); clear c6; obtain rfl := oj H; go_wp2
      go_ret
      exact ⟨fe, bl⟩
     ·rw [if_neg c6] at H; have c6b0 : (((rd_T89 l0_2 x5_1).f0) == a1) = false := bN c6; (try rw [c6b0]); have c6b1 : (((rd_T89 l0_2 x5_1).f0) != a1) = true := bne_iff_ne.mpr c6; (try rw [c6b1]); have H' := aK H; clear H; go_wp2
      go_roundg k1
      case measure => have := HK1.o; omega
      case rel => exact ⟨(wrap64 (x5_1 + 1)), fa, H', ⟨by have := HK1.o; omega⟩, ⟨by (with_reducible repeat (first | refine blk_drewN ?_ _ | refine blk_drew ?_ | refine blk_alloc ?_ _)); exact BK140.o⟩, ⟨bl⟩⟩
    ·rw [if_neg c5] at H; exact absurd H (by simp)
   ·rw [if_neg c4] at H; have c4b0 : decide (x5_1 < (l0_2.length : Int)) = false := df c4; clear c4; obtain rfl := oj H; obtain ⟨_, _, _, _, _, _, _, _, _, _⟩ := cf5 BK140; go_wp2
    go_ret
    exact ⟨fe, bl⟩
/-! ### spec_l4At: function 126 -/
def spec_l4At.l0 : Nat → List (S93) → ByteArray → Int → Option (Int)
 | 0, _, _, _ => none
 | k + 1, x0, x1, x5 => if x5 < (x0.length : Int) then (if 0 ≤ x5 then (if ((rd_T93 x0 x5).f0).toList = x1.toList then (some x5) else (spec_l4At.l0 k x0 x1 (wrap64 (x5 + 1)))) else (none)) else (some (-1))
def spec_l4At.f (k : Nat) (l0 : List (S93)) (a1 : ByteArray) : Option (Int) := spec_l4At.l0 k l0 a1 0
theorem spec_l4At.mono_l : ∀ k, (∀ y0 y1 y2, LeO (spec_l4At.l0 k y0 y1 y2) (spec_l4At.l0 (k + 1) y0 y1 y2))
 | 0 => fun _ _ _ r h => by simp [spec_l4At.l0] at h
 | k + 1 => by
  have ih0 := spec_l4At.mono_l k
  ·intro y0 y1 y2
   unfold spec_l4At.l0
   repeat' first
   | (with_reducible exact ih0 _ _ _)
   | (with_reducible exact LeO.refl _)
   | (with_reducible exact LeO.none _)
   | (with_reducible refine LeO.ite ?_ ?_)
   | (with_reducible refine LeO.bind ?_ (fun _ => ?_))
theorem spec_l4At.mono : ∀ a0 a1 k, LeO (spec_l4At.f k a0 a1) (spec_l4At.f (k + 1) a0 a1) := by
 intro a0 a1 k; have ih0 := spec_l4At.mono_l k; unfold spec_l4At.f
 repeat' first
  | (with_reducible exact ih0 _ _ _)
  | (with_reducible exact LeO.refl _)
  | (with_reducible exact LeO.none _)
  | (with_reducible refine LeO.ite ?_ ?_)
  | (with_reducible refine LeO.bind ?_ (fun _ => ?_))
set_option maxHeartbeats 8000000 in
set_option maxRecDepth 100000 in
theorem spec_l4At.calls (k : Nat) (A0 : Option Addr) (c0 : Nat) (l0 : List (S93)) (a1 : ByteArray) (r : Int) (w : World) (hr0 : Kd.C k93 w A0 l0.length l0) (hc0 : l0.length ≤ c0) (h : spec_l4At.f k l0 a1 = some r) :
 Calls Try.prog 126 #[.slice A0 l0.length c0, .string a1] w fun e w' => e = .returned (.int .i64 r) ∧ Drawn0 w w' := by
 have HR0 := aK hr0; have HC0 := aK hc0; clear hr0 hc0; have H : (spec_l4At.l0 k l0 a1 0) = some r := h; clear h; have H' := aK H; clear H
 go_enter Try.func126, Try.ntmps126
 go_wp2
 go_loopg [5] k (fun kq v5 w' => ∃ (x5_1 : Int), v5 = .int .i64 x5_1 ∧ Aside0 (spec_l4At.l0 kq l0 a1 x5_1 = some r) ∧ Aside0 (kq ≤ k) ∧ Drawn0 w w')
 case atStart => exact ⟨(0), fa, H', ⟨Nat.le_refl _⟩, fd⟩
 case round =>
  clear H'; (try clear c1); (try clear p2); obtain ⟨x5_1, rfl, HA, HK1, ⟨m1, rfl⟩⟩ := hrel; cases gk with
  | zero => exact absurd HA.o (by simp [spec_l4At.l0])
  | succ k1 =>
   have H := HA.o; clear HA; simp only [spec_l4At.l0] at H; by_cases c3 : x5_1 < (l0.length : Int)
   ·rw [if_pos c3] at H; have c3b0 : decide (x5_1 < (l0.length : Int)) = true := dt c3; clear c3; by_cases c4 : 0 ≤ x5_1
    ·rw [if_pos c4] at H; have c4b0 : decide (0 ≤ x5_1) = true := dt c4; clear c4; have Hq_ := aK H; clear H; have p142 : 0 ≤ (x5_1 : Int) := dT am; have q142 : x5_1 < (l0.length : Int) := dT am; obtain ⟨ad142, e142, hx142_0, hx142_1⟩ := at_T93 HR0.o x5_1 p142 q142; cases e142; replace p142 := eq_true p142; replace q142 := eq_true q142; have H := Hq_.o; clear Hq_; by_cases c5 : ((rd_T93 l0 x5_1).f0).toList = a1.toList
     ·rw [if_pos c5] at H; have c5b0 : (((rd_T93 l0 x5_1).f0).toList == a1.toList) = true := beq_iff_eq.mpr c5; (try rw [c5b0]); have c5b1 : (((rd_T93 l0 x5_1).f0).toList != a1.toList) = false := bE c5; (try rw [c5b1]); clear c5; obtain rfl := oj H; go_wp2
      go_ret
      exact ⟨fa, fd⟩
     ·rw [if_neg c5] at H; have c5b0 : (((rd_T93 l0 x5_1).f0).toList == a1.toList) = false := bN c5; (try rw [c5b0]); have c5b1 : (((rd_T93 l0 x5_1).f0).toList != a1.toList) = true := bne_iff_ne.mpr c5; (try rw [c5b1]); have H' := aK H; clear H; go_wp2
      go_roundg k1
      case measure => have := HK1.o; omega
      case rel => exact ⟨(wrap64 (x5_1 + 1)), fa, H', ⟨by have := HK1.o; omega⟩, fd⟩
    ·rw [if_neg c4] at H; exact absurd H (by simp)
   ·rw [if_neg c3] at H; have c3b0 : decide (x5_1 < (l0.length : Int)) = false := df c3; clear c3; obtain rfl := oj H; go_wp2
    go_ret
    exact ⟨fa, fd⟩
/-! ### spec_l4Without: function 128 -/
def spec_l4Without.l0 : Nat → List (S93) → ByteArray → List (S93) → Int → Option ((List (S93)))
 | 0, _, _, _, _ => none
 | k + 1, x0, x1, x5, x6 => if x6 < (x0.length : Int) then (if 0 ≤ x6 then (if ((rd_T93 x0 x6).f0).toList = x1.toList then (spec_l4Without.l0 k x0 x1 x5 (wrap64 (x6 + 1))) else (if x5.length < 5864062014805 then (spec_l4Without.l0 k x0 x1 (x5 ++ [(⟨(rd_T93 x0 x6).f0, (rd_T93 x0 x6).f1⟩ : S93)]) (wrap64 (x6 + 1))) else (none))) else (none)) else (some x5)
def spec_l4Without.f (k : Nat) (l0 : List (S93)) (a1 : ByteArray) : Option ((List (S93))) := spec_l4Without.l0 k l0 a1 (([] : List (S93))) 0
theorem spec_l4Without.mono_l : ∀ k, (∀ y0 y1 y2 y3, LeO (spec_l4Without.l0 k y0 y1 y2 y3) (spec_l4Without.l0 (k + 1) y0 y1 y2 y3))
 | 0 => fun _ _ _ _ r h => by simp [spec_l4Without.l0] at h
 | k + 1 => by
  have ih0 := spec_l4Without.mono_l k
  ·intro y0 y1 y2 y3
   unfold spec_l4Without.l0
   repeat' first
   | (with_reducible exact ih0 _ _ _ _)
   | (with_reducible exact LeO.refl _)
   | (with_reducible exact LeO.none _)
   | (with_reducible refine LeO.ite ?_ ?_)
   | (with_reducible refine LeO.bind ?_ (fun _ => ?_))
theorem spec_l4Without.mono : ∀ a0 a1 k, LeO (spec_l4Without.f k a0 a1) (spec_l4Without.f (k + 1) a0 a1) := by
 intro a0 a1 k; have ih0 := spec_l4Without.mono_l k; unfold spec_l4Without.f
 repeat' first
  | (with_reducible exact ih0 _ _ _ _)
  | (with_reducible exact LeO.refl _)
  | (with_reducible exact LeO.none _)
  | (with_reducible refine LeO.ite ?_ ?_)
  | (with_reducible refine LeO.bind ?_ (fun _ => ?_))
set_option maxHeartbeats 8000000 in
set_option maxRecDepth 100000 in
theorem spec_l4Without.calls (k : Nat) (A0 : Option Addr) (c0 : Nat) (l0 : List (S93)) (a1 : ByteArray) (r : List (S93)) (w : World) (hr0 : Kd.C k93 w A0 l0.length l0) (hc0 : l0.length ≤ c0) (h : spec_l4Without.f k l0 a1 = some r) :
 Calls Try.prog 128 #[.slice A0 l0.length c0, .string a1] w fun e w' => ∃ v0_ : Value, e = .returned (v0_) ∧ Kd.R k93 93 w' w.heap.size (fun _ => True) v0_ r ∧ Below w.heap.size w w' := by
 have hu93 := Try.underlying93; have HR0 := aK hr0; have HC0 := aK hc0; clear hr0 hc0; have HB := aK (Below.refl w.heap.size w); have H : (spec_l4Without.l0 k l0 a1 (([] : List (S93))) 0) = some r := h; clear h; obtain ⟨y143, hy143⟩ : ∃ y_ : List (S93), y_ = (([] : List (S93))) := ⟨_, rfl⟩; replace H : (spec_l4Without.l0 k l0 a1 y143 0) = some r := by first | (rw [hy143]; with_reducible exact H) | (have H2_ := (Option.bind_some _ _).symm.trans H; rw [hy143]; with_reducible exact H2_) | (have H2_ := (Option.bind_some _ _).symm.trans H; with_reducible exact H2_) | with_reducible exact H | (rw [hy143]; exact H) | exact H
 have Ny143 := aK hy143; clear hy143; have H' := aK H; clear H
 go_enter Try.func128, Try.ntmps128
 go_wp2_with (first | ((with_reducible refine gD 7 rfl ?_); refine Kd.R_lit k93 _ 93 ?hg (N := 7) ?hd (xs := ([] : List (S93))) (inner := []) (ok := fun _ => True) (okp := fun _ => True) ?hr ?hp (fun _ hk => hk) trivial (Below.refl _ _) (Nat.le_refl _) (by simp) ?_; (case hd => rfl); (case hg => rfl); (case hr => first | (go_simp; done) | (go_simp; rfl)); (case hp => exact (Reps.none _ _)); intro v144 w3 ho4 hb hg_ hnew_; clear hg_ hnew_; (first | rw [← Ny143.o] at ho4 | (simp only [Int.reduceToNat] at ho4; rw [← Ny143.o] at ho4)); have HO145 := rl HB ho4; replace HB := bS HB hb; clear hb ho4))
 go_loopg [5, 6] k (fun kq v5 v6 w' => ∃ (x5_1 : List (S93)) (x6_1 : Int), v6 = .int .i64 x6_1 ∧ Aside0 (spec_l4Without.l0 kq l0 a1 x5_1 x6_1 = some r) ∧ Aside0 (kq ≤ k) ∧ Aside0 (Kd.R k93 93 w' w.heap.size (fun _ => True) v5 x5_1) ∧ Aside0 (Below w.heap.size w w'))
 case atStart => exact ⟨(y143), (0), fa, H', ⟨Nat.le_refl _⟩, ⟨rpR HO145.o⟩, ⟨bl⟩⟩
 case round =>
  clear H'; (try clear c1); (try clear p2); obtain ⟨x5_1, x6_1, rfl, HA, HK1, HO_5, HB⟩ := hrel; cases gk with
  | zero => exact absurd HA.o (by simp [spec_l4Without.l0])
  | succ k1 =>
   have H := HA.o; clear HA; simp only [spec_l4Without.l0] at H; by_cases c5 : x6_1 < (l0.length : Int)
   ·rw [if_pos c5] at H; have c5b0 : decide (x6_1 < (l0.length : Int)) = true := dt c5; clear c5; by_cases c6 : 0 ≤ x6_1
    ·rw [if_pos c6] at H; have c6b0 : decide (0 ≤ x6_1) = true := dt c6; clear c6; have Hq_ := aK H; clear H; have p146 : 0 ≤ (x6_1 : Int) := dT am; have q146 : x6_1 < (l0.length : Int) := dT am; obtain ⟨ad146, e146, hx146_0, hx146_1⟩ := at_T93 HR0.o x6_1 p146 q146; cases e146; replace hx146_0 := cz HB hx146_0; replace hx146_1 := cz HB hx146_1; replace p146 := eq_true p146; replace q146 := eq_true q146; have H := Hq_.o; clear Hq_; by_cases c7 : ((rd_T93 l0 x6_1).f0).toList = a1.toList
     ·rw [if_pos c7] at H; have c7b0 : (((rd_T93 l0 x6_1).f0).toList == a1.toList) = true := beq_iff_eq.mpr c7; (try rw [c7b0]); have c7b1 : (((rd_T93 l0 x6_1).f0).toList != a1.toList) = false := bE c7; (try rw [c7b1]); clear c7; have H' := aK H; clear H; go_wp2
      go_roundg k1
      case measure => have := HK1.o; omega
      case rel => exact ⟨(x5_1), (wrap64 (x6_1 + 1)), fa, H', ⟨by have := HK1.o; omega⟩, ⟨rpR HO_5.o⟩, ⟨bl⟩⟩
     ·rw [if_neg c7] at H; have c7b0 : (((rd_T93 l0 x6_1).f0).toList == a1.toList) = false := bN c7; (try rw [c7b0]); have c7b1 : (((rd_T93 l0 x6_1).f0).toList != a1.toList) = true := bne_iff_ne.mpr c7; (try rw [c7b1]); by_cases c8 : x5_1.length < 5864062014805
      ·rw [if_pos c8] at H; have LMc8 := aK c8; clear c8; obtain ⟨y148, hy148⟩ : ∃ y_ : List (S93), y_ = (x5_1 ++ [(⟨(rd_T93 l0 x6_1).f0, (rd_T93 l0 x6_1).f1⟩ : S93)]) := ⟨_, rfl⟩; replace H : (spec_l4Without.l0 k1 l0 a1 y148 (wrap64 (x6_1 + 1))) = some r := by first | (rw [hy148]; with_reducible exact H) | (have H2_ := (Option.bind_some _ _).symm.trans H; rw [hy148]; with_reducible exact H2_) | (have H2_ := (Option.bind_some _ _).symm.trans H; with_reducible exact H2_) | with_reducible exact H | (rw [hy148]; exact H) | exact H
       have Ny148 := aK hy148; clear hy148; have H' := aK H; clear H; have pq1 : 0 ≤ (x6_1 : Int) := dT am; have qq1 : x6_1 < (l0.length : Int) := dT am; obtain ⟨adq1, eq1, hxq1_0, hxq1_1⟩ := at_T93 HR0.o x6_1 pq1 qq1; obtain rfl : ad146 = adq1 := (by injection eq1); replace hxq1_0 := cz HB hxq1_0; replace hxq1_1 := cz HB hxq1_1; replace pq1 := eq_true pq1; replace qq1 := eq_true qq1; go_wp2_with (first | ((with_reducible refine gate_builtin (b := .append) (xs := #[.tmp 21, .tmp 26]) rfl ?_); at_builtin; refine Kd.R_append k93 (w0 := w) w.heap.size rfl (.tmp 21) (.tmp 26) 23 93 (.agg #[(.string ⟨#[]⟩), (.int .i64 0)]) 24 rfl Try.underlying23 info93 rfl (by decide) (by omega) u5 x5_1 (⟨(rd_T93 l0 x6_1).f0, (rd_T93 l0 x6_1).f1⟩ : S93) [.string ((rd_T93 l0 x6_1).f0), .int .i64 ((rd_T93 l0 x6_1).f1)] (fun _ => True) (fun _ => False) rfl rfl ?aP (fun _ hk => hk.elim) ?aF ?aO ?aB ?aS ?aL ?_; (case aP => exact k93_mkM _ _ _ (⟨(rd_T93 l0 x6_1).f0, (rd_T93 l0 x6_1).f1⟩ : S93)); (case aB => exact bl); (case aF => exact (fun _ _ => trivial)); (case aO => exact (rpR HO_5.o)); (case aS => exact (below_size bl)); (case aL => have := LMc8.o; omega); intro vq1 wq2 ho hb hg hat; rw [← Ny148.o] at ho; replace HB := aK (hb); have HOq1 := aK (ho); clear HO_5; clear ho hb hg hat))
       go_roundg k1
       case measure => have := HK1.o; omega
       case rel => exact ⟨(y148), (wrap64 (x6_1 + 1)), fa, H', ⟨by have := HK1.o; omega⟩, ⟨rpR HOq1.o⟩, ⟨bl⟩⟩
      ·rw [if_neg c8] at H; exact absurd H (by simp)
    ·rw [if_neg c6] at H; exact absurd H (by simp)
   ·rw [if_neg c5] at H; have c5b0 : decide (x6_1 < (l0.length : Int)) = false := df c5; clear c5; obtain rfl := oj H; go_wp2
    go_ret
    exact ⟨_, fe, rpR HO_5.o, bl⟩
/-! ### spec_l4With: function 127 -/
def spec_l4With.l0 : Nat → List (S93) → List (S93) → Bool → Int → ByteArray → Int → Option ((List (S93)))
 | 0, _, _, _, _, _, _ => none
 | k + 1, x0, x5, x6, x7, x152000, x152001 => if x7 < (x0.length : Int) then (if x6 = true then (if 0 ≤ x7 then (if x5.length < 5864062014805 then (spec_l4With.l0 k x0 (x5 ++ [(⟨(rd_T93 x0 x7).f0, (rd_T93 x0 x7).f1⟩ : S93)]) x6 (wrap64 (x7 + 1)) x152000 x152001) else (none)) else (none)) else (if 0 ≤ x7 then (if (Op.bytesLess x152000.toList (((rd_T93 x0 x7).f0).toList)) = true then (if x5.length < 5864062014805 then ((some (x5 ++ [(⟨x152000, x152001⟩ : S93)] : List (S93))).bind fun y163 => (if y163.length < 5864062014805 then (spec_l4With.l0 k x0 (y163 ++ [(⟨(rd_T93 x0 x7).f0, (rd_T93 x0 x7).f1⟩ : S93)]) true (wrap64 (x7 + 1)) x152000 x152001) else (none))) else (none)) else (if x5.length < 5864062014805 then (spec_l4With.l0 k x0 (x5 ++ [(⟨(rd_T93 x0 x7).f0, (rd_T93 x0 x7).f1⟩ : S93)]) x6 (wrap64 (x7 + 1)) x152000 x152001) else (none))) else (none))) else (if x6 = true then (some x5) else (if x5.length < 5864062014805 then (some (x5 ++ [(⟨x152000, x152001⟩ : S93)])) else (none)))
def spec_l4With.f (k : Nat) (l0 : List (S93)) (a1_0 : ByteArray) (a1_1 : Int) : Option ((List (S93))) := (spec_l4Without.f k l0 a1_0).bind fun t155 => (spec_l4With.l0 k t155 (([] : List (S93))) false 0 a1_0 a1_1)
theorem spec_l4With.mono_l : ∀ k, (∀ y0 y1 y2 y3 y4 y5, LeO (spec_l4With.l0 k y0 y1 y2 y3 y4 y5) (spec_l4With.l0 (k + 1) y0 y1 y2 y3 y4 y5))
 | 0 => fun _ _ _ _ _ _ r h => by simp [spec_l4With.l0] at h
 | k + 1 => by
  have ih0 := spec_l4With.mono_l k
  ·intro y0 y1 y2 y3 y4 y5
   unfold spec_l4With.l0
   repeat' first
   | (with_reducible exact ih0 _ _ _ _ _ _)
   | (with_reducible exact spec_l4Without.mono _ _ _)
   | (with_reducible exact LeO.refl _)
   | (with_reducible exact LeO.none _)
   | (with_reducible refine LeO.ite ?_ ?_)
   | (with_reducible refine LeO.bind ?_ (fun _ => ?_))
theorem spec_l4With.mono : ∀ a0 a1 a2 k, LeO (spec_l4With.f k a0 a1 a2) (spec_l4With.f (k + 1) a0 a1 a2) := by
 intro a0 a1 a2 k; have ih0 := spec_l4With.mono_l k; unfold spec_l4With.f
 repeat' first
  | (with_reducible exact ih0 _ _ _ _ _ _)
  | (with_reducible exact spec_l4Without.mono _ _ _)
  | (with_reducible exact LeO.refl _)
  | (with_reducible exact LeO.none _)
  | (with_reducible refine LeO.ite ?_ ?_)
  | (with_reducible refine LeO.bind ?_ (fun _ => ?_))
set_option maxHeartbeats 8000000 in
set_option maxRecDepth 100000 in
theorem spec_l4With.calls (k : Nat) (A0 : Option Addr) (c0 : Nat) (l0 : List (S93)) (a1_0 : ByteArray) (a1_1 : Int) (r : List (S93)) (w : World) (hr0 : Kd.C k93 w A0 l0.length l0) (hc0 : l0.length ≤ c0) (h : spec_l4With.f k l0 a1_0 a1_1 = some r) :
 Calls Try.prog 127 #[.slice A0 l0.length c0, .agg #[.string a1_0, .int .i64 a1_1]] w fun e w' => ∃ v0_ : Value, e = .returned (v0_) ∧ Kd.R k93 93 w' w.heap.size (fun _ => True) v0_ r ∧ Below w.heap.size w w' := by
 have hu93 := Try.underlying93; have HR0 := aK hr0; have HC0 := aK hc0; clear hr0 hc0; have HB := aK (Below.refl w.heap.size w); have H : ((spec_l4Without.f k l0 a1_0).bind fun t155 => (spec_l4With.l0 k t155 (([] : List (S93))) false 0 a1_0 a1_1)) = some r := h; clear h; obtain ⟨y152, hy152⟩ : ∃ y_ : List (S93), y_ = (([] : List (S93))) := ⟨_, rfl⟩; replace H : ((spec_l4Without.f k l0 a1_0).bind fun t155 => (spec_l4With.l0 k t155 y152 false 0 a1_0 a1_1)) = some r := by first | (rw [hy152]; with_reducible exact H) | (have H2_ := (Option.bind_some _ _).symm.trans H; rw [hy152]; with_reducible exact H2_) | (have H2_ := (Option.bind_some _ _).symm.trans H; with_reducible exact H2_) | with_reducible exact H | (rw [hy152]; exact H) | exact H
 have Ny152 := aK hy152; clear hy152; obtain ⟨t155, A3, H⟩ := bd H; have H' := aK H; clear H
 go_enter Try.func127, Try.ntmps127
 go_wp2_with (first | ((with_reducible refine gD 3 rfl ?_); refine boxZ 3 #[.string a1_0, .int .i64 a1_1] 93 ?_; intro gb151 hg w4 hbox hb; have BK151 := aK hbox; have GW151 := gW HB hg; replace HB := bS HB hb; clear hb hbox hg) | ((with_reducible refine gD 8 rfl ?_); refine Kd.R_lit k93 _ 93 ?hg (N := 8) ?hd (xs := ([] : List (S93))) (inner := []) (ok := fun _ => True) (okp := fun _ => True) ?hr ?hp (fun _ hk => hk) trivial (Below.refl _ _) (Nat.le_refl _) (by simp) ?_; (case hd => rfl); (case hg => rfl); (case hr => first | (go_simp; done) | (go_simp; rfl)); (case hp => exact (Reps.none _ _)); intro v153 w5 ho6 hb hg_ hnew_; clear hg_ hnew_; (first | rw [← Ny152.o] at ho6 | (simp only [Int.reduceToNat] at ho6; rw [← Ny152.o] at ho6)); have HO154 := rl HB (Kd.R_newB ho6 (g := gb151) (o := .cells #[.string a1_0, .int .i64 a1_1] 93 (0, 0)) bk); replace BK151 := bv BK151 hb; replace HB := bS HB hb; clear hb ho6; obtain ⟨_, _, _, _⟩ := cf2 BK151) | (go_at_call 128; (with_reducible refine (spec_l4Without.calls k _ _ l0 a1_0 t155 _ ?_ ?_ A3.o).mono ?_); exact cB HR0 HB; exact HC0.o; rintro e w8 ⟨v156, rfl, ho0, hb⟩; have HO157 := rl HB (Kd.R_newB (Kd.R_new' ho0 (Kd.R_lt (rpR HO154.o))) (g := gb151) (o := .cells #[.string a1_0, .int .i64 a1_1] 93 (0, 0)) bk); replace HO154 := re HO154.o ho0 hb; replace BK151 := bv BK151 hb; replace HB := bS HB hb; (try clear hb ho0)))
 repeat (go_quiet (first | ((with_reducible refine gD 3 rfl ?_); refine boxZ 3 #[.string a1_0, .int .i64 a1_1] 93 ?_; intro gb151 hg w4 hbox hb; have BK151 := aK hbox; have GW151 := gW HB hg; replace HB := bS HB hb; clear hb hbox hg) | ((with_reducible refine gD 8 rfl ?_); refine Kd.R_lit k93 _ 93 ?hg (N := 8) ?hd (xs := ([] : List (S93))) (inner := []) (ok := fun _ => True) (okp := fun _ => True) ?hr ?hp (fun _ hk => hk) trivial (Below.refl _ _) (Nat.le_refl _) (by simp) ?_; (case hd => rfl); (case hg => rfl); (case hr => first | (go_simp; done) | (go_simp; rfl)); (case hp => exact (Reps.none _ _)); intro v153 w5 ho6 hb hg_ hnew_; clear hg_ hnew_; (first | rw [← Ny152.o] at ho6 | (simp only [Int.reduceToNat] at ho6; rw [← Ny152.o] at ho6)); have HO154 := rl HB (Kd.R_newB ho6 (g := gb151) (o := .cells #[.string a1_0, .int .i64 a1_1] 93 (0, 0)) bk); replace BK151 := bv BK151 hb; replace HB := bS HB hb; clear hb ho6; obtain ⟨_, _, _, _⟩ := cf2 BK151) | (go_at_call 128; (with_reducible refine (spec_l4Without.calls k _ _ l0 a1_0 t155 _ ?_ ?_ A3.o).mono ?_); exact cB HR0 HB; exact HC0.o; rintro e w8 ⟨v156, rfl, ho0, hb⟩; have n0_ := re HO154.o ho0 hb; have n1_ := rl HB (Kd.R_newB (Kd.R_new' ho0 (Kd.R_lt (rpR HO154.o))) (g := gb151) (o := .cells #[.string a1_0, .int .i64 a1_1] 93 (0, 0)) bk); have n2_ := aK (blk_below (g := gb151) (o := .cells #[.string a1_0, .int .i64 a1_1] 93 (0, 0)) bk hb); have n3_ := aK (below_step bl hb); clear HO154; clear BK151; clear HB; have HO154 := n0_; have HO157 := n1_; have BK151 := n2_; have HB := n3_; clear n0_ n1_ n2_ n3_; (try clear hb); (try clear hb2); (try clear hk); (try clear hi); (try clear ho0))); try go_wp2_with (first | ((with_reducible refine gD 3 rfl ?_); refine boxZ 3 #[.string a1_0, .int .i64 a1_1] 93 ?_; intro gb151 hg w4 hbox hb; have BK151 := aK hbox; have GW151 := gW HB hg; replace HB := bS HB hb; clear hb hbox hg) | ((with_reducible refine gD 8 rfl ?_); refine Kd.R_lit k93 _ 93 ?hg (N := 8) ?hd (xs := ([] : List (S93))) (inner := []) (ok := fun _ => True) (okp := fun _ => True) ?hr ?hp (fun _ hk => hk) trivial (Below.refl _ _) (Nat.le_refl _) (by simp) ?_; (case hd => rfl); (case hg => rfl); (case hr => first | (go_simp; done) | (go_simp; rfl)); (case hp => exact (Reps.none _ _)); intro v153 w5 ho6 hb hg_ hnew_; clear hg_ hnew_; (first | rw [← Ny152.o] at ho6 | (simp only [Int.reduceToNat] at ho6; rw [← Ny152.o] at ho6)); have HO154 := rl HB (Kd.R_newB ho6 (g := gb151) (o := .cells #[.string a1_0, .int .i64 a1_1] 93 (0, 0)) bk); replace BK151 := bv BK151 hb; replace HB := bS HB hb; clear hb ho6; obtain ⟨_, _, _, _⟩ := cf2 BK151) | (go_at_call 128; (with_reducible refine (spec_l4Without.calls k _ _ l0 a1_0 t155 _ ?_ ?_ A3.o).mono ?_); exact cB HR0 HB; exact HC0.o; rintro e w8 ⟨v156, rfl, ho0, hb⟩; have n0_ := re HO154.o ho0 hb; have n1_ := rl HB (Kd.R_newB (Kd.R_new' ho0 (Kd.R_lt (rpR HO154.o))) (g := gb151) (o := .cells #[.string a1_0, .int .i64 a1_1] 93 (0, 0)) bk); have n2_ := aK (blk_below (g := gb151) (o := .cells #[.string a1_0, .int .i64 a1_1] 93 (0, 0)) bk hb); have n3_ := aK (below_step bl hb); clear HO154; clear BK151; clear HB; have HO154 := n0_; have HO157 := n1_; have BK151 := n2_; have HB := n3_; clear n0_ n1_ n2_ n3_; (try clear hb); (try clear hb2); (try clear hk); (try clear hi); (try clear ho0))))
 go_loopg [5, 6, 7] k (fun kq v5 v6 v7 w' => ∃ (x5_1 : List (S93)) (x6_1 : Bool) (x7_1 : Int), v6 = .bool x6_1 ∧ v7 = .int .i64 x7_1 ∧ Aside0 (spec_l4With.l0 kq t155 x5_1 x6_1 x7_1 a1_0 a1_1 = some r) ∧ Aside0 (kq ≤ k) ∧ Aside0 (Kd.R k93 93 w' w.heap.size (fun k_ => some k_ ≠ (v5 : Value).ownBlock ∧ k_ ≠ gb151) v156 t155) ∧ Aside0 (Kd.R k93 93 w' w.heap.size (fun k_ => some k_ ≠ (v156 : Value).ownBlock ∧ k_ ≠ gb151) v5 x5_1) ∧ Aside0 (w'.heap[gb151]? = some (.cells #[.string a1_0, .int .i64 a1_1] 93 (0, 0))) ∧ Aside0 (Below w.heap.size w w'))
 case atStart => exact ⟨(y152), (false), (0), fa, fa, H', ⟨Nat.le_refl _⟩, ⟨rpR (rM HO157.o (fun _ hk => ⟨hk.1.2, hk.2⟩))⟩, ⟨rpR (rM HO154.o (fun _ hk => ⟨hk.2, hk.1.2⟩))⟩, ⟨by (with_reducible repeat (first | refine blk_drewN ?_ _ | refine blk_drew ?_ | refine blk_alloc ?_ _)); exact BK151.o⟩, ⟨bl⟩⟩
 case round =>
  clear H'; (try clear c1); (try clear p2); obtain ⟨x5_1, x6_1, x7_1, rfl, rfl, HA, HK1, HO_0, HO_5, BK151, HB⟩ := hrel; cases gk with
  | zero => exact absurd HA.o (by simp [spec_l4With.l0])
  | succ k1 =>
   have H := HA.o; clear HA; simp only [spec_l4With.l0] at H; by_cases c9 : x7_1 < (t155.length : Int)
   ·rw [if_pos c9] at H; have c9b0 : decide (x7_1 < (t155.length : Int)) = true := dt c9; clear c9; by_cases c10 : x6_1 = true
    ·subst c10; replace H := iT H; by_cases c11 : 0 ≤ x7_1
     ·rw [if_pos c11] at H; have c11b0 : decide (0 ≤ x7_1) = true := dt c11; clear c11; by_cases c12 : x5_1.length < 5864062014805
      ·rw [if_pos c12] at H; have LMc12 := aK c12; clear c12; obtain ⟨y159, hy159⟩ : ∃ y_ : List (S93), y_ = (x5_1 ++ [(⟨(rd_T93 t155 x7_1).f0, (rd_T93 t155 x7_1).f1⟩ : S93)]) := ⟨_, rfl⟩; replace H : (spec_l4With.l0 k1 t155 y159 true (wrap64 (x7_1 + 1)) a1_0 a1_1) = some r := by first | (rw [hy159]; with_reducible exact H) | (have H2_ := (Option.bind_some _ _).symm.trans H; rw [hy159]; with_reducible exact H2_) | (have H2_ := (Option.bind_some _ _).symm.trans H; with_reducible exact H2_) | with_reducible exact H | (rw [hy159]; exact H) | exact H
       have Ny159 := aK hy159; clear hy159; have H' := aK H; clear H; obtain ⟨Aoq1, coq1, eoq1⟩ := rs HO_0; subst eoq1; have pq1 : 0 ≤ (x7_1 : Int) := dT am; have qq1 : x7_1 < (t155.length : Int) := dT am; obtain ⟨adq1, eq1, hxq1_0, hxq1_1⟩ := at_T93 (Kd.R_reads' HO_0.o).2.2 x7_1 pq1 qq1; cases eq1; replace pq1 := eq_true pq1; replace qq1 := eq_true qq1
       go_wp2_with (first | ((with_reducible refine gate_builtin (b := .append) (xs := #[.tmp 35, .tmp 40]) rfl ?_); at_builtin; refine Kd.R_append k93 (w0 := w) w.heap.size rfl (.tmp 35) (.tmp 40) 23 93 (.agg #[(.string ⟨#[]⟩), (.int .i64 0)]) 24 rfl Try.underlying23 info93 rfl (by decide) (by omega) u5 x5_1 (⟨(rd_T93 t155 x7_1).f0, (rd_T93 t155 x7_1).f1⟩ : S93) [.string ((rd_T93 t155 x7_1).f0), .int .i64 ((rd_T93 t155 x7_1).f1)] (fun k_ => some k_ ≠ (.slice (some adq1) t155.length coq1 : Value).ownBlock ∧ k_ ≠ gb151) (fun _ => False) rfl rfl ?aP (fun _ hk => hk.elim) ?aF ?aO ?aB ?aS ?aL ?_; (case aP => exact k93_mkM _ _ _ (⟨(rd_T93 t155 x7_1).f0, (rd_T93 t155 x7_1).f1⟩ : S93)); (case aB => exact bl); (case aF => exact (fun k_ hk => ⟨Kd.fresh' (Kd.R_lt (rpR HO_0.o)) k_ hk, Kd.freshB (g := gb151) (o := .cells #[.string a1_0, .int .i64 a1_1] 93 (0, 0)) bk k_ hk⟩)); (case aO => exact (rpR HO_5.o)); (case aS => exact (below_size bl)); (case aL => have := LMc12.o; omega); intro vq1 wq1 ho hb hg hat; rw [← Ny159.o] at ho; replace HO_0 := aK (Kd.R_after (ok := (fun k_ => k_ ≠ gb151)) (rpR (rM HO_0.o (fun _ hk => ⟨hk.2, hk.1⟩))) hg hat); replace BK151 := aK (blk_grown (g := gb151) (o := .cells #[.string a1_0, .int .i64 a1_1] 93 (0, 0)) bk hg (Kd.R_away HO_5.o (fun _ hk => hk.2))); replace HB := aK (hb); have HOq1 := aK (ho); clear HO_5; clear ho hb hg hat))
       repeat (go_quiet (first | ((with_reducible refine gate_builtin (b := .append) (xs := #[.tmp 35, .tmp 40]) rfl ?_); at_builtin; refine Kd.R_append k93 (w0 := w) w.heap.size rfl (.tmp 35) (.tmp 40) 23 93 (.agg #[(.string ⟨#[]⟩), (.int .i64 0)]) 24 rfl Try.underlying23 info93 rfl (by decide) (by omega) u5 x5_1 (⟨(rd_T93 t155 x7_1).f0, (rd_T93 t155 x7_1).f1⟩ : S93) [.string ((rd_T93 t155 x7_1).f0), .int .i64 ((rd_T93 t155 x7_1).f1)] (fun k_ => some k_ ≠ (.slice (some adq1) t155.length coq1 : Value).ownBlock ∧ k_ ≠ gb151) (fun _ => False) rfl rfl ?aP (fun _ hk => hk.elim) ?aF ?aO ?aB ?aS ?aL ?_; (case aP => exact k93_mkM _ _ _ (⟨(rd_T93 t155 x7_1).f0, (rd_T93 t155 x7_1).f1⟩ : S93)); (case aB => exact bl); (case aF => exact (fun k_ hk => ⟨Kd.fresh' (Kd.R_lt (rpR HO_0.o)) k_ hk, Kd.freshB (g := gb151) (o := .cells #[.string a1_0, .int .i64 a1_1] 93 (0, 0)) bk k_ hk⟩)); (case aO => exact (rpR HO_5.o)); (case aS => exact (below_size bl)); (case aL => have := LMc12.o; omega); intro vq1 wq1 ho hb hg hat; rw [← Ny159.o] at ho; have n0_ := aK (Kd.R_after (ok := (fun k_ => k_ ≠ gb151)) (rpR (rM HO_0.o (fun _ hk => ⟨hk.2, hk.1⟩))) hg hat); have n1_ := aK (blk_grown (g := gb151) (o := .cells #[.string a1_0, .int .i64 a1_1] 93 (0, 0)) bk hg (Kd.R_away HO_5.o (fun _ hk => hk.2))); have n2_ := aK (hb); have n3_ := aK (ho); clear HO_0; clear BK151; clear HB; clear HO_5; have HO_0 := n0_; have BK151 := n1_; have HB := n2_; have HOq1 := n3_; clear n0_ n1_ n2_ n3_; clear ho hb hg hat)); try go_wp2_with (first | ((with_reducible refine gate_builtin (b := .append) (xs := #[.tmp 35, .tmp 40]) rfl ?_); at_builtin; refine Kd.R_append k93 (w0 := w) w.heap.size rfl (.tmp 35) (.tmp 40) 23 93 (.agg #[(.string ⟨#[]⟩), (.int .i64 0)]) 24 rfl Try.underlying23 info93 rfl (by decide) (by omega) u5 x5_1 (⟨(rd_T93 t155 x7_1).f0, (rd_T93 t155 x7_1).f1⟩ : S93) [.string ((rd_T93 t155 x7_1).f0), .int .i64 ((rd_T93 t155 x7_1).f1)] (fun k_ => some k_ ≠ (.slice (some adq1) t155.length coq1 : Value).ownBlock ∧ k_ ≠ gb151) (fun _ => False) rfl rfl ?aP (fun _ hk => hk.elim) ?aF ?aO ?aB ?aS ?aL ?_; (case aP => exact k93_mkM _ _ _ (⟨(rd_T93 t155 x7_1).f0, (rd_T93 t155 x7_1).f1⟩ : S93)); (case aB => exact bl); (case aF => exact (fun k_ hk => ⟨Kd.fresh' (Kd.R_lt (rpR HO_0.o)) k_ hk, Kd.freshB (g := gb151) (o := .cells #[.string a1_0, .int .i64 a1_1] 93 (0, 0)) bk k_ hk⟩)); (case aO => exact (rpR HO_5.o)); (case aS => exact (below_size bl)); (case aL => have := LMc12.o; omega); intro vq1 wq1 ho hb hg hat; rw [← Ny159.o] at ho; have n0_ := aK (Kd.R_after (ok := (fun k_ => k_ ≠ gb151)) (rpR (rM HO_0.o (fun _ hk => ⟨hk.2, hk.1⟩))) hg hat); have n1_ := aK (blk_grown (g := gb151) (o := .cells #[.string a1_0, .int .i64 a1_1] 93 (0, 0)) bk hg (Kd.R_away HO_5.o (fun _ hk => hk.2))); have n2_ := aK (hb); have n3_ := aK (ho); clear HO_0; clear BK151; clear HB; clear HO_5; have HO_0 := n0_; have BK151 := n1_; have HB := n2_; have HOq1 := n3_; clear n0_ n1_ n2_ n3_; clear ho hb hg hat)))
       go_roundg k1
       case measure => have := HK1.o; omega
       case rel => exact ⟨(y159), (true), (wrap64 (x7_1 + 1)), fa, fa, H', ⟨by have := HK1.o; omega⟩, ⟨rpR (rM HO_0.o (fun _ hk => ⟨hk.2, hk.1⟩))⟩, ⟨rpR HOq1.o⟩, ⟨by (with_reducible repeat (first | refine blk_drewN ?_ _ | refine blk_drew ?_ | refine blk_alloc ?_ _)); exact BK151.o⟩, ⟨bl⟩⟩
      ·rw [if_neg c12] at H; exact absurd H (by simp)
     ·rw [if_neg c11] at H; exact absurd H (by simp)
    ·replace c10 := bF c10; subst c10; replace H := iF H; by_cases c15 : 0 ≤ x7_1
     ·rw [if_pos c15] at H; have c15b0 : decide (0 ≤ x7_1) = true := dt c15; clear c15; have Hq_ := aK H; clear H; obtain ⟨Aoq1, coq1, eoq1⟩ := rs HO_0; subst eoq1; obtain ⟨_, _, _, _⟩ := cf2 BK151; have p162 : 0 ≤ (x7_1 : Int) := dT am; have q162 : x7_1 < (t155.length : Int) := dT am; obtain ⟨ad162, e162, hx162_0, hx162_1⟩ := at_T93 (Kd.R_reads' HO_0.o).2.2 x7_1 p162 q162; cases e162; replace p162 := eq_true p162; replace q162 := eq_true q162; have H := Hq_.o; clear Hq_; by_cases c16 : (Op.bytesLess a1_0.toList (((rd_T93 t155 x7_1).f0).toList)) = true
      ·rw [if_pos c16] at H; have c16b0 : (Op.bytesLess a1_0.toList (((rd_T93 t155 x7_1).f0).toList)) = true := c16; (try rw [c16b0]); clear c16; by_cases c17 : x5_1.length < 5864062014805
       ·rw [if_pos c17] at H; have LMc17 := aK c17; clear c17; obtain ⟨y163, hy163⟩ : ∃ y_ : List (S93), y_ = (x5_1 ++ [(⟨a1_0, a1_1⟩ : S93)]) := ⟨_, rfl⟩; replace H : (if y163.length < 5864062014805 then (spec_l4With.l0 k1 t155 (y163 ++ [(⟨(rd_T93 t155 x7_1).f0, (rd_T93 t155 x7_1).f1⟩ : S93)]) true (wrap64 (x7_1 + 1)) a1_0 a1_1) else (none)) = some r := by first | (rw [hy163]; with_reducible exact H) | (have H2_ := (Option.bind_some _ _).symm.trans H; rw [hy163]; with_reducible exact H2_) | (have H2_ := (Option.bind_some _ _).symm.trans H; with_reducible exact H2_) | with_reducible exact H | (rw [hy163]; exact H) | exact H
        have Ny163 := aK hy163; clear hy163; by_cases c18 : y163.length < 5864062014805
        ·rw [if_pos c18] at H; have LMc18 := aK c18; clear c18; obtain ⟨y167, hy167⟩ : ∃ y_ : List (S93), y_ = (y163 ++ [(⟨(rd_T93 t155 x7_1).f0, (rd_T93 t155 x7_1).f1⟩ : S93)]) := ⟨_, rfl⟩; replace H : (spec_l4With.l0 k1 t155 y167 true (wrap64 (x7_1 + 1)) a1_0 a1_1) = some r := by first | (rw [hy167]; with_reducible exact H) | (have H2_ := (Option.bind_some _ _).symm.trans H; rw [hy167]; with_reducible exact H2_) | (have H2_ := (Option.bind_some _ _).symm.trans H; with_reducible exact H2_) | with_reducible exact H | (rw [hy167]; exact H) | exact H
         have Ny167 := aK hy167; clear hy167; have H' := aK H; clear H
         go_wp2_with (first | ((with_reducible refine gate_builtin (b := .append) (xs := #[.tmp 31, .tmp 33]) rfl ?_); at_builtin; refine Kd.R_append k93 (w0 := w) w.heap.size rfl (.tmp 31) (.tmp 33) 23 93 (.agg #[(.string ⟨#[]⟩), (.int .i64 0)]) 24 rfl Try.underlying23 info93 rfl (by decide) (by omega) u5 x5_1 (⟨a1_0, a1_1⟩ : S93) [.string a1_0, .int .i64 a1_1] (fun k_ => some k_ ≠ (.slice (some ad162) t155.length coq1 : Value).ownBlock ∧ k_ ≠ gb151) (fun _ => False) rfl rfl ?aP (fun _ hk => hk.elim) ?aF ?aO ?aB ?aS ?aL ?_; (case aP => exact k93_mkM _ _ _ (⟨a1_0, a1_1⟩ : S93)); (case aB => exact bl); (case aF => exact (fun k_ hk => ⟨Kd.fresh' (Kd.R_lt (rpR HO_0.o)) k_ hk, Kd.freshB (g := gb151) (o := .cells #[.string a1_0, .int .i64 a1_1] 93 (0, 0)) bk k_ hk⟩)); (case aO => exact (rpR HO_5.o)); (case aS => exact (below_size bl)); (case aL => have := LMc17.o; omega); intro vq1 wq1 ho hb hg hat; rw [← Ny163.o] at ho; replace HO_0 := aK (Kd.R_after (ok := (fun k_ => k_ ≠ gb151)) (rpR (rM HO_0.o (fun _ hk => ⟨hk.2, hk.1⟩))) hg hat); replace BK151 := aK (blk_grown (g := gb151) (o := .cells #[.string a1_0, .int .i64 a1_1] 93 (0, 0)) bk hg (Kd.R_away HO_5.o (fun _ hk => hk.2))); replace HB := aK (hb); have HOq1 := aK (ho); clear HO_5; clear ho hb hg hat; have pq1 : 0 ≤ (x7_1 : Int) := dT am; have qq1 : x7_1 < (t155.length : Int) := dT am; obtain ⟨adq1, eq1, hxq1_0, hxq1_1⟩ := at_T93 (Kd.R_reads' HO_0.o).2.2 x7_1 pq1 qq1; obtain rfl : ad162 = adq1 := (by injection eq1); replace pq1 := eq_true pq1; replace qq1 := eq_true qq1) | ((with_reducible refine gate_builtin (b := .append) (xs := #[.tmp 35, .tmp 40]) rfl ?_); at_builtin; refine Kd.R_append k93 (w0 := w) w.heap.size rfl (.tmp 35) (.tmp 40) 23 93 (.agg #[(.string ⟨#[]⟩), (.int .i64 0)]) 24 rfl Try.underlying23 info93 rfl (by decide) (by omega) vq1 y163 (⟨(rd_T93 t155 x7_1).f0, (rd_T93 t155 x7_1).f1⟩ : S93) [.string ((rd_T93 t155 x7_1).f0), .int .i64 ((rd_T93 t155 x7_1).f1)] (fun k_ => some k_ ≠ (.slice (some ad162) t155.length coq1 : Value).ownBlock ∧ k_ ≠ gb151) (fun _ => False) rfl rfl ?aP (fun _ hk => hk.elim) ?aF ?aO ?aB ?aS ?aL ?_; (case aP => exact k93_mkM _ _ _ (⟨(rd_T93 t155 x7_1).f0, (rd_T93 t155 x7_1).f1⟩ : S93)); (case aB => exact bl); (case aF => exact (fun k_ hk => ⟨Kd.fresh' (Kd.R_lt (rpR HO_0.o)) k_ hk, Kd.freshB (g := gb151) (o := .cells #[.string a1_0, .int .i64 a1_1] 93 (0, 0)) bk k_ hk⟩)); (case aO => exact (rpR HOq1.o)); (case aS => exact (below_size bl)); (case aL => have := LMc18.o; omega); intro vq2 wq2 ho hb hg hat; rw [← Ny167.o] at ho; replace HO_0 := aK (Kd.R_after (ok := (fun k_ => k_ ≠ gb151)) (rpR HO_0.o) hg hat); replace BK151 := aK (blk_grown (g := gb151) (o := .cells #[.string a1_0, .int .i64 a1_1] 93 (0, 0)) bk hg (Kd.R_away HOq1.o (fun _ hk => hk.2))); replace HB := aK (hb); have HOq2 := aK (ho); clear HOq1; clear ho hb hg hat))
         repeat (go_quiet (first | ((with_reducible refine gate_builtin (b := .append) (xs := #[.tmp 31, .tmp 33]) rfl ?_); at_builtin; refine Kd.R_append k93 (w0 := w) w.heap.size rfl (.tmp 31) (.tmp 33) 23 93 (.agg #[(.string ⟨#[]⟩), (.int .i64 0)]) 24 rfl Try.underlying23 info93 rfl (by decide) (by omega) u5 x5_1 (⟨a1_0, a1_1⟩ : S93) [.string a1_0, .int .i64 a1_1] (fun k_ => some k_ ≠ (.slice (some ad162) t155.length coq1 : Value).ownBlock ∧ k_ ≠ gb151) (fun _ => False) rfl rfl ?aP (fun _ hk => hk.elim) ?aF ?aO ?aB ?aS ?aL ?_; (case aP => exact k93_mkM _ _ _ (⟨a1_0, a1_1⟩ : S93)); (case aB => exact bl); (case aF => exact (fun k_ hk => ⟨Kd.fresh' (Kd.R_lt (rpR HO_0.o)) k_ hk, Kd.freshB (g := gb151) (o := .cells #[.string a1_0, .int .i64 a1_1] 93 (0, 0)) bk k_ hk⟩)); (case aO => exact (rpR HO_5.o)); (case aS => exact (below_size bl)); (case aL => have := LMc17.o; omega); intro vq1 wq1 ho hb hg hat; rw [← Ny163.o] at ho; replace HO_0 := aK (Kd.R_after (ok := (fun k_ => k_ ≠ gb151)) (rpR (rM HO_0.o (fun _ hk => ⟨hk.2, hk.1⟩))) hg hat); replace BK151 := aK (blk_grown (g := gb151) (o := .cells #[.string a1_0, .int .i64 a1_1] 93 (0, 0)) bk hg (Kd.R_away HO_5.o (fun _ hk => hk.2))); replace HB := aK (hb); have HOq1 := aK (ho); clear HO_5; clear ho hb hg hat; have pq1 : 0 ≤ (x7_1 : Int) := dT am; have qq1 : x7_1 < (t155.length : Int) := dT am; obtain ⟨adq1, eq1, hxq1_0, hxq1_1⟩ := at_T93 (Kd.R_reads' HO_0.o).2.2 x7_1 pq1 qq1; obtain rfl : ad162 = adq1 := (by injection eq1); replace pq1 := eq_true pq1; replace qq1 := eq_true qq1) | ((with_reducible refine gate_builtin (b := .append) (xs := #[.tmp 35, .tmp 40]) rfl ?_); at_builtin; refine Kd.R_append k93 (w0 := w) w.heap.size rfl (.tmp 35) (.tmp 40) 23 93 (.agg #[(.string ⟨#[]⟩), (.int .i64 0)]) 24 rfl Try.underlying23 info93 rfl (by decide) (by omega) vq1 y163 (⟨(rd_T93 t155 x7_1).f0, (rd_T93 t155 x7_1).f1⟩ : S93) [.string ((rd_T93 t155 x7_1).f0), .int .i64 ((rd_T93 t155 x7_1).f1)] (fun k_ => some k_ ≠ (.slice (some ad162) t155.length coq1 : Value).ownBlock ∧ k_ ≠ gb151) (fun _ => False) rfl rfl ?aP (fun _ hk => hk.elim) ?aF ?aO ?aB ?aS ?aL ?_; (case aP => exact k93_mkM _ _ _ (⟨(rd_T93 t155 x7_1).f0, (rd_T93 t155 x7_1).f1⟩ : S93)); (case aB => exact bl); (case aF => exact (fun k_ hk => ⟨Kd.fresh' (Kd.R_lt (rpR HO_0.o)) k_ hk, Kd.freshB (g := gb151) (o := .cells #[.string a1_0, .int .i64 a1_1] 93 (0, 0)) bk k_ hk⟩)); (case aO => exact (rpR HOq1.o)); (case aS => exact (below_size bl)); (case aL => have := LMc18.o; omega); intro vq2 wq2 ho hb hg hat; rw [← Ny167.o] at ho; have n0_ := aK (Kd.R_after (ok := (fun k_ => k_ ≠ gb151)) (rpR HO_0.o) hg hat); have n1_ := aK (blk_grown (g := gb151) (o := .cells #[.string a1_0, .int .i64 a1_1] 93 (0, 0)) bk hg (Kd.R_away HOq1.o (fun _ hk => hk.2))); have n2_ := aK (hb); have n3_ := aK (ho); clear HO_0; clear BK151; clear HB; clear HOq1; have HO_0 := n0_; have BK151 := n1_; have HB := n2_; have HOq2 := n3_; clear n0_ n1_ n2_ n3_; clear ho hb hg hat)); try go_wp2_with (first | ((with_reducible refine gate_builtin (b := .append) (xs := #[.tmp 31, .tmp 33]) rfl ?_); at_builtin; refine Kd.R_append k93 (w0 := w) w.heap.size rfl (.tmp 31) (.tmp 33) 23 93 (.agg #[(.string ⟨#[]⟩), (.int .i64 0)]) 24 rfl Try.underlying23 info93 rfl (by decide) (by omega) u5 x5_1 (⟨a1_0, a1_1⟩ : S93) [.string a1_0, .int .i64 a1_1] (fun k_ => some k_ ≠ (.slice (some ad162) t155.length coq1 : Value).ownBlock ∧ k_ ≠ gb151) (fun _ => False) rfl rfl ?aP (fun _ hk => hk.elim) ?aF ?aO ?aB ?aS ?aL ?_; (case aP => exact k93_mkM _ _ _ (⟨a1_0, a1_1⟩ : S93)); (case aB => exact bl); (case aF => exact (fun k_ hk => ⟨Kd.fresh' (Kd.R_lt (rpR HO_0.o)) k_ hk, Kd.freshB (g := gb151) (o := .cells #[.string a1_0, .int .i64 a1_1] 93 (0, 0)) bk k_ hk⟩)); (case aO => exact (rpR HO_5.o)); (case aS => exact (below_size bl)); (case aL => have := LMc17.o; omega); intro vq1 wq1 ho hb hg hat; rw [← Ny163.o] at ho; replace HO_0 := aK (Kd.R_after (ok := (fun k_ => k_ ≠ gb151)) (rpR (rM HO_0.o (fun _ hk => ⟨hk.2, hk.1⟩))) hg hat); replace BK151 := aK (blk_grown (g := gb151) (o := .cells #[.string a1_0, .int .i64 a1_1] 93 (0, 0)) bk hg (Kd.R_away HO_5.o (fun _ hk => hk.2))); replace HB := aK (hb); have HOq1 := aK (ho); clear HO_5; clear ho hb hg hat; have pq1 : 0 ≤ (x7_1 : Int) := dT am; have qq1 : x7_1 < (t155.length : Int) := dT am; obtain ⟨adq1, eq1, hxq1_0, hxq1_1⟩ := at_T93 (Kd.R_reads' HO_0.o).2.2 x7_1 pq1 qq1; obtain rfl : ad162 = adq1 := (by injection eq1); replace pq1 := eq_true pq1; replace qq1 := eq_true qq1) | ((with_reducible refine gate_builtin (b := .append) (xs := #[.tmp 35, .tmp 40]) rfl ?_); at_builtin; refine Kd.R_append k93 (w0 := w) w.heap.size rfl (.tmp 35) (.tmp 40) 23 93 (.agg #[(.string ⟨#[]⟩), (.int .i64 0)]) 24 rfl Try.underlying23 info93 rfl (by decide) (by omega) vq1 y163 (⟨(rd_T93 t155 x7_1).f0, (rd_T93 t155 x7_1).f1⟩ : S93) [.string ((rd_T93 t155 x7_1).f0), .int .i64 ((rd_T93 t155 x7_1).f1)] (fun k_ => some k_ ≠ (.slice (some ad162) t155.length coq1 : Value).ownBlock ∧ k_ ≠ gb151) (fun _ => False) rfl rfl ?aP (fun _ hk => hk.elim) ?aF ?aO ?aB ?aS ?aL ?_; (case aP => exact k93_mkM _ _ _ (⟨(rd_T93 t155 x7_1).f0, (rd_T93 t155 x7_1).f1⟩ : S93)); (case aB => exact bl); (case aF => exact (fun k_ hk => ⟨Kd.fresh' (Kd.R_lt (rpR HO_0.o)) k_ hk, Kd.freshB (g := gb151) (o := .cells #[.string a1_0, .int .i64 a1_1] 93 (0, 0)) bk k_ hk⟩)); (case aO => exact (rpR HOq1.o)); (case aS => exact (below_size bl)); (case aL => have := LMc18.o; omega); intro vq2 wq2 ho hb hg hat; rw [← Ny167.o] at ho; have n0_ := aK (Kd.R_after (ok := (fun k_ => k_ ≠ gb151)) (rpR HO_0.o) hg hat); have n1_ := aK (blk_grown (g := gb151) (o := .cells #[.string a1_0, .int .i64 a1_1] 93 (0, 0)) bk hg (Kd.R_away HOq1.o (fun _ hk => hk.2))); have n2_ := aK (hb); have n3_ := aK (ho); clear HO_0; clear BK151; clear HB; clear HOq1; have HO_0 := n0_; have BK151 := n1_; have HB := n2_; have HOq2 := n3_; clear n0_ n1_ n2_ n3_; clear ho hb hg hat)))
         go_roundg k1
         case measure => have := HK1.o; omega
         case rel => exact ⟨(y167), (true), (wrap64 (x7_1 + 1)), fa, fa, H', ⟨by have := HK1.o; omega⟩, ⟨rpR (rM HO_0.o (fun _ hk => ⟨hk.2, hk.1⟩))⟩, ⟨rpR HOq2.o⟩, ⟨by (with_reducible repeat (first | refine blk_drewN ?_ _ | refine blk_drew ?_ | refine blk_alloc ?_ _)); exact BK151.o⟩, ⟨bl⟩⟩
        ·rw [if_neg c18] at H; exact absurd H (by simp)
       ·rw [if_neg c17] at H; exact absurd H (by simp)
      ·rw [if_neg c16] at H; have c16b0 : (Op.bytesLess a1_0.toList (((rd_T93 t155 x7_1).f0).toList)) = false := by simpa using c16
       (try rw [c16b0]); clear c16; by_cases c23 : x5_1.length < 5864062014805
       ·rw [if_pos c23] at H; have LMc23 := aK c23; clear c23; obtain ⟨y171, hy171⟩ : ∃ y_ : List (S93), y_ = (x5_1 ++ [(⟨(rd_T93 t155 x7_1).f0, (rd_T93 t155 x7_1).f1⟩ : S93)]) := ⟨_, rfl⟩; replace H : (spec_l4With.l0 k1 t155 y171 false (wrap64 (x7_1 + 1)) a1_0 a1_1) = some r := by first | (rw [hy171]; with_reducible exact H) | (have H2_ := (Option.bind_some _ _).symm.trans H; rw [hy171]; with_reducible exact H2_) | (have H2_ := (Option.bind_some _ _).symm.trans H; with_reducible exact H2_) | with_reducible exact H | (rw [hy171]; exact H) | exact H
        have Ny171 := aK hy171; clear hy171; have H' := aK H; clear H; have pq1 : 0 ≤ (x7_1 : Int) := dT am; have qq1 : x7_1 < (t155.length : Int) := dT am; obtain ⟨adq1, eq1, hxq1_0, hxq1_1⟩ := at_T93 (Kd.R_reads' HO_0.o).2.2 x7_1 pq1 qq1; obtain rfl : ad162 = adq1 := (by injection eq1); replace pq1 := eq_true pq1; replace qq1 := eq_true qq1
        go_wp2_with (first | ((with_reducible refine gate_builtin (b := .append) (xs := #[.tmp 35, .tmp 40]) rfl ?_); at_builtin; refine Kd.R_append k93 (w0 := w) w.heap.size rfl (.tmp 35) (.tmp 40) 23 93 (.agg #[(.string ⟨#[]⟩), (.int .i64 0)]) 24 rfl Try.underlying23 info93 rfl (by decide) (by omega) u5 x5_1 (⟨(rd_T93 t155 x7_1).f0, (rd_T93 t155 x7_1).f1⟩ : S93) [.string ((rd_T93 t155 x7_1).f0), .int .i64 ((rd_T93 t155 x7_1).f1)] (fun k_ => some k_ ≠ (.slice (some ad162) t155.length coq1 : Value).ownBlock ∧ k_ ≠ gb151) (fun _ => False) rfl rfl ?aP (fun _ hk => hk.elim) ?aF ?aO ?aB ?aS ?aL ?_; (case aP => exact k93_mkM _ _ _ (⟨(rd_T93 t155 x7_1).f0, (rd_T93 t155 x7_1).f1⟩ : S93)); (case aB => exact bl); (case aF => exact (fun k_ hk => ⟨Kd.fresh' (Kd.R_lt (rpR HO_0.o)) k_ hk, Kd.freshB (g := gb151) (o := .cells #[.string a1_0, .int .i64 a1_1] 93 (0, 0)) bk k_ hk⟩)); (case aO => exact (rpR HO_5.o)); (case aS => exact (below_size bl)); (case aL => have := LMc23.o; omega); intro vq1 wq1 ho hb hg hat; rw [← Ny171.o] at ho; replace HO_0 := aK (Kd.R_after (ok := (fun k_ => k_ ≠ gb151)) (rpR (rM HO_0.o (fun _ hk => ⟨hk.2, hk.1⟩))) hg hat); replace BK151 := aK (blk_grown (g := gb151) (o := .cells #[.string a1_0, .int .i64 a1_1] 93 (0, 0)) bk hg (Kd.R_away HO_5.o (fun _ hk => hk.2))); replace HB := aK (hb); have HOq1 := aK (ho); clear HO_5; clear ho hb hg hat))
        repeat (go_quiet (first | ((with_reducible refine gate_builtin (b := .append) (xs := #[.tmp 35, .tmp 40]) rfl ?_); at_builtin; refine Kd.R_append k93 (w0 := w) w.heap.size rfl (.tmp 35) (.tmp 40) 23 93 (.agg #[(.string ⟨#[]⟩), (.int .i64 0)]) 24 rfl Try.underlying23 info93 rfl (by decide) (by omega) u5 x5_1 (⟨(rd_T93 t155 x7_1).f0, (rd_T93 t155 x7_1).f1⟩ : S93) [.string ((rd_T93 t155 x7_1).f0), .int .i64 ((rd_T93 t155 x7_1).f1)] (fun k_ => some k_ ≠ (.slice (some ad162) t155.length coq1 : Value).ownBlock ∧ k_ ≠ gb151) (fun _ => False) rfl rfl ?aP (fun _ hk => hk.elim) ?aF ?aO ?aB ?aS ?aL ?_; (case aP => exact k93_mkM _ _ _ (⟨(rd_T93 t155 x7_1).f0, (rd_T93 t155 x7_1).f1⟩ : S93)); (case aB => exact bl); (case aF => exact (fun k_ hk => ⟨Kd.fresh' (Kd.R_lt (rpR HO_0.o)) k_ hk, Kd.freshB (g := gb151) (o := .cells #[.string a1_0, .int .i64 a1_1] 93 (0, 0)) bk k_ hk⟩)); (case aO => exact (rpR HO_5.o)); (case aS => exact (below_size bl)); (case aL => have := LMc23.o; omega); intro vq1 wq1 ho hb hg hat; rw [← Ny171.o] at ho; have n0_ := aK (Kd.R_after (ok := (fun k_ => k_ ≠ gb151)) (rpR (rM HO_0.o (fun _ hk => ⟨hk.2, hk.1⟩))) hg hat); have n1_ := aK (blk_grown (g := gb151) (o := .cells #[.string a1_0, .int .i64 a1_1] 93 (0, 0)) bk hg (Kd.R_away HO_5.o (fun _ hk => hk.2))); have n2_ := aK (hb); have n3_ := aK (ho); clear HO_0; clear BK151; clear HB; clear HO_5; have HO_0 := n0_; have BK151 := n1_; have HB := n2_; have HOq1 := n3_; clear n0_ n1_ n2_ n3_; clear ho hb hg hat)); try go_wp2_with (first | ((with_reducible refine gate_builtin (b := .append) (xs := #[.tmp 35, .tmp 40]) rfl ?_); at_builtin; refine Kd.R_append k93 (w0 := w) w.heap.size rfl (.tmp 35) (.tmp 40) 23 93 (.agg #[(.string ⟨#[]⟩), (.int .i64 0)]) 24 rfl Try.underlying23 info93 rfl (by decide) (by omega) u5 x5_1 (⟨(rd_T93 t155 x7_1).f0, (rd_T93 t155 x7_1).f1⟩ : S93) [.string ((rd_T93 t155 x7_1).f0), .int .i64 ((rd_T93 t155 x7_1).f1)] (fun k_ => some k_ ≠ (.slice (some ad162) t155.length coq1 : Value).ownBlock ∧ k_ ≠ gb151) (fun _ => False) rfl rfl ?aP (fun _ hk => hk.elim) ?aF ?aO ?aB ?aS ?aL ?_; (case aP => exact k93_mkM _ _ _ (⟨(rd_T93 t155 x7_1).f0, (rd_T93 t155 x7_1).f1⟩ : S93)); (case aB => exact bl); (case aF => exact (fun k_ hk => ⟨Kd.fresh' (Kd.R_lt (rpR HO_0.o)) k_ hk, Kd.freshB (g := gb151) (o := .cells #[.string a1_0, .int .i64 a1_1] 93 (0, 0)) bk k_ hk⟩)); (case aO => exact (rpR HO_5.o)); (case aS => exact (below_size bl)); (case aL => have := LMc23.o; omega); intro vq1 wq1 ho hb hg hat; rw [← Ny171.o] at ho; have n0_ := aK (Kd.R_after (ok := (fun k_ => k_ ≠ gb151)) (rpR (rM HO_0.o (fun _ hk => ⟨hk.2, hk.1⟩))) hg hat); have n1_ := aK (blk_grown (g := gb151) (o := .cells #[.string a1_0, .int .i64 a1_1] 93 (0, 0)) bk hg (Kd.R_away HO_5.o (fun _ hk => hk.2))); have n2_ := aK (hb); have n3_ := aK (ho); clear HO_0; clear BK151; clear HB; clear HO_5; have HO_0 := n0_; have BK151 := n1_; have HB := n2_; have HOq1 := n3_; clear n0_ n1_ n2_ n3_; clear ho hb hg hat)))
        go_roundg k1
        case measure => have := HK1.o; omega
        case rel => exact ⟨(y171), (false), (wrap64 (x7_1 + 1)), fa, fa, H', ⟨by have := HK1.o; omega⟩, ⟨rpR (rM HO_0.o (fun _ hk => ⟨hk.2, hk.1⟩))⟩, ⟨rpR HOq1.o⟩, ⟨by (with_reducible repeat (first | refine blk_drewN ?_ _ | refine blk_drew ?_ | refine blk_alloc ?_ _)); exact BK151.o⟩, ⟨bl⟩⟩
       ·rw [if_neg c23] at H; exact absurd H (by simp)
     ·rw [if_neg c15] at H; exact absurd H (by simp)
   ·rw [if_neg c9] at H; have c9b0 : decide (x7_1 < (t155.length : Int)) = false := df c9; clear c9; by_cases c27 : x6_1 = true
    ·subst c27; replace H := iT H; obtain rfl := oj H; obtain ⟨Aoq1, coq1, eoq1⟩ := rs HO_0; subst eoq1; go_wp2; repeat (go_quiet (fail); try go_wp2)
     go_ret
     exact ⟨_, fe, rpR (rM HO_5.o (fun _ hk => trivial)), bl⟩
    ·replace c27 := bF c27; subst c27; replace H := iF H; by_cases c29 : x5_1.length < 5864062014805
     ·rw [if_pos c29] at H; have LMc29 := aK c29; clear c29; obtain ⟨y174, hy174⟩ : ∃ y_ : List (S93), y_ = (x5_1 ++ [(⟨a1_0, a1_1⟩ : S93)]) := ⟨_, rfl⟩; replace H : (some y174) = some r := by first | (rw [hy174]; with_reducible exact H) | (have H2_ := (Option.bind_some _ _).symm.trans H; rw [hy174]; with_reducible exact H2_) | (have H2_ := (Option.bind_some _ _).symm.trans H; with_reducible exact H2_) | with_reducible exact H | (rw [hy174]; exact H) | exact H
      have Ny174 := aK hy174; clear hy174; obtain rfl := oj H; obtain ⟨Aoq1, coq1, eoq1⟩ := rs HO_0; subst eoq1; obtain ⟨_, _, _, _⟩ := cf2 BK151; go_wp2_with (first | ((with_reducible refine gate_builtin (b := .append) (xs := #[.tmp 44, .tmp 46]) rfl ?_); at_builtin; refine Kd.R_append k93 (w0 := w) w.heap.size rfl (.tmp 44) (.tmp 46) 23 93 (.agg #[(.string ⟨#[]⟩), (.int .i64 0)]) 24 rfl Try.underlying23 info93 rfl (by decide) (by omega) u5 x5_1 (⟨a1_0, a1_1⟩ : S93) [.string a1_0, .int .i64 a1_1] (fun k_ => some k_ ≠ (.slice Aoq1 t155.length coq1 : Value).ownBlock ∧ k_ ≠ gb151) (fun _ => False) rfl rfl ?aP (fun _ hk => hk.elim) ?aF ?aO ?aB ?aS ?aL ?_; (case aP => exact k93_mkM _ _ _ (⟨a1_0, a1_1⟩ : S93)); (case aB => exact bl); (case aF => exact (fun k_ hk => ⟨Kd.fresh' (Kd.R_lt (rpR HO_0.o)) k_ hk, Kd.freshB (g := gb151) (o := .cells #[.string a1_0, .int .i64 a1_1] 93 (0, 0)) bk k_ hk⟩)); (case aO => exact (rpR HO_5.o)); (case aS => exact (below_size bl)); (case aL => have := LMc29.o; omega); intro vq1 wq1 ho hb hg hat; rw [← Ny174.o] at ho; replace HO_0 := aK (Kd.R_after (ok := (fun k_ => k_ ≠ gb151)) (rpR (rM HO_0.o (fun _ hk => ⟨hk.2, hk.1⟩))) hg hat); replace BK151 := aK (blk_grown (g := gb151) (o := .cells #[.string a1_0, .int .i64 a1_1] 93 (0, 0)) bk hg (Kd.R_away HO_5.o (fun _ hk => hk.2))); replace HB := aK (hb); have HOq1 := aK (ho); clear HO_5; clear ho hb hg hat))
      repeat (go_quiet (first | ((with_reducible refine gate_builtin (b := .append) (xs := #[.tmp 44, .tmp 46]) rfl ?_); at_builtin; refine Kd.R_append k93 (w0 := w) w.heap.size rfl (.tmp 44) (.tmp 46) 23 93 (.agg #[(.string ⟨#[]⟩), (.int .i64 0)]) 24 rfl Try.underlying23 info93 rfl (by decide) (by omega) u5 x5_1 (⟨a1_0, a1_1⟩ : S93) [.string a1_0, .int .i64 a1_1] (fun k_ => some k_ ≠ (.slice Aoq1 t155.length coq1 : Value).ownBlock ∧ k_ ≠ gb151) (fun _ => False) rfl rfl ?aP (fun _ hk => hk.elim) ?aF ?aO ?aB ?aS ?aL ?_; (case aP => exact k93_mkM _ _ _ (⟨a1_0, a1_1⟩ : S93)); (case aB => exact bl); (case aF => exact (fun k_ hk => ⟨Kd.fresh' (Kd.R_lt (rpR HO_0.o)) k_ hk, Kd.freshB (g := gb151) (o := .cells #[.string a1_0, .int .i64 a1_1] 93 (0, 0)) bk k_ hk⟩)); (case aO => exact (rpR HO_5.o)); (case aS => exact (below_size bl)); (case aL => have := LMc29.o; omega); intro vq1 wq1 ho hb hg hat; rw [← Ny174.o] at ho; have n0_ := aK (Kd.R_after (ok := (fun k_ => k_ ≠ gb151)) (rpR (rM HO_0.o (fun _ hk => ⟨hk.2, hk.1⟩))) hg hat); have n1_ := aK (blk_grown (g := gb151) (o := .cells #[.string a1_0, .int .i64 a1_1] 93 (0, 0)) bk hg (Kd.R_away HO_5.o (fun _ hk => hk.2))); have n2_ := aK (hb); have n3_ := aK (ho); clear HO_0; clear BK151; clear HB; clear HO_5; have HO_0 := n0_; have BK151 := n1_; have HB := n2_; have HOq1 := n3_; clear n0_ n1_ n2_ n3_; clear ho hb hg hat)); try go_wp2_with (first | ((with_reducible refine gate_builtin (b := .append) (xs := #[.tmp 44, .tmp 46]) rfl ?_); at_builtin; refine Kd.R_append k93 (w0 := w) w.heap.size rfl (.tmp 44) (.tmp 46) 23 93 (.agg #[(.string ⟨#[]⟩), (.int .i64 0)]) 24 rfl Try.underlying23 info93 rfl (by decide) (by omega) u5 x5_1 (⟨a1_0, a1_1⟩ : S93) [.string a1_0, .int .i64 a1_1] (fun k_ => some k_ ≠ (.slice Aoq1 t155.length coq1 : Value).ownBlock ∧ k_ ≠ gb151) (fun _ => False) rfl rfl ?aP (fun _ hk => hk.elim) ?aF ?aO ?aB ?aS ?aL ?_; (case aP => exact k93_mkM _ _ _ (⟨a1_0, a1_1⟩ : S93)); (case aB => exact bl); (case aF => exact (fun k_ hk => ⟨Kd.fresh' (Kd.R_lt (rpR HO_0.o)) k_ hk, Kd.freshB (g := gb151) (o := .cells #[.string a1_0, .int .i64 a1_1] 93 (0, 0)) bk k_ hk⟩)); (case aO => exact (rpR HO_5.o)); (case aS => exact (below_size bl)); (case aL => have := LMc29.o; omega); intro vq1 wq1 ho hb hg hat; rw [← Ny174.o] at ho; have n0_ := aK (Kd.R_after (ok := (fun k_ => k_ ≠ gb151)) (rpR (rM HO_0.o (fun _ hk => ⟨hk.2, hk.1⟩))) hg hat); have n1_ := aK (blk_grown (g := gb151) (o := .cells #[.string a1_0, .int .i64 a1_1] 93 (0, 0)) bk hg (Kd.R_away HO_5.o (fun _ hk => hk.2))); have n2_ := aK (hb); have n3_ := aK (ho); clear HO_0; clear BK151; clear HB; clear HO_5; have HO_0 := n0_; have BK151 := n1_; have HB := n2_; have HOq1 := n3_; clear n0_ n1_ n2_ n3_; clear ho hb hg hat)))
      go_ret
      exact ⟨_, fe, rpR (rM HOq1.o (fun _ hk => trivial)), bl⟩
     ·rw [if_neg c29] at H; exact absurd H (by simp)
end Go.Proofs.Ytjcmcamijaelbaa.PDisk
