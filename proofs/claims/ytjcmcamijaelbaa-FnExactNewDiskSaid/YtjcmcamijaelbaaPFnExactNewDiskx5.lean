-- PRINTED by print.py (a twelfth state) out of the translation. Not trusted: Lean checks it.
import Derived.Test.YtjcmcamijaelbaaPFnExactNewDiskx0
import Derived.Test.YtjcmcamijaelbaaPFnExactNewDiskx3
import Derived.Test.YtjcmcamijaelbaaZip
namespace Go.Proofs.Ytjcmcamijaelbaa.PFnExactNewDisk
open Go.RowKit Go.Proofs.YtjcmcamijaelbaaW.PrintWords Go.Proofs.YtjcmcamijaelbaaW.PrintLast Go.Proofs.YtjcmcamijaelbaaW.PrintMore Go.Proofs.Ytjcmcamijaelbaa.Zip
attribute [local go_sem] max2_int min2_int max_two min_two max_three min_three max_four min_four   -- for this text's walks alone
set_option linter.unusedVariables false
set_option linter.unusedSimpArgs false

/-! ### laws_heldMoveS: function 63 -/
def laws_heldMoveS.l0 : Nat → List (S95) → Int → Int → Option (Int)
 | 0, _, _, _ => none
 | k + 1, x0, x1, x5 => if x5 < (x0.length : Int) then (if 0 ≤ x5 then (if ((rd_T95 x0 x5).f0) = x1 then ((laws_markText.f k (wrap64 (x1 + 1))).bind fun t157 => (if ((rd_T95 x0 x5).f1).toList = t157.toList then ((laws_markText.f k (wrap64 ((wrap64 (x1 + 1)) + 1))).bind fun t159 => (if ((rd_T95 x0 x5).f2).toList = t159.toList then (if ((rd_T95 x0 x5).f3) = (wrap64 ((wrap64 ((wrap64 (x1 + 1)) + 1)) + 1)) then (laws_heldMoveS.l0 k x0 (wrap64 ((wrap64 ((wrap64 ((wrap64 (x1 + 1)) + 1)) + 1)) + 1)) (wrap64 (x5 + 1))) else (some (-1))) else (some (-1)))) else (some (-1)))) else (some (-1))) else (none)) else (some x1)
def laws_heldMoveS.f (k : Nat) (l0 : List (S95)) (a1 : Int) : Option (Int) := laws_heldMoveS.l0 k l0 a1 0
theorem laws_heldMoveS.mono_l : ∀ k, (∀ y0 y1 y2, LeO (laws_heldMoveS.l0 k y0 y1 y2) (laws_heldMoveS.l0 (k + 1) y0 y1 y2))
 | 0 => fun _ _ _ r h => by simp [laws_heldMoveS.l0] at h
 | k + 1 => by
  have ih0 := laws_heldMoveS.mono_l k
  ·intro y0 y1 y2
   unfold laws_heldMoveS.l0
   repeat' first
   | (with_reducible exact ih0 _ _ _)
   | (with_reducible exact laws_markText.mono _ _)
   | (with_reducible exact LeO.refl _)
   | (with_reducible exact LeO.none _)
   | (with_reducible refine LeO.ite ?_ ?_)
   | (with_reducible refine LeO.bind ?_ (fun _ => ?_))
   | exact ih0 _ _ _
   | exact laws_markText.mono _ _
   | exact LeO.none _
   | refine LeO.ite ?_ ?_
   | refine LeO.bind ?_ (fun _ => ?_)
theorem laws_heldMoveS.mono : ∀ a0 a1 k, LeO (laws_heldMoveS.f k a0 a1) (laws_heldMoveS.f (k + 1) a0 a1) := by
 intro a0 a1 k
 have ih0 := laws_heldMoveS.mono_l k
 unfold laws_heldMoveS.f
 repeat' first
  | (with_reducible exact ih0 _ _ _)
  | (with_reducible exact laws_markText.mono _ _)
  | (with_reducible exact LeO.refl _)
  | (with_reducible exact LeO.none _)
  | (with_reducible refine LeO.ite ?_ ?_)
  | (with_reducible refine LeO.bind ?_ (fun _ => ?_))
  | exact ih0 _ _ _
  | exact laws_markText.mono _ _
  | exact LeO.none _
  | refine LeO.ite ?_ ?_
  | refine LeO.bind ?_ (fun _ => ?_)
def laws_heldMoveS.T7 : Bool × List (List Nat × List Nat) := (true, [([], []), ([], []), ([0, 1], [0, 1]), ([2], [2]), ([3], [3]), ([], []), ([5], [5]), ([4, 6], [4, 6])])
def laws_heldMoveS.B7 : List Nat := [0, 0, 3, 7, 15, 0, 32, 127]
theorem laws_heldMoveS.tab7 : rtab .any (opsOf Try.f63 7) = laws_heldMoveS.T7 := by kernel_rfl
theorem laws_heldMoveS.bits7 : waitsOk laws_heldMoveS.T7.2 laws_heldMoveS.B7 = true := by kernel_rfl
def laws_heldMoveS.T10 : Bool × List (List Nat × List Nat) := (true, [([], []), ([], []), ([0, 1], [0, 1]), ([2], [2]), ([3], [3]), ([], []), ([5], [5]), ([4, 6], [4, 6])])
def laws_heldMoveS.B10 : List Nat := [0, 0, 3, 7, 15, 0, 32, 127]
theorem laws_heldMoveS.tab10 : rtab .any (opsOf Try.f63 10) = laws_heldMoveS.T10 := by kernel_rfl
theorem laws_heldMoveS.bits10 : waitsOk laws_heldMoveS.T10.2 laws_heldMoveS.B10 = true := by kernel_rfl
set_option maxHeartbeats 8000000 in
set_option maxRecDepth 100000 in
theorem laws_heldMoveS.calls (k : Nat) (A0 : Option Addr) (c0 : Nat) (l0 : List (S95)) (a1 : Int) (r : Int) (w : World) (hr0 : Kd.C k95 w A0 l0.length l0) (hc0 : l0.length ≤ c0) (h : laws_heldMoveS.f k l0 a1 = some r) :
 Calls Try.prog 63 #[.slice A0 l0.length c0, .int .i64 a1] w fun e w' => e = .returned (.int .i64 r) ∧ Below w.heap.size w w' := by
 have HR0 := Aside0.mk hr0
 have HC0 := Aside0.mk hc0
 clear hr0 hc0
 have HB := Aside0.mk (Below.refl w.heap.size w)
 have H : (laws_heldMoveS.l0 k l0 a1 0) = some r := h
 clear h
 have H' := Aside0.mk H
 clear H
 go_enter Try.func63, Try.ntmps63
 go_wp2
 go_loopg [1, 5] k (fun kq v1 v5 w' => ∃ (x1_1 : Int) (x5_1 : Int), v1 = .int .i64 x1_1 ∧ v5 = .int .i64 x5_1 ∧ Aside0 (laws_heldMoveS.l0 kq l0 x1_1 x5_1 = some r) ∧ Aside0 (kq ≤ k) ∧ Aside0 (Below w.heap.size w w'))
 case atStart => exact ⟨(a1), (0), fa, fa, H', ⟨Nat.le_refl _⟩, ⟨bl⟩⟩
 case round =>
  clear H'
  try clear p2
  obtain ⟨x1_1, x5_1, rfl, rfl, HA, HK1, HB⟩ := hrel
  cases gk with
  | zero => exact absurd HA.out (by simp [laws_heldMoveS.l0])
  | succ k1 =>
   have H := HA.out
   clear HA
   simp only [laws_heldMoveS.l0] at H
   by_cases c3 : x5_1 < (l0.length : Int)
   ·rw [if_pos c3] at H
    have c3b0 : decide (x5_1 < (l0.length : Int)) = true := decide_eq_true c3
    clear c3
    by_cases c4 : 0 ≤ x5_1
    ·rw [if_pos c4] at H
     have c4b0 : decide (0 ≤ x5_1) = true := decide_eq_true c4
     clear c4
     by_cases c5 : ((rd_T95 l0 x5_1).f0) = x1_1
     ·rw [if_pos c5] at H
      have c5b0 : (((rd_T95 l0 x5_1).f0) == x1_1) = true := beq_iff_eq.mpr c5
      have c5b1 : (((rd_T95 l0 x5_1).f0) != x1_1) = false := bne_eq_false_iff_eq.mpr c5
      clear c5
      obtain ⟨t157, A6, H⟩ := bd H
      by_cases c7 : ((rd_T95 l0 x5_1).f1).toList = t157.toList
      ·rw [if_pos c7] at H
       have c7b0 : (((rd_T95 l0 x5_1).f1).toList == t157.toList) = true := beq_iff_eq.mpr c7
       have c7b1 : (((rd_T95 l0 x5_1).f1).toList != t157.toList) = false := bne_eq_false_iff_eq.mpr c7
       clear c7
       obtain ⟨t159, A8, H⟩ := bd H
       by_cases c9 : ((rd_T95 l0 x5_1).f2).toList = t159.toList
       ·rw [if_pos c9] at H
        have c9b0 : (((rd_T95 l0 x5_1).f2).toList == t159.toList) = true := beq_iff_eq.mpr c9
        have c9b1 : (((rd_T95 l0 x5_1).f2).toList != t159.toList) = false := bne_eq_false_iff_eq.mpr c9
        clear c9
        by_cases c10 : ((rd_T95 l0 x5_1).f3) = (wrap64 ((wrap64 ((wrap64 (x1_1 + 1)) + 1)) + 1))
        ·rw [if_pos c10] at H
         have c10b0 : (((rd_T95 l0 x5_1).f3) == (wrap64 ((wrap64 ((wrap64 (x1_1 + 1)) + 1)) + 1))) = true := beq_iff_eq.mpr c10
         have c10b1 : (((rd_T95 l0 x5_1).f3) != (wrap64 ((wrap64 ((wrap64 (x1_1 + 1)) + 1)) + 1))) = false := bne_eq_false_iff_eq.mpr c10
         clear c10
         have H' := Aside0.mk H
         clear H
         have p155 : 0 ≤ (x5_1 : Int) := of_decide_eq_true am
         have q155 : x5_1 < (l0.length : Int) := of_decide_eq_true am
         obtain ⟨ad155, e155, hx155_0, hx155_1, hx155_2, hx155_3⟩ := at_T95 HR0.out x5_1 p155 q155
         cases e155
         replace hx155_0 := cz HB hx155_0
         replace hx155_1 := cz HB hx155_1
         replace hx155_2 := cz HB hx155_2
         replace hx155_3 := cz HB hx155_3
         replace p155 := eq_true p155
         replace q155 := eq_true q155
         try go_wp2
         replace HB := Aside0.mk (below_drew1 HB.out)
         have p156 : 0 ≤ (x5_1 : Int) := of_decide_eq_true am
         have q156 : x5_1 < (l0.length : Int) := of_decide_eq_true am
         obtain ⟨ad156, e156, hx156_0, hx156_1, hx156_2, hx156_3⟩ := at_T95 HR0.out x5_1 p156 q156
         have hw156_3 := hx156_3
         have hw156_2 := hx156_2
         have hw156_1 := hx156_1
         have hw156_0 := hx156_0
         obtain rfl : ad155 = ad156 := (by injection e156)
         replace hx156_0 := cz HB hx156_0
         replace hx156_1 := cz HB hx156_1
         replace hx156_2 := cz HB hx156_2
         replace hx156_3 := cz HB hx156_3
         replace p156 := eq_true p156
         replace q156 := eq_true q156
         refine start_ (n := 8) (S := fun w' => w'.cell? (ad155.add ((x5_1).toNat * 4)) = some (.int .i64 ((rd_T95 l0 x5_1).f0)) ∧ w'.cell? ⟨(ad155.add ((x5_1).toNat * 4)).block, (ad155.add ((x5_1).toNat * 4)).off + 1, none⟩ = some (.string ((rd_T95 l0 x5_1).f1)) ∧ w'.cell? ⟨(ad155.add ((x5_1).toNat * 4)).block, (ad155.add ((x5_1).toNat * 4)).off + 2, none⟩ = some (.string ((rd_T95 l0 x5_1).f2)) ∧ w'.cell? ⟨(ad155.add ((x5_1).toNat * 4)).block, (ad155.add ((x5_1).toNat * 4)).off + 3, none⟩ = some (.int .i64 ((rd_T95 l0 x5_1).f3))) (ds := []) (bo 8 0) (by kernel_rfl) rfl rfl ⟨((HB.out.cell (World.block_lt_of_cell? w _ hw156_0)).trans hw156_0), ((HB.out.cell (World.block_lt_of_cell? w _ hw156_1)).trans hw156_1), ((HB.out.cell (World.block_lt_of_cell? w _ hw156_2)).trans hw156_2), ((HB.out.cell (World.block_lt_of_cell? w _ hw156_3)).trans hw156_3)⟩ (fun hHeld => ?_); refine with_tabW laws_heldMoveS.tab7 laws_heldMoveS.bits7 (fun HT_ HW_ => ?_)
         generalize wr.drew = w11 at HB hx156_0 hx156_1 hx156_2 hx156_3 hHeld ⊢
         refine pV 0 21 (bo 8 1) ?_
         refine pV 1 22 (bo 8 3) ?_
         refine pV 2 23 (bo 8 7) ?_
         refine pV 3 24 (bo 8 15) ?_
         refine pV 5 26 (bo 8 47) ?_
         refine tV 4 25 (bo 8 63) ?_
         refine one_ (i := 6) (N := some 27) (bo 8 127) rfl rfl (one_of HT_.out (by kernel_rfl)) (by decide) (fun K hK => ?_)
         refine goes_ Try.func94 (by kernel_rfl) rfl #[.int .i64 (wrap64 (x1_1 + 1))] (by rfl) rfl rfl sa ?_
         with_reducible refine (laws_markText.calls k1 (wrap64 (x1_1 + 1)) t157 _ A6.out).mono ?_
         rintro e w12 ⟨rfl, hb⟩
         refine ⟨_, rfl, ?_⟩
         replace HB := bs (w := w) hb; (try clear hb hb2 hk hi)
         refine hK.out _ _ ⟨((HB.out.cell (World.block_lt_of_cell? w _ hw156_0)).trans hw156_0), ((HB.out.cell (World.block_lt_of_cell? w _ hw156_1)).trans hw156_1), ((HB.out.cell (World.block_lt_of_cell? w _ hw156_2)).trans hw156_2), ((HB.out.cell (World.block_lt_of_cell? w _ hw156_3)).trans hw156_3)⟩ (fun hHeld => ?_)
         clear hK K
         refine norm_ (a' := ?_) ?_ ?_
         rotate_left
         ·show Act.put _ (some 27) _ = _
          simp only [Act.put, List.setIfInBounds_toArray, List.set_cons_zero, List.set_cons_succ, i64_w, i32_w]
          rfl
         refine pV 7 28 (bo 8 255) ?_
         refine done_ (done_of HT_.out (by kernel_rfl)) ?_
         try go_wp2
         replace HB := Aside0.mk (below_drew1 HB.out)
         have p158 : 0 ≤ (x5_1 : Int) := of_decide_eq_true am
         have q158 : x5_1 < (l0.length : Int) := of_decide_eq_true am
         obtain ⟨ad158, e158, hx158_0, hx158_1, hx158_2, hx158_3⟩ := at_T95 HR0.out x5_1 p158 q158
         have hw158_3 := hx158_3
         have hw158_2 := hx158_2
         have hw158_1 := hx158_1
         have hw158_0 := hx158_0
         obtain rfl : ad155 = ad158 := (by injection e158)
         replace hx158_0 := cz HB hx158_0
         replace hx158_1 := cz HB hx158_1
         replace hx158_2 := cz HB hx158_2
         replace hx158_3 := cz HB hx158_3
         replace p158 := eq_true p158
         replace q158 := eq_true q158
         refine start_ (n := 8) (S := fun w' => w'.cell? (ad155.add ((x5_1).toNat * 4)) = some (.int .i64 ((rd_T95 l0 x5_1).f0)) ∧ w'.cell? ⟨(ad155.add ((x5_1).toNat * 4)).block, (ad155.add ((x5_1).toNat * 4)).off + 1, none⟩ = some (.string ((rd_T95 l0 x5_1).f1)) ∧ w'.cell? ⟨(ad155.add ((x5_1).toNat * 4)).block, (ad155.add ((x5_1).toNat * 4)).off + 2, none⟩ = some (.string ((rd_T95 l0 x5_1).f2)) ∧ w'.cell? ⟨(ad155.add ((x5_1).toNat * 4)).block, (ad155.add ((x5_1).toNat * 4)).off + 3, none⟩ = some (.int .i64 ((rd_T95 l0 x5_1).f3))) (ds := []) (bo 8 0) (by kernel_rfl) rfl rfl ⟨((HB.out.cell (World.block_lt_of_cell? w _ hw158_0)).trans hw158_0), ((HB.out.cell (World.block_lt_of_cell? w _ hw158_1)).trans hw158_1), ((HB.out.cell (World.block_lt_of_cell? w _ hw158_2)).trans hw158_2), ((HB.out.cell (World.block_lt_of_cell? w _ hw158_3)).trans hw158_3)⟩ (fun hHeld => ?_); refine with_tabW laws_heldMoveS.tab10 laws_heldMoveS.bits10 (fun HT_ HW_ => ?_)
         generalize w12.drew = w13 at HB hx158_0 hx158_1 hx158_2 hx158_3 hHeld ⊢
         refine pV 0 31 (bo 8 1) ?_
         refine pV 1 32 (bo 8 3) ?_
         refine pV 2 33 (bo 8 7) ?_
         refine pV 3 34 (bo 8 15) ?_
         refine pV 5 36 (bo 8 47) ?_
         refine tV 4 35 (bo 8 63) ?_
         refine one_ (i := 6) (N := some 37) (bo 8 127) rfl rfl (one_of HT_.out (by kernel_rfl)) (by decide) (fun K hK => ?_)
         refine goes_ Try.func94 (by kernel_rfl) rfl #[.int .i64 (wrap64 ((wrap64 (x1_1 + 1)) + 1))] (by rfl) rfl rfl sa ?_
         with_reducible refine (laws_markText.calls k1 (wrap64 ((wrap64 (x1_1 + 1)) + 1)) t159 _ A8.out).mono ?_
         rintro e w14 ⟨rfl, hb⟩
         refine ⟨_, rfl, ?_⟩
         replace HB := bs (w := w) hb; (try clear hb hb2 hk hi)
         refine hK.out _ _ ⟨((HB.out.cell (World.block_lt_of_cell? w _ hw158_0)).trans hw158_0), ((HB.out.cell (World.block_lt_of_cell? w _ hw158_1)).trans hw158_1), ((HB.out.cell (World.block_lt_of_cell? w _ hw158_2)).trans hw158_2), ((HB.out.cell (World.block_lt_of_cell? w _ hw158_3)).trans hw158_3)⟩ (fun hHeld => ?_)
         clear hK K
         refine norm_ (a' := ?_) ?_ ?_
         rotate_left
         ·show Act.put _ (some 37) _ = _
          simp only [Act.put, List.setIfInBounds_toArray, List.set_cons_zero, List.set_cons_succ, i64_w, i32_w]
          rfl
         refine pV 7 38 (bo 8 255) ?_
         refine done_ (done_of HT_.out (by kernel_rfl)) ?_
         have p160 : 0 ≤ (x5_1 : Int) := of_decide_eq_true am
         have q160 : x5_1 < (l0.length : Int) := of_decide_eq_true am
         obtain ⟨ad160, e160, hx160_0, hx160_1, hx160_2, hx160_3⟩ := at_T95 HR0.out x5_1 p160 q160
         obtain rfl : ad155 = ad160 := (by injection e160)
         replace hx160_0 := cz HB hx160_0
         replace hx160_1 := cz HB hx160_1
         replace hx160_2 := cz HB hx160_2
         replace hx160_3 := cz HB hx160_3
         replace p160 := eq_true p160
         replace q160 := eq_true q160
         try go_wp2
         go_roundg k1
         case measure => have := HK1.out; omega
         case rel => exact ⟨(wrap64 ((wrap64 ((wrap64 ((wrap64 (x1_1 + 1)) + 1)) + 1)) + 1)), (wrap64 (x5_1 + 1)), fa, fa, H', ⟨by have := HK1.out; omega⟩, ⟨bl⟩⟩
        ·rw [if_neg c10] at H
         have c10b0 : (((rd_T95 l0 x5_1).f3) == (wrap64 ((wrap64 ((wrap64 (x1_1 + 1)) + 1)) + 1))) = false := beq_eq_false_iff_ne.mpr c10
         have c10b1 : (((rd_T95 l0 x5_1).f3) != (wrap64 ((wrap64 ((wrap64 (x1_1 + 1)) + 1)) + 1))) = true := bne_iff_ne.mpr c10
         obtain rfl := Option.some.inj H
         have p155 : 0 ≤ (x5_1 : Int) := of_decide_eq_true am
         have q155 : x5_1 < (l0.length : Int) := of_decide_eq_true am
         obtain ⟨ad155, e155, hx155_0, hx155_1, hx155_2, hx155_3⟩ := at_T95 HR0.out x5_1 p155 q155
         cases e155
         replace hx155_0 := cz HB hx155_0
         replace hx155_1 := cz HB hx155_1
         replace hx155_2 := cz HB hx155_2
         replace hx155_3 := cz HB hx155_3
         replace p155 := eq_true p155
         replace q155 := eq_true q155
         try go_wp2
         replace HB := Aside0.mk (below_drew1 HB.out)
         have p156 : 0 ≤ (x5_1 : Int) := of_decide_eq_true am
         have q156 : x5_1 < (l0.length : Int) := of_decide_eq_true am
         obtain ⟨ad156, e156, hx156_0, hx156_1, hx156_2, hx156_3⟩ := at_T95 HR0.out x5_1 p156 q156
         have hw156_3 := hx156_3
         have hw156_2 := hx156_2
         have hw156_1 := hx156_1
         have hw156_0 := hx156_0
         obtain rfl : ad155 = ad156 := (by injection e156)
         replace hx156_0 := cz HB hx156_0
         replace hx156_1 := cz HB hx156_1
         replace hx156_2 := cz HB hx156_2
         replace hx156_3 := cz HB hx156_3
         replace p156 := eq_true p156
         replace q156 := eq_true q156
         refine start_ (n := 8) (S := fun w' => w'.cell? (ad155.add ((x5_1).toNat * 4)) = some (.int .i64 ((rd_T95 l0 x5_1).f0)) ∧ w'.cell? ⟨(ad155.add ((x5_1).toNat * 4)).block, (ad155.add ((x5_1).toNat * 4)).off + 1, none⟩ = some (.string ((rd_T95 l0 x5_1).f1)) ∧ w'.cell? ⟨(ad155.add ((x5_1).toNat * 4)).block, (ad155.add ((x5_1).toNat * 4)).off + 2, none⟩ = some (.string ((rd_T95 l0 x5_1).f2)) ∧ w'.cell? ⟨(ad155.add ((x5_1).toNat * 4)).block, (ad155.add ((x5_1).toNat * 4)).off + 3, none⟩ = some (.int .i64 ((rd_T95 l0 x5_1).f3))) (ds := []) (bo 8 0) (by kernel_rfl) rfl rfl ⟨((HB.out.cell (World.block_lt_of_cell? w _ hw156_0)).trans hw156_0), ((HB.out.cell (World.block_lt_of_cell? w _ hw156_1)).trans hw156_1), ((HB.out.cell (World.block_lt_of_cell? w _ hw156_2)).trans hw156_2), ((HB.out.cell (World.block_lt_of_cell? w _ hw156_3)).trans hw156_3)⟩ (fun hHeld => ?_); refine with_tabW laws_heldMoveS.tab7 laws_heldMoveS.bits7 (fun HT_ HW_ => ?_)
         generalize wr.drew = w15 at HB hx156_0 hx156_1 hx156_2 hx156_3 hHeld ⊢
         refine pV 0 21 (bo 8 1) ?_
         refine pV 1 22 (bo 8 3) ?_
         refine pV 2 23 (bo 8 7) ?_
         refine pV 3 24 (bo 8 15) ?_
         refine pV 5 26 (bo 8 47) ?_
         refine tV 4 25 (bo 8 63) ?_
         refine one_ (i := 6) (N := some 27) (bo 8 127) rfl rfl (one_of HT_.out (by kernel_rfl)) (by decide) (fun K hK => ?_)
         refine goes_ Try.func94 (by kernel_rfl) rfl #[.int .i64 (wrap64 (x1_1 + 1))] (by rfl) rfl rfl sa ?_
         with_reducible refine (laws_markText.calls k1 (wrap64 (x1_1 + 1)) t157 _ A6.out).mono ?_
         rintro e w16 ⟨rfl, hb⟩
         refine ⟨_, rfl, ?_⟩
         replace HB := bs (w := w) hb; (try clear hb hb2 hk hi)
         refine hK.out _ _ ⟨((HB.out.cell (World.block_lt_of_cell? w _ hw156_0)).trans hw156_0), ((HB.out.cell (World.block_lt_of_cell? w _ hw156_1)).trans hw156_1), ((HB.out.cell (World.block_lt_of_cell? w _ hw156_2)).trans hw156_2), ((HB.out.cell (World.block_lt_of_cell? w _ hw156_3)).trans hw156_3)⟩ (fun hHeld => ?_)
         clear hK K
         refine norm_ (a' := ?_) ?_ ?_
         rotate_left
         ·show Act.put _ (some 27) _ = _
          simp only [Act.put, List.setIfInBounds_toArray, List.set_cons_zero, List.set_cons_succ, i64_w, i32_w]
          rfl
         refine pV 7 28 (bo 8 255) ?_
         refine done_ (done_of HT_.out (by kernel_rfl)) ?_
         try go_wp2
         replace HB := Aside0.mk (below_drew1 HB.out)
         have p158 : 0 ≤ (x5_1 : Int) := of_decide_eq_true am
         have q158 : x5_1 < (l0.length : Int) := of_decide_eq_true am
         obtain ⟨ad158, e158, hx158_0, hx158_1, hx158_2, hx158_3⟩ := at_T95 HR0.out x5_1 p158 q158
         have hw158_3 := hx158_3
         have hw158_2 := hx158_2
         have hw158_1 := hx158_1
         have hw158_0 := hx158_0
         obtain rfl : ad155 = ad158 := (by injection e158)
         replace hx158_0 := cz HB hx158_0
         replace hx158_1 := cz HB hx158_1
         replace hx158_2 := cz HB hx158_2
         replace hx158_3 := cz HB hx158_3
         replace p158 := eq_true p158
         replace q158 := eq_true q158
         refine start_ (n := 8) (S := fun w' => w'.cell? (ad155.add ((x5_1).toNat * 4)) = some (.int .i64 ((rd_T95 l0 x5_1).f0)) ∧ w'.cell? ⟨(ad155.add ((x5_1).toNat * 4)).block, (ad155.add ((x5_1).toNat * 4)).off + 1, none⟩ = some (.string ((rd_T95 l0 x5_1).f1)) ∧ w'.cell? ⟨(ad155.add ((x5_1).toNat * 4)).block, (ad155.add ((x5_1).toNat * 4)).off + 2, none⟩ = some (.string ((rd_T95 l0 x5_1).f2)) ∧ w'.cell? ⟨(ad155.add ((x5_1).toNat * 4)).block, (ad155.add ((x5_1).toNat * 4)).off + 3, none⟩ = some (.int .i64 ((rd_T95 l0 x5_1).f3))) (ds := []) (bo 8 0) (by kernel_rfl) rfl rfl ⟨((HB.out.cell (World.block_lt_of_cell? w _ hw158_0)).trans hw158_0), ((HB.out.cell (World.block_lt_of_cell? w _ hw158_1)).trans hw158_1), ((HB.out.cell (World.block_lt_of_cell? w _ hw158_2)).trans hw158_2), ((HB.out.cell (World.block_lt_of_cell? w _ hw158_3)).trans hw158_3)⟩ (fun hHeld => ?_); refine with_tabW laws_heldMoveS.tab10 laws_heldMoveS.bits10 (fun HT_ HW_ => ?_)
         generalize w16.drew = w17 at HB hx158_0 hx158_1 hx158_2 hx158_3 hHeld ⊢
         refine pV 0 31 (bo 8 1) ?_
         refine pV 1 32 (bo 8 3) ?_
         refine pV 2 33 (bo 8 7) ?_
         refine pV 3 34 (bo 8 15) ?_
         refine pV 5 36 (bo 8 47) ?_
         refine tV 4 35 (bo 8 63) ?_
         refine one_ (i := 6) (N := some 37) (bo 8 127) rfl rfl (one_of HT_.out (by kernel_rfl)) (by decide) (fun K hK => ?_)
         refine goes_ Try.func94 (by kernel_rfl) rfl #[.int .i64 (wrap64 ((wrap64 (x1_1 + 1)) + 1))] (by rfl) rfl rfl sa ?_
         with_reducible refine (laws_markText.calls k1 (wrap64 ((wrap64 (x1_1 + 1)) + 1)) t159 _ A8.out).mono ?_
         rintro e w18 ⟨rfl, hb⟩
         refine ⟨_, rfl, ?_⟩
         replace HB := bs (w := w) hb; (try clear hb hb2 hk hi)
         refine hK.out _ _ ⟨((HB.out.cell (World.block_lt_of_cell? w _ hw158_0)).trans hw158_0), ((HB.out.cell (World.block_lt_of_cell? w _ hw158_1)).trans hw158_1), ((HB.out.cell (World.block_lt_of_cell? w _ hw158_2)).trans hw158_2), ((HB.out.cell (World.block_lt_of_cell? w _ hw158_3)).trans hw158_3)⟩ (fun hHeld => ?_)
         clear hK K
         refine norm_ (a' := ?_) ?_ ?_
         rotate_left
         ·show Act.put _ (some 37) _ = _
          simp only [Act.put, List.setIfInBounds_toArray, List.set_cons_zero, List.set_cons_succ, i64_w, i32_w]
          rfl
         refine pV 7 38 (bo 8 255) ?_
         refine done_ (done_of HT_.out (by kernel_rfl)) ?_
         have p160 : 0 ≤ (x5_1 : Int) := of_decide_eq_true am
         have q160 : x5_1 < (l0.length : Int) := of_decide_eq_true am
         obtain ⟨ad160, e160, hx160_0, hx160_1, hx160_2, hx160_3⟩ := at_T95 HR0.out x5_1 p160 q160
         obtain rfl : ad155 = ad160 := (by injection e160)
         replace hx160_0 := cz HB hx160_0
         replace hx160_1 := cz HB hx160_1
         replace hx160_2 := cz HB hx160_2
         replace hx160_3 := cz HB hx160_3
         replace p160 := eq_true p160
         replace q160 := eq_true q160
         try go_wp2
         go_ret
         exact ⟨fe, bl⟩
       ·rw [if_neg c9] at H
        have c9b0 : (((rd_T95 l0 x5_1).f2).toList == t159.toList) = false := beq_eq_false_iff_ne.mpr c9
        have c9b1 : (((rd_T95 l0 x5_1).f2).toList != t159.toList) = true := bne_iff_ne.mpr c9
        obtain rfl := Option.some.inj H
        have p155 : 0 ≤ (x5_1 : Int) := of_decide_eq_true am
        have q155 : x5_1 < (l0.length : Int) := of_decide_eq_true am
        obtain ⟨ad155, e155, hx155_0, hx155_1, hx155_2, hx155_3⟩ := at_T95 HR0.out x5_1 p155 q155
        cases e155
        replace hx155_0 := cz HB hx155_0
        replace hx155_1 := cz HB hx155_1
        replace hx155_2 := cz HB hx155_2
        replace hx155_3 := cz HB hx155_3
        replace p155 := eq_true p155
        replace q155 := eq_true q155
        try go_wp2
        replace HB := Aside0.mk (below_drew1 HB.out)
        have p156 : 0 ≤ (x5_1 : Int) := of_decide_eq_true am
        have q156 : x5_1 < (l0.length : Int) := of_decide_eq_true am
        obtain ⟨ad156, e156, hx156_0, hx156_1, hx156_2, hx156_3⟩ := at_T95 HR0.out x5_1 p156 q156
        have hw156_3 := hx156_3
        have hw156_2 := hx156_2
        have hw156_1 := hx156_1
        have hw156_0 := hx156_0
        obtain rfl : ad155 = ad156 := (by injection e156)
        replace hx156_0 := cz HB hx156_0
        replace hx156_1 := cz HB hx156_1
        replace hx156_2 := cz HB hx156_2
        replace hx156_3 := cz HB hx156_3
        replace p156 := eq_true p156
        replace q156 := eq_true q156
        refine start_ (n := 8) (S := fun w' => w'.cell? (ad155.add ((x5_1).toNat * 4)) = some (.int .i64 ((rd_T95 l0 x5_1).f0)) ∧ w'.cell? ⟨(ad155.add ((x5_1).toNat * 4)).block, (ad155.add ((x5_1).toNat * 4)).off + 1, none⟩ = some (.string ((rd_T95 l0 x5_1).f1)) ∧ w'.cell? ⟨(ad155.add ((x5_1).toNat * 4)).block, (ad155.add ((x5_1).toNat * 4)).off + 2, none⟩ = some (.string ((rd_T95 l0 x5_1).f2)) ∧ w'.cell? ⟨(ad155.add ((x5_1).toNat * 4)).block, (ad155.add ((x5_1).toNat * 4)).off + 3, none⟩ = some (.int .i64 ((rd_T95 l0 x5_1).f3))) (ds := []) (bo 8 0) (by kernel_rfl) rfl rfl ⟨((HB.out.cell (World.block_lt_of_cell? w _ hw156_0)).trans hw156_0), ((HB.out.cell (World.block_lt_of_cell? w _ hw156_1)).trans hw156_1), ((HB.out.cell (World.block_lt_of_cell? w _ hw156_2)).trans hw156_2), ((HB.out.cell (World.block_lt_of_cell? w _ hw156_3)).trans hw156_3)⟩ (fun hHeld => ?_); refine with_tabW laws_heldMoveS.tab7 laws_heldMoveS.bits7 (fun HT_ HW_ => ?_)
        generalize wr.drew = w19 at HB hx156_0 hx156_1 hx156_2 hx156_3 hHeld ⊢
        refine pV 0 21 (bo 8 1) ?_
        refine pV 1 22 (bo 8 3) ?_
        refine pV 2 23 (bo 8 7) ?_
        refine pV 3 24 (bo 8 15) ?_
        refine pV 5 26 (bo 8 47) ?_
        refine tV 4 25 (bo 8 63) ?_
        refine one_ (i := 6) (N := some 27) (bo 8 127) rfl rfl (one_of HT_.out (by kernel_rfl)) (by decide) (fun K hK => ?_)
        refine goes_ Try.func94 (by kernel_rfl) rfl #[.int .i64 (wrap64 (x1_1 + 1))] (by rfl) rfl rfl sa ?_
        with_reducible refine (laws_markText.calls k1 (wrap64 (x1_1 + 1)) t157 _ A6.out).mono ?_
        rintro e w20 ⟨rfl, hb⟩
        refine ⟨_, rfl, ?_⟩
        replace HB := bs (w := w) hb; (try clear hb hb2 hk hi)
        refine hK.out _ _ ⟨((HB.out.cell (World.block_lt_of_cell? w _ hw156_0)).trans hw156_0), ((HB.out.cell (World.block_lt_of_cell? w _ hw156_1)).trans hw156_1), ((HB.out.cell (World.block_lt_of_cell? w _ hw156_2)).trans hw156_2), ((HB.out.cell (World.block_lt_of_cell? w _ hw156_3)).trans hw156_3)⟩ (fun hHeld => ?_)
        clear hK K
        refine norm_ (a' := ?_) ?_ ?_
        rotate_left
        ·show Act.put _ (some 27) _ = _
         simp only [Act.put, List.setIfInBounds_toArray, List.set_cons_zero, List.set_cons_succ, i64_w, i32_w]
         rfl
        refine pV 7 28 (bo 8 255) ?_
        refine done_ (done_of HT_.out (by kernel_rfl)) ?_
        try go_wp2
        replace HB := Aside0.mk (below_drew1 HB.out)
        have p158 : 0 ≤ (x5_1 : Int) := of_decide_eq_true am
        have q158 : x5_1 < (l0.length : Int) := of_decide_eq_true am
        obtain ⟨ad158, e158, hx158_0, hx158_1, hx158_2, hx158_3⟩ := at_T95 HR0.out x5_1 p158 q158
        have hw158_3 := hx158_3
        have hw158_2 := hx158_2
        have hw158_1 := hx158_1
        have hw158_0 := hx158_0
        obtain rfl : ad155 = ad158 := (by injection e158)
        replace hx158_0 := cz HB hx158_0
        replace hx158_1 := cz HB hx158_1
        replace hx158_2 := cz HB hx158_2
        replace hx158_3 := cz HB hx158_3
        replace p158 := eq_true p158
        replace q158 := eq_true q158
        refine start_ (n := 8) (S := fun w' => w'.cell? (ad155.add ((x5_1).toNat * 4)) = some (.int .i64 ((rd_T95 l0 x5_1).f0)) ∧ w'.cell? ⟨(ad155.add ((x5_1).toNat * 4)).block, (ad155.add ((x5_1).toNat * 4)).off + 1, none⟩ = some (.string ((rd_T95 l0 x5_1).f1)) ∧ w'.cell? ⟨(ad155.add ((x5_1).toNat * 4)).block, (ad155.add ((x5_1).toNat * 4)).off + 2, none⟩ = some (.string ((rd_T95 l0 x5_1).f2)) ∧ w'.cell? ⟨(ad155.add ((x5_1).toNat * 4)).block, (ad155.add ((x5_1).toNat * 4)).off + 3, none⟩ = some (.int .i64 ((rd_T95 l0 x5_1).f3))) (ds := []) (bo 8 0) (by kernel_rfl) rfl rfl ⟨((HB.out.cell (World.block_lt_of_cell? w _ hw158_0)).trans hw158_0), ((HB.out.cell (World.block_lt_of_cell? w _ hw158_1)).trans hw158_1), ((HB.out.cell (World.block_lt_of_cell? w _ hw158_2)).trans hw158_2), ((HB.out.cell (World.block_lt_of_cell? w _ hw158_3)).trans hw158_3)⟩ (fun hHeld => ?_); refine with_tabW laws_heldMoveS.tab10 laws_heldMoveS.bits10 (fun HT_ HW_ => ?_)
        generalize w20.drew = w21 at HB hx158_0 hx158_1 hx158_2 hx158_3 hHeld ⊢
        refine pV 0 31 (bo 8 1) ?_
        refine pV 1 32 (bo 8 3) ?_
        refine pV 2 33 (bo 8 7) ?_
        refine pV 3 34 (bo 8 15) ?_
        refine pV 5 36 (bo 8 47) ?_
        refine tV 4 35 (bo 8 63) ?_
        refine one_ (i := 6) (N := some 37) (bo 8 127) rfl rfl (one_of HT_.out (by kernel_rfl)) (by decide) (fun K hK => ?_)
        refine goes_ Try.func94 (by kernel_rfl) rfl #[.int .i64 (wrap64 ((wrap64 (x1_1 + 1)) + 1))] (by rfl) rfl rfl sa ?_
        with_reducible refine (laws_markText.calls k1 (wrap64 ((wrap64 (x1_1 + 1)) + 1)) t159 _ A8.out).mono ?_
        rintro e w22 ⟨rfl, hb⟩
        refine ⟨_, rfl, ?_⟩
        replace HB := bs (w := w) hb; (try clear hb hb2 hk hi)
        refine hK.out _ _ ⟨((HB.out.cell (World.block_lt_of_cell? w _ hw158_0)).trans hw158_0), ((HB.out.cell (World.block_lt_of_cell? w _ hw158_1)).trans hw158_1), ((HB.out.cell (World.block_lt_of_cell? w _ hw158_2)).trans hw158_2), ((HB.out.cell (World.block_lt_of_cell? w _ hw158_3)).trans hw158_3)⟩ (fun hHeld => ?_)
        clear hK K
        refine norm_ (a' := ?_) ?_ ?_
        rotate_left
        ·show Act.put _ (some 37) _ = _
         simp only [Act.put, List.setIfInBounds_toArray, List.set_cons_zero, List.set_cons_succ, i64_w, i32_w]
         rfl
        refine pV 7 38 (bo 8 255) ?_
        refine done_ (done_of HT_.out (by kernel_rfl)) ?_
        try go_wp2
        go_ret
        exact ⟨fe, bl⟩
      ·rw [if_neg c7] at H
       have c7b0 : (((rd_T95 l0 x5_1).f1).toList == t157.toList) = false := beq_eq_false_iff_ne.mpr c7
       have c7b1 : (((rd_T95 l0 x5_1).f1).toList != t157.toList) = true := bne_iff_ne.mpr c7
       obtain rfl := Option.some.inj H
       have p155 : 0 ≤ (x5_1 : Int) := of_decide_eq_true am
       have q155 : x5_1 < (l0.length : Int) := of_decide_eq_true am
       obtain ⟨ad155, e155, hx155_0, hx155_1, hx155_2, hx155_3⟩ := at_T95 HR0.out x5_1 p155 q155
       cases e155
       replace hx155_0 := cz HB hx155_0
       replace hx155_1 := cz HB hx155_1
       replace hx155_2 := cz HB hx155_2
       replace hx155_3 := cz HB hx155_3
       replace p155 := eq_true p155
       replace q155 := eq_true q155
       try go_wp2
       replace HB := Aside0.mk (below_drew1 HB.out)
       have p156 : 0 ≤ (x5_1 : Int) := of_decide_eq_true am
       have q156 : x5_1 < (l0.length : Int) := of_decide_eq_true am
       obtain ⟨ad156, e156, hx156_0, hx156_1, hx156_2, hx156_3⟩ := at_T95 HR0.out x5_1 p156 q156
       have hw156_3 := hx156_3
       have hw156_2 := hx156_2
       have hw156_1 := hx156_1
       have hw156_0 := hx156_0
       obtain rfl : ad155 = ad156 := (by injection e156)
       replace hx156_0 := cz HB hx156_0
       replace hx156_1 := cz HB hx156_1
       replace hx156_2 := cz HB hx156_2
       replace hx156_3 := cz HB hx156_3
       replace p156 := eq_true p156
       replace q156 := eq_true q156
       refine start_ (n := 8) (S := fun w' => w'.cell? (ad155.add ((x5_1).toNat * 4)) = some (.int .i64 ((rd_T95 l0 x5_1).f0)) ∧ w'.cell? ⟨(ad155.add ((x5_1).toNat * 4)).block, (ad155.add ((x5_1).toNat * 4)).off + 1, none⟩ = some (.string ((rd_T95 l0 x5_1).f1)) ∧ w'.cell? ⟨(ad155.add ((x5_1).toNat * 4)).block, (ad155.add ((x5_1).toNat * 4)).off + 2, none⟩ = some (.string ((rd_T95 l0 x5_1).f2)) ∧ w'.cell? ⟨(ad155.add ((x5_1).toNat * 4)).block, (ad155.add ((x5_1).toNat * 4)).off + 3, none⟩ = some (.int .i64 ((rd_T95 l0 x5_1).f3))) (ds := []) (bo 8 0) (by kernel_rfl) rfl rfl ⟨((HB.out.cell (World.block_lt_of_cell? w _ hw156_0)).trans hw156_0), ((HB.out.cell (World.block_lt_of_cell? w _ hw156_1)).trans hw156_1), ((HB.out.cell (World.block_lt_of_cell? w _ hw156_2)).trans hw156_2), ((HB.out.cell (World.block_lt_of_cell? w _ hw156_3)).trans hw156_3)⟩ (fun hHeld => ?_); refine with_tabW laws_heldMoveS.tab7 laws_heldMoveS.bits7 (fun HT_ HW_ => ?_)
       generalize wr.drew = w23 at HB hx156_0 hx156_1 hx156_2 hx156_3 hHeld ⊢
       refine pV 0 21 (bo 8 1) ?_
       refine pV 1 22 (bo 8 3) ?_
       refine pV 2 23 (bo 8 7) ?_
       refine pV 3 24 (bo 8 15) ?_
       refine pV 5 26 (bo 8 47) ?_
       refine tV 4 25 (bo 8 63) ?_
       refine one_ (i := 6) (N := some 27) (bo 8 127) rfl rfl (one_of HT_.out (by kernel_rfl)) (by decide) (fun K hK => ?_)
       refine goes_ Try.func94 (by kernel_rfl) rfl #[.int .i64 (wrap64 (x1_1 + 1))] (by rfl) rfl rfl sa ?_
       with_reducible refine (laws_markText.calls k1 (wrap64 (x1_1 + 1)) t157 _ A6.out).mono ?_
       rintro e w24 ⟨rfl, hb⟩
       refine ⟨_, rfl, ?_⟩
       replace HB := bs (w := w) hb; (try clear hb hb2 hk hi)
       refine hK.out _ _ ⟨((HB.out.cell (World.block_lt_of_cell? w _ hw156_0)).trans hw156_0), ((HB.out.cell (World.block_lt_of_cell? w _ hw156_1)).trans hw156_1), ((HB.out.cell (World.block_lt_of_cell? w _ hw156_2)).trans hw156_2), ((HB.out.cell (World.block_lt_of_cell? w _ hw156_3)).trans hw156_3)⟩ (fun hHeld => ?_)
       clear hK K
       refine norm_ (a' := ?_) ?_ ?_
       rotate_left
       ·show Act.put _ (some 27) _ = _
        simp only [Act.put, List.setIfInBounds_toArray, List.set_cons_zero, List.set_cons_succ, i64_w, i32_w]
        rfl
       refine pV 7 28 (bo 8 255) ?_
       refine done_ (done_of HT_.out (by kernel_rfl)) ?_
       try go_wp2
       go_ret
       exact ⟨fe, bl⟩
     ·rw [if_neg c5] at H
      have c5b0 : (((rd_T95 l0 x5_1).f0) == x1_1) = false := beq_eq_false_iff_ne.mpr c5
      have c5b1 : (((rd_T95 l0 x5_1).f0) != x1_1) = true := bne_iff_ne.mpr c5
      obtain rfl := Option.some.inj H
      have p155 : 0 ≤ (x5_1 : Int) := of_decide_eq_true am
      have q155 : x5_1 < (l0.length : Int) := of_decide_eq_true am
      obtain ⟨ad155, e155, hx155_0, hx155_1, hx155_2, hx155_3⟩ := at_T95 HR0.out x5_1 p155 q155
      cases e155
      replace hx155_0 := cz HB hx155_0
      replace hx155_1 := cz HB hx155_1
      replace hx155_2 := cz HB hx155_2
      replace hx155_3 := cz HB hx155_3
      replace p155 := eq_true p155
      replace q155 := eq_true q155
      go_wp2
      go_ret
      exact ⟨fe, bl⟩
    ·rw [if_neg c4] at H
     exact absurd H (by simp)
   ·rw [if_neg c3] at H
    have c3b0 : decide (x5_1 < (l0.length : Int)) = false := decide_eq_false c3
    clear c3
    obtain rfl := Option.some.inj H
    go_wp2
    go_ret
    exact ⟨fe, bl⟩

end Go.Proofs.Ytjcmcamijaelbaa.PFnExactNewDisk
