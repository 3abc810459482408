-- PRINTED by print.py (a twelfth state) out of the translation. Not trusted: Lean checks it.
import Derived.Test.YtfmddjbekophnaaPFnExactSlicex0
import Derived.Test.YtfmddjbekophnaaPFnExactSlicex1
import Derived.Test.YtfmddjbekophnaaZip
namespace Go.Proofs.Ytfmddjbekophnaa.PFnExactSlice
open Go.RowKit Go.Proofs.YtfmddjbekophnaaW.PrintWords Go.Proofs.YtfmddjbekophnaaW.PrintLast Go.Proofs.YtfmddjbekophnaaW.PrintMore Go.Proofs.Ytfmddjbekophnaa.Zip
attribute [local go_sem] max2_int min2_int max_two min_two max_three min_three max_four min_four   -- for this text's walks alone
set_option linter.unusedVariables false
set_option linter.unusedSimpArgs false

/-! ### spec_PointsOk: function 16 -/
def spec_PointsOk.l0 : Nat → List (S92) → Int → Option (Bool)
 | 0, _, _ => none
 | k + 1, x0, x3 => if x3 < (x0.length : Int) then (if 0 ≤ x3 then ((spec_l1In.f ((rd_T92 x0 x3).f0) 0 1099511627776).bind fun t117 => (if t117 = true then ((spec_l1In.f ((rd_T92 x0 x3).f1) (-1099511627776) 1099511627776).bind fun t119 => (if t119 = true then (if x3 > 0 then (if 0 ≤ (wrap64 (x3 - 1)) then (if (wrap64 (x3 - 1)) < (x0.length : Int) then (if ((rd_T92 x0 (wrap64 (x3 - 1))).f0) ≥ ((rd_T92 x0 x3).f0) then (some false) else (spec_PointsOk.l0 k x0 (wrap64 (x3 + 1)))) else (none)) else (none)) else (spec_PointsOk.l0 k x0 (wrap64 (x3 + 1)))) else (some false))) else (some false))) else (none)) else (some true)
def spec_PointsOk.f (k : Nat) (l0 : List (S92)) : Option (Bool) := if (l0.length : Int) > 60 then (some false) else (spec_PointsOk.l0 k l0 0)
theorem spec_PointsOk.mono_l : ∀ k, (∀ y0 y1, LeO (spec_PointsOk.l0 k y0 y1) (spec_PointsOk.l0 (k + 1) y0 y1))
 | 0 => fun _ _ r h => by simp [spec_PointsOk.l0] at h
 | k + 1 => by
  have ih0 := spec_PointsOk.mono_l k
  ·intro y0 y1
   unfold spec_PointsOk.l0
   repeat' first
   | (with_reducible exact ih0 _ _)
   | (with_reducible exact LeO.refl _)
   | (with_reducible exact LeO.none _)
   | (with_reducible refine LeO.ite ?_ ?_)
   | (with_reducible refine LeO.bind ?_ (fun _ => ?_))
   | exact ih0 _ _
   | exact LeO.none _
   | refine LeO.ite ?_ ?_
   | refine LeO.bind ?_ (fun _ => ?_)
theorem spec_PointsOk.mono : ∀ a0 k, LeO (spec_PointsOk.f k a0) (spec_PointsOk.f (k + 1) a0) := by
 intro a0 k
 have ih0 := spec_PointsOk.mono_l k
 unfold spec_PointsOk.f
 repeat' first
  | (with_reducible exact ih0 _ _)
  | (with_reducible exact LeO.refl _)
  | (with_reducible exact LeO.none _)
  | (with_reducible refine LeO.ite ?_ ?_)
  | (with_reducible refine LeO.bind ?_ (fun _ => ?_))
  | exact ih0 _ _
  | exact LeO.none _
  | refine LeO.ite ?_ ?_
  | refine LeO.bind ?_ (fun _ => ?_)
def spec_PointsOk.T6 : Bool × List (List Nat × List Nat) := (true, [([], []), ([], []), ([0, 1], [0, 1]), ([2], [2]), ([3], [3]), ([4], [4]), ([5], [5]), ([6, 5], [6]), ([7], [7]), ([7], [7]), ([8, 9, 7], [7, 8, 9]), ([10, 7], [7, 10]), ([11, 7], [7, 11]), ([12, 7, 7], [7, 12]), ([13, 7], [7, 13]), ([7, 14], [7, 14]), ([15, 13], [15]), ([16], [16]), ([17, 16], [16, 17]), ([18, 16, 16], [16, 18]), ([19], [19]), ([19], [19]), ([21, 19], [19, 21]), ([20, 22, 19], [19, 20, 22]), ([23, 19], [19, 23]), ([24, 19], [19, 24]), ([19], [19]), ([19], [19]), ([26, 27, 19], [19, 26, 27]), ([28, 19], [19, 28]), ([29, 19], [19, 29]), ([25, 30, 19], [19, 25, 30]), ([19, 31, 16], [16, 19, 31]), ([16, 32], [16, 32])])
def spec_PointsOk.B6 : List Nat := [0, 0, 3, 7, 15, 31, 63, 127, 255, 255, 1023, 2047, 4095, 8191, 16383, 32767, 65535, 131071, 262143, 524287, 1048575, 1048575, 3145727, 8388607, 16777215, 33554431, 1048575, 1048575, 202375167, 470810623, 1007681535, 2147483647, 4294967295, 8589934591]
theorem spec_PointsOk.tab6 : rtab .any (opsOf Try.f16 6) = spec_PointsOk.T6 := by kernel_rfl
theorem spec_PointsOk.bits6 : waitsOk spec_PointsOk.T6.2 spec_PointsOk.B6 = true := by kernel_rfl
set_option maxHeartbeats 8000000 in
set_option maxRecDepth 100000 in
theorem spec_PointsOk.calls (k : Nat) (A0 : Option Addr) (c0 : Nat) (l0 : List (S92)) (r : Bool) (w : World) (hr0 : Kd.C k92 w A0 l0.length l0) (hc0 : l0.length ≤ c0) (h : spec_PointsOk.f k l0 = some r) :
 Calls Try.prog 16 #[.slice A0 l0.length c0] w fun e w' => e = .returned (.bool r) ∧ Below w.heap.size w w' := by
 have HR0 := Aside0.mk hr0
 have HC0 := Aside0.mk hc0
 clear hr0 hc0
 have HB := Aside0.mk (Below.refl w.heap.size w)
 have H : (if (l0.length : Int) > 60 then (some false) else (spec_PointsOk.l0 k l0 0)) = some r := h
 clear h
 by_cases c2 : (l0.length : Int) > 60
 ·rw [if_pos c2] at H
  have c2b0 : decide (60 < (l0.length : Int)) = true := decide_eq_true c2
  have c2b1 : decide (60 < l0.length) = true := decide_eq_true (by omega)
  clear c2
  obtain rfl := Option.some.inj H
  go_enter Try.func16, Try.ntmps16
  go_wp2
  go_ret
  exact ⟨fe, bl⟩
 ·rw [if_neg c2] at H
  have c2b0 : decide (60 < (l0.length : Int)) = false := decide_eq_false c2
  have c2b1 : decide (60 < l0.length) = false := decide_eq_false (by omega)
  clear c2
  have H' := Aside0.mk H
  clear H
  go_enter Try.func16, Try.ntmps16
  go_wp2
  go_loopg [3] k (fun kq v3 w' => ∃ (x3_1 : Int), v3 = .int .i64 x3_1 ∧ Aside0 (spec_PointsOk.l0 kq l0 x3_1 = some r) ∧ Aside0 (kq ≤ k) ∧ Aside0 (Below w.heap.size w w'))
  case atStart => exact ⟨(0), fa, H', ⟨Nat.le_refl _⟩, ⟨bl⟩⟩
  case round =>
   clear H'
   try clear c1
   try clear c2
   try clear c2b0
   try clear c2b1
   try clear p2
   obtain ⟨x3_1, rfl, HA, HK1, HB⟩ := hrel
   cases gk with
   | zero => exact absurd HA.out (by simp [spec_PointsOk.l0])
   | succ k1 =>
    have H := HA.out
    clear HA
    simp only [spec_PointsOk.l0] at H
    by_cases c3 : x3_1 < (l0.length : Int)
    ·rw [if_pos c3] at H
     have c3b0 : decide (x3_1 < (l0.length : Int)) = true := decide_eq_true c3
     clear c3
     by_cases c4 : 0 ≤ x3_1
     ·rw [if_pos c4] at H
      have c4b0 : decide (0 ≤ x3_1) = true := decide_eq_true c4
      clear c4
      obtain ⟨t117, A5, H⟩ := bd H
      by_cases c6 : t117 = true
      ·subst c6
       replace H := iT H
       obtain ⟨t119, A7, H⟩ := bd H
       by_cases c8 : t119 = true
       ·subst c8
        replace H := iT H
        by_cases c9 : x3_1 > 0
        ·rw [if_pos c9] at H
         have c9b0 : decide (0 < x3_1) = true := decide_eq_true c9
         clear c9
         obtain ⟨ji10, hji10⟩ : ∃ j_ : Int, (wrap64 (x3_1 - 1)) = j_ := ⟨_, rfl⟩
         replace H : (if 0 ≤ (ji10) then (if (ji10) < (l0.length : Int) then (if ((rd_T92 l0 (ji10)).f0) ≥ ((rd_T92 l0 x3_1).f0) then (some false) else (spec_PointsOk.l0 k1 l0 (wrap64 (x3_1 + 1)))) else (none)) else (none)) = some r := by first | (rw [hji10] at H; exact H) | (simp only [hji10] at H ⊢; exact H)
         (try rw [hji10] at A5)
         (try rw [hji10] at A7)
         have hji10w : (IntKind.i64.wrap (x3_1 - 1)) = ji10 := (i64_w _).trans hji10
         by_cases c11 : 0 ≤ (ji10)
         ·rw [if_pos c11] at H
          have c11b0 : decide (0 ≤ (ji10)) = true := decide_eq_true c11
          clear c11
          by_cases c12 : (ji10) < (l0.length : Int)
          ·rw [if_pos c12] at H
           have c12b0 : decide ((ji10) < (l0.length : Int)) = true := decide_eq_true c12
           clear c12
           by_cases c13 : ((rd_T92 l0 (ji10)).f0) ≥ ((rd_T92 l0 x3_1).f0)
           ·rw [if_pos c13] at H
            have c13b0 : decide (((rd_T92 l0 x3_1).f0) ≤ ((rd_T92 l0 (ji10)).f0)) = true := decide_eq_true c13
            clear c13
            obtain rfl := Option.some.inj H
            try go_wp2
            replace HB := Aside0.mk (below_drew1 HB.out)
            have p116 : 0 ≤ (x3_1 : Int) := of_decide_eq_true am
            have q116 : x3_1 < (l0.length : Int) := of_decide_eq_true am
            obtain ⟨ad116, e116, hx116_0, hx116_1⟩ := at_T92 HR0.out x3_1 p116 q116
            have hw116_1 := hx116_1
            have hw116_0 := hx116_0
            cases e116
            replace hx116_0 := cz HB hx116_0
            replace hx116_1 := cz HB hx116_1
            replace p116 := eq_true p116
            replace q116 := eq_true q116
            have p118 : 0 ≤ (x3_1 : Int) := of_decide_eq_true am
            have q118 : x3_1 < (l0.length : Int) := of_decide_eq_true am
            obtain ⟨ad118, e118, hx118_0, hx118_1⟩ := at_T92 HR0.out x3_1 p118 q118
            have hw118_1 := hx118_1
            have hw118_0 := hx118_0
            obtain rfl : ad116 = ad118 := (by injection e118)
            replace hx118_0 := cz HB hx118_0
            replace hx118_1 := cz HB hx118_1
            replace p118 := eq_true p118
            replace q118 := eq_true q118
            have p120 : 0 ≤ ((ji10) : Int) := of_decide_eq_true am
            have q120 : (ji10) < (l0.length : Int) := of_decide_eq_true am
            obtain ⟨ad120, e120, hx120_0, hx120_1⟩ := at_T92 HR0.out (ji10) p120 q120
            have hw120_1 := hx120_1
            have hw120_0 := hx120_0
            obtain rfl : ad116 = ad120 := (by injection e120)
            replace hx120_0 := cz HB hx120_0
            replace hx120_1 := cz HB hx120_1
            replace p120 := eq_true p120
            replace q120 := eq_true q120
            have p121 : 0 ≤ (x3_1 : Int) := of_decide_eq_true am
            have q121 : x3_1 < (l0.length : Int) := of_decide_eq_true am
            obtain ⟨ad121, e121, hx121_0, hx121_1⟩ := at_T92 HR0.out x3_1 p121 q121
            have hw121_1 := hx121_1
            have hw121_0 := hx121_0
            obtain rfl : ad116 = ad121 := (by injection e121)
            replace hx121_0 := cz HB hx121_0
            replace hx121_1 := cz HB hx121_1
            replace p121 := eq_true p121
            replace q121 := eq_true q121
            refine start_ (n := 34) (S := fun w' => w'.cell? (ad116.add ((x3_1).toNat * 2)) = some (.int .i64 ((rd_T92 l0 x3_1).f0)) ∧ w'.cell? ⟨(ad116.add ((x3_1).toNat * 2)).block, (ad116.add ((x3_1).toNat * 2)).off + 1, none⟩ = some (.int .i64 ((rd_T92 l0 x3_1).f1)) ∧ w'.cell? (ad116.add ((x3_1).toNat * 2)) = some (.int .i64 ((rd_T92 l0 x3_1).f0)) ∧ w'.cell? ⟨(ad116.add ((x3_1).toNat * 2)).block, (ad116.add ((x3_1).toNat * 2)).off + 1, none⟩ = some (.int .i64 ((rd_T92 l0 x3_1).f1)) ∧ w'.cell? (ad116.add (((ji10)).toNat * 2)) = some (.int .i64 ((rd_T92 l0 (ji10)).f0)) ∧ w'.cell? ⟨(ad116.add (((ji10)).toNat * 2)).block, (ad116.add (((ji10)).toNat * 2)).off + 1, none⟩ = some (.int .i64 ((rd_T92 l0 (ji10)).f1)) ∧ w'.cell? (ad116.add ((x3_1).toNat * 2)) = some (.int .i64 ((rd_T92 l0 x3_1).f0)) ∧ w'.cell? ⟨(ad116.add ((x3_1).toNat * 2)).block, (ad116.add ((x3_1).toNat * 2)).off + 1, none⟩ = some (.int .i64 ((rd_T92 l0 x3_1).f1))) (ds := []) (bo 34 0) (by kernel_rfl) rfl rfl ⟨((HB.out.cell (World.block_lt_of_cell? w _ hw116_0)).trans hw116_0), ((HB.out.cell (World.block_lt_of_cell? w _ hw116_1)).trans hw116_1), ((HB.out.cell (World.block_lt_of_cell? w _ hw118_0)).trans hw118_0), ((HB.out.cell (World.block_lt_of_cell? w _ hw118_1)).trans hw118_1), ((HB.out.cell (World.block_lt_of_cell? w _ hw120_0)).trans hw120_0), ((HB.out.cell (World.block_lt_of_cell? w _ hw120_1)).trans hw120_1), ((HB.out.cell (World.block_lt_of_cell? w _ hw121_0)).trans hw121_0), ((HB.out.cell (World.block_lt_of_cell? w _ hw121_1)).trans hw121_1)⟩ (fun hHeld => ?_); refine with_tabW spec_PointsOk.tab6 spec_PointsOk.bits6 (fun HT_ HW_ => ?_)
            generalize wr.drew = w14 at HB hx116_0 hx116_1 hx118_0 hx118_1 hx120_0 hx120_1 hx121_0 hx121_1 hHeld ⊢
            refine pV 0 13 (bo 34 1) ?_
            refine pV 1 14 (bo 34 3) ?_
            refine pV 2 15 (bo 34 7) ?_
            refine pV 3 16 (bo 34 15) ?_
            refine tV 4 17 (bo 34 31) ?_
            refine one_ (i := 5) (N := some 18) (bo 34 63) rfl rfl (one_of HT_.out (by kernel_rfl)) (by decide) (fun K hK => ?_)
            refine goes_ Try.func76 (by kernel_rfl) rfl #[.int .i64 ((rd_T92 l0 x3_1).f0), .int .i64 0, .int .i64 1099511627776] (by rfl) rfl rfl sa ?_
            with_reducible refine (spec_l1In.calls ((rd_T92 l0 x3_1).f0) 0 1099511627776 true _ A5.out).mono ?_
            rintro e w' ⟨rfl, ⟨nd, rfl⟩⟩
            refine ⟨_, rfl, ?_⟩
            refine hK.out _ _ ⟨((HB.out.cell (World.block_lt_of_cell? w _ hw116_0)).trans hw116_0), ((HB.out.cell (World.block_lt_of_cell? w _ hw116_1)).trans hw116_1), ((HB.out.cell (World.block_lt_of_cell? w _ hw118_0)).trans hw118_0), ((HB.out.cell (World.block_lt_of_cell? w _ hw118_1)).trans hw118_1), ((HB.out.cell (World.block_lt_of_cell? w _ hw120_0)).trans hw120_0), ((HB.out.cell (World.block_lt_of_cell? w _ hw120_1)).trans hw120_1), ((HB.out.cell (World.block_lt_of_cell? w _ hw121_0)).trans hw121_0), ((HB.out.cell (World.block_lt_of_cell? w _ hw121_1)).trans hw121_1)⟩ (fun hHeld => ?_)
            clear hK K
            refine norm_ (a' := ?_) ?_ ?_
            rotate_left
            ·show Act.put _ (some 18) _ = _
             simp only [Act.put, List.setIfInBounds_toArray, List.set_cons_zero, List.set_cons_succ, i64_w, i32_w]
             rfl
            refine pV 6 19 (bo 34 127) ?_
            refine pV 7 20 (bo 34 255) ?_
            refine pV 8 21 (bo 34 511) ?_
            refine pV 9 22 (bo 34 1023) ?_
            refine pV 10 23 (bo 34 2047) ?_
            refine pV 11 24 (bo 34 4095) ?_
            refine tV 12 25 (bo 34 8191) ?_
            refine one_ (i := 13) (N := some 26) (bo 34 16383) rfl rfl (one_of HT_.out (by kernel_rfl)) (by decide) (fun K hK => ?_)
            refine goes_ Try.func76 (by kernel_rfl) rfl #[.int .i64 ((rd_T92 l0 x3_1).f1), .int .i64 (-1099511627776), .int .i64 1099511627776] (by rfl) rfl rfl sa ?_
            with_reducible refine (spec_l1In.calls ((rd_T92 l0 x3_1).f1) (-1099511627776) 1099511627776 true _ A7.out).mono ?_
            rintro e w' ⟨rfl, ⟨nd, rfl⟩⟩
            refine ⟨_, rfl, ?_⟩
            refine hK.out _ _ ⟨((HB.out.cell (World.block_lt_of_cell? w _ hw116_0)).trans hw116_0), ((HB.out.cell (World.block_lt_of_cell? w _ hw116_1)).trans hw116_1), ((HB.out.cell (World.block_lt_of_cell? w _ hw118_0)).trans hw118_0), ((HB.out.cell (World.block_lt_of_cell? w _ hw118_1)).trans hw118_1), ((HB.out.cell (World.block_lt_of_cell? w _ hw120_0)).trans hw120_0), ((HB.out.cell (World.block_lt_of_cell? w _ hw120_1)).trans hw120_1), ((HB.out.cell (World.block_lt_of_cell? w _ hw121_0)).trans hw121_0), ((HB.out.cell (World.block_lt_of_cell? w _ hw121_1)).trans hw121_1)⟩ (fun hHeld => ?_)
            clear hK K
            refine norm_ (a' := ?_) ?_ ?_
            rotate_left
            ·show Act.put _ (some 26) _ = _
             simp only [Act.put, List.setIfInBounds_toArray, List.set_cons_zero, List.set_cons_succ, i64_w, i32_w]
             rfl
            refine pV 14 27 (bo 34 32767) ?_
            refine pV 15 28 (bo 34 65535) ?_
            refine pV 16 29 (bo 34 131071) ?_
            refine pV 17 30 (bo 34 262143) ?_
            refine pV 18 31 (bo 34 524287) ?_
            refine pV 19 32 (bo 34 1048575) ?_
            refine pV 20 33 (bo 34 2097151) ?_
            refine pV 21 34 (bo 34 4194303) ?_
            refine pV 22 35 (bo 34 8388607) ?_
            refine pV 23 36 (bo 34 16777215) ?_
            refine pV 24 37 (bo 34 33554431) ?_
            refine pV 26 39 (bo 34 100663295) ?_
            refine pV 27 40 (bo 34 234881023) ?_
            refine pV 28 41 (bo 34 503316479) ?_
            refine pV 29 42 (bo 34 1040187391) ?_
            refine tV 25 38 (bo 34 1073741823) ?_
            refine tV 30 43 (bo 34 2147483647) ?_
            refine pV 31 44 (bo 34 4294967295) ?_
            refine pV 32 45 (bo 34 8589934591) ?_
            refine pV 33 46 (bo 34 17179869183) ?_
            refine done_ (done_of HT_.out (by kernel_rfl)) ?_
            try go_wp2
            go_ret
            exact ⟨by first | rfl | (simp [errW_none, errW_some] <;> rfl) | (simp only [← hji10]; first | rfl | (simp [errW_none, errW_some] <;> rfl)) | (simp [*, errW_none, errW_some] <;> rfl), bl⟩
           ·rw [if_neg c13] at H
            have c13b0 : decide (((rd_T92 l0 x3_1).f0) ≤ ((rd_T92 l0 (ji10)).f0)) = false := decide_eq_false c13
            clear c13
            have H' := Aside0.mk H
            clear H
            try go_wp2
            replace HB := Aside0.mk (below_drew1 HB.out)
            have p116 : 0 ≤ (x3_1 : Int) := of_decide_eq_true am
            have q116 : x3_1 < (l0.length : Int) := of_decide_eq_true am
            obtain ⟨ad116, e116, hx116_0, hx116_1⟩ := at_T92 HR0.out x3_1 p116 q116
            have hw116_1 := hx116_1
            have hw116_0 := hx116_0
            cases e116
            replace hx116_0 := cz HB hx116_0
            replace hx116_1 := cz HB hx116_1
            replace p116 := eq_true p116
            replace q116 := eq_true q116
            have p118 : 0 ≤ (x3_1 : Int) := of_decide_eq_true am
            have q118 : x3_1 < (l0.length : Int) := of_decide_eq_true am
            obtain ⟨ad118, e118, hx118_0, hx118_1⟩ := at_T92 HR0.out x3_1 p118 q118
            have hw118_1 := hx118_1
            have hw118_0 := hx118_0
            obtain rfl : ad116 = ad118 := (by injection e118)
            replace hx118_0 := cz HB hx118_0
            replace hx118_1 := cz HB hx118_1
            replace p118 := eq_true p118
            replace q118 := eq_true q118
            have p120 : 0 ≤ ((ji10) : Int) := of_decide_eq_true am
            have q120 : (ji10) < (l0.length : Int) := of_decide_eq_true am
            obtain ⟨ad120, e120, hx120_0, hx120_1⟩ := at_T92 HR0.out (ji10) p120 q120
            have hw120_1 := hx120_1
            have hw120_0 := hx120_0
            obtain rfl : ad116 = ad120 := (by injection e120)
            replace hx120_0 := cz HB hx120_0
            replace hx120_1 := cz HB hx120_1
            replace p120 := eq_true p120
            replace q120 := eq_true q120
            have p121 : 0 ≤ (x3_1 : Int) := of_decide_eq_true am
            have q121 : x3_1 < (l0.length : Int) := of_decide_eq_true am
            obtain ⟨ad121, e121, hx121_0, hx121_1⟩ := at_T92 HR0.out x3_1 p121 q121
            have hw121_1 := hx121_1
            have hw121_0 := hx121_0
            obtain rfl : ad116 = ad121 := (by injection e121)
            replace hx121_0 := cz HB hx121_0
            replace hx121_1 := cz HB hx121_1
            replace p121 := eq_true p121
            replace q121 := eq_true q121
            refine start_ (n := 34) (S := fun w' => w'.cell? (ad116.add ((x3_1).toNat * 2)) = some (.int .i64 ((rd_T92 l0 x3_1).f0)) ∧ w'.cell? ⟨(ad116.add ((x3_1).toNat * 2)).block, (ad116.add ((x3_1).toNat * 2)).off + 1, none⟩ = some (.int .i64 ((rd_T92 l0 x3_1).f1)) ∧ w'.cell? (ad116.add ((x3_1).toNat * 2)) = some (.int .i64 ((rd_T92 l0 x3_1).f0)) ∧ w'.cell? ⟨(ad116.add ((x3_1).toNat * 2)).block, (ad116.add ((x3_1).toNat * 2)).off + 1, none⟩ = some (.int .i64 ((rd_T92 l0 x3_1).f1)) ∧ w'.cell? (ad116.add (((ji10)).toNat * 2)) = some (.int .i64 ((rd_T92 l0 (ji10)).f0)) ∧ w'.cell? ⟨(ad116.add (((ji10)).toNat * 2)).block, (ad116.add (((ji10)).toNat * 2)).off + 1, none⟩ = some (.int .i64 ((rd_T92 l0 (ji10)).f1)) ∧ w'.cell? (ad116.add ((x3_1).toNat * 2)) = some (.int .i64 ((rd_T92 l0 x3_1).f0)) ∧ w'.cell? ⟨(ad116.add ((x3_1).toNat * 2)).block, (ad116.add ((x3_1).toNat * 2)).off + 1, none⟩ = some (.int .i64 ((rd_T92 l0 x3_1).f1))) (ds := []) (bo 34 0) (by kernel_rfl) rfl rfl ⟨((HB.out.cell (World.block_lt_of_cell? w _ hw116_0)).trans hw116_0), ((HB.out.cell (World.block_lt_of_cell? w _ hw116_1)).trans hw116_1), ((HB.out.cell (World.block_lt_of_cell? w _ hw118_0)).trans hw118_0), ((HB.out.cell (World.block_lt_of_cell? w _ hw118_1)).trans hw118_1), ((HB.out.cell (World.block_lt_of_cell? w _ hw120_0)).trans hw120_0), ((HB.out.cell (World.block_lt_of_cell? w _ hw120_1)).trans hw120_1), ((HB.out.cell (World.block_lt_of_cell? w _ hw121_0)).trans hw121_0), ((HB.out.cell (World.block_lt_of_cell? w _ hw121_1)).trans hw121_1)⟩ (fun hHeld => ?_); refine with_tabW spec_PointsOk.tab6 spec_PointsOk.bits6 (fun HT_ HW_ => ?_)
            generalize wr.drew = w15 at HB hx116_0 hx116_1 hx118_0 hx118_1 hx120_0 hx120_1 hx121_0 hx121_1 hHeld ⊢
            refine pV 0 13 (bo 34 1) ?_
            refine pV 1 14 (bo 34 3) ?_
            refine pV 2 15 (bo 34 7) ?_
            refine pV 3 16 (bo 34 15) ?_
            refine tV 4 17 (bo 34 31) ?_
            refine one_ (i := 5) (N := some 18) (bo 34 63) rfl rfl (one_of HT_.out (by kernel_rfl)) (by decide) (fun K hK => ?_)
            refine goes_ Try.func76 (by kernel_rfl) rfl #[.int .i64 ((rd_T92 l0 x3_1).f0), .int .i64 0, .int .i64 1099511627776] (by rfl) rfl rfl sa ?_
            with_reducible refine (spec_l1In.calls ((rd_T92 l0 x3_1).f0) 0 1099511627776 true _ A5.out).mono ?_
            rintro e w' ⟨rfl, ⟨nd, rfl⟩⟩
            refine ⟨_, rfl, ?_⟩
            refine hK.out _ _ ⟨((HB.out.cell (World.block_lt_of_cell? w _ hw116_0)).trans hw116_0), ((HB.out.cell (World.block_lt_of_cell? w _ hw116_1)).trans hw116_1), ((HB.out.cell (World.block_lt_of_cell? w _ hw118_0)).trans hw118_0), ((HB.out.cell (World.block_lt_of_cell? w _ hw118_1)).trans hw118_1), ((HB.out.cell (World.block_lt_of_cell? w _ hw120_0)).trans hw120_0), ((HB.out.cell (World.block_lt_of_cell? w _ hw120_1)).trans hw120_1), ((HB.out.cell (World.block_lt_of_cell? w _ hw121_0)).trans hw121_0), ((HB.out.cell (World.block_lt_of_cell? w _ hw121_1)).trans hw121_1)⟩ (fun hHeld => ?_)
            clear hK K
            refine norm_ (a' := ?_) ?_ ?_
            rotate_left
            ·show Act.put _ (some 18) _ = _
             simp only [Act.put, List.setIfInBounds_toArray, List.set_cons_zero, List.set_cons_succ, i64_w, i32_w]
             rfl
            refine pV 6 19 (bo 34 127) ?_
            refine pV 7 20 (bo 34 255) ?_
            refine pV 8 21 (bo 34 511) ?_
            refine pV 9 22 (bo 34 1023) ?_
            refine pV 10 23 (bo 34 2047) ?_
            refine pV 11 24 (bo 34 4095) ?_
            refine tV 12 25 (bo 34 8191) ?_
            refine one_ (i := 13) (N := some 26) (bo 34 16383) rfl rfl (one_of HT_.out (by kernel_rfl)) (by decide) (fun K hK => ?_)
            refine goes_ Try.func76 (by kernel_rfl) rfl #[.int .i64 ((rd_T92 l0 x3_1).f1), .int .i64 (-1099511627776), .int .i64 1099511627776] (by rfl) rfl rfl sa ?_
            with_reducible refine (spec_l1In.calls ((rd_T92 l0 x3_1).f1) (-1099511627776) 1099511627776 true _ A7.out).mono ?_
            rintro e w' ⟨rfl, ⟨nd, rfl⟩⟩
            refine ⟨_, rfl, ?_⟩
            refine hK.out _ _ ⟨((HB.out.cell (World.block_lt_of_cell? w _ hw116_0)).trans hw116_0), ((HB.out.cell (World.block_lt_of_cell? w _ hw116_1)).trans hw116_1), ((HB.out.cell (World.block_lt_of_cell? w _ hw118_0)).trans hw118_0), ((HB.out.cell (World.block_lt_of_cell? w _ hw118_1)).trans hw118_1), ((HB.out.cell (World.block_lt_of_cell? w _ hw120_0)).trans hw120_0), ((HB.out.cell (World.block_lt_of_cell? w _ hw120_1)).trans hw120_1), ((HB.out.cell (World.block_lt_of_cell? w _ hw121_0)).trans hw121_0), ((HB.out.cell (World.block_lt_of_cell? w _ hw121_1)).trans hw121_1)⟩ (fun hHeld => ?_)
            clear hK K
            refine norm_ (a' := ?_) ?_ ?_
            rotate_left
            ·show Act.put _ (some 26) _ = _
             simp only [Act.put, List.setIfInBounds_toArray, List.set_cons_zero, List.set_cons_succ, i64_w, i32_w]
             rfl
            refine pV 14 27 (bo 34 32767) ?_
            refine pV 15 28 (bo 34 65535) ?_
            refine pV 16 29 (bo 34 131071) ?_
            refine pV 17 30 (bo 34 262143) ?_
            refine pV 18 31 (bo 34 524287) ?_
            refine pV 19 32 (bo 34 1048575) ?_
            refine pV 20 33 (bo 34 2097151) ?_
            refine pV 21 34 (bo 34 4194303) ?_
            refine pV 22 35 (bo 34 8388607) ?_
            refine pV 23 36 (bo 34 16777215) ?_
            refine pV 24 37 (bo 34 33554431) ?_
            refine pV 26 39 (bo 34 100663295) ?_
            refine pV 27 40 (bo 34 234881023) ?_
            refine pV 28 41 (bo 34 503316479) ?_
            refine pV 29 42 (bo 34 1040187391) ?_
            refine tV 25 38 (bo 34 1073741823) ?_
            refine tV 30 43 (bo 34 2147483647) ?_
            refine pV 31 44 (bo 34 4294967295) ?_
            refine pV 32 45 (bo 34 8589934591) ?_
            refine pV 33 46 (bo 34 17179869183) ?_
            refine done_ (done_of HT_.out (by kernel_rfl)) ?_
            try go_wp2
            go_roundg k1
            case measure => have := HK1.out; omega
            case rel => exact ⟨(wrap64 (x3_1 + 1)), fa, H', ⟨by have := HK1.out; omega⟩, ⟨bl⟩⟩
          ·rw [if_neg c12] at H
           exact absurd H (by simp)
         ·rw [if_neg c11] at H
          exact absurd H (by simp)
        ·rw [if_neg c9] at H
         have c9b0 : decide (0 < x3_1) = false := decide_eq_false c9
         clear c9
         have H' := Aside0.mk H
         clear H
         try go_wp2
         replace HB := Aside0.mk (below_drew1 HB.out)
         have p116 : 0 ≤ (x3_1 : Int) := of_decide_eq_true am
         have q116 : x3_1 < (l0.length : Int) := of_decide_eq_true am
         obtain ⟨ad116, e116, hx116_0, hx116_1⟩ := at_T92 HR0.out x3_1 p116 q116
         have hw116_1 := hx116_1
         have hw116_0 := hx116_0
         cases e116
         replace hx116_0 := cz HB hx116_0
         replace hx116_1 := cz HB hx116_1
         replace p116 := eq_true p116
         replace q116 := eq_true q116
         have p118 : 0 ≤ (x3_1 : Int) := of_decide_eq_true am
         have q118 : x3_1 < (l0.length : Int) := of_decide_eq_true am
         obtain ⟨ad118, e118, hx118_0, hx118_1⟩ := at_T92 HR0.out x3_1 p118 q118
         have hw118_1 := hx118_1
         have hw118_0 := hx118_0
         obtain rfl : ad116 = ad118 := (by injection e118)
         replace hx118_0 := cz HB hx118_0
         replace hx118_1 := cz HB hx118_1
         replace p118 := eq_true p118
         replace q118 := eq_true q118
         refine start_ (n := 34) (S := fun w' => w'.cell? (ad116.add ((x3_1).toNat * 2)) = some (.int .i64 ((rd_T92 l0 x3_1).f0)) ∧ w'.cell? ⟨(ad116.add ((x3_1).toNat * 2)).block, (ad116.add ((x3_1).toNat * 2)).off + 1, none⟩ = some (.int .i64 ((rd_T92 l0 x3_1).f1)) ∧ w'.cell? (ad116.add ((x3_1).toNat * 2)) = some (.int .i64 ((rd_T92 l0 x3_1).f0)) ∧ w'.cell? ⟨(ad116.add ((x3_1).toNat * 2)).block, (ad116.add ((x3_1).toNat * 2)).off + 1, none⟩ = some (.int .i64 ((rd_T92 l0 x3_1).f1))) (ds := []) (bo 34 0) (by kernel_rfl) rfl rfl ⟨((HB.out.cell (World.block_lt_of_cell? w _ hw116_0)).trans hw116_0), ((HB.out.cell (World.block_lt_of_cell? w _ hw116_1)).trans hw116_1), ((HB.out.cell (World.block_lt_of_cell? w _ hw118_0)).trans hw118_0), ((HB.out.cell (World.block_lt_of_cell? w _ hw118_1)).trans hw118_1)⟩ (fun hHeld => ?_); refine with_tabW spec_PointsOk.tab6 spec_PointsOk.bits6 (fun HT_ HW_ => ?_)
         generalize wr.drew = w16 at HB hx116_0 hx116_1 hx118_0 hx118_1 hHeld ⊢
         refine pV 0 13 (bo 34 1) ?_
         refine pV 1 14 (bo 34 3) ?_
         refine pV 2 15 (bo 34 7) ?_
         refine pV 3 16 (bo 34 15) ?_
         refine tV 4 17 (bo 34 31) ?_
         refine one_ (i := 5) (N := some 18) (bo 34 63) rfl rfl (one_of HT_.out (by kernel_rfl)) (by decide) (fun K hK => ?_)
         refine goes_ Try.func76 (by kernel_rfl) rfl #[.int .i64 ((rd_T92 l0 x3_1).f0), .int .i64 0, .int .i64 1099511627776] (by rfl) rfl rfl sa ?_
         with_reducible refine (spec_l1In.calls ((rd_T92 l0 x3_1).f0) 0 1099511627776 true _ A5.out).mono ?_
         rintro e w' ⟨rfl, ⟨nd, rfl⟩⟩
         refine ⟨_, rfl, ?_⟩
         refine hK.out _ _ ⟨((HB.out.cell (World.block_lt_of_cell? w _ hw116_0)).trans hw116_0), ((HB.out.cell (World.block_lt_of_cell? w _ hw116_1)).trans hw116_1), ((HB.out.cell (World.block_lt_of_cell? w _ hw118_0)).trans hw118_0), ((HB.out.cell (World.block_lt_of_cell? w _ hw118_1)).trans hw118_1)⟩ (fun hHeld => ?_)
         clear hK K
         refine norm_ (a' := ?_) ?_ ?_
         rotate_left
         ·show Act.put _ (some 18) _ = _
          simp only [Act.put, List.setIfInBounds_toArray, List.set_cons_zero, List.set_cons_succ, i64_w, i32_w]
          rfl
         refine pV 6 19 (bo 34 127) ?_
         refine pV 7 20 (bo 34 255) ?_
         refine pV 8 21 (bo 34 511) ?_
         refine pV 9 22 (bo 34 1023) ?_
         refine pV 10 23 (bo 34 2047) ?_
         refine pV 11 24 (bo 34 4095) ?_
         refine tV 12 25 (bo 34 8191) ?_
         refine one_ (i := 13) (N := some 26) (bo 34 16383) rfl rfl (one_of HT_.out (by kernel_rfl)) (by decide) (fun K hK => ?_)
         refine goes_ Try.func76 (by kernel_rfl) rfl #[.int .i64 ((rd_T92 l0 x3_1).f1), .int .i64 (-1099511627776), .int .i64 1099511627776] (by rfl) rfl rfl sa ?_
         with_reducible refine (spec_l1In.calls ((rd_T92 l0 x3_1).f1) (-1099511627776) 1099511627776 true _ A7.out).mono ?_
         rintro e w' ⟨rfl, ⟨nd, rfl⟩⟩
         refine ⟨_, rfl, ?_⟩
         refine hK.out _ _ ⟨((HB.out.cell (World.block_lt_of_cell? w _ hw116_0)).trans hw116_0), ((HB.out.cell (World.block_lt_of_cell? w _ hw116_1)).trans hw116_1), ((HB.out.cell (World.block_lt_of_cell? w _ hw118_0)).trans hw118_0), ((HB.out.cell (World.block_lt_of_cell? w _ hw118_1)).trans hw118_1)⟩ (fun hHeld => ?_)
         clear hK K
         refine norm_ (a' := ?_) ?_ ?_
         rotate_left
         ·show Act.put _ (some 26) _ = _
          simp only [Act.put, List.setIfInBounds_toArray, List.set_cons_zero, List.set_cons_succ, i64_w, i32_w]
          rfl
         refine pV 14 27 (bo 34 32767) ?_
         refine pV 15 28 (bo 34 65535) ?_
         refine pV 16 29 (bo 34 131071) ?_
         refine pV 17 30 (bo 34 262143) ?_
         refine pV 18 31 (bo 34 524287) ?_
         refine pV 19 32 (bo 34 1048575) ?_
         refine pU 20 33 (bo 34 2097151) ?_
         refine pU 21 34 (bo 34 4194303) ?_
         refine pU 22 35 (bo 34 8388607) ?_
         refine pU 23 36 (bo 34 16777215) ?_
         refine pU 24 37 (bo 34 33554431) ?_
         refine pU 25 38 (bo 34 67108863) ?_
         refine pU 26 39 (bo 34 134217727) ?_
         refine pU 27 40 (bo 34 268435455) ?_
         refine pU 28 41 (bo 34 536870911) ?_
         refine pU 29 42 (bo 34 1073741823) ?_
         refine pU 30 43 (bo 34 2147483647) ?_
         refine pU 31 44 (bo 34 4294967295) ?_
         refine pV 32 45 (bo 34 8589934591) ?_
         refine pV 33 46 (bo 34 17179869183) ?_
         refine done_ (done_of HT_.out (by kernel_rfl)) ?_
         try go_wp2
         go_roundg k1
         case measure => have := HK1.out; omega
         case rel => exact ⟨(wrap64 (x3_1 + 1)), fa, H', ⟨by have := HK1.out; omega⟩, ⟨bl⟩⟩
       ·replace c8 := Bool.eq_false_iff.mpr c8
        subst c8
        replace H := iF H
        obtain rfl := Option.some.inj H
        try go_wp2
        replace HB := Aside0.mk (below_drew1 HB.out)
        have p116 : 0 ≤ (x3_1 : Int) := of_decide_eq_true am
        have q116 : x3_1 < (l0.length : Int) := of_decide_eq_true am
        obtain ⟨ad116, e116, hx116_0, hx116_1⟩ := at_T92 HR0.out x3_1 p116 q116
        have hw116_1 := hx116_1
        have hw116_0 := hx116_0
        cases e116
        replace hx116_0 := cz HB hx116_0
        replace hx116_1 := cz HB hx116_1
        replace p116 := eq_true p116
        replace q116 := eq_true q116
        have p118 : 0 ≤ (x3_1 : Int) := of_decide_eq_true am
        have q118 : x3_1 < (l0.length : Int) := of_decide_eq_true am
        obtain ⟨ad118, e118, hx118_0, hx118_1⟩ := at_T92 HR0.out x3_1 p118 q118
        have hw118_1 := hx118_1
        have hw118_0 := hx118_0
        obtain rfl : ad116 = ad118 := (by injection e118)
        replace hx118_0 := cz HB hx118_0
        replace hx118_1 := cz HB hx118_1
        replace p118 := eq_true p118
        replace q118 := eq_true q118
        refine start_ (n := 34) (S := fun w' => w'.cell? (ad116.add ((x3_1).toNat * 2)) = some (.int .i64 ((rd_T92 l0 x3_1).f0)) ∧ w'.cell? ⟨(ad116.add ((x3_1).toNat * 2)).block, (ad116.add ((x3_1).toNat * 2)).off + 1, none⟩ = some (.int .i64 ((rd_T92 l0 x3_1).f1)) ∧ w'.cell? (ad116.add ((x3_1).toNat * 2)) = some (.int .i64 ((rd_T92 l0 x3_1).f0)) ∧ w'.cell? ⟨(ad116.add ((x3_1).toNat * 2)).block, (ad116.add ((x3_1).toNat * 2)).off + 1, none⟩ = some (.int .i64 ((rd_T92 l0 x3_1).f1))) (ds := []) (bo 34 0) (by kernel_rfl) rfl rfl ⟨((HB.out.cell (World.block_lt_of_cell? w _ hw116_0)).trans hw116_0), ((HB.out.cell (World.block_lt_of_cell? w _ hw116_1)).trans hw116_1), ((HB.out.cell (World.block_lt_of_cell? w _ hw118_0)).trans hw118_0), ((HB.out.cell (World.block_lt_of_cell? w _ hw118_1)).trans hw118_1)⟩ (fun hHeld => ?_); refine with_tabW spec_PointsOk.tab6 spec_PointsOk.bits6 (fun HT_ HW_ => ?_)
        generalize wr.drew = w17 at HB hx116_0 hx116_1 hx118_0 hx118_1 hHeld ⊢
        refine pV 0 13 (bo 34 1) ?_
        refine pV 1 14 (bo 34 3) ?_
        refine pV 2 15 (bo 34 7) ?_
        refine pV 3 16 (bo 34 15) ?_
        refine tV 4 17 (bo 34 31) ?_
        refine one_ (i := 5) (N := some 18) (bo 34 63) rfl rfl (one_of HT_.out (by kernel_rfl)) (by decide) (fun K hK => ?_)
        refine goes_ Try.func76 (by kernel_rfl) rfl #[.int .i64 ((rd_T92 l0 x3_1).f0), .int .i64 0, .int .i64 1099511627776] (by rfl) rfl rfl sa ?_
        with_reducible refine (spec_l1In.calls ((rd_T92 l0 x3_1).f0) 0 1099511627776 true _ A5.out).mono ?_
        rintro e w' ⟨rfl, ⟨nd, rfl⟩⟩
        refine ⟨_, rfl, ?_⟩
        refine hK.out _ _ ⟨((HB.out.cell (World.block_lt_of_cell? w _ hw116_0)).trans hw116_0), ((HB.out.cell (World.block_lt_of_cell? w _ hw116_1)).trans hw116_1), ((HB.out.cell (World.block_lt_of_cell? w _ hw118_0)).trans hw118_0), ((HB.out.cell (World.block_lt_of_cell? w _ hw118_1)).trans hw118_1)⟩ (fun hHeld => ?_)
        clear hK K
        refine norm_ (a' := ?_) ?_ ?_
        rotate_left
        ·show Act.put _ (some 18) _ = _
         simp only [Act.put, List.setIfInBounds_toArray, List.set_cons_zero, List.set_cons_succ, i64_w, i32_w]
         rfl
        refine pV 6 19 (bo 34 127) ?_
        refine pV 7 20 (bo 34 255) ?_
        refine pV 8 21 (bo 34 511) ?_
        refine pV 9 22 (bo 34 1023) ?_
        refine pV 10 23 (bo 34 2047) ?_
        refine pV 11 24 (bo 34 4095) ?_
        refine tV 12 25 (bo 34 8191) ?_
        refine one_ (i := 13) (N := some 26) (bo 34 16383) rfl rfl (one_of HT_.out (by kernel_rfl)) (by decide) (fun K hK => ?_)
        refine goes_ Try.func76 (by kernel_rfl) rfl #[.int .i64 ((rd_T92 l0 x3_1).f1), .int .i64 (-1099511627776), .int .i64 1099511627776] (by rfl) rfl rfl sa ?_
        with_reducible refine (spec_l1In.calls ((rd_T92 l0 x3_1).f1) (-1099511627776) 1099511627776 false _ A7.out).mono ?_
        rintro e w' ⟨rfl, ⟨nd, rfl⟩⟩
        refine ⟨_, rfl, ?_⟩
        refine hK.out _ _ ⟨((HB.out.cell (World.block_lt_of_cell? w _ hw116_0)).trans hw116_0), ((HB.out.cell (World.block_lt_of_cell? w _ hw116_1)).trans hw116_1), ((HB.out.cell (World.block_lt_of_cell? w _ hw118_0)).trans hw118_0), ((HB.out.cell (World.block_lt_of_cell? w _ hw118_1)).trans hw118_1)⟩ (fun hHeld => ?_)
        clear hK K
        refine norm_ (a' := ?_) ?_ ?_
        rotate_left
        ·show Act.put _ (some 26) _ = _
         simp only [Act.put, List.setIfInBounds_toArray, List.set_cons_zero, List.set_cons_succ, i64_w, i32_w]
         rfl
        refine pV 14 27 (bo 34 32767) ?_
        refine pV 15 28 (bo 34 65535) ?_
        refine pV 16 29 (bo 34 131071) ?_
        refine pU 17 30 (bo 34 262143) ?_
        refine pU 18 31 (bo 34 524287) ?_
        refine pU 19 32 (bo 34 1048575) ?_
        refine pU 20 33 (bo 34 2097151) ?_
        refine pU 21 34 (bo 34 4194303) ?_
        refine pU 22 35 (bo 34 8388607) ?_
        refine pU 23 36 (bo 34 16777215) ?_
        refine pU 24 37 (bo 34 33554431) ?_
        refine pU 25 38 (bo 34 67108863) ?_
        refine pU 26 39 (bo 34 134217727) ?_
        refine pU 27 40 (bo 34 268435455) ?_
        refine pU 28 41 (bo 34 536870911) ?_
        refine pU 29 42 (bo 34 1073741823) ?_
        refine pU 30 43 (bo 34 2147483647) ?_
        refine pU 31 44 (bo 34 4294967295) ?_
        refine pU 32 45 (bo 34 8589934591) ?_
        refine pV 33 46 (bo 34 17179869183) ?_
        refine done_ (done_of HT_.out (by kernel_rfl)) ?_
        try go_wp2
        go_ret
        exact ⟨fe, bl⟩
      ·replace c6 := Bool.eq_false_iff.mpr c6
       subst c6
       replace H := iF H
       obtain rfl := Option.some.inj H
       try go_wp2
       replace HB := Aside0.mk (below_drew1 HB.out)
       have p116 : 0 ≤ (x3_1 : Int) := of_decide_eq_true am
       have q116 : x3_1 < (l0.length : Int) := of_decide_eq_true am
       obtain ⟨ad116, e116, hx116_0, hx116_1⟩ := at_T92 HR0.out x3_1 p116 q116
       have hw116_1 := hx116_1
       have hw116_0 := hx116_0
       cases e116
       replace hx116_0 := cz HB hx116_0
       replace hx116_1 := cz HB hx116_1
       replace p116 := eq_true p116
       replace q116 := eq_true q116
       refine start_ (n := 34) (S := fun w' => w'.cell? (ad116.add ((x3_1).toNat * 2)) = some (.int .i64 ((rd_T92 l0 x3_1).f0)) ∧ w'.cell? ⟨(ad116.add ((x3_1).toNat * 2)).block, (ad116.add ((x3_1).toNat * 2)).off + 1, none⟩ = some (.int .i64 ((rd_T92 l0 x3_1).f1))) (ds := []) (bo 34 0) (by kernel_rfl) rfl rfl ⟨((HB.out.cell (World.block_lt_of_cell? w _ hw116_0)).trans hw116_0), ((HB.out.cell (World.block_lt_of_cell? w _ hw116_1)).trans hw116_1)⟩ (fun hHeld => ?_); refine with_tabW spec_PointsOk.tab6 spec_PointsOk.bits6 (fun HT_ HW_ => ?_)
       generalize wr.drew = w18 at HB hx116_0 hx116_1 hHeld ⊢
       refine pV 0 13 (bo 34 1) ?_
       refine pV 1 14 (bo 34 3) ?_
       refine pV 2 15 (bo 34 7) ?_
       refine pV 3 16 (bo 34 15) ?_
       refine tV 4 17 (bo 34 31) ?_
       refine one_ (i := 5) (N := some 18) (bo 34 63) rfl rfl (one_of HT_.out (by kernel_rfl)) (by decide) (fun K hK => ?_)
       refine goes_ Try.func76 (by kernel_rfl) rfl #[.int .i64 ((rd_T92 l0 x3_1).f0), .int .i64 0, .int .i64 1099511627776] (by rfl) rfl rfl sa ?_
       with_reducible refine (spec_l1In.calls ((rd_T92 l0 x3_1).f0) 0 1099511627776 false _ A5.out).mono ?_
       rintro e w' ⟨rfl, ⟨nd, rfl⟩⟩
       refine ⟨_, rfl, ?_⟩
       refine hK.out _ _ ⟨((HB.out.cell (World.block_lt_of_cell? w _ hw116_0)).trans hw116_0), ((HB.out.cell (World.block_lt_of_cell? w _ hw116_1)).trans hw116_1)⟩ (fun hHeld => ?_)
       clear hK K
       refine norm_ (a' := ?_) ?_ ?_
       rotate_left
       ·show Act.put _ (some 18) _ = _
        simp only [Act.put, List.setIfInBounds_toArray, List.set_cons_zero, List.set_cons_succ, i64_w, i32_w]
        rfl
       refine pV 6 19 (bo 34 127) ?_
       refine pV 7 20 (bo 34 255) ?_
       refine pU 8 21 (bo 34 511) ?_
       refine pU 9 22 (bo 34 1023) ?_
       refine pU 10 23 (bo 34 2047) ?_
       refine pU 11 24 (bo 34 4095) ?_
       refine pU 12 25 (bo 34 8191) ?_
       refine pU 13 26 (bo 34 16383) ?_
       refine pU 14 27 (bo 34 32767) ?_
       refine pV 15 28 (bo 34 65535) ?_
       refine pV 16 29 (bo 34 131071) ?_
       refine pU 17 30 (bo 34 262143) ?_
       refine pU 18 31 (bo 34 524287) ?_
       refine pU 19 32 (bo 34 1048575) ?_
       refine pU 20 33 (bo 34 2097151) ?_
       refine pU 21 34 (bo 34 4194303) ?_
       refine pU 22 35 (bo 34 8388607) ?_
       refine pU 23 36 (bo 34 16777215) ?_
       refine pU 24 37 (bo 34 33554431) ?_
       refine pU 25 38 (bo 34 67108863) ?_
       refine pU 26 39 (bo 34 134217727) ?_
       refine pU 27 40 (bo 34 268435455) ?_
       refine pU 28 41 (bo 34 536870911) ?_
       refine pU 29 42 (bo 34 1073741823) ?_
       refine pU 30 43 (bo 34 2147483647) ?_
       refine pU 31 44 (bo 34 4294967295) ?_
       refine pU 32 45 (bo 34 8589934591) ?_
       refine pV 33 46 (bo 34 17179869183) ?_
       refine done_ (done_of HT_.out (by kernel_rfl)) ?_
       try go_wp2
       go_ret
       exact ⟨fe, bl⟩
     ·rw [if_neg c4] at H
      exact absurd H (by simp)
    ·rw [if_neg c3] at H
     have c3b0 : decide (x3_1 < (l0.length : Int)) = false := decide_eq_false c3
     clear c3
     obtain rfl := Option.some.inj H
     go_wp2
     go_ret
     exact ⟨fe, bl⟩

end Go.Proofs.Ytfmddjbekophnaa.PFnExactSlice
