-- PRINTED by print.py (a twelfth state) out of the translation. Not trusted: Lean checks it.
import Derived.Test.YtjcmcamijaelbaaPFnExactNewDiskx0
import Derived.Test.YtjcmcamijaelbaaPFnExactNewDiskx3
import Derived.Test.YtjcmcamijaelbaaZip
namespace Go.Proofs.Ytjcmcamijaelbaa.PFnExactNewDisk
open Go.RowKit Go.Proofs.YtjcmcamijaelbaaW.PrintWords Go.Proofs.YtjcmcamijaelbaaW.PrintLast Go.Proofs.YtjcmcamijaelbaaW.PrintMore Go.Proofs.Ytjcmcamijaelbaa.Zip
attribute [local go_sem] max2_int min2_int max_two min_two max_three min_three max_four min_four   -- for this text's walks alone
set_option linter.unusedVariables false
set_option linter.unusedSimpArgs false

/-! ### laws_heldInodeS: function 61 -/
def laws_heldInodeS.l0 : Nat → List (S89) → Int → Int → Option (Int)
 | 0, _, _, _ => none
 | k + 1, x0, x1, x5 => if x5 < (x0.length : Int) then (if 0 ≤ x5 then (if ((rd_T89 x0 x5).f0) = x1 then ((laws_markText.f k (wrap64 (x1 + 1))).bind fun t150 => (if ((rd_T89 x0 x5).f1).toList = t150.toList then (if ((rd_T89 x0 x5).f2) = (wrap64 ((wrap64 (x1 + 1)) + 1)) then (laws_heldInodeS.l0 k x0 (wrap64 ((wrap64 ((wrap64 (x1 + 1)) + 1)) + 1)) (wrap64 (x5 + 1))) else (some (-1))) else (some (-1)))) else (some (-1))) else (none)) else (some x1)
def laws_heldInodeS.f (k : Nat) (l0 : List (S89)) (a1 : Int) : Option (Int) := laws_heldInodeS.l0 k l0 a1 0
theorem laws_heldInodeS.mono_l : ∀ k, (∀ y0 y1 y2, LeO (laws_heldInodeS.l0 k y0 y1 y2) (laws_heldInodeS.l0 (k + 1) y0 y1 y2))
 | 0 => fun _ _ _ r h => by simp [laws_heldInodeS.l0] at h
 | k + 1 => by
  have ih0 := laws_heldInodeS.mono_l k
  ·intro y0 y1 y2
   unfold laws_heldInodeS.l0
   repeat' first
   | (with_reducible exact ih0 _ _ _)
   | (with_reducible exact laws_markText.mono _ _)
   | (with_reducible exact LeO.refl _)
   | (with_reducible exact LeO.none _)
   | (with_reducible refine LeO.ite ?_ ?_)
   | (with_reducible refine LeO.bind ?_ (fun _ => ?_))
   | exact ih0 _ _ _
   | exact laws_markText.mono _ _
   | exact LeO.none _
   | refine LeO.ite ?_ ?_
   | refine LeO.bind ?_ (fun _ => ?_)
theorem laws_heldInodeS.mono : ∀ a0 a1 k, LeO (laws_heldInodeS.f k a0 a1) (laws_heldInodeS.f (k + 1) a0 a1) := by
 intro a0 a1 k
 have ih0 := laws_heldInodeS.mono_l k
 unfold laws_heldInodeS.f
 repeat' first
  | (with_reducible exact ih0 _ _ _)
  | (with_reducible exact laws_markText.mono _ _)
  | (with_reducible exact LeO.refl _)
  | (with_reducible exact LeO.none _)
  | (with_reducible refine LeO.ite ?_ ?_)
  | (with_reducible refine LeO.bind ?_ (fun _ => ?_))
  | exact ih0 _ _ _
  | exact laws_markText.mono _ _
  | exact LeO.none _
  | refine LeO.ite ?_ ?_
  | refine LeO.bind ?_ (fun _ => ?_)
def laws_heldInodeS.T7 : Bool × List (List Nat × List Nat) := (true, [([], []), ([], []), ([0, 1], [0, 1]), ([2], [2]), ([3], [3]), ([], []), ([5], [5]), ([4, 6], [4, 6])])
def laws_heldInodeS.B7 : List Nat := [0, 0, 3, 7, 15, 0, 32, 127]
theorem laws_heldInodeS.tab7 : rtab .any (opsOf Try.f61 7) = laws_heldInodeS.T7 := by kernel_rfl
theorem laws_heldInodeS.bits7 : waitsOk laws_heldInodeS.T7.2 laws_heldInodeS.B7 = true := by kernel_rfl
set_option maxHeartbeats 8000000 in
set_option maxRecDepth 100000 in
theorem laws_heldInodeS.calls (k : Nat) (A0 : Option Addr) (c0 : Nat) (l0 : List (S89)) (a1 : Int) (r : Int) (w : World) (hr0 : Kd.C k89 w A0 l0.length l0) (hc0 : l0.length ≤ c0) (h : laws_heldInodeS.f k l0 a1 = some r) :
 Calls Try.prog 61 #[.slice A0 l0.length c0, .int .i64 a1] w fun e w' => e = .returned (.int .i64 r) ∧ Below w.heap.size w w' := by
 have HR0 := Aside0.mk hr0
 have HC0 := Aside0.mk hc0
 clear hr0 hc0
 have HB := Aside0.mk (Below.refl w.heap.size w)
 have H : (laws_heldInodeS.l0 k l0 a1 0) = some r := h
 clear h
 have H' := Aside0.mk H
 clear H
 go_enter Try.func61, Try.ntmps61
 go_wp2
 go_loopg [1, 5] k (fun kq v1 v5 w' => ∃ (x1_1 : Int) (x5_1 : Int), v1 = .int .i64 x1_1 ∧ v5 = .int .i64 x5_1 ∧ Aside0 (laws_heldInodeS.l0 kq l0 x1_1 x5_1 = some r) ∧ Aside0 (kq ≤ k) ∧ Aside0 (Below w.heap.size w w'))
 case atStart => exact ⟨(a1), (0), fa, fa, H', ⟨Nat.le_refl _⟩, ⟨bl⟩⟩
 case round =>
  clear H'
  try clear p2
  obtain ⟨x1_1, x5_1, rfl, rfl, HA, HK1, HB⟩ := hrel
  cases gk with
  | zero => exact absurd HA.out (by simp [laws_heldInodeS.l0])
  | succ k1 =>
   have H := HA.out
   clear HA
   simp only [laws_heldInodeS.l0] at H
   by_cases c3 : x5_1 < (l0.length : Int)
   ·rw [if_pos c3] at H
    have c3b0 : decide (x5_1 < (l0.length : Int)) = true := decide_eq_true c3
    clear c3
    by_cases c4 : 0 ≤ x5_1
    ·rw [if_pos c4] at H
     have c4b0 : decide (0 ≤ x5_1) = true := decide_eq_true c4
     clear c4
     by_cases c5 : ((rd_T89 l0 x5_1).f0) = x1_1
     ·rw [if_pos c5] at H
      have c5b0 : (((rd_T89 l0 x5_1).f0) == x1_1) = true := beq_iff_eq.mpr c5
      have c5b1 : (((rd_T89 l0 x5_1).f0) != x1_1) = false := bne_eq_false_iff_eq.mpr c5
      clear c5
      obtain ⟨t150, A6, H⟩ := bd H
      by_cases c7 : ((rd_T89 l0 x5_1).f1).toList = t150.toList
      ·rw [if_pos c7] at H
       have c7b0 : (((rd_T89 l0 x5_1).f1).toList == t150.toList) = true := beq_iff_eq.mpr c7
       have c7b1 : (((rd_T89 l0 x5_1).f1).toList != t150.toList) = false := bne_eq_false_iff_eq.mpr c7
       clear c7
       by_cases c8 : ((rd_T89 l0 x5_1).f2) = (wrap64 ((wrap64 (x1_1 + 1)) + 1))
       ·rw [if_pos c8] at H
        have c8b0 : (((rd_T89 l0 x5_1).f2) == (wrap64 ((wrap64 (x1_1 + 1)) + 1))) = true := beq_iff_eq.mpr c8
        have c8b1 : (((rd_T89 l0 x5_1).f2) != (wrap64 ((wrap64 (x1_1 + 1)) + 1))) = false := bne_eq_false_iff_eq.mpr c8
        clear c8
        have H' := Aside0.mk H
        clear H
        have p148 : 0 ≤ (x5_1 : Int) := of_decide_eq_true am
        have q148 : x5_1 < (l0.length : Int) := of_decide_eq_true am
        obtain ⟨ad148, e148, hx148_0, hx148_1, hx148_2⟩ := at_T89 HR0.out x5_1 p148 q148
        cases e148
        replace hx148_0 := cz HB hx148_0
        replace hx148_1 := cz HB hx148_1
        replace hx148_2 := cz HB hx148_2
        replace p148 := eq_true p148
        replace q148 := eq_true q148
        try go_wp2
        replace HB := Aside0.mk (below_drew1 HB.out)
        have p149 : 0 ≤ (x5_1 : Int) := of_decide_eq_true am
        have q149 : x5_1 < (l0.length : Int) := of_decide_eq_true am
        obtain ⟨ad149, e149, hx149_0, hx149_1, hx149_2⟩ := at_T89 HR0.out x5_1 p149 q149
        have hw149_2 := hx149_2
        have hw149_1 := hx149_1
        have hw149_0 := hx149_0
        obtain rfl : ad148 = ad149 := (by injection e149)
        replace hx149_0 := cz HB hx149_0
        replace hx149_1 := cz HB hx149_1
        replace hx149_2 := cz HB hx149_2
        replace p149 := eq_true p149
        replace q149 := eq_true q149
        refine start_ (n := 8) (S := fun w' => w'.cell? (ad148.add ((x5_1).toNat * 3)) = some (.int .i64 ((rd_T89 l0 x5_1).f0)) ∧ w'.cell? ⟨(ad148.add ((x5_1).toNat * 3)).block, (ad148.add ((x5_1).toNat * 3)).off + 1, none⟩ = some (.string ((rd_T89 l0 x5_1).f1)) ∧ w'.cell? ⟨(ad148.add ((x5_1).toNat * 3)).block, (ad148.add ((x5_1).toNat * 3)).off + 2, none⟩ = some (.int .i64 ((rd_T89 l0 x5_1).f2))) (ds := []) (bo 8 0) (by kernel_rfl) rfl rfl ⟨((HB.out.cell (World.block_lt_of_cell? w _ hw149_0)).trans hw149_0), ((HB.out.cell (World.block_lt_of_cell? w _ hw149_1)).trans hw149_1), ((HB.out.cell (World.block_lt_of_cell? w _ hw149_2)).trans hw149_2)⟩ (fun hHeld => ?_); refine with_tabW laws_heldInodeS.tab7 laws_heldInodeS.bits7 (fun HT_ HW_ => ?_)
        generalize wr.drew = w9 at HB hx149_0 hx149_1 hx149_2 hHeld ⊢
        refine pV 0 21 (bo 8 1) ?_
        refine pV 1 22 (bo 8 3) ?_
        refine pV 2 23 (bo 8 7) ?_
        refine pV 3 24 (bo 8 15) ?_
        refine pV 5 26 (bo 8 47) ?_
        refine tV 4 25 (bo 8 63) ?_
        refine one_ (i := 6) (N := some 27) (bo 8 127) rfl rfl (one_of HT_.out (by kernel_rfl)) (by decide) (fun K hK => ?_)
        refine goes_ Try.func94 (by kernel_rfl) rfl #[.int .i64 (wrap64 (x1_1 + 1))] (by rfl) rfl rfl sa ?_
        with_reducible refine (laws_markText.calls k1 (wrap64 (x1_1 + 1)) t150 _ A6.out).mono ?_
        rintro e w10 ⟨rfl, hb⟩
        refine ⟨_, rfl, ?_⟩
        replace HB := bs (w := w) hb; (try clear hb hb2 hk hi)
        refine hK.out _ _ ⟨((HB.out.cell (World.block_lt_of_cell? w _ hw149_0)).trans hw149_0), ((HB.out.cell (World.block_lt_of_cell? w _ hw149_1)).trans hw149_1), ((HB.out.cell (World.block_lt_of_cell? w _ hw149_2)).trans hw149_2)⟩ (fun hHeld => ?_)
        clear hK K
        refine norm_ (a' := ?_) ?_ ?_
        rotate_left
        ·show Act.put _ (some 27) _ = _
         simp only [Act.put, List.setIfInBounds_toArray, List.set_cons_zero, List.set_cons_succ, i64_w, i32_w]
         rfl
        refine pV 7 28 (bo 8 255) ?_
        refine done_ (done_of HT_.out (by kernel_rfl)) ?_
        have p151 : 0 ≤ (x5_1 : Int) := of_decide_eq_true am
        have q151 : x5_1 < (l0.length : Int) := of_decide_eq_true am
        obtain ⟨ad151, e151, hx151_0, hx151_1, hx151_2⟩ := at_T89 HR0.out x5_1 p151 q151
        obtain rfl : ad148 = ad151 := (by injection e151)
        replace hx151_0 := cz HB hx151_0
        replace hx151_1 := cz HB hx151_1
        replace hx151_2 := cz HB hx151_2
        replace p151 := eq_true p151
        replace q151 := eq_true q151
        try go_wp2
        go_roundg k1
        case measure => have := HK1.out; omega
        case rel => exact ⟨(wrap64 ((wrap64 ((wrap64 (x1_1 + 1)) + 1)) + 1)), (wrap64 (x5_1 + 1)), fa, fa, H', ⟨by have := HK1.out; omega⟩, ⟨bl⟩⟩
       ·rw [if_neg c8] at H
        have c8b0 : (((rd_T89 l0 x5_1).f2) == (wrap64 ((wrap64 (x1_1 + 1)) + 1))) = false := beq_eq_false_iff_ne.mpr c8
        have c8b1 : (((rd_T89 l0 x5_1).f2) != (wrap64 ((wrap64 (x1_1 + 1)) + 1))) = true := bne_iff_ne.mpr c8
        obtain rfl := Option.some.inj H
        have p148 : 0 ≤ (x5_1 : Int) := of_decide_eq_true am
        have q148 : x5_1 < (l0.length : Int) := of_decide_eq_true am
        obtain ⟨ad148, e148, hx148_0, hx148_1, hx148_2⟩ := at_T89 HR0.out x5_1 p148 q148
        cases e148
        replace hx148_0 := cz HB hx148_0
        replace hx148_1 := cz HB hx148_1
        replace hx148_2 := cz HB hx148_2
        replace p148 := eq_true p148
        replace q148 := eq_true q148
        try go_wp2
        replace HB := Aside0.mk (below_drew1 HB.out)
        have p149 : 0 ≤ (x5_1 : Int) := of_decide_eq_true am
        have q149 : x5_1 < (l0.length : Int) := of_decide_eq_true am
        obtain ⟨ad149, e149, hx149_0, hx149_1, hx149_2⟩ := at_T89 HR0.out x5_1 p149 q149
        have hw149_2 := hx149_2
        have hw149_1 := hx149_1
        have hw149_0 := hx149_0
        obtain rfl : ad148 = ad149 := (by injection e149)
        replace hx149_0 := cz HB hx149_0
        replace hx149_1 := cz HB hx149_1
        replace hx149_2 := cz HB hx149_2
        replace p149 := eq_true p149
        replace q149 := eq_true q149
        refine start_ (n := 8) (S := fun w' => w'.cell? (ad148.add ((x5_1).toNat * 3)) = some (.int .i64 ((rd_T89 l0 x5_1).f0)) ∧ w'.cell? ⟨(ad148.add ((x5_1).toNat * 3)).block, (ad148.add ((x5_1).toNat * 3)).off + 1, none⟩ = some (.string ((rd_T89 l0 x5_1).f1)) ∧ w'.cell? ⟨(ad148.add ((x5_1).toNat * 3)).block, (ad148.add ((x5_1).toNat * 3)).off + 2, none⟩ = some (.int .i64 ((rd_T89 l0 x5_1).f2))) (ds := []) (bo 8 0) (by kernel_rfl) rfl rfl ⟨((HB.out.cell (World.block_lt_of_cell? w _ hw149_0)).trans hw149_0), ((HB.out.cell (World.block_lt_of_cell? w _ hw149_1)).trans hw149_1), ((HB.out.cell (World.block_lt_of_cell? w _ hw149_2)).trans hw149_2)⟩ (fun hHeld => ?_); refine with_tabW laws_heldInodeS.tab7 laws_heldInodeS.bits7 (fun HT_ HW_ => ?_)
        generalize wr.drew = w11 at HB hx149_0 hx149_1 hx149_2 hHeld ⊢
        refine pV 0 21 (bo 8 1) ?_
        refine pV 1 22 (bo 8 3) ?_
        refine pV 2 23 (bo 8 7) ?_
        refine pV 3 24 (bo 8 15) ?_
        refine pV 5 26 (bo 8 47) ?_
        refine tV 4 25 (bo 8 63) ?_
        refine one_ (i := 6) (N := some 27) (bo 8 127) rfl rfl (one_of HT_.out (by kernel_rfl)) (by decide) (fun K hK => ?_)
        refine goes_ Try.func94 (by kernel_rfl) rfl #[.int .i64 (wrap64 (x1_1 + 1))] (by rfl) rfl rfl sa ?_
        with_reducible refine (laws_markText.calls k1 (wrap64 (x1_1 + 1)) t150 _ A6.out).mono ?_
        rintro e w12 ⟨rfl, hb⟩
        refine ⟨_, rfl, ?_⟩
        replace HB := bs (w := w) hb; (try clear hb hb2 hk hi)
        refine hK.out _ _ ⟨((HB.out.cell (World.block_lt_of_cell? w _ hw149_0)).trans hw149_0), ((HB.out.cell (World.block_lt_of_cell? w _ hw149_1)).trans hw149_1), ((HB.out.cell (World.block_lt_of_cell? w _ hw149_2)).trans hw149_2)⟩ (fun hHeld => ?_)
        clear hK K
        refine norm_ (a' := ?_) ?_ ?_
        rotate_left
        ·show Act.put _ (some 27) _ = _
         simp only [Act.put, List.setIfInBounds_toArray, List.set_cons_zero, List.set_cons_succ, i64_w, i32_w]
         rfl
        refine pV 7 28 (bo 8 255) ?_
        refine done_ (done_of HT_.out (by kernel_rfl)) ?_
        have p151 : 0 ≤ (x5_1 : Int) := of_decide_eq_true am
        have q151 : x5_1 < (l0.length : Int) := of_decide_eq_true am
        obtain ⟨ad151, e151, hx151_0, hx151_1, hx151_2⟩ := at_T89 HR0.out x5_1 p151 q151
        obtain rfl : ad148 = ad151 := (by injection e151)
        replace hx151_0 := cz HB hx151_0
        replace hx151_1 := cz HB hx151_1
        replace hx151_2 := cz HB hx151_2
        replace p151 := eq_true p151
        replace q151 := eq_true q151
        try go_wp2
        go_ret
        exact ⟨fe, bl⟩
      ·rw [if_neg c7] at H
       have c7b0 : (((rd_T89 l0 x5_1).f1).toList == t150.toList) = false := beq_eq_false_iff_ne.mpr c7
       have c7b1 : (((rd_T89 l0 x5_1).f1).toList != t150.toList) = true := bne_iff_ne.mpr c7
       obtain rfl := Option.some.inj H
       have p148 : 0 ≤ (x5_1 : Int) := of_decide_eq_true am
       have q148 : x5_1 < (l0.length : Int) := of_decide_eq_true am
       obtain ⟨ad148, e148, hx148_0, hx148_1, hx148_2⟩ := at_T89 HR0.out x5_1 p148 q148
       cases e148
       replace hx148_0 := cz HB hx148_0
       replace hx148_1 := cz HB hx148_1
       replace hx148_2 := cz HB hx148_2
       replace p148 := eq_true p148
       replace q148 := eq_true q148
       try go_wp2
       replace HB := Aside0.mk (below_drew1 HB.out)
       have p149 : 0 ≤ (x5_1 : Int) := of_decide_eq_true am
       have q149 : x5_1 < (l0.length : Int) := of_decide_eq_true am
       obtain ⟨ad149, e149, hx149_0, hx149_1, hx149_2⟩ := at_T89 HR0.out x5_1 p149 q149
       have hw149_2 := hx149_2
       have hw149_1 := hx149_1
       have hw149_0 := hx149_0
       obtain rfl : ad148 = ad149 := (by injection e149)
       replace hx149_0 := cz HB hx149_0
       replace hx149_1 := cz HB hx149_1
       replace hx149_2 := cz HB hx149_2
       replace p149 := eq_true p149
       replace q149 := eq_true q149
       refine start_ (n := 8) (S := fun w' => w'.cell? (ad148.add ((x5_1).toNat * 3)) = some (.int .i64 ((rd_T89 l0 x5_1).f0)) ∧ w'.cell? ⟨(ad148.add ((x5_1).toNat * 3)).block, (ad148.add ((x5_1).toNat * 3)).off + 1, none⟩ = some (.string ((rd_T89 l0 x5_1).f1)) ∧ w'.cell? ⟨(ad148.add ((x5_1).toNat * 3)).block, (ad148.add ((x5_1).toNat * 3)).off + 2, none⟩ = some (.int .i64 ((rd_T89 l0 x5_1).f2))) (ds := []) (bo 8 0) (by kernel_rfl) rfl rfl ⟨((HB.out.cell (World.block_lt_of_cell? w _ hw149_0)).trans hw149_0), ((HB.out.cell (World.block_lt_of_cell? w _ hw149_1)).trans hw149_1), ((HB.out.cell (World.block_lt_of_cell? w _ hw149_2)).trans hw149_2)⟩ (fun hHeld => ?_); refine with_tabW laws_heldInodeS.tab7 laws_heldInodeS.bits7 (fun HT_ HW_ => ?_)
       generalize wr.drew = w13 at HB hx149_0 hx149_1 hx149_2 hHeld ⊢
       refine pV 0 21 (bo 8 1) ?_
       refine pV 1 22 (bo 8 3) ?_
       refine pV 2 23 (bo 8 7) ?_
       refine pV 3 24 (bo 8 15) ?_
       refine pV 5 26 (bo 8 47) ?_
       refine tV 4 25 (bo 8 63) ?_
       refine one_ (i := 6) (N := some 27) (bo 8 127) rfl rfl (one_of HT_.out (by kernel_rfl)) (by decide) (fun K hK => ?_)
       refine goes_ Try.func94 (by kernel_rfl) rfl #[.int .i64 (wrap64 (x1_1 + 1))] (by rfl) rfl rfl sa ?_
       with_reducible refine (laws_markText.calls k1 (wrap64 (x1_1 + 1)) t150 _ A6.out).mono ?_
       rintro e w14 ⟨rfl, hb⟩
       refine ⟨_, rfl, ?_⟩
       replace HB := bs (w := w) hb; (try clear hb hb2 hk hi)
       refine hK.out _ _ ⟨((HB.out.cell (World.block_lt_of_cell? w _ hw149_0)).trans hw149_0), ((HB.out.cell (World.block_lt_of_cell? w _ hw149_1)).trans hw149_1), ((HB.out.cell (World.block_lt_of_cell? w _ hw149_2)).trans hw149_2)⟩ (fun hHeld => ?_)
       clear hK K
       refine norm_ (a' := ?_) ?_ ?_
       rotate_left
       ·show Act.put _ (some 27) _ = _
        simp only [Act.put, List.setIfInBounds_toArray, List.set_cons_zero, List.set_cons_succ, i64_w, i32_w]
        rfl
       refine pV 7 28 (bo 8 255) ?_
       refine done_ (done_of HT_.out (by kernel_rfl)) ?_
       try go_wp2
       go_ret
       exact ⟨fe, bl⟩
     ·rw [if_neg c5] at H
      have c5b0 : (((rd_T89 l0 x5_1).f0) == x1_1) = false := beq_eq_false_iff_ne.mpr c5
      have c5b1 : (((rd_T89 l0 x5_1).f0) != x1_1) = true := bne_iff_ne.mpr c5
      obtain rfl := Option.some.inj H
      have p148 : 0 ≤ (x5_1 : Int) := of_decide_eq_true am
      have q148 : x5_1 < (l0.length : Int) := of_decide_eq_true am
      obtain ⟨ad148, e148, hx148_0, hx148_1, hx148_2⟩ := at_T89 HR0.out x5_1 p148 q148
      cases e148
      replace hx148_0 := cz HB hx148_0
      replace hx148_1 := cz HB hx148_1
      replace hx148_2 := cz HB hx148_2
      replace p148 := eq_true p148
      replace q148 := eq_true q148
      go_wp2
      go_ret
      exact ⟨fe, bl⟩
    ·rw [if_neg c4] at H
     exact absurd H (by simp)
   ·rw [if_neg c3] at H
    have c3b0 : decide (x5_1 < (l0.length : Int)) = false := decide_eq_false c3
    clear c3
    obtain rfl := Option.some.inj H
    go_wp2
    go_ret
    exact ⟨fe, bl⟩

/-! ### laws_heldLinkS: function 62 -/
def laws_heldLinkS.l0 : Nat → List (S93) → Int → Int → Option (Int)
 | 0, _, _, _ => none
 | k + 1, x0, x1, x5 => if x5 < (x0.length : Int) then (if 0 ≤ x5 then ((laws_markText.f k x1).bind fun t153 => (if ((rd_T93 x0 x5).f0).toList = t153.toList then (if ((rd_T93 x0 x5).f1) = (wrap64 (x1 + 1)) then (laws_heldLinkS.l0 k x0 (wrap64 ((wrap64 (x1 + 1)) + 1)) (wrap64 (x5 + 1))) else (some (-1))) else (some (-1)))) else (none)) else (some x1)
def laws_heldLinkS.f (k : Nat) (l0 : List (S93)) (a1 : Int) : Option (Int) := laws_heldLinkS.l0 k l0 a1 0
theorem laws_heldLinkS.mono_l : ∀ k, (∀ y0 y1 y2, LeO (laws_heldLinkS.l0 k y0 y1 y2) (laws_heldLinkS.l0 (k + 1) y0 y1 y2))
 | 0 => fun _ _ _ r h => by simp [laws_heldLinkS.l0] at h
 | k + 1 => by
  have ih0 := laws_heldLinkS.mono_l k
  ·intro y0 y1 y2
   unfold laws_heldLinkS.l0
   repeat' first
   | (with_reducible exact ih0 _ _ _)
   | (with_reducible exact laws_markText.mono _ _)
   | (with_reducible exact LeO.refl _)
   | (with_reducible exact LeO.none _)
   | (with_reducible refine LeO.ite ?_ ?_)
   | (with_reducible refine LeO.bind ?_ (fun _ => ?_))
   | exact ih0 _ _ _
   | exact laws_markText.mono _ _
   | exact LeO.none _
   | refine LeO.ite ?_ ?_
   | refine LeO.bind ?_ (fun _ => ?_)
theorem laws_heldLinkS.mono : ∀ a0 a1 k, LeO (laws_heldLinkS.f k a0 a1) (laws_heldLinkS.f (k + 1) a0 a1) := by
 intro a0 a1 k
 have ih0 := laws_heldLinkS.mono_l k
 unfold laws_heldLinkS.f
 repeat' first
  | (with_reducible exact ih0 _ _ _)
  | (with_reducible exact laws_markText.mono _ _)
  | (with_reducible exact LeO.refl _)
  | (with_reducible exact LeO.none _)
  | (with_reducible refine LeO.ite ?_ ?_)
  | (with_reducible refine LeO.bind ?_ (fun _ => ?_))
  | exact ih0 _ _ _
  | exact laws_markText.mono _ _
  | exact LeO.none _
  | refine LeO.ite ?_ ?_
  | refine LeO.bind ?_ (fun _ => ?_)
def laws_heldLinkS.T4 : Bool × List (List Nat × List Nat) := (true, [([], []), ([], []), ([0, 1], [0, 1]), ([2], [2]), ([3], [3]), ([], []), ([5], [5]), ([4, 6], [4, 6])])
def laws_heldLinkS.B4 : List Nat := [0, 0, 3, 7, 15, 0, 32, 127]
theorem laws_heldLinkS.tab4 : rtab .any (opsOf Try.f62 4) = laws_heldLinkS.T4 := by kernel_rfl
theorem laws_heldLinkS.bits4 : waitsOk laws_heldLinkS.T4.2 laws_heldLinkS.B4 = true := by kernel_rfl
set_option maxHeartbeats 8000000 in
set_option maxRecDepth 100000 in
theorem laws_heldLinkS.calls (k : Nat) (A0 : Option Addr) (c0 : Nat) (l0 : List (S93)) (a1 : Int) (r : Int) (w : World) (hr0 : Kd.C k93 w A0 l0.length l0) (hc0 : l0.length ≤ c0) (h : laws_heldLinkS.f k l0 a1 = some r) :
 Calls Try.prog 62 #[.slice A0 l0.length c0, .int .i64 a1] w fun e w' => e = .returned (.int .i64 r) ∧ Below w.heap.size w w' := by
 have HR0 := Aside0.mk hr0
 have HC0 := Aside0.mk hc0
 clear hr0 hc0
 have HB := Aside0.mk (Below.refl w.heap.size w)
 have H : (laws_heldLinkS.l0 k l0 a1 0) = some r := h
 clear h
 have H' := Aside0.mk H
 clear H
 go_enter Try.func62, Try.ntmps62
 go_wp2
 go_loopg [1, 5] k (fun kq v1 v5 w' => ∃ (x1_1 : Int) (x5_1 : Int), v1 = .int .i64 x1_1 ∧ v5 = .int .i64 x5_1 ∧ Aside0 (laws_heldLinkS.l0 kq l0 x1_1 x5_1 = some r) ∧ Aside0 (kq ≤ k) ∧ Aside0 (Below w.heap.size w w'))
 case atStart => exact ⟨(a1), (0), fa, fa, H', ⟨Nat.le_refl _⟩, ⟨bl⟩⟩
 case round =>
  clear H'
  try clear p2
  obtain ⟨x1_1, x5_1, rfl, rfl, HA, HK1, HB⟩ := hrel
  cases gk with
  | zero => exact absurd HA.out (by simp [laws_heldLinkS.l0])
  | succ k1 =>
   have H := HA.out
   clear HA
   simp only [laws_heldLinkS.l0] at H
   by_cases c3 : x5_1 < (l0.length : Int)
   ·rw [if_pos c3] at H
    have c3b0 : decide (x5_1 < (l0.length : Int)) = true := decide_eq_true c3
    clear c3
    by_cases c4 : 0 ≤ x5_1
    ·rw [if_pos c4] at H
     have c4b0 : decide (0 ≤ x5_1) = true := decide_eq_true c4
     clear c4
     obtain ⟨t153, A5, H⟩ := bd H
     by_cases c6 : ((rd_T93 l0 x5_1).f0).toList = t153.toList
     ·rw [if_pos c6] at H
      have c6b0 : (((rd_T93 l0 x5_1).f0).toList == t153.toList) = true := beq_iff_eq.mpr c6
      have c6b1 : (((rd_T93 l0 x5_1).f0).toList != t153.toList) = false := bne_eq_false_iff_eq.mpr c6
      clear c6
      by_cases c7 : ((rd_T93 l0 x5_1).f1) = (wrap64 (x1_1 + 1))
      ·rw [if_pos c7] at H
       have c7b0 : (((rd_T93 l0 x5_1).f1) == (wrap64 (x1_1 + 1))) = true := beq_iff_eq.mpr c7
       have c7b1 : (((rd_T93 l0 x5_1).f1) != (wrap64 (x1_1 + 1))) = false := bne_eq_false_iff_eq.mpr c7
       clear c7
       have H' := Aside0.mk H
       clear H
       try go_wp2
       replace HB := Aside0.mk (below_drew1 HB.out)
       have p152 : 0 ≤ (x5_1 : Int) := of_decide_eq_true am
       have q152 : x5_1 < (l0.length : Int) := of_decide_eq_true am
       obtain ⟨ad152, e152, hx152_0, hx152_1⟩ := at_T93 HR0.out x5_1 p152 q152
       have hw152_1 := hx152_1
       have hw152_0 := hx152_0
       cases e152
       replace hx152_0 := cz HB hx152_0
       replace hx152_1 := cz HB hx152_1
       replace p152 := eq_true p152
       replace q152 := eq_true q152
       refine start_ (n := 8) (S := fun w' => w'.cell? (ad152.add ((x5_1).toNat * 2)) = some (.string ((rd_T93 l0 x5_1).f0)) ∧ w'.cell? ⟨(ad152.add ((x5_1).toNat * 2)).block, (ad152.add ((x5_1).toNat * 2)).off + 1, none⟩ = some (.int .i64 ((rd_T93 l0 x5_1).f1))) (ds := []) (bo 8 0) (by kernel_rfl) rfl rfl ⟨((HB.out.cell (World.block_lt_of_cell? w _ hw152_0)).trans hw152_0), ((HB.out.cell (World.block_lt_of_cell? w _ hw152_1)).trans hw152_1)⟩ (fun hHeld => ?_); refine with_tabW laws_heldLinkS.tab4 laws_heldLinkS.bits4 (fun HT_ HW_ => ?_)
       generalize wr.drew = w8 at HB hx152_0 hx152_1 hHeld ⊢
       refine pV 0 12 (bo 8 1) ?_
       refine pV 1 13 (bo 8 3) ?_
       refine pV 2 14 (bo 8 7) ?_
       refine pV 3 15 (bo 8 15) ?_
       refine pV 5 17 (bo 8 47) ?_
       refine tV 4 16 (bo 8 63) ?_
       refine one_ (i := 6) (N := some 18) (bo 8 127) rfl rfl (one_of HT_.out (by kernel_rfl)) (by decide) (fun K hK => ?_)
       refine goes_ Try.func94 (by kernel_rfl) rfl #[.int .i64 x1_1] (by rfl) rfl rfl sa ?_
       with_reducible refine (laws_markText.calls k1 x1_1 t153 _ A5.out).mono ?_
       rintro e w9 ⟨rfl, hb⟩
       refine ⟨_, rfl, ?_⟩
       replace HB := bs (w := w) hb; (try clear hb hb2 hk hi)
       refine hK.out _ _ ⟨((HB.out.cell (World.block_lt_of_cell? w _ hw152_0)).trans hw152_0), ((HB.out.cell (World.block_lt_of_cell? w _ hw152_1)).trans hw152_1)⟩ (fun hHeld => ?_)
       clear hK K
       refine norm_ (a' := ?_) ?_ ?_
       rotate_left
       ·show Act.put _ (some 18) _ = _
        simp only [Act.put, List.setIfInBounds_toArray, List.set_cons_zero, List.set_cons_succ, i64_w, i32_w]
        rfl
       refine pV 7 19 (bo 8 255) ?_
       refine done_ (done_of HT_.out (by kernel_rfl)) ?_
       have p154 : 0 ≤ (x5_1 : Int) := of_decide_eq_true am
       have q154 : x5_1 < (l0.length : Int) := of_decide_eq_true am
       obtain ⟨ad154, e154, hx154_0, hx154_1⟩ := at_T93 HR0.out x5_1 p154 q154
       obtain rfl : ad152 = ad154 := (by injection e154)
       replace hx154_0 := cz HB hx154_0
       replace hx154_1 := cz HB hx154_1
       replace p154 := eq_true p154
       replace q154 := eq_true q154
       try go_wp2
       go_roundg k1
       case measure => have := HK1.out; omega
       case rel => exact ⟨(wrap64 ((wrap64 (x1_1 + 1)) + 1)), (wrap64 (x5_1 + 1)), fa, fa, H', ⟨by have := HK1.out; omega⟩, ⟨bl⟩⟩
      ·rw [if_neg c7] at H
       have c7b0 : (((rd_T93 l0 x5_1).f1) == (wrap64 (x1_1 + 1))) = false := beq_eq_false_iff_ne.mpr c7
       have c7b1 : (((rd_T93 l0 x5_1).f1) != (wrap64 (x1_1 + 1))) = true := bne_iff_ne.mpr c7
       obtain rfl := Option.some.inj H
       try go_wp2
       replace HB := Aside0.mk (below_drew1 HB.out)
       have p152 : 0 ≤ (x5_1 : Int) := of_decide_eq_true am
       have q152 : x5_1 < (l0.length : Int) := of_decide_eq_true am
       obtain ⟨ad152, e152, hx152_0, hx152_1⟩ := at_T93 HR0.out x5_1 p152 q152
       have hw152_1 := hx152_1
       have hw152_0 := hx152_0
       cases e152
       replace hx152_0 := cz HB hx152_0
       replace hx152_1 := cz HB hx152_1
       replace p152 := eq_true p152
       replace q152 := eq_true q152
       refine start_ (n := 8) (S := fun w' => w'.cell? (ad152.add ((x5_1).toNat * 2)) = some (.string ((rd_T93 l0 x5_1).f0)) ∧ w'.cell? ⟨(ad152.add ((x5_1).toNat * 2)).block, (ad152.add ((x5_1).toNat * 2)).off + 1, none⟩ = some (.int .i64 ((rd_T93 l0 x5_1).f1))) (ds := []) (bo 8 0) (by kernel_rfl) rfl rfl ⟨((HB.out.cell (World.block_lt_of_cell? w _ hw152_0)).trans hw152_0), ((HB.out.cell (World.block_lt_of_cell? w _ hw152_1)).trans hw152_1)⟩ (fun hHeld => ?_); refine with_tabW laws_heldLinkS.tab4 laws_heldLinkS.bits4 (fun HT_ HW_ => ?_)
       generalize wr.drew = w10 at HB hx152_0 hx152_1 hHeld ⊢
       refine pV 0 12 (bo 8 1) ?_
       refine pV 1 13 (bo 8 3) ?_
       refine pV 2 14 (bo 8 7) ?_
       refine pV 3 15 (bo 8 15) ?_
       refine pV 5 17 (bo 8 47) ?_
       refine tV 4 16 (bo 8 63) ?_
       refine one_ (i := 6) (N := some 18) (bo 8 127) rfl rfl (one_of HT_.out (by kernel_rfl)) (by decide) (fun K hK => ?_)
       refine goes_ Try.func94 (by kernel_rfl) rfl #[.int .i64 x1_1] (by rfl) rfl rfl sa ?_
       with_reducible refine (laws_markText.calls k1 x1_1 t153 _ A5.out).mono ?_
       rintro e w11 ⟨rfl, hb⟩
       refine ⟨_, rfl, ?_⟩
       replace HB := bs (w := w) hb; (try clear hb hb2 hk hi)
       refine hK.out _ _ ⟨((HB.out.cell (World.block_lt_of_cell? w _ hw152_0)).trans hw152_0), ((HB.out.cell (World.block_lt_of_cell? w _ hw152_1)).trans hw152_1)⟩ (fun hHeld => ?_)
       clear hK K
       refine norm_ (a' := ?_) ?_ ?_
       rotate_left
       ·show Act.put _ (some 18) _ = _
        simp only [Act.put, List.setIfInBounds_toArray, List.set_cons_zero, List.set_cons_succ, i64_w, i32_w]
        rfl
       refine pV 7 19 (bo 8 255) ?_
       refine done_ (done_of HT_.out (by kernel_rfl)) ?_
       have p154 : 0 ≤ (x5_1 : Int) := of_decide_eq_true am
       have q154 : x5_1 < (l0.length : Int) := of_decide_eq_true am
       obtain ⟨ad154, e154, hx154_0, hx154_1⟩ := at_T93 HR0.out x5_1 p154 q154
       obtain rfl : ad152 = ad154 := (by injection e154)
       replace hx154_0 := cz HB hx154_0
       replace hx154_1 := cz HB hx154_1
       replace p154 := eq_true p154
       replace q154 := eq_true q154
       try go_wp2
       go_ret
       exact ⟨fe, bl⟩
     ·rw [if_neg c6] at H
      have c6b0 : (((rd_T93 l0 x5_1).f0).toList == t153.toList) = false := beq_eq_false_iff_ne.mpr c6
      have c6b1 : (((rd_T93 l0 x5_1).f0).toList != t153.toList) = true := bne_iff_ne.mpr c6
      obtain rfl := Option.some.inj H
      try go_wp2
      replace HB := Aside0.mk (below_drew1 HB.out)
      have p152 : 0 ≤ (x5_1 : Int) := of_decide_eq_true am
      have q152 : x5_1 < (l0.length : Int) := of_decide_eq_true am
      obtain ⟨ad152, e152, hx152_0, hx152_1⟩ := at_T93 HR0.out x5_1 p152 q152
      have hw152_1 := hx152_1
      have hw152_0 := hx152_0
      cases e152
      replace hx152_0 := cz HB hx152_0
      replace hx152_1 := cz HB hx152_1
      replace p152 := eq_true p152
      replace q152 := eq_true q152
      refine start_ (n := 8) (S := fun w' => w'.cell? (ad152.add ((x5_1).toNat * 2)) = some (.string ((rd_T93 l0 x5_1).f0)) ∧ w'.cell? ⟨(ad152.add ((x5_1).toNat * 2)).block, (ad152.add ((x5_1).toNat * 2)).off + 1, none⟩ = some (.int .i64 ((rd_T93 l0 x5_1).f1))) (ds := []) (bo 8 0) (by kernel_rfl) rfl rfl ⟨((HB.out.cell (World.block_lt_of_cell? w _ hw152_0)).trans hw152_0), ((HB.out.cell (World.block_lt_of_cell? w _ hw152_1)).trans hw152_1)⟩ (fun hHeld => ?_); refine with_tabW laws_heldLinkS.tab4 laws_heldLinkS.bits4 (fun HT_ HW_ => ?_)
      generalize wr.drew = w12 at HB hx152_0 hx152_1 hHeld ⊢
      refine pV 0 12 (bo 8 1) ?_
      refine pV 1 13 (bo 8 3) ?_
      refine pV 2 14 (bo 8 7) ?_
      refine pV 3 15 (bo 8 15) ?_
      refine pV 5 17 (bo 8 47) ?_
      refine tV 4 16 (bo 8 63) ?_
      refine one_ (i := 6) (N := some 18) (bo 8 127) rfl rfl (one_of HT_.out (by kernel_rfl)) (by decide) (fun K hK => ?_)
      refine goes_ Try.func94 (by kernel_rfl) rfl #[.int .i64 x1_1] (by rfl) rfl rfl sa ?_
      with_reducible refine (laws_markText.calls k1 x1_1 t153 _ A5.out).mono ?_
      rintro e w13 ⟨rfl, hb⟩
      refine ⟨_, rfl, ?_⟩
      replace HB := bs (w := w) hb; (try clear hb hb2 hk hi)
      refine hK.out _ _ ⟨((HB.out.cell (World.block_lt_of_cell? w _ hw152_0)).trans hw152_0), ((HB.out.cell (World.block_lt_of_cell? w _ hw152_1)).trans hw152_1)⟩ (fun hHeld => ?_)
      clear hK K
      refine norm_ (a' := ?_) ?_ ?_
      rotate_left
      ·show Act.put _ (some 18) _ = _
       simp only [Act.put, List.setIfInBounds_toArray, List.set_cons_zero, List.set_cons_succ, i64_w, i32_w]
       rfl
      refine pV 7 19 (bo 8 255) ?_
      refine done_ (done_of HT_.out (by kernel_rfl)) ?_
      try go_wp2
      go_ret
      exact ⟨fe, bl⟩
    ·rw [if_neg c4] at H
     exact absurd H (by simp)
   ·rw [if_neg c3] at H
    have c3b0 : decide (x5_1 < (l0.length : Int)) = false := decide_eq_false c3
    clear c3
    obtain rfl := Option.some.inj H
    go_wp2
    go_ret
    exact ⟨fe, bl⟩

end Go.Proofs.Ytjcmcamijaelbaa.PFnExactNewDisk
