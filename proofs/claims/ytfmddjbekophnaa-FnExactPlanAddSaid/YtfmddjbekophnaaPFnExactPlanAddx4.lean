-- PRINTED by print.py (a twelfth state) out of the translation. Not trusted: Lean checks it.
import Derived.Test.YtfmddjbekophnaaPFnExactPlanAddx0
import Derived.Test.YtfmddjbekophnaaPFnExactPlanAddx3
import Derived.Test.YtfmddjbekophnaaZip
namespace Go.Proofs.Ytfmddjbekophnaa.PFnExactPlanAdd
open Go.RowKit Go.Proofs.YtfmddjbekophnaaW.PrintWords Go.Proofs.YtfmddjbekophnaaW.PrintLast Go.Proofs.YtfmddjbekophnaaW.PrintMore Go.Proofs.Ytfmddjbekophnaa.Zip
attribute [local go_sem] max2_int min2_int max_two min_two max_three min_three max_four min_four   -- for this text's walks alone
set_option linter.unusedVariables false
set_option linter.unusedSimpArgs false

/-! ### spec_WalOk: function 104 -/
mutual
def spec_WalOk.j0 : Nat → Bool → Int → Int → Int → Int → List (S117) → Option (Bool)
 | 0, _, _, _, _, _, _ => none
 | k + 1, x45, x142000, x142001, x142002, x142003, x142004 => if x45 = true then (some false) else (spec_WalOk.l0 k x142003 0 x142000 x142001 x142002 x142003 x142004)
def spec_WalOk.l0 : Nat → Int → Int → Int → Int → Int → Int → List (S117) → Option (Bool)
 | 0, _, _, _, _, _, _, _ => none
 | k + 1, x3, x4, x142000, x142001, x142002, x142003, x142004 => if x4 < (x142004.length : Int) then (if 0 ≤ x4 then (if ((rd_T117 x142004 x4).f0) < 1 then (some false) else (if ((rd_T117 x142004 x4).f0) < x3 then (some false) else (if ((rd_T117 x142004 x4).f0) > x142000 then (some false) else (if (((rd_T117 x142004 x4).f1).size : Int) > 900 then (some false) else (spec_WalOk.l0 k ((rd_T117 x142004 x4).f0) (wrap64 (x4 + 1)) x142000 x142001 x142002 x142003 x142004))))) else (none)) else (some true)
end
def spec_WalOk.f (k : Nat) (a0_0 : Int) (a0_1 : Int) (a0_2 : Int) (a0_3 : Int) (l0_4 : List (S117)) : Option (Bool) := (spec_l1In.f a0_0 0 100000).bind fun t142 => (if t142 = true then ((spec_l1In.f a0_1 (-1) 4).bind fun t143 => (if t143 = true then ((spec_l5Based.f a0_2 a0_3).bind fun t144 => (if t144 = true then (if a0_3 > a0_0 then (spec_WalOk.j0 k true a0_0 a0_1 a0_2 a0_3 l0_4) else (if (l0_4.length : Int) > 60 then (spec_WalOk.j0 k true a0_0 a0_1 a0_2 a0_3 l0_4) else (spec_WalOk.j0 k (decide ((wrap64 (a0_2 + (l0_4.length : Int))) > 100000)) a0_0 a0_1 a0_2 a0_3 l0_4))) else (spec_WalOk.j0 k true a0_0 a0_1 a0_2 a0_3 l0_4))) else (spec_WalOk.j0 k true a0_0 a0_1 a0_2 a0_3 l0_4))) else (spec_WalOk.j0 k true a0_0 a0_1 a0_2 a0_3 l0_4))
theorem spec_WalOk.mono_l : ∀ k, (∀ y0 y1 y2 y3 y4 y5, LeO (spec_WalOk.j0 k y0 y1 y2 y3 y4 y5) (spec_WalOk.j0 (k + 1) y0 y1 y2 y3 y4 y5)) ∧ (∀ y0 y1 y2 y3 y4 y5 y6, LeO (spec_WalOk.l0 k y0 y1 y2 y3 y4 y5 y6) (spec_WalOk.l0 (k + 1) y0 y1 y2 y3 y4 y5 y6))
 | 0 => ⟨fun _ _ _ _ _ _ r h => by simp [spec_WalOk.j0] at h, fun _ _ _ _ _ _ _ r h => by simp [spec_WalOk.l0] at h⟩
 | k + 1 => by
  obtain ⟨ih0, ih1⟩ := spec_WalOk.mono_l k
  refine ⟨?_, ?_⟩
  ·intro y0 y1 y2 y3 y4 y5
   unfold spec_WalOk.j0
   repeat' first
   | (with_reducible exact ih0 _ _ _ _ _ _)
   | (with_reducible exact ih1 _ _ _ _ _ _ _)
   | (with_reducible exact LeO.refl _)
   | (with_reducible exact LeO.none _)
   | (with_reducible refine LeO.ite ?_ ?_)
   | (with_reducible refine LeO.bind ?_ (fun _ => ?_))
   | exact ih0 _ _ _ _ _ _
   | exact ih1 _ _ _ _ _ _ _
   | exact LeO.none _
   | refine LeO.ite ?_ ?_
   | refine LeO.bind ?_ (fun _ => ?_)
  ·intro y0 y1 y2 y3 y4 y5 y6
   unfold spec_WalOk.l0
   repeat' first
   | (with_reducible exact ih0 _ _ _ _ _ _)
   | (with_reducible exact ih1 _ _ _ _ _ _ _)
   | (with_reducible exact LeO.refl _)
   | (with_reducible exact LeO.none _)
   | (with_reducible refine LeO.ite ?_ ?_)
   | (with_reducible refine LeO.bind ?_ (fun _ => ?_))
   | exact ih0 _ _ _ _ _ _
   | exact ih1 _ _ _ _ _ _ _
   | exact LeO.none _
   | refine LeO.ite ?_ ?_
   | refine LeO.bind ?_ (fun _ => ?_)
theorem spec_WalOk.mono : ∀ a0 a1 a2 a3 a4 k, LeO (spec_WalOk.f k a0 a1 a2 a3 a4) (spec_WalOk.f (k + 1) a0 a1 a2 a3 a4) := by
 intro a0 a1 a2 a3 a4 k
 obtain ⟨ih0, ih1⟩ := spec_WalOk.mono_l k
 unfold spec_WalOk.f
 repeat' first
  | (with_reducible exact ih0 _ _ _ _ _ _)
  | (with_reducible exact ih1 _ _ _ _ _ _ _)
  | (with_reducible exact LeO.refl _)
  | (with_reducible exact LeO.none _)
  | (with_reducible refine LeO.ite ?_ ?_)
  | (with_reducible refine LeO.bind ?_ (fun _ => ?_))
  | exact ih0 _ _ _ _ _ _
  | exact ih1 _ _ _ _ _ _ _
  | exact LeO.none _
  | refine LeO.ite ?_ ?_
  | refine LeO.bind ?_ (fun _ => ?_)
set_option maxHeartbeats 8000000 in
set_option maxRecDepth 100000 in
theorem spec_WalOk.calls (k : Nat) (a0_0 : Int) (a0_1 : Int) (a0_2 : Int) (a0_3 : Int) (A0_4 : Option Addr) (c0_4 : Nat) (l0_4 : List (S117)) (r : Bool) (w : World) (hr0_4 : Kd.C k117 w A0_4 l0_4.length l0_4) (hc0_4 : l0_4.length ≤ c0_4) (h : spec_WalOk.f k a0_0 a0_1 a0_2 a0_3 l0_4 = some r) :
 Calls Try.prog 104 #[.agg #[.int .i64 a0_0, .int .i64 a0_1, .int .i64 a0_2, .int .i64 a0_3, .slice A0_4 l0_4.length c0_4]] w fun e w' => e = .returned (.bool r) ∧ Below w.heap.size w w' := by
 have hu67 := Try.underlying67
 have hu117 := Try.underlying117
 have HR0_4 := Aside0.mk hr0_4
 have HC0_4 := Aside0.mk hc0_4
 clear hr0_4 hc0_4
 have HB := Aside0.mk (Below.refl w.heap.size w)
 have H : ((spec_l1In.f a0_0 0 100000).bind fun t142 => (if t142 = true then ((spec_l1In.f a0_1 (-1) 4).bind fun t143 => (if t143 = true then ((spec_l5Based.f a0_2 a0_3).bind fun t144 => (if t144 = true then (if a0_3 > a0_0 then (spec_WalOk.j0 k true a0_0 a0_1 a0_2 a0_3 l0_4) else (if (l0_4.length : Int) > 60 then (spec_WalOk.j0 k true a0_0 a0_1 a0_2 a0_3 l0_4) else (spec_WalOk.j0 k (decide ((wrap64 (a0_2 + (l0_4.length : Int))) > 100000)) a0_0 a0_1 a0_2 a0_3 l0_4))) else (spec_WalOk.j0 k true a0_0 a0_1 a0_2 a0_3 l0_4))) else (spec_WalOk.j0 k true a0_0 a0_1 a0_2 a0_3 l0_4))) else (spec_WalOk.j0 k true a0_0 a0_1 a0_2 a0_3 l0_4))) = some r := h
 clear h
 have HC2 := Aside0.mk H
 clear H
 go_enter Try.func104, Try.ntmps104
 go_upto_region 1 with (first | ((with_reducible refine gD 1 rfl ?_); (try (refine gate_guard rfl ?_; dsimp only)); refine boxZ 1 #[.int .i64 a0_0, .int .i64 a0_1, .int .i64 a0_2, .int .i64 a0_3, .slice A0_4 l0_4.length c0_4] 67 ?_; intro gb141 hg w3 hbox hb; have BK141 := Aside0.mk hbox; have GW141 := gw (w := w) hg; have GE141 := gw (w := w) hg; replace HB := bs (w := w) hb; clear hb hbox hg))
 (try simp only [Act.put, List.setIfInBounds_toArray, List.set_cons_zero, List.set_cons_succ])
 go_cut [45] (fun v45 wc => ∃ (kq : Nat) (x45_1 : Bool), v45 = .bool x45_1 ∧ Aside0 (spec_WalOk.j0 kq x45_1 a0_0 a0_1 a0_2 a0_3 l0_4 = some r) ∧ Aside0 (kq ≤ k) ∧ Aside0 (wc.heap[gb141]? = some (.cells #[.int .i64 a0_0, .int .i64 a0_1, .int .i64 a0_2, .int .i64 a0_3, (.slice A0_4 l0_4.length c0_4)] 67 (0, 0))) ∧ Aside0 (Below w.heap.size w wc))
 case first =>
  have H := HC2.out
  clear HC2
  obtain ⟨t142, A4, H⟩ := bd H
  by_cases c5 : t142 = true
  ·subst c5
   replace H := iT H
   obtain ⟨t143, A6, H⟩ := bd H
   by_cases c7 : t143 = true
   ·subst c7
    replace H := iT H
    obtain ⟨t144, A8, H⟩ := bd H
    by_cases c9 : t144 = true
    ·subst c9
     replace H := iT H
     by_cases c10 : a0_3 > a0_0
     ·rw [if_pos c10] at H
      have c10b0 : decide (a0_0 < a0_3) = true := decide_eq_true c10
      clear c10
      (first | rw [c10b0] | (simp only [i64_w, i32_w]; rw [c10b0]) | skip)
      have H' := Aside0.mk H
      clear H
      have hcz11_0 : w3.cell? ⟨gb141, 0, none⟩ = some (.int .i64 a0_0) := (blk_cell BK141.out 0).trans rfl
      have hcz11_1 : w3.cell? ⟨gb141, 1, none⟩ = some (.int .i64 a0_1) := (blk_cell BK141.out 1).trans rfl
      have hcz11_2 : w3.cell? ⟨gb141, 2, none⟩ = some (.int .i64 a0_2) := (blk_cell BK141.out 2).trans rfl
      have hcz11_3 : w3.cell? ⟨gb141, 3, none⟩ = some (.int .i64 a0_3) := (blk_cell BK141.out 3).trans rfl
      have hcz11_4 : w3.cell? ⟨gb141, 4, none⟩ = some (.slice A0_4 l0_4.length c0_4) := (blk_cell BK141.out 4).trans rfl
      have hfz11_0 := blk_frozen BK141.out 0
      have hfz11_1 := blk_frozen BK141.out 1
      have hfz11_2 := blk_frozen BK141.out 2
      have hfz11_3 := blk_frozen BK141.out 3
      have hfz11_4 := blk_frozen BK141.out 4
      go_wp2_with (first | ((with_reducible refine gC 76 rfl ?_); refine goesZ (some 8) rfl Try.func76 #[.int .i64 a0_0, .int .i64 0, .int .i64 100000] ?_; (with_reducible refine (spec_l1In.calls a0_0 0 100000 true _ A4.out).mono ?_); rintro e w' ⟨rfl, ⟨nd, rfl⟩⟩; refine ⟨_, rfl, ?_⟩) | (go_at_call 76; (with_reducible refine (spec_l1In.calls a0_1 (-1) 4 true _ A6.out).mono ?_); rintro e w' ⟨rfl, ⟨nd, rfl⟩⟩) | (go_at_call 132; (with_reducible refine (spec_l5Based.calls a0_2 a0_3 true _ A8.out).mono ?_); rintro e w' ⟨rfl, ⟨nd, rfl⟩⟩))
      go_meet
      case rel => exact ⟨_, (true), fa, H', ⟨by first | omega | exact Nat.le_refl _⟩, ⟨by (with_reducible repeat (first | refine blk_drewN ?_ _ | refine blk_drew ?_ | refine blk_alloc ?_ _)); exact BK141.out⟩, ⟨bl⟩⟩
     ·rw [if_neg c10] at H
      have c10b0 : decide (a0_0 < a0_3) = false := decide_eq_false c10
      clear c10
      (first | rw [c10b0] | (simp only [i64_w, i32_w]; rw [c10b0]) | skip)
      by_cases c12 : (l0_4.length : Int) > 60
      ·rw [if_pos c12] at H
       have c12b0 : decide (60 < (l0_4.length : Int)) = true := decide_eq_true c12
       have c12b1 : decide (60 < l0_4.length) = true := decide_eq_true (by omega)
       clear c12
       have H' := Aside0.mk H
       clear H
       have hcz13_0 : w3.cell? ⟨gb141, 0, none⟩ = some (.int .i64 a0_0) := (blk_cell BK141.out 0).trans rfl
       have hcz13_1 : w3.cell? ⟨gb141, 1, none⟩ = some (.int .i64 a0_1) := (blk_cell BK141.out 1).trans rfl
       have hcz13_2 : w3.cell? ⟨gb141, 2, none⟩ = some (.int .i64 a0_2) := (blk_cell BK141.out 2).trans rfl
       have hcz13_3 : w3.cell? ⟨gb141, 3, none⟩ = some (.int .i64 a0_3) := (blk_cell BK141.out 3).trans rfl
       have hcz13_4 : w3.cell? ⟨gb141, 4, none⟩ = some (.slice A0_4 l0_4.length c0_4) := (blk_cell BK141.out 4).trans rfl
       have hfz13_0 := blk_frozen BK141.out 0
       have hfz13_1 := blk_frozen BK141.out 1
       have hfz13_2 := blk_frozen BK141.out 2
       have hfz13_3 := blk_frozen BK141.out 3
       have hfz13_4 := blk_frozen BK141.out 4
       go_wp2_with (first | ((with_reducible refine gC 76 rfl ?_); refine goesZ (some 8) rfl Try.func76 #[.int .i64 a0_0, .int .i64 0, .int .i64 100000] ?_; (with_reducible refine (spec_l1In.calls a0_0 0 100000 true _ A4.out).mono ?_); rintro e w' ⟨rfl, ⟨nd, rfl⟩⟩; refine ⟨_, rfl, ?_⟩) | (go_at_call 76; (with_reducible refine (spec_l1In.calls a0_1 (-1) 4 true _ A6.out).mono ?_); rintro e w' ⟨rfl, ⟨nd, rfl⟩⟩) | (go_at_call 132; (with_reducible refine (spec_l5Based.calls a0_2 a0_3 true _ A8.out).mono ?_); rintro e w' ⟨rfl, ⟨nd, rfl⟩⟩))
       go_meet
       case rel => exact ⟨_, (true), fa, H', ⟨by first | omega | exact Nat.le_refl _⟩, ⟨by (with_reducible repeat (first | refine blk_drewN ?_ _ | refine blk_drew ?_ | refine blk_alloc ?_ _)); exact BK141.out⟩, ⟨bl⟩⟩
      ·rw [if_neg c12] at H
       have c12b0 : decide (60 < (l0_4.length : Int)) = false := decide_eq_false c12
       have c12b1 : decide (60 < l0_4.length) = false := decide_eq_false (by omega)
       clear c12
       have H' := Aside0.mk H
       clear H
       have hcz14_0 : w3.cell? ⟨gb141, 0, none⟩ = some (.int .i64 a0_0) := (blk_cell BK141.out 0).trans rfl
       have hcz14_1 : w3.cell? ⟨gb141, 1, none⟩ = some (.int .i64 a0_1) := (blk_cell BK141.out 1).trans rfl
       have hcz14_2 : w3.cell? ⟨gb141, 2, none⟩ = some (.int .i64 a0_2) := (blk_cell BK141.out 2).trans rfl
       have hcz14_3 : w3.cell? ⟨gb141, 3, none⟩ = some (.int .i64 a0_3) := (blk_cell BK141.out 3).trans rfl
       have hcz14_4 : w3.cell? ⟨gb141, 4, none⟩ = some (.slice A0_4 l0_4.length c0_4) := (blk_cell BK141.out 4).trans rfl
       have hfz14_0 := blk_frozen BK141.out 0
       have hfz14_1 := blk_frozen BK141.out 1
       have hfz14_2 := blk_frozen BK141.out 2
       have hfz14_3 := blk_frozen BK141.out 3
       have hfz14_4 := blk_frozen BK141.out 4
       go_wp2_with (first | ((with_reducible refine gC 76 rfl ?_); refine goesZ (some 8) rfl Try.func76 #[.int .i64 a0_0, .int .i64 0, .int .i64 100000] ?_; (with_reducible refine (spec_l1In.calls a0_0 0 100000 true _ A4.out).mono ?_); rintro e w' ⟨rfl, ⟨nd, rfl⟩⟩; refine ⟨_, rfl, ?_⟩) | (go_at_call 76; (with_reducible refine (spec_l1In.calls a0_1 (-1) 4 true _ A6.out).mono ?_); rintro e w' ⟨rfl, ⟨nd, rfl⟩⟩) | (go_at_call 132; (with_reducible refine (spec_l5Based.calls a0_2 a0_3 true _ A8.out).mono ?_); rintro e w' ⟨rfl, ⟨nd, rfl⟩⟩))
       go_meet
       case rel => exact ⟨_, (decide ((wrap64 (a0_2 + (l0_4.length : Int))) > 100000)), fa, H', ⟨by first | omega | exact Nat.le_refl _⟩, ⟨by (with_reducible repeat (first | refine blk_drewN ?_ _ | refine blk_drew ?_ | refine blk_alloc ?_ _)); exact BK141.out⟩, ⟨bl⟩⟩
    ·replace c9 := Bool.eq_false_iff.mpr c9
     subst c9
     replace H := iF H
     have H' := Aside0.mk H
     clear H
     have hcz15_0 : w3.cell? ⟨gb141, 0, none⟩ = some (.int .i64 a0_0) := (blk_cell BK141.out 0).trans rfl
     have hcz15_1 : w3.cell? ⟨gb141, 1, none⟩ = some (.int .i64 a0_1) := (blk_cell BK141.out 1).trans rfl
     have hcz15_2 : w3.cell? ⟨gb141, 2, none⟩ = some (.int .i64 a0_2) := (blk_cell BK141.out 2).trans rfl
     have hcz15_3 : w3.cell? ⟨gb141, 3, none⟩ = some (.int .i64 a0_3) := (blk_cell BK141.out 3).trans rfl
     have hcz15_4 : w3.cell? ⟨gb141, 4, none⟩ = some (.slice A0_4 l0_4.length c0_4) := (blk_cell BK141.out 4).trans rfl
     have hfz15_0 := blk_frozen BK141.out 0
     have hfz15_1 := blk_frozen BK141.out 1
     have hfz15_2 := blk_frozen BK141.out 2
     have hfz15_3 := blk_frozen BK141.out 3
     have hfz15_4 := blk_frozen BK141.out 4
     go_wp2_with (first | ((with_reducible refine gC 76 rfl ?_); refine goesZ (some 8) rfl Try.func76 #[.int .i64 a0_0, .int .i64 0, .int .i64 100000] ?_; (with_reducible refine (spec_l1In.calls a0_0 0 100000 true _ A4.out).mono ?_); rintro e w' ⟨rfl, ⟨nd, rfl⟩⟩; refine ⟨_, rfl, ?_⟩) | (go_at_call 76; (with_reducible refine (spec_l1In.calls a0_1 (-1) 4 true _ A6.out).mono ?_); rintro e w' ⟨rfl, ⟨nd, rfl⟩⟩) | (go_at_call 132; (with_reducible refine (spec_l5Based.calls a0_2 a0_3 false _ A8.out).mono ?_); rintro e w' ⟨rfl, ⟨nd, rfl⟩⟩))
     go_meet
     case rel => exact ⟨_, (true), fa, H', ⟨by first | omega | exact Nat.le_refl _⟩, ⟨by (with_reducible repeat (first | refine blk_drewN ?_ _ | refine blk_drew ?_ | refine blk_alloc ?_ _)); exact BK141.out⟩, ⟨bl⟩⟩
   ·replace c7 := Bool.eq_false_iff.mpr c7
    subst c7
    replace H := iF H
    have H' := Aside0.mk H
    clear H
    have hcz16_0 : w3.cell? ⟨gb141, 0, none⟩ = some (.int .i64 a0_0) := (blk_cell BK141.out 0).trans rfl
    have hcz16_1 : w3.cell? ⟨gb141, 1, none⟩ = some (.int .i64 a0_1) := (blk_cell BK141.out 1).trans rfl
    have hcz16_2 : w3.cell? ⟨gb141, 2, none⟩ = some (.int .i64 a0_2) := (blk_cell BK141.out 2).trans rfl
    have hcz16_3 : w3.cell? ⟨gb141, 3, none⟩ = some (.int .i64 a0_3) := (blk_cell BK141.out 3).trans rfl
    have hcz16_4 : w3.cell? ⟨gb141, 4, none⟩ = some (.slice A0_4 l0_4.length c0_4) := (blk_cell BK141.out 4).trans rfl
    have hfz16_0 := blk_frozen BK141.out 0
    have hfz16_1 := blk_frozen BK141.out 1
    have hfz16_2 := blk_frozen BK141.out 2
    have hfz16_3 := blk_frozen BK141.out 3
    have hfz16_4 := blk_frozen BK141.out 4
    go_wp2_with (first | ((with_reducible refine gC 76 rfl ?_); refine goesZ (some 8) rfl Try.func76 #[.int .i64 a0_0, .int .i64 0, .int .i64 100000] ?_; (with_reducible refine (spec_l1In.calls a0_0 0 100000 true _ A4.out).mono ?_); rintro e w' ⟨rfl, ⟨nd, rfl⟩⟩; refine ⟨_, rfl, ?_⟩) | (go_at_call 76; (with_reducible refine (spec_l1In.calls a0_1 (-1) 4 false _ A6.out).mono ?_); rintro e w' ⟨rfl, ⟨nd, rfl⟩⟩))
    go_meet
    case rel => exact ⟨_, (true), fa, H', ⟨by first | omega | exact Nat.le_refl _⟩, ⟨by (with_reducible repeat (first | refine blk_drewN ?_ _ | refine blk_drew ?_ | refine blk_alloc ?_ _)); exact BK141.out⟩, ⟨bl⟩⟩
  ·replace c5 := Bool.eq_false_iff.mpr c5
   subst c5
   replace H := iF H
   have H' := Aside0.mk H
   clear H
   have hcz17_0 : w3.cell? ⟨gb141, 0, none⟩ = some (.int .i64 a0_0) := (blk_cell BK141.out 0).trans rfl
   have hcz17_1 : w3.cell? ⟨gb141, 1, none⟩ = some (.int .i64 a0_1) := (blk_cell BK141.out 1).trans rfl
   have hcz17_2 : w3.cell? ⟨gb141, 2, none⟩ = some (.int .i64 a0_2) := (blk_cell BK141.out 2).trans rfl
   have hcz17_3 : w3.cell? ⟨gb141, 3, none⟩ = some (.int .i64 a0_3) := (blk_cell BK141.out 3).trans rfl
   have hcz17_4 : w3.cell? ⟨gb141, 4, none⟩ = some (.slice A0_4 l0_4.length c0_4) := (blk_cell BK141.out 4).trans rfl
   have hfz17_0 := blk_frozen BK141.out 0
   have hfz17_1 := blk_frozen BK141.out 1
   have hfz17_2 := blk_frozen BK141.out 2
   have hfz17_3 := blk_frozen BK141.out 3
   have hfz17_4 := blk_frozen BK141.out 4
   go_wp2_with (first | ((with_reducible refine gC 76 rfl ?_); refine goesZ (some 8) rfl Try.func76 #[.int .i64 a0_0, .int .i64 0, .int .i64 100000] ?_; (with_reducible refine (spec_l1In.calls a0_0 0 100000 false _ A4.out).mono ?_); rintro e w' ⟨rfl, ⟨nd, rfl⟩⟩; refine ⟨_, rfl, ?_⟩))
   go_meet
   case rel => exact ⟨_, (true), fa, H', ⟨by first | omega | exact Nat.le_refl _⟩, ⟨by (with_reducible repeat (first | refine blk_drewN ?_ _ | refine blk_drew ?_ | refine blk_alloc ?_ _)); exact BK141.out⟩, ⟨bl⟩⟩
 case rest =>
  clear HC2
  try clear c1
  try clear p2
  try clear c5
  try clear p6
  try clear c7
  try clear c9
  try clear c10
  try clear c10b0
  try clear c12
  try clear c12b0
  try clear c12b1
  try clear hcz11_0
  try clear hcz11_1
  try clear hcz11_2
  try clear hcz11_3
  try clear hcz11_4
  try clear hcz13_0
  try clear hcz13_1
  try clear hcz13_2
  try clear hcz13_3
  try clear hcz13_4
  try clear hcz14_0
  try clear hcz14_1
  try clear hcz14_2
  try clear hcz14_3
  try clear hcz14_4
  try clear hcz15_0
  try clear hcz15_1
  try clear hcz15_2
  try clear hcz15_3
  try clear hcz15_4
  try clear hcz16_0
  try clear hcz16_1
  try clear hcz16_2
  try clear hcz16_3
  try clear hcz16_4
  try clear hcz17_0
  try clear hcz17_1
  try clear hcz17_2
  try clear hcz17_3
  try clear hcz17_4
  try clear hfz11_0
  try clear hfz11_1
  try clear hfz11_2
  try clear hfz11_3
  try clear hfz11_4
  try clear hfz13_0
  try clear hfz13_1
  try clear hfz13_2
  try clear hfz13_3
  try clear hfz13_4
  try clear hfz14_0
  try clear hfz14_1
  try clear hfz14_2
  try clear hfz14_3
  try clear hfz14_4
  try clear hfz15_0
  try clear hfz15_1
  try clear hfz15_2
  try clear hfz15_3
  try clear hfz15_4
  try clear hfz16_0
  try clear hfz16_1
  try clear hfz16_2
  try clear hfz16_3
  try clear hfz16_4
  try clear hfz17_0
  try clear hfz17_1
  try clear hfz17_2
  try clear hfz17_3
  try clear hfz17_4
  obtain ⟨kq, x45_1, rfl, HA, HJ1, BK141, HB⟩ := hcut
  cases kq with
  | zero => exact absurd HA.out (by simp [spec_WalOk.j0])
  | succ kj1 =>
   have H := HA.out
   clear HA
   simp only [spec_WalOk.j0] at H
   by_cases c18 : x45_1 = true
   ·subst c18
    replace H := iT H
    obtain rfl := Option.some.inj H
    go_wp2
    go_ret
    exact ⟨fe, bl⟩
   ·replace c18 := Bool.eq_false_iff.mpr c18
    subst c18
    replace H := iF H
    have H' := Aside0.mk H
    clear H
    have hcz19_0 : wc.cell? ⟨gb141, 0, none⟩ = some (.int .i64 a0_0) := (blk_cell BK141.out 0).trans rfl
    have hcz19_1 : wc.cell? ⟨gb141, 1, none⟩ = some (.int .i64 a0_1) := (blk_cell BK141.out 1).trans rfl
    have hcz19_2 : wc.cell? ⟨gb141, 2, none⟩ = some (.int .i64 a0_2) := (blk_cell BK141.out 2).trans rfl
    have hcz19_3 : wc.cell? ⟨gb141, 3, none⟩ = some (.int .i64 a0_3) := (blk_cell BK141.out 3).trans rfl
    have hcz19_4 : wc.cell? ⟨gb141, 4, none⟩ = some (.slice A0_4 l0_4.length c0_4) := (blk_cell BK141.out 4).trans rfl
    have hfz19_0 := blk_frozen BK141.out 0
    have hfz19_1 := blk_frozen BK141.out 1
    have hfz19_2 := blk_frozen BK141.out 2
    have hfz19_3 := blk_frozen BK141.out 3
    have hfz19_4 := blk_frozen BK141.out 4
    go_wp2
    go_loopg [3, 4] kj1 (fun kq v3 v4 w' => ∃ (x3_2 : Int) (x4_2 : Int), v3 = .int .i64 x3_2 ∧ v4 = .int .i64 x4_2 ∧ Aside0 (spec_WalOk.l0 kq x3_2 x4_2 a0_0 a0_1 a0_2 a0_3 l0_4 = some r) ∧ Aside0 (kq ≤ kj1) ∧ Aside0 (w'.heap[gb141]? = some (.cells #[.int .i64 a0_0, .int .i64 a0_1, .int .i64 a0_2, .int .i64 a0_3, (.slice A0_4 l0_4.length c0_4)] 67 (0, 0))) ∧ Aside0 (Below w.heap.size w w'))
    case atStart => exact ⟨(a0_3), (0), fa, fa, H', ⟨Nat.le_refl _⟩, ⟨by (with_reducible repeat (first | refine blk_drewN ?_ _ | refine blk_drew ?_ | refine blk_alloc ?_ _)); exact BK141.out⟩, ⟨bl⟩⟩
    case round =>
     clear H'
     try clear c1
     try clear p2
     try clear c5
     try clear p6
     try clear c7
     try clear c9
     try clear c10
     try clear c10b0
     try clear c12
     try clear c12b0
     try clear c12b1
     try clear c18
     try clear hcz11_0
     try clear hcz11_1
     try clear hcz11_2
     try clear hcz11_3
     try clear hcz11_4
     try clear hcz13_0
     try clear hcz13_1
     try clear hcz13_2
     try clear hcz13_3
     try clear hcz13_4
     try clear hcz14_0
     try clear hcz14_1
     try clear hcz14_2
     try clear hcz14_3
     try clear hcz14_4
     try clear hcz15_0
     try clear hcz15_1
     try clear hcz15_2
     try clear hcz15_3
     try clear hcz15_4
     try clear hcz16_0
     try clear hcz16_1
     try clear hcz16_2
     try clear hcz16_3
     try clear hcz16_4
     try clear hcz17_0
     try clear hcz17_1
     try clear hcz17_2
     try clear hcz17_3
     try clear hcz17_4
     try clear hcz19_0
     try clear hcz19_1
     try clear hcz19_2
     try clear hcz19_3
     try clear hcz19_4
     try clear hfz11_0
     try clear hfz11_1
     try clear hfz11_2
     try clear hfz11_3
     try clear hfz11_4
     try clear hfz13_0
     try clear hfz13_1
     try clear hfz13_2
     try clear hfz13_3
     try clear hfz13_4
     try clear hfz14_0
     try clear hfz14_1
     try clear hfz14_2
     try clear hfz14_3
     try clear hfz14_4
     try clear hfz15_0
     try clear hfz15_1
     try clear hfz15_2
     try clear hfz15_3
     try clear hfz15_4
     try clear hfz16_0
     try clear hfz16_1
     try clear hfz16_2
     try clear hfz16_3
     try clear hfz16_4
     try clear hfz17_0
     try clear hfz17_1
     try clear hfz17_2
     try clear hfz17_3
     try clear hfz17_4
     try clear hfz19_0
     try clear hfz19_1
     try clear hfz19_2
     try clear hfz19_3
     try clear hfz19_4
     try clear p2
     try clear p6
     obtain ⟨x3_2, x4_2, rfl, rfl, HA, HK2, BK141, HB⟩ := hrel
     cases gk with
     | zero => exact absurd HA.out (by simp [spec_WalOk.l0])
     | succ k2 =>
      have H := HA.out
      clear HA
      simp only [spec_WalOk.l0] at H
      by_cases c20 : x4_2 < (l0_4.length : Int)
      ·rw [if_pos c20] at H
       have c20b0 : decide (x4_2 < (l0_4.length : Int)) = true := decide_eq_true c20
       clear c20
       by_cases c21 : 0 ≤ x4_2
       ·rw [if_pos c21] at H
        have c21b0 : decide (0 ≤ x4_2) = true := decide_eq_true c21
        clear c21
        by_cases c22 : ((rd_T117 l0_4 x4_2).f0) < 1
        ·rw [if_pos c22] at H
         have c22b0 : decide (((rd_T117 l0_4 x4_2).f0) < 1) = true := decide_eq_true c22
         clear c22
         obtain rfl := Option.some.inj H
         have hcz23_0 : wr.cell? ⟨gb141, 0, none⟩ = some (.int .i64 a0_0) := (blk_cell BK141.out 0).trans rfl
         have hcz23_1 : wr.cell? ⟨gb141, 1, none⟩ = some (.int .i64 a0_1) := (blk_cell BK141.out 1).trans rfl
         have hcz23_2 : wr.cell? ⟨gb141, 2, none⟩ = some (.int .i64 a0_2) := (blk_cell BK141.out 2).trans rfl
         have hcz23_3 : wr.cell? ⟨gb141, 3, none⟩ = some (.int .i64 a0_3) := (blk_cell BK141.out 3).trans rfl
         have hcz23_4 : wr.cell? ⟨gb141, 4, none⟩ = some (.slice A0_4 l0_4.length c0_4) := (blk_cell BK141.out 4).trans rfl
         have hfz23_0 := blk_frozen BK141.out 0
         have hfz23_1 := blk_frozen BK141.out 1
         have hfz23_2 := blk_frozen BK141.out 2
         have hfz23_3 := blk_frozen BK141.out 3
         have hfz23_4 := blk_frozen BK141.out 4
         have p145 : 0 ≤ (x4_2 : Int) := of_decide_eq_true am
         have q145 : x4_2 < (l0_4.length : Int) := of_decide_eq_true am
         obtain ⟨ad145, e145, hx145_0, hx145_1⟩ := at_T117 HR0_4.out x4_2 p145 q145
         cases e145
         replace hx145_0 := cz HB hx145_0
         replace hx145_1 := cz HB hx145_1
         replace p145 := eq_true p145
         replace q145 := eq_true q145
         go_wp2_with (first | ((with_reducible refine gD 5 rfl ?_); (try (refine gate_guard rfl ?_; dsimp only)); refine boxZ 5 #[.int .i64 0, .string (⟨#[]⟩ : ByteArray)] 117 ?_; intro gb146 hg w24 hbox hb; have BK146 := Aside0.mk hbox; have GW146 := gw (w := w) hg; have GE146 := gw (w := w) hg; replace HB := bs (w := w) hb; have NB141_146 := nl BK141 hg; have NB146_141 := nr BK141 hg; replace BK141 := bv BK141 hb; clear hb hbox hg; have hnb25 := NB146_141.out; have hnc25 := NB141_146.out; obtain ⟨hcz26_0, hcz26_1, hfz26_0, hfz26_1⟩ := cf2 BK146))
         go_ret
         exact ⟨fe, bl⟩
        ·rw [if_neg c22] at H
         have c22b0 : decide (((rd_T117 l0_4 x4_2).f0) < 1) = false := decide_eq_false c22
         clear c22
         by_cases c27 : ((rd_T117 l0_4 x4_2).f0) < x3_2
         ·rw [if_pos c27] at H
          have c27b0 : decide (((rd_T117 l0_4 x4_2).f0) < x3_2) = true := decide_eq_true c27
          clear c27
          obtain rfl := Option.some.inj H
          have hcz28_0 : wr.cell? ⟨gb141, 0, none⟩ = some (.int .i64 a0_0) := (blk_cell BK141.out 0).trans rfl
          have hcz28_1 : wr.cell? ⟨gb141, 1, none⟩ = some (.int .i64 a0_1) := (blk_cell BK141.out 1).trans rfl
          have hcz28_2 : wr.cell? ⟨gb141, 2, none⟩ = some (.int .i64 a0_2) := (blk_cell BK141.out 2).trans rfl
          have hcz28_3 : wr.cell? ⟨gb141, 3, none⟩ = some (.int .i64 a0_3) := (blk_cell BK141.out 3).trans rfl
          have hcz28_4 : wr.cell? ⟨gb141, 4, none⟩ = some (.slice A0_4 l0_4.length c0_4) := (blk_cell BK141.out 4).trans rfl
          have hfz28_0 := blk_frozen BK141.out 0
          have hfz28_1 := blk_frozen BK141.out 1
          have hfz28_2 := blk_frozen BK141.out 2
          have hfz28_3 := blk_frozen BK141.out 3
          have hfz28_4 := blk_frozen BK141.out 4
          have p145 : 0 ≤ (x4_2 : Int) := of_decide_eq_true am
          have q145 : x4_2 < (l0_4.length : Int) := of_decide_eq_true am
          obtain ⟨ad145, e145, hx145_0, hx145_1⟩ := at_T117 HR0_4.out x4_2 p145 q145
          cases e145
          replace hx145_0 := cz HB hx145_0
          replace hx145_1 := cz HB hx145_1
          replace p145 := eq_true p145
          replace q145 := eq_true q145
          go_wp2_with (first | ((with_reducible refine gD 5 rfl ?_); (try (refine gate_guard rfl ?_; dsimp only)); refine boxZ 5 #[.int .i64 0, .string (⟨#[]⟩ : ByteArray)] 117 ?_; intro gb146 hg w29 hbox hb; have BK146 := Aside0.mk hbox; have GW146 := gw (w := w) hg; have GE146 := gw (w := w) hg; replace HB := bs (w := w) hb; have NB141_146 := nl BK141 hg; have NB146_141 := nr BK141 hg; replace BK141 := bv BK141 hb; clear hb hbox hg; have hnb30 := NB146_141.out; have hnc30 := NB141_146.out; obtain ⟨hcz31_0, hcz31_1, hfz31_0, hfz31_1⟩ := cf2 BK146))
          go_ret
          exact ⟨fe, bl⟩
         ·rw [if_neg c27] at H
          have c27b0 : decide (((rd_T117 l0_4 x4_2).f0) < x3_2) = false := decide_eq_false c27
          clear c27
          by_cases c32 : ((rd_T117 l0_4 x4_2).f0) > a0_0
          ·rw [if_pos c32] at H
           have c32b0 : decide (a0_0 < ((rd_T117 l0_4 x4_2).f0)) = true := decide_eq_true c32
           clear c32
           obtain rfl := Option.some.inj H
           have hcz33_0 : wr.cell? ⟨gb141, 0, none⟩ = some (.int .i64 a0_0) := (blk_cell BK141.out 0).trans rfl
           have hcz33_1 : wr.cell? ⟨gb141, 1, none⟩ = some (.int .i64 a0_1) := (blk_cell BK141.out 1).trans rfl
           have hcz33_2 : wr.cell? ⟨gb141, 2, none⟩ = some (.int .i64 a0_2) := (blk_cell BK141.out 2).trans rfl
           have hcz33_3 : wr.cell? ⟨gb141, 3, none⟩ = some (.int .i64 a0_3) := (blk_cell BK141.out 3).trans rfl
           have hcz33_4 : wr.cell? ⟨gb141, 4, none⟩ = some (.slice A0_4 l0_4.length c0_4) := (blk_cell BK141.out 4).trans rfl
           have hfz33_0 := blk_frozen BK141.out 0
           have hfz33_1 := blk_frozen BK141.out 1
           have hfz33_2 := blk_frozen BK141.out 2
           have hfz33_3 := blk_frozen BK141.out 3
           have hfz33_4 := blk_frozen BK141.out 4
           have p145 : 0 ≤ (x4_2 : Int) := of_decide_eq_true am
           have q145 : x4_2 < (l0_4.length : Int) := of_decide_eq_true am
           obtain ⟨ad145, e145, hx145_0, hx145_1⟩ := at_T117 HR0_4.out x4_2 p145 q145
           cases e145
           replace hx145_0 := cz HB hx145_0
           replace hx145_1 := cz HB hx145_1
           replace p145 := eq_true p145
           replace q145 := eq_true q145
           go_wp2_with (first | ((with_reducible refine gD 5 rfl ?_); (try (refine gate_guard rfl ?_; dsimp only)); refine boxZ 5 #[.int .i64 0, .string (⟨#[]⟩ : ByteArray)] 117 ?_; intro gb146 hg w34 hbox hb; have BK146 := Aside0.mk hbox; have GW146 := gw (w := w) hg; have GE146 := gw (w := w) hg; replace HB := bs (w := w) hb; have NB141_146 := nl BK141 hg; have NB146_141 := nr BK141 hg; replace BK141 := bv BK141 hb; clear hb hbox hg; have hnb35 := NB146_141.out; have hnc35 := NB141_146.out; obtain ⟨hcz36_0, hcz36_1, hfz36_0, hfz36_1⟩ := cf2 BK146; obtain ⟨hcz37_0, hcz37_1, hcz37_2, hcz37_3, hcz37_4, hfz37_0, hfz37_1, hfz37_2, hfz37_3, hfz37_4⟩ := cf5 BK141))
           go_ret
           exact ⟨fe, bl⟩
          ·rw [if_neg c32] at H
           have c32b0 : decide (a0_0 < ((rd_T117 l0_4 x4_2).f0)) = false := decide_eq_false c32
           clear c32
           by_cases c38 : (((rd_T117 l0_4 x4_2).f1).size : Int) > 900
           ·rw [if_pos c38] at H
            have c38b0 : decide (900 < (((rd_T117 l0_4 x4_2).f1).size : Int)) = true := decide_eq_true c38
            have c38b1 : decide (900 < ((rd_T117 l0_4 x4_2).f1).size) = true := decide_eq_true (by omega)
            clear c38
            obtain rfl := Option.some.inj H
            have hcz39_0 : wr.cell? ⟨gb141, 0, none⟩ = some (.int .i64 a0_0) := (blk_cell BK141.out 0).trans rfl
            have hcz39_1 : wr.cell? ⟨gb141, 1, none⟩ = some (.int .i64 a0_1) := (blk_cell BK141.out 1).trans rfl
            have hcz39_2 : wr.cell? ⟨gb141, 2, none⟩ = some (.int .i64 a0_2) := (blk_cell BK141.out 2).trans rfl
            have hcz39_3 : wr.cell? ⟨gb141, 3, none⟩ = some (.int .i64 a0_3) := (blk_cell BK141.out 3).trans rfl
            have hcz39_4 : wr.cell? ⟨gb141, 4, none⟩ = some (.slice A0_4 l0_4.length c0_4) := (blk_cell BK141.out 4).trans rfl
            have hfz39_0 := blk_frozen BK141.out 0
            have hfz39_1 := blk_frozen BK141.out 1
            have hfz39_2 := blk_frozen BK141.out 2
            have hfz39_3 := blk_frozen BK141.out 3
            have hfz39_4 := blk_frozen BK141.out 4
            have p145 : 0 ≤ (x4_2 : Int) := of_decide_eq_true am
            have q145 : x4_2 < (l0_4.length : Int) := of_decide_eq_true am
            obtain ⟨ad145, e145, hx145_0, hx145_1⟩ := at_T117 HR0_4.out x4_2 p145 q145
            cases e145
            replace hx145_0 := cz HB hx145_0
            replace hx145_1 := cz HB hx145_1
            replace p145 := eq_true p145
            replace q145 := eq_true q145
            go_wp2_with (first | ((with_reducible refine gD 5 rfl ?_); (try (refine gate_guard rfl ?_; dsimp only)); refine boxZ 5 #[.int .i64 0, .string (⟨#[]⟩ : ByteArray)] 117 ?_; intro gb146 hg w40 hbox hb; have BK146 := Aside0.mk hbox; have GW146 := gw (w := w) hg; have GE146 := gw (w := w) hg; replace HB := bs (w := w) hb; have NB141_146 := nl BK141 hg; have NB146_141 := nr BK141 hg; replace BK141 := bv BK141 hb; clear hb hbox hg; have hnb41 := NB146_141.out; have hnc41 := NB141_146.out; obtain ⟨hcz42_0, hcz42_1, hfz42_0, hfz42_1⟩ := cf2 BK146; obtain ⟨hcz43_0, hcz43_1, hcz43_2, hcz43_3, hcz43_4, hfz43_0, hfz43_1, hfz43_2, hfz43_3, hfz43_4⟩ := cf5 BK141))
            go_ret
            exact ⟨fe, bl⟩
           ·rw [if_neg c38] at H
            have c38b0 : decide (900 < (((rd_T117 l0_4 x4_2).f1).size : Int)) = false := decide_eq_false c38
            have c38b1 : decide (900 < ((rd_T117 l0_4 x4_2).f1).size) = false := decide_eq_false (by omega)
            clear c38
            have H' := Aside0.mk H
            clear H
            have hcz44_0 : wr.cell? ⟨gb141, 0, none⟩ = some (.int .i64 a0_0) := (blk_cell BK141.out 0).trans rfl
            have hcz44_1 : wr.cell? ⟨gb141, 1, none⟩ = some (.int .i64 a0_1) := (blk_cell BK141.out 1).trans rfl
            have hcz44_2 : wr.cell? ⟨gb141, 2, none⟩ = some (.int .i64 a0_2) := (blk_cell BK141.out 2).trans rfl
            have hcz44_3 : wr.cell? ⟨gb141, 3, none⟩ = some (.int .i64 a0_3) := (blk_cell BK141.out 3).trans rfl
            have hcz44_4 : wr.cell? ⟨gb141, 4, none⟩ = some (.slice A0_4 l0_4.length c0_4) := (blk_cell BK141.out 4).trans rfl
            have hfz44_0 := blk_frozen BK141.out 0
            have hfz44_1 := blk_frozen BK141.out 1
            have hfz44_2 := blk_frozen BK141.out 2
            have hfz44_3 := blk_frozen BK141.out 3
            have hfz44_4 := blk_frozen BK141.out 4
            have p145 : 0 ≤ (x4_2 : Int) := of_decide_eq_true am
            have q145 : x4_2 < (l0_4.length : Int) := of_decide_eq_true am
            obtain ⟨ad145, e145, hx145_0, hx145_1⟩ := at_T117 HR0_4.out x4_2 p145 q145
            cases e145
            replace hx145_0 := cz HB hx145_0
            replace hx145_1 := cz HB hx145_1
            replace p145 := eq_true p145
            replace q145 := eq_true q145
            go_wp2_with (first | ((with_reducible refine gD 5 rfl ?_); (try (refine gate_guard rfl ?_; dsimp only)); refine boxZ 5 #[.int .i64 0, .string (⟨#[]⟩ : ByteArray)] 117 ?_; intro gb146 hg w45 hbox hb; have BK146 := Aside0.mk hbox; have GW146 := gw (w := w) hg; have GE146 := gw (w := w) hg; replace HB := bs (w := w) hb; have NB141_146 := nl BK141 hg; have NB146_141 := nr BK141 hg; replace BK141 := bv BK141 hb; clear hb hbox hg; have hnb46 := NB146_141.out; have hnc46 := NB141_146.out; obtain ⟨hcz47_0, hcz47_1, hfz47_0, hfz47_1⟩ := cf2 BK146; obtain ⟨hcz48_0, hcz48_1, hcz48_2, hcz48_3, hcz48_4, hfz48_0, hfz48_1, hfz48_2, hfz48_3, hfz48_4⟩ := cf5 BK141))
            go_roundg k2
            case measure => have := HJ1.out; have := HK2.out; omega
            case rel => exact ⟨((rd_T117 l0_4 x4_2).f0), (wrap64 (x4_2 + 1)), fa, fa, H', ⟨by have := HJ1.out; have := HK2.out; omega⟩, ⟨by (with_reducible repeat (first | refine blk_drewN ?_ _ | refine blk_drew ?_ | refine blk_alloc ?_ _)); refine blk_far ?_ NB141_146.out _; (with_reducible repeat (first | refine blk_drewN ?_ _ | refine blk_drew ?_ | refine blk_alloc ?_ _)); refine blk_far ?_ NB141_146.out _; (with_reducible repeat (first | refine blk_drewN ?_ _ | refine blk_drew ?_ | refine blk_alloc ?_ _)); exact BK141.out⟩, ⟨bl⟩⟩
       ·rw [if_neg c21] at H
        exact absurd H (by simp)
      ·rw [if_neg c20] at H
       have c20b0 : decide (x4_2 < (l0_4.length : Int)) = false := decide_eq_false c20
       clear c20
       obtain rfl := Option.some.inj H
       have hcz49_0 : wr.cell? ⟨gb141, 0, none⟩ = some (.int .i64 a0_0) := (blk_cell BK141.out 0).trans rfl
       have hcz49_1 : wr.cell? ⟨gb141, 1, none⟩ = some (.int .i64 a0_1) := (blk_cell BK141.out 1).trans rfl
       have hcz49_2 : wr.cell? ⟨gb141, 2, none⟩ = some (.int .i64 a0_2) := (blk_cell BK141.out 2).trans rfl
       have hcz49_3 : wr.cell? ⟨gb141, 3, none⟩ = some (.int .i64 a0_3) := (blk_cell BK141.out 3).trans rfl
       have hcz49_4 : wr.cell? ⟨gb141, 4, none⟩ = some (.slice A0_4 l0_4.length c0_4) := (blk_cell BK141.out 4).trans rfl
       have hfz49_0 := blk_frozen BK141.out 0
       have hfz49_1 := blk_frozen BK141.out 1
       have hfz49_2 := blk_frozen BK141.out 2
       have hfz49_3 := blk_frozen BK141.out 3
       have hfz49_4 := blk_frozen BK141.out 4
       go_wp2
       go_ret
       exact ⟨fe, bl⟩

/-! ### spec_l5LastTerm: function 142 -/
def spec_l5LastTerm.f (a0_0 : Int) (a0_1 : Int) (a0_2 : Int) (a0_3 : Int) (l0_4 : List (S117)) : Option (Int) := if (l0_4.length : Int) = 0 then (some a0_3) else (if 0 ≤ (wrap64 ((l0_4.length : Int) - 1)) then (if (wrap64 ((l0_4.length : Int) - 1)) < (l0_4.length : Int) then (some ((rd_T117 l0_4 (wrap64 ((l0_4.length : Int) - 1))).f0)) else (none)) else (none))
set_option maxHeartbeats 8000000 in
set_option maxRecDepth 100000 in
theorem spec_l5LastTerm.calls (a0_0 : Int) (a0_1 : Int) (a0_2 : Int) (a0_3 : Int) (A0_4 : Option Addr) (c0_4 : Nat) (l0_4 : List (S117)) (r : Int) (w : World) (hr0_4 : Kd.C k117 w A0_4 l0_4.length l0_4) (hc0_4 : l0_4.length ≤ c0_4) (h : spec_l5LastTerm.f a0_0 a0_1 a0_2 a0_3 l0_4 = some r) :
 Calls Try.prog 142 #[.agg #[.int .i64 a0_0, .int .i64 a0_1, .int .i64 a0_2, .int .i64 a0_3, .slice A0_4 l0_4.length c0_4]] w fun e w' => e = .returned (.int .i64 r) ∧ Below w.heap.size w w' := by
 have hu67 := Try.underlying67
 have HR0_4 := Aside0.mk hr0_4
 have HC0_4 := Aside0.mk hc0_4
 clear hr0_4 hc0_4
 have HB := Aside0.mk (Below.refl w.heap.size w)
 have H : (if (l0_4.length : Int) = 0 then (some a0_3) else (if 0 ≤ (wrap64 ((l0_4.length : Int) - 1)) then (if (wrap64 ((l0_4.length : Int) - 1)) < (l0_4.length : Int) then (some ((rd_T117 l0_4 (wrap64 ((l0_4.length : Int) - 1))).f0)) else (none)) else (none))) = some r := h
 clear h
 by_cases c2 : (l0_4.length : Int) = 0
 ·rw [if_pos c2] at H
  have c2b0 : ((l0_4.length : Int) == 0) = true := beq_iff_eq.mpr c2
  have c2b1 : ((l0_4.length : Int) != 0) = false := bne_eq_false_iff_eq.mpr c2
  clear c2
  obtain rfl := Option.some.inj H
  go_enter Try.func142, Try.ntmps142
  go_wp2_with (first | ((with_reducible refine gD 1 rfl ?_); refine boxZ 1 #[.int .i64 a0_0, .int .i64 a0_1, .int .i64 a0_2, .int .i64 a0_3, .slice A0_4 l0_4.length c0_4] 67 ?_; intro gb147 hg w3 hbox hb; have BK147 := Aside0.mk hbox; have GW147 := gw (w := w) hg; have GE147 := gw (w := w) hg; replace HB := bs (w := w) hb; clear hb hbox hg; obtain ⟨hcz4_0, hcz4_1, hcz4_2, hcz4_3, hcz4_4, hfz4_0, hfz4_1, hfz4_2, hfz4_3, hfz4_4⟩ := cf5 BK147))
  go_ret
  exact ⟨fe, bl⟩
 ·rw [if_neg c2] at H
  have c2b0 : ((l0_4.length : Int) == 0) = false := beq_eq_false_iff_ne.mpr c2
  have c2b1 : ((l0_4.length : Int) != 0) = true := bne_iff_ne.mpr c2
  have c2b2 : ¬ (l0_4 = []) := fun h_ => c2 (by rw [h_]; rfl)
  obtain ⟨ji5, hji5⟩ : ∃ j_ : Int, (wrap64 ((l0_4.length : Int) - 1)) = j_ := ⟨_, rfl⟩
  replace H : (if 0 ≤ (ji5) then (if (ji5) < (l0_4.length : Int) then (some ((rd_T117 l0_4 (ji5)).f0)) else (none)) else (none)) = some r := by first | (rw [hji5] at H; exact H) | (simp only [hji5] at H ⊢; exact H)
  have hji5w : (IntKind.i64.wrap ((l0_4.length : Int) - 1)) = ji5 := (i64_w _).trans hji5
  by_cases c6 : 0 ≤ (ji5)
  ·rw [if_pos c6] at H
   have c6b0 : decide (0 ≤ (ji5)) = true := decide_eq_true c6
   clear c6
   by_cases c7 : (ji5) < (l0_4.length : Int)
   ·rw [if_pos c7] at H
    have c7b0 : decide ((ji5) < (l0_4.length : Int)) = true := decide_eq_true c7
    clear c7
    obtain rfl := Option.some.inj H
    go_enter Try.func142, Try.ntmps142
    go_wp2_with (first | ((with_reducible refine gD 1 rfl ?_); refine boxZ 1 #[.int .i64 a0_0, .int .i64 a0_1, .int .i64 a0_2, .int .i64 a0_3, .slice A0_4 l0_4.length c0_4] 67 ?_; intro gb147 hg w8 hbox hb; have BK147 := Aside0.mk hbox; have GW147 := gw (w := w) hg; have GE147 := gw (w := w) hg; replace HB := bs (w := w) hb; clear hb hbox hg; obtain ⟨hcz9_0, hcz9_1, hcz9_2, hcz9_3, hcz9_4, hfz9_0, hfz9_1, hfz9_2, hfz9_3, hfz9_4⟩ := cf5 BK147; have p148 : 0 ≤ ((ji5) : Int) := of_decide_eq_true am; have q148 : (ji5) < (l0_4.length : Int) := of_decide_eq_true am; obtain ⟨ad148, e148, hx148_0, hx148_1⟩ := at_T117 HR0_4.out (ji5) p148 q148; cases e148; replace hx148_0 := (HB.out.cell (World.block_lt_of_cell? w _ hx148_0)).trans hx148_0; replace hx148_1 := (HB.out.cell (World.block_lt_of_cell? w _ hx148_1)).trans hx148_1; replace p148 := eq_true p148; replace q148 := eq_true q148))
    go_ret
    exact ⟨by first | rfl | (simp [errW_none, errW_some] <;> rfl) | (simp only [← hji5]; first | rfl | (simp [errW_none, errW_some] <;> rfl)) | (simp [*, errW_none, errW_some] <;> rfl), bl⟩
   ·rw [if_neg c7] at H
    exact absurd H (by simp)
  ·rw [if_neg c6] at H
   exact absurd H (by simp)

end Go.Proofs.Ytfmddjbekophnaa.PFnExactPlanAdd
