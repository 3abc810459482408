-- PRINTED by print.py (a twelfth state) out of the translation. Not trusted: Lean checks it.
import Derived.Test.YtfmddjbekophnaaPFnExactPlanAddx0
import Derived.Test.YtfmddjbekophnaaPFnExactPlanAddx6
import Derived.Test.YtfmddjbekophnaaPFnExactPlanAddx7
import Derived.Test.YtfmddjbekophnaaPFnExactPlanAddx8
import Derived.Test.YtfmddjbekophnaaZip
namespace Go.Proofs.Ytfmddjbekophnaa.PFnExactPlanAdd
open Go.RowKit Go.Proofs.YtfmddjbekophnaaW.PrintWords Go.Proofs.YtfmddjbekophnaaW.PrintLast Go.Proofs.YtfmddjbekophnaaW.PrintMore Go.Proofs.Ytfmddjbekophnaa.Zip
attribute [local go_sem] max2_int min2_int max_two min_two max_three min_three max_four min_four   -- for this text's walks alone
set_option linter.unusedVariables false
set_option linter.unusedSimpArgs false

/-! ### spec_PlanAdd: function 71 -/
mutual
def spec_PlanAdd.j0 : Nat → List (S83) → Bool → Option ((List (S130)))
 | 0, _, _ => none
 | k + 1, x5, x21 => if x21 = true then (some (([] : List (S130)))) else (spec_PlanAdd.l0 k x5 (⟨#[]⟩ : ByteArray) 0)
def spec_PlanAdd.l0 : Nat → List (S83) → ByteArray → Int → Option ((List (S130)))
 | 0, _, _, _ => none
 | k + 1, x5, x7, x8 => if x8 < (x5.length : Int) then (if 0 ≤ x8 then ((spec_ShowRec.f k ((rd_T83 x5 x8).f0) ((rd_T83 x5 x8).f1) ((rd_T83 x5 x8).f2) ((rd_T83 x5 x8).f3) ((rd_T83 x5 x8).f4)).bind fun t216 => ((spec_Frame.f k t216).bind fun t217 => (if x7.size + t217.size ≤ 9223372036854775807 then (spec_PlanAdd.l0 k x5 (x7 ++ t217) (wrap64 (x8 + 1))) else (none)))) else (none)) else (some (([(⟨2, (⟨#[108, 111, 103]⟩ : ByteArray), (⟨#[]⟩ : ByteArray), x7⟩ : S130), (⟨3, (⟨#[108, 111, 103]⟩ : ByteArray), (⟨#[]⟩ : ByteArray), (⟨#[]⟩ : ByteArray)⟩ : S130)] : List (S130))))
end
def spec_PlanAdd.f (k : Nat) (a0_0 : Int) (a0_1 : Int) (a0_2 : Int) (a0_3 : Int) (l0_4 : List (S117)) (a1_0 : Int) (a1_1 : Int) (a1_2 : Int) (a1_3 : Int) (l1_4 : List (S117)) : Option ((List (S130))) := (spec_Changes.f k a0_0 a0_1 a0_2 a0_3 l0_4 a1_0 a1_1 a1_2 a1_3 l1_4).bind fun bt208 => (if bt208.2 = true then (spec_PlanAdd.j0 k bt208.1 ((bt208.1.length : Int) == 0)) else (spec_PlanAdd.j0 k bt208.1 true))
theorem spec_PlanAdd.mono_l : ∀ k, (∀ y0 y1, LeO (spec_PlanAdd.j0 k y0 y1) (spec_PlanAdd.j0 (k + 1) y0 y1)) ∧ (∀ y0 y1 y2, LeO (spec_PlanAdd.l0 k y0 y1 y2) (spec_PlanAdd.l0 (k + 1) y0 y1 y2))
 | 0 => ⟨fun _ _ r h => by simp [spec_PlanAdd.j0] at h, fun _ _ _ r h => by simp [spec_PlanAdd.l0] at h⟩
 | k + 1 => by
  obtain ⟨ih0, ih1⟩ := spec_PlanAdd.mono_l k
  refine ⟨?_, ?_⟩
  ·intro y0 y1
   unfold spec_PlanAdd.j0
   repeat' first
   | (with_reducible exact ih0 _ _)
   | (with_reducible exact ih1 _ _ _)
   | (with_reducible exact spec_Changes.mono _ _ _ _ _ _ _ _ _ _ _)
   | (with_reducible exact spec_Frame.mono _ _)
   | (with_reducible exact spec_ShowRec.mono _ _ _ _ _ _)
   | (with_reducible exact LeO.refl _)
   | (with_reducible exact LeO.none _)
   | (with_reducible refine LeO.ite ?_ ?_)
   | (with_reducible refine LeO.bind ?_ (fun _ => ?_))
   | exact ih0 _ _
   | exact ih1 _ _ _
   | exact spec_Changes.mono _ _ _ _ _ _ _ _ _ _ _
   | exact spec_Frame.mono _ _
   | exact spec_ShowRec.mono _ _ _ _ _ _
   | exact LeO.none _
   | refine LeO.ite ?_ ?_
   | refine LeO.bind ?_ (fun _ => ?_)
  ·intro y0 y1 y2
   unfold spec_PlanAdd.l0
   repeat' first
   | (with_reducible exact ih0 _ _)
   | (with_reducible exact ih1 _ _ _)
   | (with_reducible exact spec_Changes.mono _ _ _ _ _ _ _ _ _ _ _)
   | (with_reducible exact spec_Frame.mono _ _)
   | (with_reducible exact spec_ShowRec.mono _ _ _ _ _ _)
   | (with_reducible exact LeO.refl _)
   | (with_reducible exact LeO.none _)
   | (with_reducible refine LeO.ite ?_ ?_)
   | (with_reducible refine LeO.bind ?_ (fun _ => ?_))
   | exact ih0 _ _
   | exact ih1 _ _ _
   | exact spec_Changes.mono _ _ _ _ _ _ _ _ _ _ _
   | exact spec_Frame.mono _ _
   | exact spec_ShowRec.mono _ _ _ _ _ _
   | exact LeO.none _
   | refine LeO.ite ?_ ?_
   | refine LeO.bind ?_ (fun _ => ?_)
theorem spec_PlanAdd.mono : ∀ a0 a1 a2 a3 a4 a5 a6 a7 a8 a9 k, LeO (spec_PlanAdd.f k a0 a1 a2 a3 a4 a5 a6 a7 a8 a9) (spec_PlanAdd.f (k + 1) a0 a1 a2 a3 a4 a5 a6 a7 a8 a9) := by
 intro a0 a1 a2 a3 a4 a5 a6 a7 a8 a9 k
 obtain ⟨ih0, ih1⟩ := spec_PlanAdd.mono_l k
 unfold spec_PlanAdd.f
 repeat' first
  | (with_reducible exact ih0 _ _)
  | (with_reducible exact ih1 _ _ _)
  | (with_reducible exact spec_Changes.mono _ _ _ _ _ _ _ _ _ _ _)
  | (with_reducible exact spec_Frame.mono _ _)
  | (with_reducible exact spec_ShowRec.mono _ _ _ _ _ _)
  | (with_reducible exact LeO.refl _)
  | (with_reducible exact LeO.none _)
  | (with_reducible refine LeO.ite ?_ ?_)
  | (with_reducible refine LeO.bind ?_ (fun _ => ?_))
  | exact ih0 _ _
  | exact ih1 _ _ _
  | exact spec_Changes.mono _ _ _ _ _ _ _ _ _ _ _
  | exact spec_Frame.mono _ _
  | exact spec_ShowRec.mono _ _ _ _ _ _
  | exact LeO.none _
  | refine LeO.ite ?_ ?_
  | refine LeO.bind ?_ (fun _ => ?_)
set_option maxHeartbeats 8000000 in
set_option maxRecDepth 100000 in
theorem spec_PlanAdd.calls (k : Nat) (a0_0 : Int) (a0_1 : Int) (a0_2 : Int) (a0_3 : Int) (A0_4 : Option Addr) (c0_4 : Nat) (l0_4 : List (S117)) (a1_0 : Int) (a1_1 : Int) (a1_2 : Int) (a1_3 : Int) (A1_4 : Option Addr) (c1_4 : Nat) (l1_4 : List (S117)) (r : List (S130)) (w : World) (hr0_4 : Kd.C k117 w A0_4 l0_4.length l0_4) (hc0_4 : l0_4.length ≤ c0_4) (hr1_4 : Kd.C k117 w A1_4 l1_4.length l1_4) (hc1_4 : l1_4.length ≤ c1_4) (h : spec_PlanAdd.f k a0_0 a0_1 a0_2 a0_3 l0_4 a1_0 a1_1 a1_2 a1_3 l1_4 = some r) :
 Calls Try.prog 71 #[.agg #[.int .i64 a0_0, .int .i64 a0_1, .int .i64 a0_2, .int .i64 a0_3, .slice A0_4 l0_4.length c0_4], .agg #[.int .i64 a1_0, .int .i64 a1_1, .int .i64 a1_2, .int .i64 a1_3, .slice A1_4 l1_4.length c1_4]] w fun e w' => ∃ v0_ : Value, e = .returned (v0_) ∧ Kd.R k130 130 w' w.heap.size (fun _ => True) v0_ r ∧ Below w.heap.size w w' := by
 have hu67 := Try.underlying67
 have hu83 := Try.underlying83
 have hu130 := Try.underlying130
 have HR0_4 := Aside0.mk hr0_4
 have HC0_4 := Aside0.mk hc0_4
 clear hr0_4 hc0_4
 have HR1_4 := Aside0.mk hr1_4
 have HC1_4 := Aside0.mk hc1_4
 clear hr1_4 hc1_4
 have HB := Aside0.mk (Below.refl w.heap.size w)
 have H : ((spec_Changes.f k a0_0 a0_1 a0_2 a0_3 l0_4 a1_0 a1_1 a1_2 a1_3 l1_4).bind fun bt208 => (if bt208.2 = true then (spec_PlanAdd.j0 k bt208.1 ((bt208.1.length : Int) == 0)) else (spec_PlanAdd.j0 k bt208.1 true))) = some r := h
 clear h
 replace H := Option.bind_eq_some_iff.mp H
 obtain ⟨⟨t208, t211⟩, A30, H⟩ := H
 replace H : (if t211 = true then (spec_PlanAdd.j0 k t208 ((t208.length : Int) == 0)) else (spec_PlanAdd.j0 k t208 true)) = some r := H
 have A3 := Aside0.mk A30
 clear A30
 have HC4 := Aside0.mk H
 clear H
 go_enter Try.func71, Try.ntmps71
 go_upto_region 2 with (first | ((with_reducible refine gD 2 rfl ?_); (try (refine gate_guard rfl ?_; dsimp only)); refine boxZ 2 #[.int .i64 a0_0, .int .i64 a0_1, .int .i64 a0_2, .int .i64 a0_3, .slice A0_4 l0_4.length c0_4] 67 ?_; intro gb206 hg w5 hbox hb; have BK206 := Aside0.mk hbox; have GW206 := gw (w := w) hg; have GE206 := gw (w := w) hg; replace HB := bs (w := w) hb; clear hb hbox hg) | ((with_reducible refine gD 3 rfl ?_); (try (refine gate_guard rfl ?_; dsimp only)); refine box_event ?hg (N := 3) ?hd (cs := #[.int .i64 a1_0, .int .i64 a1_1, .int .i64 a1_2, .int .i64 a1_3, .slice A1_4 l1_4.length c1_4]) (t := 67) ?hr ?_; (case hd => rfl); (case hg => rfl); (case hr => first | (go_simp; done) | (go_simp; rfl)); intro gb207 hg w6 hbox hb; have n0_ := bv BK206 hb; have n1_ := bs (w := w) hb; have n2_ := Aside0.mk hbox; have n3_ := gw (w := w) hg; have n4_ := gw (w := w) hg; have n5_ := nl BK206 hg; have n6_ := nr BK206 hg; clear BK206; clear HB; have BK206 := n0_; have HB := n1_; have BK207 := n2_; have GW207 := n3_; have GE207 := n4_; have NB206_207 := n5_; have NB207_206 := n6_; clear n0_ n1_ n2_ n3_ n4_ n5_ n6_; clear hb hbox hg; have hnb7 := NB206_207.out; have hnc7 := NB207_206.out; have hcz8_0 : w6.cell? ⟨gb206, 0, none⟩ = some (.int .i64 a0_0) := (blk_cell BK206.out 0).trans rfl; have hcz8_1 : w6.cell? ⟨gb206, 1, none⟩ = some (.int .i64 a0_1) := (blk_cell BK206.out 1).trans rfl; have hcz8_2 : w6.cell? ⟨gb206, 2, none⟩ = some (.int .i64 a0_2) := (blk_cell BK206.out 2).trans rfl; have hcz8_3 : w6.cell? ⟨gb206, 3, none⟩ = some (.int .i64 a0_3) := (blk_cell BK206.out 3).trans rfl; have hcz8_4 : w6.cell? ⟨gb206, 4, none⟩ = some (.slice A0_4 l0_4.length c0_4) := (blk_cell BK206.out 4).trans rfl; have hfz8_0 := blk_frozen BK206.out 0; have hfz8_1 := blk_frozen BK206.out 1; have hfz8_2 := blk_frozen BK206.out 2; have hfz8_3 := blk_frozen BK206.out 3; have hfz8_4 := blk_frozen BK206.out 4; have hcz9_0 : w6.cell? ⟨gb207, 0, none⟩ = some (.int .i64 a1_0) := (blk_cell BK207.out 0).trans rfl; have hcz9_1 : w6.cell? ⟨gb207, 1, none⟩ = some (.int .i64 a1_1) := (blk_cell BK207.out 1).trans rfl; have hcz9_2 : w6.cell? ⟨gb207, 2, none⟩ = some (.int .i64 a1_2) := (blk_cell BK207.out 2).trans rfl; have hcz9_3 : w6.cell? ⟨gb207, 3, none⟩ = some (.int .i64 a1_3) := (blk_cell BK207.out 3).trans rfl; have hcz9_4 : w6.cell? ⟨gb207, 4, none⟩ = some (.slice A1_4 l1_4.length c1_4) := (blk_cell BK207.out 4).trans rfl; have hfz9_0 := blk_frozen BK207.out 0; have hfz9_1 := blk_frozen BK207.out 1; have hfz9_2 := blk_frozen BK207.out 2; have hfz9_3 := blk_frozen BK207.out 3; have hfz9_4 := blk_frozen BK207.out 4) | ((with_reducible refine gC 60 rfl ?_); refine goesZ (some 12) rfl Try.func60 #[.agg #[.int .i64 a0_0, .int .i64 a0_1, .int .i64 a0_2, .int .i64 a0_3, .slice A0_4 l0_4.length c0_4], .agg #[.int .i64 a1_0, .int .i64 a1_1, .int .i64 a1_2, .int .i64 a1_3, .slice A1_4 l1_4.length c1_4]] ?_; (with_reducible refine (spec_Changes.calls k a0_0 a0_1 a0_2 a0_3 _ _ l0_4 a1_0 a1_1 a1_2 a1_3 _ _ l1_4 t208 t211 _ ?side1 ?side2 ?side3 ?side4 A3.out).mono ?_); (case side1 => repeat (first | exact (Kd.C_below HR0_4.out HB.out) | (with_reducible refine Kd.C_alloc ?_ _) | (with_reducible refine Kd.C_drewN ?_ _) | (with_reducible refine Kd.C_drew ?_))); (case side2 => exact HC0_4.out); (case side3 => repeat (first | exact (Kd.C_below HR1_4.out HB.out) | (with_reducible refine Kd.C_alloc ?_ _) | (with_reducible refine Kd.C_drewN ?_ _) | (with_reducible refine Kd.C_drew ?_))); (case side4 => exact HC1_4.out); rintro e w10 ⟨v209, rfl, ho0, hb⟩; refine ⟨_, rfl, ?_⟩; have n0_ := Aside0.mk (Kd.R_lower ho0 (below_size bl)); have n1_ := bv BK206 hb; have n2_ := bv BK207 hb; have n3_ := bs (w := w) hb; clear BK206; clear BK207; clear HB; have HO210 := n0_; have BK206 := n1_; have BK207 := n2_; have HB := n3_; clear n0_ n1_ n2_ n3_; (try clear hb); (try clear hb2); (try clear hk); (try clear hi); (try clear ho0)))
 (try simp only [Act.put, List.setIfInBounds_toArray, List.set_cons_zero, List.set_cons_succ])
 go_cut [21] (fun v21 wc => ∃ (kq : Nat) (x21_3 : Bool), v21 = .bool x21_3 ∧ Aside0 (spec_PlanAdd.j0 kq t208 x21_3 = some r) ∧ Aside0 (kq ≤ k) ∧ Aside0 (Kd.R k83 83 wc w.heap.size (fun _ => True) v209 t208) ∧ Aside0 (wc.heap[gb206]? = some (.cells #[.int .i64 a0_0, .int .i64 a0_1, .int .i64 a0_2, .int .i64 a0_3, (.slice A0_4 l0_4.length c0_4)] 67 (0, 0))) ∧ Aside0 (wc.heap[gb207]? = some (.cells #[.int .i64 a1_0, .int .i64 a1_1, .int .i64 a1_2, .int .i64 a1_3, (.slice A1_4 l1_4.length c1_4)] 67 (0, 0))) ∧ Aside0 (Below w.heap.size w wc))
 case first =>
  have H := HC4.out
  clear HC4
  by_cases c11 : t211 = true
  ·subst c11
   replace H := iT H
   have H' := Aside0.mk H
   clear H
   obtain ⟨Ao12, co12, eo12⟩ := Kd.R_slice HO210.out
   subst eo12
   go_wp2
   go_meet
   case rel => exact ⟨_, (((t208.length : Int) == 0)), fa, H', ⟨by first | omega | exact Nat.le_refl _⟩, ⟨by (with_reducible repeat (first | apply Kd.R_alloc | apply Kd.R_drewN | apply Kd.R_drew)); exact HO210.out⟩, ⟨by (with_reducible repeat (first | refine blk_drewN ?_ _ | refine blk_drew ?_ | refine blk_alloc ?_ _)); exact BK206.out⟩, ⟨by (with_reducible repeat (first | refine blk_drewN ?_ _ | refine blk_drew ?_ | refine blk_alloc ?_ _)); exact BK207.out⟩, ⟨bl⟩⟩
  ·replace c11 := Bool.eq_false_iff.mpr c11
   subst c11
   replace H := iF H
   have H' := Aside0.mk H
   clear H
   go_wp2
   go_meet
   case rel => exact ⟨_, (true), fa, H', ⟨by first | omega | exact Nat.le_refl _⟩, ⟨by (with_reducible repeat (first | apply Kd.R_alloc | apply Kd.R_drewN | apply Kd.R_drew)); exact HO210.out⟩, ⟨by (with_reducible repeat (first | refine blk_drewN ?_ _ | refine blk_drew ?_ | refine blk_alloc ?_ _)); exact BK206.out⟩, ⟨by (with_reducible repeat (first | refine blk_drewN ?_ _ | refine blk_drew ?_ | refine blk_alloc ?_ _)); exact BK207.out⟩, ⟨bl⟩⟩
 case rest =>
  clear HC4
  try clear c1
  try clear p2
  try clear c6
  try clear c7
  try clear c11
  try clear hcz8_0
  try clear hcz8_1
  try clear hcz8_2
  try clear hcz8_3
  try clear hcz8_4
  try clear hcz9_0
  try clear hcz9_1
  try clear hcz9_2
  try clear hcz9_3
  try clear hcz9_4
  try clear hfz8_0
  try clear hfz8_1
  try clear hfz8_2
  try clear hfz8_3
  try clear hfz8_4
  try clear hfz9_0
  try clear hfz9_1
  try clear hfz9_2
  try clear hfz9_3
  try clear hfz9_4
  obtain ⟨kq, x21_3, rfl, HA, HJ3, HO_5, BK206, BK207, HB⟩ := hcut
  cases kq with
  | zero => exact absurd HA.out (by simp [spec_PlanAdd.j0])
  | succ kj3 =>
   have H := HA.out
   clear HA
   simp only [spec_PlanAdd.j0] at H
   by_cases c13 : x21_3 = true
   ·subst c13
    replace H := iT H
    obtain ⟨y212, hy212⟩ : ∃ y_ : List (S130), y_ = (([] : List (S130))) := ⟨_, rfl⟩
    replace H : (some y212) = some r := by first | (rw [hy212]; with_reducible exact H) | (have H2_ := (Option.bind_some _ _).symm.trans H; rw [hy212]; with_reducible exact H2_) | (have H2_ := (Option.bind_some _ _).symm.trans H; with_reducible exact H2_) | with_reducible exact H | (rw [hy212]; exact H) | exact H
    have Ny212 := Aside0.mk hy212
    clear hy212
    obtain rfl := Option.some.inj H
    go_wp2_with (first | ((with_reducible refine gD 22 rfl ?_); (try (refine gate_guard rfl ?_; dsimp only)); refine Kd.R_lit k130 _ 130 ?hg (N := 22) ?hd (xs := ([] : List (S130))) (inner := []) (ok := fun _ => True) (okp := fun _ => True) ?hr ?hp (fun _ hk => hk) trivial (Below.refl _ _) (Nat.le_refl _) (by simp) ?_; (case hd => rfl); (case hg => rfl); (case hr => first | (go_simp; done) | (go_simp; rfl)); (case hp => exact (Reps.none _ _)); intro v213 w14 ho15 hb hg_ hnew_; clear hg_ hnew_; (first | rw [← Ny212.out] at ho15 | (simp only [Int.reduceToNat] at ho15; rw [← Ny212.out] at ho15)); replace HO_5 := Aside0.mk (Kd.R_below (by (with_reducible repeat (first | apply Kd.R_alloc | apply Kd.R_drewN | apply Kd.R_drew)); exact HO_5.out) hb); have HO214 := Aside0.mk (Kd.R_lower ho15 (below_size bl)); replace BK206 := bv BK206 hb; replace BK207 := bv BK207 hb; replace HB := bs (w := w) hb; clear hb ho15))
    go_ret
    exact ⟨_, fe, by (with_reducible repeat (first | apply Kd.R_alloc | apply Kd.R_drewN | apply Kd.R_drew)); exact HO214.out, bl⟩
   ·replace c13 := Bool.eq_false_iff.mpr c13
    subst c13
    replace H := iF H
    have H' := Aside0.mk H
    clear H
    go_wp2
    go_loopg [7, 8] kj3 (fun kq v7 v8 w' => ∃ (x7_2 : ByteArray) (x8_2 : Int), v7 = .string x7_2 ∧ v8 = .int .i64 x8_2 ∧ Aside0 (spec_PlanAdd.l0 kq t208 x7_2 x8_2 = some r) ∧ Aside0 (kq ≤ kj3) ∧ Aside0 (Kd.R k83 83 w' w.heap.size (fun _ => True) v209 t208) ∧ Aside0 (w'.heap[gb206]? = some (.cells #[.int .i64 a0_0, .int .i64 a0_1, .int .i64 a0_2, .int .i64 a0_3, (.slice A0_4 l0_4.length c0_4)] 67 (0, 0))) ∧ Aside0 (w'.heap[gb207]? = some (.cells #[.int .i64 a1_0, .int .i64 a1_1, .int .i64 a1_2, .int .i64 a1_3, (.slice A1_4 l1_4.length c1_4)] 67 (0, 0))) ∧ Aside0 (Below w.heap.size w w'))
    case atStart => exact ⟨((⟨#[]⟩ : ByteArray)), (0), fa, fa, H', ⟨Nat.le_refl _⟩, ⟨by (with_reducible repeat (first | apply Kd.R_alloc | apply Kd.R_drewN | apply Kd.R_drew)); exact HO_5.out⟩, ⟨by (with_reducible repeat (first | refine blk_drewN ?_ _ | refine blk_drew ?_ | refine blk_alloc ?_ _)); exact BK206.out⟩, ⟨by (with_reducible repeat (first | refine blk_drewN ?_ _ | refine blk_drew ?_ | refine blk_alloc ?_ _)); exact BK207.out⟩, ⟨bl⟩⟩
    case round =>
     clear H'
     try clear c1
     try clear p2
     try clear c6
     try clear c7
     try clear c11
     try clear c13
     try clear hcz8_0
     try clear hcz8_1
     try clear hcz8_2
     try clear hcz8_3
     try clear hcz8_4
     try clear hcz9_0
     try clear hcz9_1
     try clear hcz9_2
     try clear hcz9_3
     try clear hcz9_4
     try clear hfz8_0
     try clear hfz8_1
     try clear hfz8_2
     try clear hfz8_3
     try clear hfz8_4
     try clear hfz9_0
     try clear hfz9_1
     try clear hfz9_2
     try clear hfz9_3
     try clear hfz9_4
     try clear p2
     obtain ⟨x7_2, x8_2, rfl, rfl, HA, HK2, HO_5, BK206, BK207, HB⟩ := hrel
     cases gk with
     | zero => exact absurd HA.out (by simp [spec_PlanAdd.l0])
     | succ k2 =>
      have H := HA.out
      clear HA
      simp only [spec_PlanAdd.l0] at H
      by_cases c16 : x8_2 < (t208.length : Int)
      ·rw [if_pos c16] at H
       have c16b0 : decide (x8_2 < (t208.length : Int)) = true := decide_eq_true c16
       clear c16
       by_cases c17 : 0 ≤ x8_2
       ·rw [if_pos c17] at H
        have c17b0 : decide (0 ≤ x8_2) = true := decide_eq_true c17
        clear c17
        obtain ⟨t216, A18, H⟩ := bd H
        obtain ⟨t217, A19, H⟩ := bd H
        by_cases c20 : x7_2.size + t217.size ≤ 9223372036854775807
        ·rw [if_pos c20] at H
         have c20b0 := eq_true c20
         have c20b1 : decide (x7_2.size + t217.size ≤ 9223372036854775807) = true := decide_eq_true c20
         try have c20b2 : (9223372036854775807 < x7_2.size + t217.size) = False := eq_false (Nat.not_lt.2 c20)
         have H' := Aside0.mk H
         clear H
         obtain ⟨Ao21, co21, eo21⟩ := Kd.R_slice HO_5.out
         subst eo21
         have p215 : 0 ≤ (x8_2 : Int) := of_decide_eq_true am
         have q215 : x8_2 < (t208.length : Int) := of_decide_eq_true am
         obtain ⟨ad215, e215, hx215_0, hx215_1, hx215_2, hx215_3, hx215_4⟩ := at_T83 (Kd.R_reads' HO_5.out).2.2 x8_2 p215 q215
         cases e215
         replace p215 := eq_true p215
         replace q215 := eq_true q215
         go_wp2_with (first | ((with_reducible refine gC 106 rfl ?_); refine goesZ (some 34) rfl Try.func106 #[.agg #[.int .i64 ((rd_T83 t208 x8_2).f0), .int .i64 ((rd_T83 t208 x8_2).f1), .int .i64 ((rd_T83 t208 x8_2).f2), .int .i64 ((rd_T83 t208 x8_2).f3), .string ((rd_T83 t208 x8_2).f4)]] ?_; (with_reducible refine (spec_ShowRec.calls k2 ((rd_T83 t208 x8_2).f0) ((rd_T83 t208 x8_2).f1) ((rd_T83 t208 x8_2).f2) ((rd_T83 t208 x8_2).f3) ((rd_T83 t208 x8_2).f4) t216 _ A18.out).mono ?_); rintro e w22 ⟨rfl, hb⟩; refine ⟨_, rfl, ?_⟩; replace HO_5 := Aside0.mk (Kd.R_below (by (with_reducible repeat (first | apply Kd.R_alloc | apply Kd.R_drewN | apply Kd.R_drew)); exact HO_5.out) hb); replace BK206 := bv BK206 hb; replace BK207 := bv BK207 hb; replace HB := bs (w := w) hb; (try clear hb); (try clear hb2); (try clear hk); (try clear hi)) | ((with_reducible refine gC 105 rfl ?_); refine goesZ (some 35) rfl Try.func105 #[.string t216] ?_; (with_reducible refine (spec_Frame.calls k2 t216 t217 _ A19.out).mono ?_); rintro e w23 ⟨rfl, hb⟩; refine ⟨_, rfl, ?_⟩; replace HO_5 := Aside0.mk (Kd.R_below (by (with_reducible repeat (first | apply Kd.R_alloc | apply Kd.R_drewN | apply Kd.R_drew)); exact HO_5.out) hb); replace BK206 := bv BK206 hb; replace BK207 := bv BK207 hb; replace HB := bs (w := w) hb; (try clear hb); (try clear hb2); (try clear hk); (try clear hi)))
         go_roundg k2
         case measure => have := HJ3.out; have := HK2.out; omega
         case rel => exact ⟨(x7_2 ++ t217), (wrap64 (x8_2 + 1)), fa, fa, H', ⟨by have := HJ3.out; have := HK2.out; omega⟩, ⟨by (with_reducible repeat (first | apply Kd.R_alloc | apply Kd.R_drewN | apply Kd.R_drew)); exact HO_5.out⟩, ⟨by (with_reducible repeat (first | refine blk_drewN ?_ _ | refine blk_drew ?_ | refine blk_alloc ?_ _)); exact BK206.out⟩, ⟨by (with_reducible repeat (first | refine blk_drewN ?_ _ | refine blk_drew ?_ | refine blk_alloc ?_ _)); exact BK207.out⟩, ⟨bl⟩⟩
        ·rw [if_neg c20] at H
         exact absurd H (by simp)
       ·rw [if_neg c17] at H
        exact absurd H (by simp)
      ·rw [if_neg c16] at H
       have c16b0 : decide (x8_2 < (t208.length : Int)) = false := decide_eq_false c16
       clear c16
       obtain ⟨y218, hy218⟩ : ∃ y_ : List (S130), y_ = (([(⟨2, (⟨#[108, 111, 103]⟩ : ByteArray), (⟨#[]⟩ : ByteArray), x7_2⟩ : S130), (⟨3, (⟨#[108, 111, 103]⟩ : ByteArray), (⟨#[]⟩ : ByteArray), (⟨#[]⟩ : ByteArray)⟩ : S130)] : List (S130))) := ⟨_, rfl⟩
       replace H : (some y218) = some r := by first | (rw [hy218]; with_reducible exact H) | (have H2_ := (Option.bind_some _ _).symm.trans H; rw [hy218]; with_reducible exact H2_) | (have H2_ := (Option.bind_some _ _).symm.trans H; with_reducible exact H2_) | with_reducible exact H | (rw [hy218]; exact H) | exact H
       have Ny218 := Aside0.mk hy218
       clear hy218
       obtain rfl := Option.some.inj H
       obtain ⟨Ao24, co24, eo24⟩ := Kd.R_slice HO_5.out
       subst eo24
       go_wp2_with (first | ((with_reducible refine gD 40 rfl ?_); (try (refine gate_guard rfl ?_; dsimp only)); refine Kd.R_lit k130 _ 130 ?hg (N := 40) ?hd (xs := ([(⟨2, (⟨#[108, 111, 103]⟩ : ByteArray), (⟨#[]⟩ : ByteArray), x7_2⟩ : S130), (⟨3, (⟨#[108, 111, 103]⟩ : ByteArray), (⟨#[]⟩ : ByteArray), (⟨#[]⟩ : ByteArray)⟩ : S130)] : List (S130))) (inner := [.int .i64 2, .string (⟨#[108, 111, 103]⟩ : ByteArray), .string (⟨#[]⟩ : ByteArray), .string x7_2, .int .i64 3, .string (⟨#[108, 111, 103]⟩ : ByteArray), .string (⟨#[]⟩ : ByteArray), .string (⟨#[]⟩ : ByteArray)]) (ok := fun _ => True) (okp := fun _ => True) ?hr ?hp (fun _ hk => hk) trivial (Below.refl _ _) (Nat.le_refl _) (by simp) ?_; (case hd => rfl); (case hg => rfl); (case hr => first | (go_simp; done) | (go_simp; rfl)); (case hp => exact (Reps.c4 (show Kd.M k130 _ _ _ (⟨2, (⟨#[108, 111, 103]⟩ : ByteArray), (⟨#[]⟩ : ByteArray), x7_2⟩ : S130) [.int .i64 2, .string (⟨#[108, 111, 103]⟩ : ByteArray), .string (⟨#[]⟩ : ByteArray), .string x7_2] from (k130_mkM _ _ _ (⟨2, (⟨#[108, 111, 103]⟩ : ByteArray), (⟨#[]⟩ : ByteArray), x7_2⟩ : S130) )) (Reps.c4 (show Kd.M k130 _ _ _ (⟨3, (⟨#[108, 111, 103]⟩ : ByteArray), (⟨#[]⟩ : ByteArray), (⟨#[]⟩ : ByteArray)⟩ : S130) [.int .i64 3, .string (⟨#[108, 111, 103]⟩ : ByteArray), .string (⟨#[]⟩ : ByteArray), .string (⟨#[]⟩ : ByteArray)] from (k130_mkM _ _ _ (⟨3, (⟨#[108, 111, 103]⟩ : ByteArray), (⟨#[]⟩ : ByteArray), (⟨#[]⟩ : ByteArray)⟩ : S130) )) (Reps.none _ _)))); intro v219 w25 ho26 hb hg_ hnew_; clear hg_ hnew_; (first | rw [← Ny218.out] at ho26 | (simp only [Int.reduceToNat] at ho26; rw [← Ny218.out] at ho26)); replace HO_5 := Aside0.mk (Kd.R_below (by (with_reducible repeat (first | apply Kd.R_alloc | apply Kd.R_drewN | apply Kd.R_drew)); exact HO_5.out) hb); have HO220 := Aside0.mk (Kd.R_lower ho26 (below_size bl)); replace BK206 := bv BK206 hb; replace BK207 := bv BK207 hb; replace HB := bs (w := w) hb; clear hb ho26))
       go_ret
       exact ⟨_, fe, by (with_reducible repeat (first | apply Kd.R_alloc | apply Kd.R_drewN | apply Kd.R_drew)); exact HO220.out, bl⟩

/-! ### impl_from: function 78 -/
def impl_from.f (a0 : Int) (a1 : Int) (a2 : Int) : Option (Bool) := if a0 ≥ a1 then (some (decide (a0 ≤ a2))) else (some false)
set_option maxHeartbeats 8000000 in
set_option maxRecDepth 100000 in
theorem impl_from.calls (a0 : Int) (a1 : Int) (a2 : Int) (r : Bool) (w : World) (h : impl_from.f a0 a1 a2 = some r) :
 Calls Try.prog 78 #[.int .i64 a0, .int .i64 a1, .int .i64 a2] w fun e w' => e = .returned (.bool r) ∧ Drawn0 w w' := by
 have H : (if a0 ≥ a1 then (some (decide (a0 ≤ a2))) else (some false)) = some r := h
 clear h
 by_cases c4 : a0 ≥ a1
 ·rw [if_pos c4] at H
  have c4b0 : decide (a1 ≤ a0) = true := decide_eq_true c4
  clear c4
  obtain rfl := Option.some.inj H
  go_enter Try.func78, Try.ntmps78
  go_wp2
  go_ret
  exact ⟨fa, fd⟩
 ·rw [if_neg c4] at H
  have c4b0 : decide (a1 ≤ a0) = false := decide_eq_false c4
  clear c4
  obtain rfl := Option.some.inj H
  go_enter Try.func78, Try.ntmps78
  go_wp2
  go_ret
  exact ⟨fa, fd⟩

/-! ### impl_isVote: function 136 -/
def impl_isVote.f (a0 : Int) : Option (Bool) := (impl_from.f a0 (-1) 4).bind fun t221 => (some t221)
set_option maxHeartbeats 8000000 in
set_option maxRecDepth 100000 in
theorem impl_isVote.calls (a0 : Int) (r : Bool) (w : World) (h : impl_isVote.f a0 = some r) :
 Calls Try.prog 136 #[.int .i64 a0] w fun e w' => e = .returned (.bool r) ∧ Drawn0 w w' := by
 have H : ((impl_from.f a0 (-1) 4).bind fun t221 => (some t221)) = some r := h
 clear h
 obtain ⟨t221, A2, H⟩ := bd H
 obtain rfl := Option.some.inj H
 go_enter Try.func136, Try.ntmps136
 go_wp2_with (first | ((with_reducible refine gC 78 rfl ?_); refine goesZ (some 4) rfl Try.func78 #[.int .i64 a0, .int .i64 (-1), .int .i64 4] ?_; (with_reducible refine (impl_from.calls a0 (-1) 4 t221 _ A2.out).mono ?_); rintro e w' ⟨rfl, ⟨nd, rfl⟩⟩; refine ⟨_, rfl, ?_⟩))
 go_ret
 exact ⟨fa, fd⟩

/-! ### impl_isTerm: function 144 -/
def impl_isTerm.f (a0 : Int) : Option (Bool) := (impl_from.f a0 1 100000).bind fun t222 => (some t222)
set_option maxHeartbeats 8000000 in
set_option maxRecDepth 100000 in
theorem impl_isTerm.calls (a0 : Int) (r : Bool) (w : World) (h : impl_isTerm.f a0 = some r) :
 Calls Try.prog 144 #[.int .i64 a0] w fun e w' => e = .returned (.bool r) ∧ Drawn0 w w' := by
 have H : ((impl_from.f a0 1 100000).bind fun t222 => (some t222)) = some r := h
 clear h
 obtain ⟨t222, A2, H⟩ := bd H
 obtain rfl := Option.some.inj H
 go_enter Try.func144, Try.ntmps144
 go_wp2_with (first | ((with_reducible refine gC 78 rfl ?_); refine goesZ (some 4) rfl Try.func78 #[.int .i64 a0, .int .i64 1, .int .i64 100000] ?_; (with_reducible refine (impl_from.calls a0 1 100000 t222 _ A2.out).mono ?_); rintro e w' ⟨rfl, ⟨nd, rfl⟩⟩; refine ⟨_, rfl, ?_⟩))
 go_ret
 exact ⟨fa, fd⟩

/-! ### impl_isPlace: function 137 -/
def impl_isPlace.f (a0 : Int) (a1 : Int) : Option (Bool) := if a0 = 0 then (if a1 = 0 then (some true) else ((impl_from.f a0 1 100000).bind fun t223 => (if t223 = true then ((impl_isTerm.f a1).bind fun t224 => (some t224)) else (some false)))) else ((impl_from.f a0 1 100000).bind fun t225 => (if t225 = true then ((impl_isTerm.f a1).bind fun t226 => (some t226)) else (some false)))
set_option maxHeartbeats 8000000 in
set_option maxRecDepth 100000 in
theorem impl_isPlace.calls (a0 : Int) (a1 : Int) (r : Bool) (w : World) (h : impl_isPlace.f a0 a1 = some r) :
 Calls Try.prog 137 #[.int .i64 a0, .int .i64 a1] w fun e w' => e = .returned (.bool r) ∧ Drawn0 w w' := by
 have H : (if a0 = 0 then (if a1 = 0 then (some true) else ((impl_from.f a0 1 100000).bind fun t223 => (if t223 = true then ((impl_isTerm.f a1).bind fun t224 => (some t224)) else (some false)))) else ((impl_from.f a0 1 100000).bind fun t225 => (if t225 = true then ((impl_isTerm.f a1).bind fun t226 => (some t226)) else (some false)))) = some r := h
 clear h
 by_cases c3 : a0 = 0
 ·rw [if_pos c3] at H
  have c3b0 : (a0 == 0) = true := beq_iff_eq.mpr c3
  have c3b1 : (a0 != 0) = false := bne_eq_false_iff_eq.mpr c3
  clear c3
  by_cases c4 : a1 = 0
  ·rw [if_pos c4] at H
   have c4b0 : (a1 == 0) = true := beq_iff_eq.mpr c4
   have c4b1 : (a1 != 0) = false := bne_eq_false_iff_eq.mpr c4
   clear c4
   obtain rfl := Option.some.inj H
   go_enter Try.func137, Try.ntmps137
   go_wp2
   go_ret
   exact ⟨fa, fd⟩
  ·rw [if_neg c4] at H
   have c4b0 : (a1 == 0) = false := beq_eq_false_iff_ne.mpr c4
   have c4b1 : (a1 != 0) = true := bne_iff_ne.mpr c4
   obtain ⟨t223, A5, H⟩ := bd H
   by_cases c6 : t223 = true
   ·subst c6
    replace H := iT H
    obtain ⟨t224, A7, H⟩ := bd H
    obtain rfl := Option.some.inj H
    go_enter Try.func137, Try.ntmps137
    go_wp2_with (first | (go_at_call 78; (with_reducible refine (impl_from.calls a0 1 100000 true _ A5.out).mono ?_); rintro e w' ⟨rfl, ⟨nd, rfl⟩⟩) | (go_at_call 144; (with_reducible refine (impl_isTerm.calls a1 t224 _ A7.out).mono ?_); rintro e w' ⟨rfl, ⟨nd, rfl⟩⟩))
    go_ret
    exact ⟨fa, fd⟩
   ·replace c6 := Bool.eq_false_iff.mpr c6
    subst c6
    replace H := iF H
    obtain rfl := Option.some.inj H
    go_enter Try.func137, Try.ntmps137
    go_wp2_with (first | (go_at_call 78; (with_reducible refine (impl_from.calls a0 1 100000 false _ A5.out).mono ?_); rintro e w' ⟨rfl, ⟨nd, rfl⟩⟩))
    go_ret
    exact ⟨fa, fd⟩
 ·rw [if_neg c3] at H
  have c3b0 : (a0 == 0) = false := beq_eq_false_iff_ne.mpr c3
  have c3b1 : (a0 != 0) = true := bne_iff_ne.mpr c3
  obtain ⟨t225, A8, H⟩ := bd H
  by_cases c9 : t225 = true
  ·subst c9
   replace H := iT H
   obtain ⟨t226, A10, H⟩ := bd H
   obtain rfl := Option.some.inj H
   go_enter Try.func137, Try.ntmps137
   go_wp2_with (first | (go_at_call 78; (with_reducible refine (impl_from.calls a0 1 100000 true _ A8.out).mono ?_); rintro e w' ⟨rfl, ⟨nd, rfl⟩⟩) | (go_at_call 144; (with_reducible refine (impl_isTerm.calls a1 t226 _ A10.out).mono ?_); rintro e w' ⟨rfl, ⟨nd, rfl⟩⟩))
   go_ret
   exact ⟨fa, fd⟩
  ·replace c9 := Bool.eq_false_iff.mpr c9
   subst c9
   replace H := iF H
   obtain rfl := Option.some.inj H
   go_enter Try.func137, Try.ntmps137
   go_wp2_with (first | (go_at_call 78; (with_reducible refine (impl_from.calls a0 1 100000 false _ A8.out).mono ?_); rintro e w' ⟨rfl, ⟨nd, rfl⟩⟩))
   go_ret
   exact ⟨fa, fd⟩

/-! ### impl_termsOk: function 138 -/
def impl_termsOk.l0 : Nat → Int → Int → List (S117) → Int → Int → Option (Bool)
 | 0, _, _, _, _, _ => none
 | k + 1, x1, x2, x9, x10, x11 => if x11 < x10 then (if 0 ≤ x11 then (if x11 < (x9.length : Int) then (if ((rd_T117 x9 x11).f0) < 1 then (some false) else ((impl_from.f ((rd_T117 x9 x11).f0) x1 x2).bind fun t229 => (if t229 = true then (if (((rd_T117 x9 x11).f1).size : Int) > 900 then (some false) else (impl_termsOk.l0 k ((rd_T117 x9 x11).f0) x2 x9 x10 (wrap64 (x11 + 1)))) else (some false)))) else (none)) else (none)) else (some true)
def impl_termsOk.f (k : Nat) (l0 : List (S117)) (a1 : Int) (a2 : Int) : Option (Bool) := impl_termsOk.l0 k a1 a2 l0 (l0.length : Int) 0
theorem impl_termsOk.mono_l : ∀ k, (∀ y0 y1 y2 y3 y4, LeO (impl_termsOk.l0 k y0 y1 y2 y3 y4) (impl_termsOk.l0 (k + 1) y0 y1 y2 y3 y4))
 | 0 => fun _ _ _ _ _ r h => by simp [impl_termsOk.l0] at h
 | k + 1 => by
  have ih0 := impl_termsOk.mono_l k
  ·intro y0 y1 y2 y3 y4
   unfold impl_termsOk.l0
   repeat' first
   | (with_reducible exact ih0 _ _ _ _ _)
   | (with_reducible exact LeO.refl _)
   | (with_reducible exact LeO.none _)
   | (with_reducible refine LeO.ite ?_ ?_)
   | (with_reducible refine LeO.bind ?_ (fun _ => ?_))
   | exact ih0 _ _ _ _ _
   | exact LeO.none _
   | refine LeO.ite ?_ ?_
   | refine LeO.bind ?_ (fun _ => ?_)
theorem impl_termsOk.mono : ∀ a0 a1 a2 k, LeO (impl_termsOk.f k a0 a1 a2) (impl_termsOk.f (k + 1) a0 a1 a2) := by
 intro a0 a1 a2 k
 have ih0 := impl_termsOk.mono_l k
 unfold impl_termsOk.f
 repeat' first
  | (with_reducible exact ih0 _ _ _ _ _)
  | (with_reducible exact LeO.refl _)
  | (with_reducible exact LeO.none _)
  | (with_reducible refine LeO.ite ?_ ?_)
  | (with_reducible refine LeO.bind ?_ (fun _ => ?_))
  | exact ih0 _ _ _ _ _
  | exact LeO.none _
  | refine LeO.ite ?_ ?_
  | refine LeO.bind ?_ (fun _ => ?_)
set_option maxHeartbeats 8000000 in
set_option maxRecDepth 100000 in
theorem impl_termsOk.calls (k : Nat) (A0 : Option Addr) (c0 : Nat) (l0 : List (S117)) (a1 : Int) (a2 : Int) (r : Bool) (w : World) (hr0 : Kd.C k117 w A0 l0.length l0) (hc0 : l0.length ≤ c0) (h : impl_termsOk.f k l0 a1 a2 = some r) :
 Calls Try.prog 138 #[.slice A0 l0.length c0, .int .i64 a1, .int .i64 a2] w fun e w' => e = .returned (.bool r) ∧ Below w.heap.size w w' := by
 have hu117 := Try.underlying117
 have HR0 := Aside0.mk hr0
 have HC0 := Aside0.mk hc0
 clear hr0 hc0
 have HB := Aside0.mk (Below.refl w.heap.size w)
 have H : (impl_termsOk.l0 k a1 a2 l0 (l0.length : Int) 0) = some r := h
 clear h
 have H' := Aside0.mk H
 clear H
 go_enter Try.func138, Try.ntmps138
 go_wp2
 go_loopg [1, 11] k (fun kq v1 v11 w' => ∃ (x1_1 : Int) (x11_1 : Int), v1 = .int .i64 x1_1 ∧ v11 = .int .i64 x11_1 ∧ Aside0 (impl_termsOk.l0 kq x1_1 a2 l0 (l0.length : Int) x11_1 = some r) ∧ Aside0 (kq ≤ k) ∧ Aside0 (Below w.heap.size w w'))
 case atStart => exact ⟨(a1), (0), fa, fa, H', ⟨Nat.le_refl _⟩, ⟨bl⟩⟩
 case round =>
  clear H'
  try clear c1
  try clear p2
  obtain ⟨x1_1, x11_1, rfl, rfl, HA, HK1, HB⟩ := hrel
  cases gk with
  | zero => exact absurd HA.out (by simp [impl_termsOk.l0])
  | succ k1 =>
   have H := HA.out
   clear HA
   simp only [impl_termsOk.l0] at H
   by_cases c4 : x11_1 < (l0.length : Int)
   ·rw [if_pos c4] at H
    have c4b0 : decide (x11_1 < (l0.length : Int)) = true := decide_eq_true c4
    clear c4
    by_cases c5 : 0 ≤ x11_1
    ·rw [if_pos c5] at H
     have c5b0 : decide (0 ≤ x11_1) = true := decide_eq_true c5
     clear c5
     by_cases c6 : x11_1 < (l0.length : Int)
     ·rw [if_pos c6] at H
      have c6b0 : decide (x11_1 < (l0.length : Int)) = true := decide_eq_true c6
      clear c6
      by_cases c7 : ((rd_T117 l0 x11_1).f0) < 1
      ·rw [if_pos c7] at H
       have c7b0 : decide (((rd_T117 l0 x11_1).f0) < 1) = true := decide_eq_true c7
       clear c7
       obtain rfl := Option.some.inj H
       have p227 : 0 ≤ (x11_1 : Int) := of_decide_eq_true am
       have q227 : x11_1 < (l0.length : Int) := of_decide_eq_true am
       obtain ⟨ad227, e227, hx227_0, hx227_1⟩ := at_T117 HR0.out x11_1 p227 q227
       cases e227
       replace hx227_0 := cz HB hx227_0
       replace hx227_1 := cz HB hx227_1
       replace p227 := eq_true p227
       replace q227 := eq_true q227
       go_wp2_with (first | ((with_reducible refine gD 8 rfl ?_); (try (refine gate_guard rfl ?_; dsimp only)); refine boxZ 8 #[.int .i64 0, .string (⟨#[]⟩ : ByteArray)] 117 ?_; intro gb228 hg w8 hbox hb; have BK228 := Aside0.mk hbox; have GW228 := gw (w := w) hg; have GE228 := gw (w := w) hg; replace HB := bs (w := w) hb; clear hb hbox hg; obtain ⟨hcz9_0, hcz9_1, hfz9_0, hfz9_1⟩ := cf2 BK228))
       go_ret
       exact ⟨fe, bl⟩
      ·rw [if_neg c7] at H
       have c7b0 : decide (((rd_T117 l0 x11_1).f0) < 1) = false := decide_eq_false c7
       clear c7
       obtain ⟨t229, A10, H⟩ := bd H
       by_cases c11 : t229 = true
       ·subst c11
        replace H := iT H
        by_cases c12 : (((rd_T117 l0 x11_1).f1).size : Int) > 900
        ·rw [if_pos c12] at H
         have c12b0 : decide (900 < (((rd_T117 l0 x11_1).f1).size : Int)) = true := decide_eq_true c12
         have c12b1 : decide (900 < ((rd_T117 l0 x11_1).f1).size) = true := decide_eq_true (by omega)
         clear c12
         obtain rfl := Option.some.inj H
         have p227 : 0 ≤ (x11_1 : Int) := of_decide_eq_true am
         have q227 : x11_1 < (l0.length : Int) := of_decide_eq_true am
         obtain ⟨ad227, e227, hx227_0, hx227_1⟩ := at_T117 HR0.out x11_1 p227 q227
         cases e227
         replace hx227_0 := cz HB hx227_0
         replace hx227_1 := cz HB hx227_1
         replace p227 := eq_true p227
         replace q227 := eq_true q227
         go_wp2_with (first | ((with_reducible refine gD 8 rfl ?_); (try (refine gate_guard rfl ?_; dsimp only)); refine boxZ 8 #[.int .i64 0, .string (⟨#[]⟩ : ByteArray)] 117 ?_; intro gb228 hg w13 hbox hb; have BK228 := Aside0.mk hbox; have GW228 := gw (w := w) hg; have GE228 := gw (w := w) hg; replace HB := bs (w := w) hb; clear hb hbox hg; obtain ⟨hcz14_0, hcz14_1, hfz14_0, hfz14_1⟩ := cf2 BK228) | (go_at_call 78; (with_reducible refine (impl_from.calls ((rd_T117 l0 x11_1).f0) x1_1 a2 true _ A10.out).mono ?_); rintro e w' ⟨rfl, ⟨nd, rfl⟩⟩))
         go_ret
         exact ⟨fe, bl⟩
        ·rw [if_neg c12] at H
         have c12b0 : decide (900 < (((rd_T117 l0 x11_1).f1).size : Int)) = false := decide_eq_false c12
         have c12b1 : decide (900 < ((rd_T117 l0 x11_1).f1).size) = false := decide_eq_false (by omega)
         clear c12
         have H' := Aside0.mk H
         clear H
         have p227 : 0 ≤ (x11_1 : Int) := of_decide_eq_true am
         have q227 : x11_1 < (l0.length : Int) := of_decide_eq_true am
         obtain ⟨ad227, e227, hx227_0, hx227_1⟩ := at_T117 HR0.out x11_1 p227 q227
         cases e227
         replace hx227_0 := cz HB hx227_0
         replace hx227_1 := cz HB hx227_1
         replace p227 := eq_true p227
         replace q227 := eq_true q227
         go_wp2_with (first | ((with_reducible refine gD 8 rfl ?_); (try (refine gate_guard rfl ?_; dsimp only)); refine boxZ 8 #[.int .i64 0, .string (⟨#[]⟩ : ByteArray)] 117 ?_; intro gb228 hg w15 hbox hb; have BK228 := Aside0.mk hbox; have GW228 := gw (w := w) hg; have GE228 := gw (w := w) hg; replace HB := bs (w := w) hb; clear hb hbox hg; obtain ⟨hcz16_0, hcz16_1, hfz16_0, hfz16_1⟩ := cf2 BK228) | (go_at_call 78; (with_reducible refine (impl_from.calls ((rd_T117 l0 x11_1).f0) x1_1 a2 true _ A10.out).mono ?_); rintro e w' ⟨rfl, ⟨nd, rfl⟩⟩))
         go_roundg k1
         case measure => have := HK1.out; omega
         case rel => exact ⟨((rd_T117 l0 x11_1).f0), (wrap64 (x11_1 + 1)), fa, fa, H', ⟨by have := HK1.out; omega⟩, ⟨bl⟩⟩
       ·replace c11 := Bool.eq_false_iff.mpr c11
        subst c11
        replace H := iF H
        obtain rfl := Option.some.inj H
        have p227 : 0 ≤ (x11_1 : Int) := of_decide_eq_true am
        have q227 : x11_1 < (l0.length : Int) := of_decide_eq_true am
        obtain ⟨ad227, e227, hx227_0, hx227_1⟩ := at_T117 HR0.out x11_1 p227 q227
        cases e227
        replace hx227_0 := cz HB hx227_0
        replace hx227_1 := cz HB hx227_1
        replace p227 := eq_true p227
        replace q227 := eq_true q227
        go_wp2_with (first | ((with_reducible refine gD 8 rfl ?_); (try (refine gate_guard rfl ?_; dsimp only)); refine boxZ 8 #[.int .i64 0, .string (⟨#[]⟩ : ByteArray)] 117 ?_; intro gb228 hg w17 hbox hb; have BK228 := Aside0.mk hbox; have GW228 := gw (w := w) hg; have GE228 := gw (w := w) hg; replace HB := bs (w := w) hb; clear hb hbox hg; obtain ⟨hcz18_0, hcz18_1, hfz18_0, hfz18_1⟩ := cf2 BK228) | (go_at_call 78; (with_reducible refine (impl_from.calls ((rd_T117 l0 x11_1).f0) x1_1 a2 false _ A10.out).mono ?_); rintro e w' ⟨rfl, ⟨nd, rfl⟩⟩))
        go_ret
        exact ⟨fe, bl⟩
     ·rw [if_neg c6] at H
      exact absurd H (by simp)
    ·rw [if_neg c5] at H
     exact absurd H (by simp)
   ·rw [if_neg c4] at H
    have c4b0 : decide (x11_1 < (l0.length : Int)) = false := decide_eq_false c4
    clear c4
    obtain rfl := Option.some.inj H
    go_wp2
    go_ret
    exact ⟨fe, bl⟩

/-! ### impl_WalOk: function 108 -/
def impl_WalOk.f (k : Nat) (a0_0 : Int) (a0_1 : Int) (a0_2 : Int) (a0_3 : Int) (l0_4 : List (S117)) : Option (Bool) := (impl_from.f a0_0 0 100000).bind fun t231 => (if t231 = true then ((impl_isVote.f a0_1).bind fun t232 => (if t232 = true then ((impl_isPlace.f a0_2 a0_3).bind fun t233 => (if t233 = true then (if a0_3 ≤ a0_0 then (if (l0_4.length : Int) ≤ 60 then ((impl_termsOk.f k l0_4 a0_3 a0_0).bind fun t234 => (if t234 = true then (some (decide ((wrap64 (a0_2 + (l0_4.length : Int))) ≤ 100000))) else (some false))) else (some false)) else (some false)) else (some false))) else (some false))) else (some false))
theorem impl_WalOk.mono : ∀ a0 a1 a2 a3 a4 k, LeO (impl_WalOk.f k a0 a1 a2 a3 a4) (impl_WalOk.f (k + 1) a0 a1 a2 a3 a4) := by
 intro a0 a1 a2 a3 a4 k
 unfold impl_WalOk.f
 repeat' first
  | (with_reducible exact impl_termsOk.mono _ _ _ _)
  | (with_reducible exact LeO.refl _)
  | (with_reducible exact LeO.none _)
  | (with_reducible refine LeO.ite ?_ ?_)
  | (with_reducible refine LeO.bind ?_ (fun _ => ?_))
  | exact impl_termsOk.mono _ _ _ _
  | exact LeO.none _
  | refine LeO.ite ?_ ?_
  | refine LeO.bind ?_ (fun _ => ?_)
set_option maxHeartbeats 8000000 in
set_option maxRecDepth 100000 in
theorem impl_WalOk.calls (k : Nat) (a0_0 : Int) (a0_1 : Int) (a0_2 : Int) (a0_3 : Int) (A0_4 : Option Addr) (c0_4 : Nat) (l0_4 : List (S117)) (r : Bool) (w : World) (hr0_4 : Kd.C k117 w A0_4 l0_4.length l0_4) (hc0_4 : l0_4.length ≤ c0_4) (h : impl_WalOk.f k a0_0 a0_1 a0_2 a0_3 l0_4 = some r) :
 Calls Try.prog 108 #[.agg #[.int .i64 a0_0, .int .i64 a0_1, .int .i64 a0_2, .int .i64 a0_3, .slice A0_4 l0_4.length c0_4]] w fun e w' => e = .returned (.bool r) ∧ Below w.heap.size w w' := by
 have hu67 := Try.underlying67
 have HR0_4 := Aside0.mk hr0_4
 have HC0_4 := Aside0.mk hc0_4
 clear hr0_4 hc0_4
 have HB := Aside0.mk (Below.refl w.heap.size w)
 have H : ((impl_from.f a0_0 0 100000).bind fun t231 => (if t231 = true then ((impl_isVote.f a0_1).bind fun t232 => (if t232 = true then ((impl_isPlace.f a0_2 a0_3).bind fun t233 => (if t233 = true then (if a0_3 ≤ a0_0 then (if (l0_4.length : Int) ≤ 60 then ((impl_termsOk.f k l0_4 a0_3 a0_0).bind fun t234 => (if t234 = true then (some (decide ((wrap64 (a0_2 + (l0_4.length : Int))) ≤ 100000))) else (some false))) else (some false)) else (some false)) else (some false))) else (some false))) else (some false))) = some r := h
 clear h
 obtain ⟨t231, A2, H⟩ := bd H
 by_cases c3 : t231 = true
 ·subst c3
  replace H := iT H
  obtain ⟨t232, A4, H⟩ := bd H
  by_cases c5 : t232 = true
  ·subst c5
   replace H := iT H
   obtain ⟨t233, A6, H⟩ := bd H
   by_cases c7 : t233 = true
   ·subst c7
    replace H := iT H
    by_cases c8 : a0_3 ≤ a0_0
    ·rw [if_pos c8] at H
     have c8b0 : decide (a0_3 ≤ a0_0) = true := decide_eq_true c8
     clear c8
     by_cases c9 : (l0_4.length : Int) ≤ 60
     ·rw [if_pos c9] at H
      have c9b0 : decide ((l0_4.length : Int) ≤ 60) = true := decide_eq_true c9
      have c9b1 : decide (l0_4.length ≤ 60) = true := decide_eq_true (by omega)
      clear c9
      obtain ⟨t234, A10, H⟩ := bd H
      by_cases c11 : t234 = true
      ·subst c11
       replace H := iT H
       obtain rfl := Option.some.inj H
       go_enter Try.func108, Try.ntmps108
       go_wp2_with (first | ((with_reducible refine gD 1 rfl ?_); (try (refine gate_guard rfl ?_; dsimp only)); refine boxZ 1 #[.int .i64 a0_0, .int .i64 a0_1, .int .i64 a0_2, .int .i64 a0_3, .slice A0_4 l0_4.length c0_4] 67 ?_; intro gb230 hg w12 hbox hb; have BK230 := Aside0.mk hbox; have GW230 := gw (w := w) hg; have GE230 := gw (w := w) hg; replace HB := bs (w := w) hb; clear hb hbox hg; obtain ⟨hcz13_0, hcz13_1, hcz13_2, hcz13_3, hcz13_4, hfz13_0, hfz13_1, hfz13_2, hfz13_3, hfz13_4⟩ := cf5 BK230) | ((with_reducible refine gC 78 rfl ?_); refine goesZ (some 5) rfl Try.func78 #[.int .i64 a0_0, .int .i64 0, .int .i64 100000] ?_; (with_reducible refine (impl_from.calls a0_0 0 100000 true _ A2.out).mono ?_); rintro e w' ⟨rfl, ⟨nd, rfl⟩⟩; refine ⟨_, rfl, ?_⟩) | (go_at_call 136; (with_reducible refine (impl_isVote.calls a0_1 true _ A4.out).mono ?_); rintro e w' ⟨rfl, ⟨nd, rfl⟩⟩) | (go_at_call 137; (with_reducible refine (impl_isPlace.calls a0_2 a0_3 true _ A6.out).mono ?_); rintro e w' ⟨rfl, ⟨nd, rfl⟩⟩) | (go_at_call 138; (with_reducible refine (impl_termsOk.calls k _ _ l0_4 a0_3 a0_0 true _ ?side1 ?side2 A10.out).mono ?_); (case side1 => repeat (first | exact (Kd.C_below HR0_4.out bl) | (with_reducible refine Kd.C_alloc ?_ _) | (with_reducible refine Kd.C_drewN ?_ _) | (with_reducible refine Kd.C_drew ?_))); (case side2 => exact HC0_4.out); rintro e w14 ⟨rfl, hb⟩; replace BK230 := bv BK230 hb; replace HB := bs (w := w) hb; (try clear hb); (try clear hb2); (try clear hk); (try clear hi); obtain ⟨hcz15_0, hcz15_1, hcz15_2, hcz15_3, hcz15_4, hfz15_0, hfz15_1, hfz15_2, hfz15_3, hfz15_4⟩ := cf5 BK230))
       go_ret
       exact ⟨fe, bl⟩
      ·replace c11 := Bool.eq_false_iff.mpr c11
       subst c11
       replace H := iF H
       obtain rfl := Option.some.inj H
       go_enter Try.func108, Try.ntmps108
       go_wp2_with (first | ((with_reducible refine gD 1 rfl ?_); (try (refine gate_guard rfl ?_; dsimp only)); refine boxZ 1 #[.int .i64 a0_0, .int .i64 a0_1, .int .i64 a0_2, .int .i64 a0_3, .slice A0_4 l0_4.length c0_4] 67 ?_; intro gb230 hg w16 hbox hb; have BK230 := Aside0.mk hbox; have GW230 := gw (w := w) hg; have GE230 := gw (w := w) hg; replace HB := bs (w := w) hb; clear hb hbox hg; obtain ⟨hcz17_0, hcz17_1, hcz17_2, hcz17_3, hcz17_4, hfz17_0, hfz17_1, hfz17_2, hfz17_3, hfz17_4⟩ := cf5 BK230) | ((with_reducible refine gC 78 rfl ?_); refine goesZ (some 5) rfl Try.func78 #[.int .i64 a0_0, .int .i64 0, .int .i64 100000] ?_; (with_reducible refine (impl_from.calls a0_0 0 100000 true _ A2.out).mono ?_); rintro e w' ⟨rfl, ⟨nd, rfl⟩⟩; refine ⟨_, rfl, ?_⟩) | (go_at_call 136; (with_reducible refine (impl_isVote.calls a0_1 true _ A4.out).mono ?_); rintro e w' ⟨rfl, ⟨nd, rfl⟩⟩) | (go_at_call 137; (with_reducible refine (impl_isPlace.calls a0_2 a0_3 true _ A6.out).mono ?_); rintro e w' ⟨rfl, ⟨nd, rfl⟩⟩) | (go_at_call 138; (with_reducible refine (impl_termsOk.calls k _ _ l0_4 a0_3 a0_0 false _ ?side1 ?side2 A10.out).mono ?_); (case side1 => repeat (first | exact (Kd.C_below HR0_4.out bl) | (with_reducible refine Kd.C_alloc ?_ _) | (with_reducible refine Kd.C_drewN ?_ _) | (with_reducible refine Kd.C_drew ?_))); (case side2 => exact HC0_4.out); rintro e w18 ⟨rfl, hb⟩; replace BK230 := bv BK230 hb; replace HB := bs (w := w) hb; (try clear hb); (try clear hb2); (try clear hk); (try clear hi)))
       go_ret
       exact ⟨fe, bl⟩
     ·rw [if_neg c9] at H
      have c9b0 : decide ((l0_4.length : Int) ≤ 60) = false := decide_eq_false c9
      have c9b1 : decide (l0_4.length ≤ 60) = false := decide_eq_false (by omega)
      clear c9
      obtain rfl := Option.some.inj H
      go_enter Try.func108, Try.ntmps108
      go_wp2_with (first | ((with_reducible refine gD 1 rfl ?_); (try (refine gate_guard rfl ?_; dsimp only)); refine boxZ 1 #[.int .i64 a0_0, .int .i64 a0_1, .int .i64 a0_2, .int .i64 a0_3, .slice A0_4 l0_4.length c0_4] 67 ?_; intro gb230 hg w19 hbox hb; have BK230 := Aside0.mk hbox; have GW230 := gw (w := w) hg; have GE230 := gw (w := w) hg; replace HB := bs (w := w) hb; clear hb hbox hg; obtain ⟨hcz20_0, hcz20_1, hcz20_2, hcz20_3, hcz20_4, hfz20_0, hfz20_1, hfz20_2, hfz20_3, hfz20_4⟩ := cf5 BK230) | ((with_reducible refine gC 78 rfl ?_); refine goesZ (some 5) rfl Try.func78 #[.int .i64 a0_0, .int .i64 0, .int .i64 100000] ?_; (with_reducible refine (impl_from.calls a0_0 0 100000 true _ A2.out).mono ?_); rintro e w' ⟨rfl, ⟨nd, rfl⟩⟩; refine ⟨_, rfl, ?_⟩) | (go_at_call 136; (with_reducible refine (impl_isVote.calls a0_1 true _ A4.out).mono ?_); rintro e w' ⟨rfl, ⟨nd, rfl⟩⟩) | (go_at_call 137; (with_reducible refine (impl_isPlace.calls a0_2 a0_3 true _ A6.out).mono ?_); rintro e w' ⟨rfl, ⟨nd, rfl⟩⟩))
      go_ret
      exact ⟨fe, bl⟩
    ·rw [if_neg c8] at H
     have c8b0 : decide (a0_3 ≤ a0_0) = false := decide_eq_false c8
     clear c8
     obtain rfl := Option.some.inj H
     go_enter Try.func108, Try.ntmps108
     go_wp2_with (first | ((with_reducible refine gD 1 rfl ?_); (try (refine gate_guard rfl ?_; dsimp only)); refine boxZ 1 #[.int .i64 a0_0, .int .i64 a0_1, .int .i64 a0_2, .int .i64 a0_3, .slice A0_4 l0_4.length c0_4] 67 ?_; intro gb230 hg w21 hbox hb; have BK230 := Aside0.mk hbox; have GW230 := gw (w := w) hg; have GE230 := gw (w := w) hg; replace HB := bs (w := w) hb; clear hb hbox hg; obtain ⟨hcz22_0, hcz22_1, hcz22_2, hcz22_3, hcz22_4, hfz22_0, hfz22_1, hfz22_2, hfz22_3, hfz22_4⟩ := cf5 BK230) | ((with_reducible refine gC 78 rfl ?_); refine goesZ (some 5) rfl Try.func78 #[.int .i64 a0_0, .int .i64 0, .int .i64 100000] ?_; (with_reducible refine (impl_from.calls a0_0 0 100000 true _ A2.out).mono ?_); rintro e w' ⟨rfl, ⟨nd, rfl⟩⟩; refine ⟨_, rfl, ?_⟩) | (go_at_call 136; (with_reducible refine (impl_isVote.calls a0_1 true _ A4.out).mono ?_); rintro e w' ⟨rfl, ⟨nd, rfl⟩⟩) | (go_at_call 137; (with_reducible refine (impl_isPlace.calls a0_2 a0_3 true _ A6.out).mono ?_); rintro e w' ⟨rfl, ⟨nd, rfl⟩⟩))
     go_ret
     exact ⟨fe, bl⟩
   ·replace c7 := Bool.eq_false_iff.mpr c7
    subst c7
    replace H := iF H
    obtain rfl := Option.some.inj H
    go_enter Try.func108, Try.ntmps108
    go_wp2_with (first | ((with_reducible refine gD 1 rfl ?_); (try (refine gate_guard rfl ?_; dsimp only)); refine boxZ 1 #[.int .i64 a0_0, .int .i64 a0_1, .int .i64 a0_2, .int .i64 a0_3, .slice A0_4 l0_4.length c0_4] 67 ?_; intro gb230 hg w23 hbox hb; have BK230 := Aside0.mk hbox; have GW230 := gw (w := w) hg; have GE230 := gw (w := w) hg; replace HB := bs (w := w) hb; clear hb hbox hg; obtain ⟨hcz24_0, hcz24_1, hcz24_2, hcz24_3, hcz24_4, hfz24_0, hfz24_1, hfz24_2, hfz24_3, hfz24_4⟩ := cf5 BK230) | ((with_reducible refine gC 78 rfl ?_); refine goesZ (some 5) rfl Try.func78 #[.int .i64 a0_0, .int .i64 0, .int .i64 100000] ?_; (with_reducible refine (impl_from.calls a0_0 0 100000 true _ A2.out).mono ?_); rintro e w' ⟨rfl, ⟨nd, rfl⟩⟩; refine ⟨_, rfl, ?_⟩) | (go_at_call 136; (with_reducible refine (impl_isVote.calls a0_1 true _ A4.out).mono ?_); rintro e w' ⟨rfl, ⟨nd, rfl⟩⟩) | (go_at_call 137; (with_reducible refine (impl_isPlace.calls a0_2 a0_3 false _ A6.out).mono ?_); rintro e w' ⟨rfl, ⟨nd, rfl⟩⟩))
    go_ret
    exact ⟨fe, bl⟩
  ·replace c5 := Bool.eq_false_iff.mpr c5
   subst c5
   replace H := iF H
   obtain rfl := Option.some.inj H
   go_enter Try.func108, Try.ntmps108
   go_wp2_with (first | ((with_reducible refine gD 1 rfl ?_); (try (refine gate_guard rfl ?_; dsimp only)); refine boxZ 1 #[.int .i64 a0_0, .int .i64 a0_1, .int .i64 a0_2, .int .i64 a0_3, .slice A0_4 l0_4.length c0_4] 67 ?_; intro gb230 hg w25 hbox hb; have BK230 := Aside0.mk hbox; have GW230 := gw (w := w) hg; have GE230 := gw (w := w) hg; replace HB := bs (w := w) hb; clear hb hbox hg; obtain ⟨hcz26_0, hcz26_1, hcz26_2, hcz26_3, hcz26_4, hfz26_0, hfz26_1, hfz26_2, hfz26_3, hfz26_4⟩ := cf5 BK230) | ((with_reducible refine gC 78 rfl ?_); refine goesZ (some 5) rfl Try.func78 #[.int .i64 a0_0, .int .i64 0, .int .i64 100000] ?_; (with_reducible refine (impl_from.calls a0_0 0 100000 true _ A2.out).mono ?_); rintro e w' ⟨rfl, ⟨nd, rfl⟩⟩; refine ⟨_, rfl, ?_⟩) | (go_at_call 136; (with_reducible refine (impl_isVote.calls a0_1 false _ A4.out).mono ?_); rintro e w' ⟨rfl, ⟨nd, rfl⟩⟩))
   go_ret
   exact ⟨fe, bl⟩
 ·replace c3 := Bool.eq_false_iff.mpr c3
  subst c3
  replace H := iF H
  obtain rfl := Option.some.inj H
  go_enter Try.func108, Try.ntmps108
  go_wp2_with (first | ((with_reducible refine gD 1 rfl ?_); (try (refine gate_guard rfl ?_; dsimp only)); refine boxZ 1 #[.int .i64 a0_0, .int .i64 a0_1, .int .i64 a0_2, .int .i64 a0_3, .slice A0_4 l0_4.length c0_4] 67 ?_; intro gb230 hg w27 hbox hb; have BK230 := Aside0.mk hbox; have GW230 := gw (w := w) hg; have GE230 := gw (w := w) hg; replace HB := bs (w := w) hb; clear hb hbox hg; obtain ⟨hcz28_0, hcz28_1, hcz28_2, hcz28_3, hcz28_4, hfz28_0, hfz28_1, hfz28_2, hfz28_3, hfz28_4⟩ := cf5 BK230) | ((with_reducible refine gC 78 rfl ?_); refine goesZ (some 5) rfl Try.func78 #[.int .i64 a0_0, .int .i64 0, .int .i64 100000] ?_; (with_reducible refine (impl_from.calls a0_0 0 100000 false _ A2.out).mono ?_); rintro e w' ⟨rfl, ⟨nd, rfl⟩⟩; refine ⟨_, rfl, ?_⟩))
  go_ret
  exact ⟨fe, bl⟩

/-! ### impl_entryRecs: function 110 -/
def impl_entryRecs.l0 : Nat → Int → List (S83) → List (S117) → Int → Int → Option ((List (S83)))
 | 0, _, _, _, _, _ => none
 | k + 1, x1, x5, x9, x10, x11 => if x11 < x10 then (if 0 ≤ x11 then (if x11 < (x9.length : Int) then (if x5.length < 2932031007402 then (impl_entryRecs.l0 k x1 (x5 ++ [(⟨2, (rd_T117 x9 x11).f0, wrap64 (x1 + x11), 0, (rd_T117 x9 x11).f1⟩ : S83)]) x9 x10 (wrap64 (x11 + 1))) else (none)) else (none)) else (none)) else (some x5)
def impl_entryRecs.f (k : Nat) (l0 : List (S117)) (a1 : Int) : Option ((List (S83))) := impl_entryRecs.l0 k a1 (([] : List (S83))) l0 (l0.length : Int) 0
theorem impl_entryRecs.mono_l : ∀ k, (∀ y0 y1 y2 y3 y4, LeO (impl_entryRecs.l0 k y0 y1 y2 y3 y4) (impl_entryRecs.l0 (k + 1) y0 y1 y2 y3 y4))
 | 0 => fun _ _ _ _ _ r h => by simp [impl_entryRecs.l0] at h
 | k + 1 => by
  have ih0 := impl_entryRecs.mono_l k
  ·intro y0 y1 y2 y3 y4
   unfold impl_entryRecs.l0
   repeat' first
   | (with_reducible exact ih0 _ _ _ _ _)
   | (with_reducible exact LeO.refl _)
   | (with_reducible exact LeO.none _)
   | (with_reducible refine LeO.ite ?_ ?_)
   | (with_reducible refine LeO.bind ?_ (fun _ => ?_))
   | exact ih0 _ _ _ _ _
   | exact LeO.none _
   | refine LeO.ite ?_ ?_
   | refine LeO.bind ?_ (fun _ => ?_)
theorem impl_entryRecs.mono : ∀ a0 a1 k, LeO (impl_entryRecs.f k a0 a1) (impl_entryRecs.f (k + 1) a0 a1) := by
 intro a0 a1 k
 have ih0 := impl_entryRecs.mono_l k
 unfold impl_entryRecs.f
 repeat' first
  | (with_reducible exact ih0 _ _ _ _ _)
  | (with_reducible exact LeO.refl _)
  | (with_reducible exact LeO.none _)
  | (with_reducible refine LeO.ite ?_ ?_)
  | (with_reducible refine LeO.bind ?_ (fun _ => ?_))
  | exact ih0 _ _ _ _ _
  | exact LeO.none _
  | refine LeO.ite ?_ ?_
  | refine LeO.bind ?_ (fun _ => ?_)
set_option maxHeartbeats 8000000 in
set_option maxRecDepth 100000 in
theorem impl_entryRecs.calls (k : Nat) (A0 : Option Addr) (c0 : Nat) (l0 : List (S117)) (a1 : Int) (r : List (S83)) (w : World) (hr0 : Kd.C k117 w A0 l0.length l0) (hc0 : l0.length ≤ c0) (h : impl_entryRecs.f k l0 a1 = some r) :
 Calls Try.prog 110 #[.slice A0 l0.length c0, .int .i64 a1] w fun e w' => ∃ v0_ : Value, e = .returned (v0_) ∧ Kd.R k83 83 w' w.heap.size (fun _ => True) v0_ r ∧ Below w.heap.size w w' := by
 have hu117 := Try.underlying117
 have hu83 := Try.underlying83
 have HR0 := Aside0.mk hr0
 have HC0 := Aside0.mk hc0
 clear hr0 hc0
 have HB := Aside0.mk (Below.refl w.heap.size w)
 have H : (impl_entryRecs.l0 k a1 (([] : List (S83))) l0 (l0.length : Int) 0) = some r := h
 clear h
 obtain ⟨y235, hy235⟩ : ∃ y_ : List (S83), y_ = (([] : List (S83))) := ⟨_, rfl⟩
 replace H : (impl_entryRecs.l0 k a1 y235 l0 (l0.length : Int) 0) = some r := by first | (rw [hy235]; with_reducible exact H) | (have H2_ := (Option.bind_some _ _).symm.trans H; rw [hy235]; with_reducible exact H2_) | (have H2_ := (Option.bind_some _ _).symm.trans H; with_reducible exact H2_) | with_reducible exact H | (rw [hy235]; exact H) | exact H
 have Ny235 := Aside0.mk hy235
 clear hy235
 have H' := Aside0.mk H
 clear H
 go_enter Try.func110, Try.ntmps110
 go_wp2_with (first | ((with_reducible refine gD 8 rfl ?_); refine Kd.R_lit k83 _ 83 ?hg (N := 8) ?hd (xs := ([] : List (S83))) (inner := []) (ok := fun _ => True) (okp := fun _ => True) ?hr ?hp (fun _ hk => hk) trivial (Below.refl _ _) (Nat.le_refl _) (by simp) ?_; (case hd => rfl); (case hg => rfl); (case hr => first | (go_simp; done) | (go_simp; rfl)); (case hp => exact (Reps.none _ _)); intro v236 w3 ho4 hb hg_ hnew_; clear hg_ hnew_; (first | rw [← Ny235.out] at ho4 | (simp only [Int.reduceToNat] at ho4; rw [← Ny235.out] at ho4)); have HO237 := Aside0.mk (Kd.R_lower ho4 (below_size bl)); replace HB := bs (w := w) hb; clear hb ho4))
 go_loopg [5, 11] k (fun kq v5 v11 w' => ∃ (x5_1 : List (S83)) (x11_1 : Int), v11 = .int .i64 x11_1 ∧ Aside0 (impl_entryRecs.l0 kq a1 x5_1 l0 (l0.length : Int) x11_1 = some r) ∧ Aside0 (kq ≤ k) ∧ Aside0 (Kd.R k83 83 w' w.heap.size (fun _ => True) v5 x5_1) ∧ Aside0 (Below w.heap.size w w'))
 case atStart => exact ⟨(y235), (0), fa, H', ⟨Nat.le_refl _⟩, ⟨by (with_reducible repeat (first | apply Kd.R_alloc | apply Kd.R_drewN | apply Kd.R_drew)); exact HO237.out⟩, ⟨bl⟩⟩
 case round =>
  clear H'
  try clear c1
  try clear p2
  obtain ⟨x5_1, x11_1, rfl, HA, HK1, HO_5, HB⟩ := hrel
  cases gk with
  | zero => exact absurd HA.out (by simp [impl_entryRecs.l0])
  | succ k1 =>
   have H := HA.out
   clear HA
   simp only [impl_entryRecs.l0] at H
   by_cases c5 : x11_1 < (l0.length : Int)
   ·rw [if_pos c5] at H
    have c5b0 : decide (x11_1 < (l0.length : Int)) = true := decide_eq_true c5
    clear c5
    by_cases c6 : 0 ≤ x11_1
    ·rw [if_pos c6] at H
     have c6b0 : decide (0 ≤ x11_1) = true := decide_eq_true c6
     clear c6
     by_cases c7 : x11_1 < (l0.length : Int)
     ·rw [if_pos c7] at H
      have c7b0 : decide (x11_1 < (l0.length : Int)) = true := decide_eq_true c7
      clear c7
      by_cases c8 : x5_1.length < 2932031007402
      ·rw [if_pos c8] at H
       have LMc8 := Aside0.mk c8
       clear c8
       obtain ⟨y240, hy240⟩ : ∃ y_ : List (S83), y_ = (x5_1 ++ [(⟨2, (rd_T117 l0 x11_1).f0, wrap64 (a1 + x11_1), 0, (rd_T117 l0 x11_1).f1⟩ : S83)]) := ⟨_, rfl⟩
       replace H : (impl_entryRecs.l0 k1 a1 y240 l0 (l0.length : Int) (wrap64 (x11_1 + 1))) = some r := by first | (rw [hy240]; with_reducible exact H) | (have H2_ := (Option.bind_some _ _).symm.trans H; rw [hy240]; with_reducible exact H2_) | (have H2_ := (Option.bind_some _ _).symm.trans H; with_reducible exact H2_) | with_reducible exact H | (rw [hy240]; exact H) | exact H
       have Ny240 := Aside0.mk hy240
       clear hy240
       have H' := Aside0.mk H
       clear H
       have p238 : 0 ≤ (x11_1 : Int) := of_decide_eq_true am
       have q238 : x11_1 < (l0.length : Int) := of_decide_eq_true am
       obtain ⟨ad238, e238, hx238_0, hx238_1⟩ := at_T117 HR0.out x11_1 p238 q238
       cases e238
       replace hx238_0 := cz HB hx238_0
       replace hx238_1 := cz HB hx238_1
       replace p238 := eq_true p238
       replace q238 := eq_true q238
       go_wp2_with (first | ((with_reducible refine gD 7 rfl ?_); refine boxZ 7 #[.int .i64 0, .string (⟨#[]⟩ : ByteArray)] 117 ?_; intro gb239 hg w9 hbox hb; replace HO_5 := Aside0.mk (Kd.R_below (by (with_reducible repeat (first | apply Kd.R_alloc | apply Kd.R_drewN | apply Kd.R_drew)); exact HO_5.out) hb); have BK239 := Aside0.mk hbox; have GW239 := gw (w := w) hg; have GE239 := gw (w := w) hg; replace HB := bs (w := w) hb; clear hb hbox hg; obtain ⟨hcz10_0, hcz10_1, hfz10_0, hfz10_1⟩ := cf2 BK239) | ((with_reducible refine gate_builtin (b := .append) (xs := #[.tmp 16, .tmp 25]) rfl ?_); at_builtin; refine Kd.R_append k83 (w0 := w) w.heap.size rfl (.tmp 16) (.tmp 25) 71 83 (.agg #[(.int .i64 0), (.int .i64 0), (.int .i64 0), (.int .i64 0), (.string ⟨#[]⟩)]) 48 rfl Try.underlying71 info83 rfl (by decide) (by omega) u5 x5_1 (⟨2, (rd_T117 l0 x11_1).f0, wrap64 (a1 + x11_1), 0, (rd_T117 l0 x11_1).f1⟩ : S83) [.int .i64 2, .int .i64 ((rd_T117 l0 x11_1).f0), .int .i64 (wrap64 (a1 + x11_1)), .int .i64 0, .string ((rd_T117 l0 x11_1).f1)] (fun _ => True) (fun _ => False) rfl (by first | (go_simp; done) | (go_simp; rfl)) ?aP (fun _ hk => hk.elim) ?aF ?aO ?aB ?aS ?aL ?_; (case aP => exact k83_mkM _ _ _ (⟨2, (rd_T117 l0 x11_1).f0, wrap64 (a1 + x11_1), 0, (rd_T117 l0 x11_1).f1⟩ : S83)); (case aB => exact bl); (case aF => exact (fun _ _ => trivial)); (case aO => exact (by (with_reducible repeat (first | apply Kd.R_alloc | apply Kd.R_drewN | apply Kd.R_drew)); exact Kd.R_mono (Kd.R_far (p := ⟨gb239, 1, none⟩) (Kd.R_far (p := ⟨gb239, 0, none⟩) (Kd.R_types HO_5.out BK239.out (by decide)) (fun _ hk => hk.2) (.int .i64 ((rd_T117 l0 x11_1).f0))) (fun _ hk => hk.2) (.string ((rd_T117 l0 x11_1).f1))) (fun _ hk => trivial))); (case aS => exact (below_size bl)); (case aL => have := LMc8.out; omega); intro v241 w11 ho hb hg hat; rw [← Ny240.out] at ho; replace BK239 := Aside0.mk (blk_grown (g := gb239) (o := .cells #[.int .i64 ((rd_T117 l0 x11_1).f0), .string ((rd_T117 l0 x11_1).f1)] 117 (0, 0)) (by (with_reducible repeat (first | refine blk_drewN ?_ _ | refine blk_drew ?_ | refine blk_alloc ?_ _)); refine blk_put (cs := #[.int .i64 ((rd_T117 l0 x11_1).f0), .string (⟨#[]⟩ : ByteArray)]) ?_ 1 _ rfl; (with_reducible repeat (first | refine blk_drewN ?_ _ | refine blk_drew ?_ | refine blk_alloc ?_ _)); refine blk_put (cs := #[.int .i64 0, .string (⟨#[]⟩ : ByteArray)]) ?_ 0 _ rfl; (with_reducible repeat (first | refine blk_drewN ?_ _ | refine blk_drew ?_ | refine blk_alloc ?_ _)); exact BK239.out) hg (Kd.R_ne HO_5.out BK239.out (by decide))); replace HB := Aside0.mk (hb); have HO242 := Aside0.mk (ho); clear HO_5; clear ho hb hg hat))
       go_roundg k1
       case measure => have := HK1.out; omega
       case rel => exact ⟨(y240), (wrap64 (x11_1 + 1)), fa, H', ⟨by have := HK1.out; omega⟩, ⟨by (with_reducible repeat (first | apply Kd.R_alloc | apply Kd.R_drewN | apply Kd.R_drew)); exact HO242.out⟩, ⟨bl⟩⟩
      ·rw [if_neg c8] at H
       exact absurd H (by simp)
     ·rw [if_neg c7] at H
      exact absurd H (by simp)
    ·rw [if_neg c6] at H
     exact absurd H (by simp)
   ·rw [if_neg c5] at H
    have c5b0 : decide (x11_1 < (l0.length : Int)) = false := decide_eq_false c5
    clear c5
    obtain rfl := Option.some.inj H
    go_wp2
    go_ret
    exact ⟨_, fe, by (with_reducible repeat (first | apply Kd.R_alloc | apply Kd.R_drewN | apply Kd.R_drew)); exact HO_5.out, bl⟩

end Go.Proofs.Ytfmddjbekophnaa.PFnExactPlanAdd
