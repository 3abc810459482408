-- PRINTED by print.py (a twelfth state) out of the translation. Not trusted: Lean checks it.
import Derived.Test.YtfmddjbekophnaaPFnExactPlanAddx0
import Derived.Test.YtfmddjbekophnaaPFnExactPlanAddx3
import Derived.Test.YtfmddjbekophnaaPFnExactPlanAddx11
import Derived.Test.YtfmddjbekophnaaPFnExactPlanAddx12
import Derived.Test.YtfmddjbekophnaaPFnExactPlanAddx13
import Derived.Test.YtfmddjbekophnaaZip
namespace Go.Proofs.Ytfmddjbekophnaa.PFnExactPlanAdd
open Go.RowKit Go.Proofs.YtfmddjbekophnaaW.PrintWords Go.Proofs.YtfmddjbekophnaaW.PrintLast Go.Proofs.YtfmddjbekophnaaW.PrintMore Go.Proofs.Ytfmddjbekophnaa.Zip
attribute [local go_sem] max2_int min2_int max_two min_two max_three min_three max_four min_four   -- for this text's walks alone
set_option linter.unusedVariables false
set_option linter.unusedSimpArgs false

/-! ### impl_recsText: function 109 -/
def impl_recsText.l0 : Nat → ByteArray → List (S83) → Int → Int → Option (ByteArray)
 | 0, _, _, _, _ => none
 | k + 1, x3, x6, x7, x8 => if x8 < x7 then (if 0 ≤ x8 then (if x8 < (x6.length : Int) then ((impl_ShowRec.f k ((rd_T83 x6 x8).f0) ((rd_T83 x6 x8).f1) ((rd_T83 x6 x8).f2) ((rd_T83 x6 x8).f3) ((rd_T83 x6 x8).f4)).bind fun t331 => ((impl_Frame.f k t331).bind fun t332 => (if x3.size + t332.size ≤ 9223372036854775807 then (impl_recsText.l0 k (x3 ++ t332) x6 x7 (wrap64 (x8 + 1))) else (none)))) else (none)) else (none)) else (some x3)
def impl_recsText.f (k : Nat) (l0 : List (S83)) : Option (ByteArray) := impl_recsText.l0 k (⟨#[]⟩ : ByteArray) l0 (l0.length : Int) 0
theorem impl_recsText.mono_l : ∀ k, (∀ y0 y1 y2 y3, LeO (impl_recsText.l0 k y0 y1 y2 y3) (impl_recsText.l0 (k + 1) y0 y1 y2 y3))
 | 0 => fun _ _ _ _ r h => by simp [impl_recsText.l0] at h
 | k + 1 => by
  have ih0 := impl_recsText.mono_l k
  ·intro y0 y1 y2 y3
   unfold impl_recsText.l0
   repeat' first
   | (with_reducible exact ih0 _ _ _ _)
   | (with_reducible exact impl_Frame.mono _ _)
   | (with_reducible exact impl_ShowRec.mono _ _ _ _ _ _)
   | (with_reducible exact LeO.refl _)
   | (with_reducible exact LeO.none _)
   | (with_reducible refine LeO.ite ?_ ?_)
   | (with_reducible refine LeO.bind ?_ (fun _ => ?_))
   | exact ih0 _ _ _ _
   | exact impl_Frame.mono _ _
   | exact impl_ShowRec.mono _ _ _ _ _ _
   | exact LeO.none _
   | refine LeO.ite ?_ ?_
   | refine LeO.bind ?_ (fun _ => ?_)
theorem impl_recsText.mono : ∀ a0 k, LeO (impl_recsText.f k a0) (impl_recsText.f (k + 1) a0) := by
 intro a0 k
 have ih0 := impl_recsText.mono_l k
 unfold impl_recsText.f
 repeat' first
  | (with_reducible exact ih0 _ _ _ _)
  | (with_reducible exact impl_Frame.mono _ _)
  | (with_reducible exact impl_ShowRec.mono _ _ _ _ _ _)
  | (with_reducible exact LeO.refl _)
  | (with_reducible exact LeO.none _)
  | (with_reducible refine LeO.ite ?_ ?_)
  | (with_reducible refine LeO.bind ?_ (fun _ => ?_))
  | exact ih0 _ _ _ _
  | exact impl_Frame.mono _ _
  | exact impl_ShowRec.mono _ _ _ _ _ _
  | exact LeO.none _
  | refine LeO.ite ?_ ?_
  | refine LeO.bind ?_ (fun _ => ?_)
set_option maxHeartbeats 8000000 in
set_option maxRecDepth 100000 in
theorem impl_recsText.calls (k : Nat) (A0 : Option Addr) (c0 : Nat) (l0 : List (S83)) (r : ByteArray) (w : World) (hr0 : Kd.C k83 w A0 l0.length l0) (hc0 : l0.length ≤ c0) (h : impl_recsText.f k l0 = some r) :
 Calls Try.prog 109 #[.slice A0 l0.length c0] w fun e w' => e = .returned (.string r) ∧ Below w.heap.size w w' := by
 have hu83 := Try.underlying83
 have HR0 := Aside0.mk hr0
 have HC0 := Aside0.mk hc0
 clear hr0 hc0
 have HB := Aside0.mk (Below.refl w.heap.size w)
 have H : (impl_recsText.l0 k (⟨#[]⟩ : ByteArray) l0 (l0.length : Int) 0) = some r := h
 clear h
 have H' := Aside0.mk H
 clear H
 go_enter Try.func109, Try.ntmps109
 go_wp2
 go_loopg [3, 8] k (fun kq v3 v8 w' => ∃ (x3_1 : ByteArray) (x8_1 : Int), v3 = .string x3_1 ∧ v8 = .int .i64 x8_1 ∧ Aside0 (impl_recsText.l0 kq x3_1 l0 (l0.length : Int) x8_1 = some r) ∧ Aside0 (kq ≤ k) ∧ Aside0 (Below w.heap.size w w'))
 case atStart => exact ⟨((⟨#[]⟩ : ByteArray)), (0), fa, fa, H', ⟨Nat.le_refl _⟩, ⟨bl⟩⟩
 case round =>
  clear H'
  try clear c1
  obtain ⟨x3_1, x8_1, rfl, rfl, HA, HK1, HB⟩ := hrel
  cases gk with
  | zero => exact absurd HA.out (by simp [impl_recsText.l0])
  | succ k1 =>
   have H := HA.out
   clear HA
   simp only [impl_recsText.l0] at H
   by_cases c2 : x8_1 < (l0.length : Int)
   ·rw [if_pos c2] at H
    have c2b0 : decide (x8_1 < (l0.length : Int)) = true := decide_eq_true c2
    clear c2
    by_cases c3 : 0 ≤ x8_1
    ·rw [if_pos c3] at H
     have c3b0 : decide (0 ≤ x8_1) = true := decide_eq_true c3
     clear c3
     by_cases c4 : x8_1 < (l0.length : Int)
     ·rw [if_pos c4] at H
      have c4b0 : decide (x8_1 < (l0.length : Int)) = true := decide_eq_true c4
      clear c4
      obtain ⟨t331, A5, H⟩ := bd H
      obtain ⟨t332, A6, H⟩ := bd H
      by_cases c7 : x3_1.size + t332.size ≤ 9223372036854775807
      ·rw [if_pos c7] at H
       have c7b0 := eq_true c7
       have c7b1 : decide (x3_1.size + t332.size ≤ 9223372036854775807) = true := decide_eq_true c7
       try have c7b2 : (9223372036854775807 < x3_1.size + t332.size) = False := eq_false (Nat.not_lt.2 c7)
       have H' := Aside0.mk H
       clear H
       have p329 : 0 ≤ (x8_1 : Int) := of_decide_eq_true am
       have q329 : x8_1 < (l0.length : Int) := of_decide_eq_true am
       obtain ⟨ad329, e329, hx329_0, hx329_1, hx329_2, hx329_3, hx329_4⟩ := at_T83 HR0.out x8_1 p329 q329
       cases e329
       replace hx329_0 := cz HB hx329_0
       replace hx329_1 := cz HB hx329_1
       replace hx329_2 := cz HB hx329_2
       replace hx329_3 := cz HB hx329_3
       replace hx329_4 := cz HB hx329_4
       replace p329 := eq_true p329
       replace q329 := eq_true q329
       go_wp2_with (first | ((with_reducible refine gD 5 rfl ?_); refine boxZ 5 #[.int .i64 0, .int .i64 0, .int .i64 0, .int .i64 0, .string (⟨#[]⟩ : ByteArray)] 83 ?_; intro gb330 hg w8 hbox hb; have BK330 := Aside0.mk hbox; have GW330 := gw (w := w) hg; have GE330 := gw (w := w) hg; replace HB := bs (w := w) hb; clear hb hbox hg; obtain ⟨hcz9_0, hcz9_1, hcz9_2, hcz9_3, hcz9_4, hfz9_0, hfz9_1, hfz9_2, hfz9_3, hfz9_4⟩ := cf5 BK330) | ((with_reducible refine gC 140 rfl ?_); refine goesZ (some 14) rfl Try.func140 #[.agg #[.int .i64 ((rd_T83 l0 x8_1).f0), .int .i64 ((rd_T83 l0 x8_1).f1), .int .i64 ((rd_T83 l0 x8_1).f2), .int .i64 ((rd_T83 l0 x8_1).f3), .string ((rd_T83 l0 x8_1).f4)]] ?_; (with_reducible refine (impl_ShowRec.calls k1 ((rd_T83 l0 x8_1).f0) ((rd_T83 l0 x8_1).f1) ((rd_T83 l0 x8_1).f2) ((rd_T83 l0 x8_1).f3) ((rd_T83 l0 x8_1).f4) t331 _ A5.out).mono ?_); rintro e w10 ⟨rfl, hb⟩; refine ⟨_, rfl, ?_⟩; replace BK330 := Aside0.mk (blk_below (g := gb330) (o := .cells #[.int .i64 ((rd_T83 l0 x8_1).f0), .int .i64 ((rd_T83 l0 x8_1).f1), .int .i64 ((rd_T83 l0 x8_1).f2), .int .i64 ((rd_T83 l0 x8_1).f3), .string ((rd_T83 l0 x8_1).f4)] 83 (0, 0)) (by (with_reducible repeat (first | refine blk_drewN ?_ _ | refine blk_drew ?_ | refine blk_alloc ?_ _)); refine blk_put (cs := #[.int .i64 ((rd_T83 l0 x8_1).f0), .int .i64 ((rd_T83 l0 x8_1).f1), .int .i64 ((rd_T83 l0 x8_1).f2), .int .i64 ((rd_T83 l0 x8_1).f3), .string (⟨#[]⟩ : ByteArray)]) ?_ 4 _ rfl; (with_reducible repeat (first | refine blk_drewN ?_ _ | refine blk_drew ?_ | refine blk_alloc ?_ _)); refine blk_put (cs := #[.int .i64 ((rd_T83 l0 x8_1).f0), .int .i64 ((rd_T83 l0 x8_1).f1), .int .i64 ((rd_T83 l0 x8_1).f2), .int .i64 0, .string (⟨#[]⟩ : ByteArray)]) ?_ 3 _ rfl; (with_reducible repeat (first | refine blk_drewN ?_ _ | refine blk_drew ?_ | refine blk_alloc ?_ _)); refine blk_put (cs := #[.int .i64 ((rd_T83 l0 x8_1).f0), .int .i64 ((rd_T83 l0 x8_1).f1), .int .i64 0, .int .i64 0, .string (⟨#[]⟩ : ByteArray)]) ?_ 2 _ rfl; (with_reducible repeat (first | refine blk_drewN ?_ _ | refine blk_drew ?_ | refine blk_alloc ?_ _)); refine blk_put (cs := #[.int .i64 ((rd_T83 l0 x8_1).f0), .int .i64 0, .int .i64 0, .int .i64 0, .string (⟨#[]⟩ : ByteArray)]) ?_ 1 _ rfl; (with_reducible repeat (first | refine blk_drewN ?_ _ | refine blk_drew ?_ | refine blk_alloc ?_ _)); refine blk_put (cs := #[.int .i64 0, .int .i64 0, .int .i64 0, .int .i64 0, .string (⟨#[]⟩ : ByteArray)]) ?_ 0 _ rfl; (with_reducible repeat (first | refine blk_drewN ?_ _ | refine blk_drew ?_ | refine blk_alloc ?_ _)); exact BK330.out) hb); replace HB := bs (w := w) hb; (try clear hb); (try clear hb2); (try clear hk); (try clear hi)) | ((with_reducible refine gC 139 rfl ?_); refine goesZ (some 15) rfl Try.func139 #[.string t331] ?_; (with_reducible refine (impl_Frame.calls k1 t331 t332 _ A6.out).mono ?_); rintro e w11 ⟨rfl, hb⟩; refine ⟨_, rfl, ?_⟩; replace BK330 := bv BK330 hb; replace HB := bs (w := w) hb; (try clear hb); (try clear hb2); (try clear hk); (try clear hi)))
       go_roundg k1
       case measure => have := HK1.out; omega
       case rel => exact ⟨(x3_1 ++ t332), (wrap64 (x8_1 + 1)), fa, fa, H', ⟨by have := HK1.out; omega⟩, ⟨bl⟩⟩
      ·rw [if_neg c7] at H
       exact absurd H (by simp)
     ·rw [if_neg c4] at H
      exact absurd H (by simp)
    ·rw [if_neg c3] at H
     exact absurd H (by simp)
   ·rw [if_neg c2] at H
    have c2b0 : decide (x8_1 < (l0.length : Int)) = false := decide_eq_false c2
    clear c2
    obtain rfl := Option.some.inj H
    go_wp2
    go_ret
    exact ⟨fe, bl⟩

/-! ### impl_PlanAdd: function 72 -/
def impl_PlanAdd.f (k : Nat) (a0_0 : Int) (a0_1 : Int) (a0_2 : Int) (a0_3 : Int) (l0_4 : List (S117)) (a1_0 : Int) (a1_1 : Int) (a1_2 : Int) (a1_3 : Int) (l1_4 : List (S117)) : Option ((List (S130))) := (impl_Changes.f k a0_0 a0_1 a0_2 a0_3 l0_4 a1_0 a1_1 a1_2 a1_3 l1_4).bind fun bt335 => (if bt335.2 = true then (if (bt335.1.length : Int) = 0 then (some ([] : List (S130))) else ((impl_recsText.f k bt335.1).bind fun t339 => (some (([(⟨2, (⟨#[108, 111, 103]⟩ : ByteArray), (⟨#[]⟩ : ByteArray), t339⟩ : S130), (⟨3, (⟨#[108, 111, 103]⟩ : ByteArray), (⟨#[]⟩ : ByteArray), (⟨#[]⟩ : ByteArray)⟩ : S130)] : List (S130)))))) else (some ([] : List (S130))))
theorem impl_PlanAdd.mono : ∀ a0 a1 a2 a3 a4 a5 a6 a7 a8 a9 k, LeO (impl_PlanAdd.f k a0 a1 a2 a3 a4 a5 a6 a7 a8 a9) (impl_PlanAdd.f (k + 1) a0 a1 a2 a3 a4 a5 a6 a7 a8 a9) := by
 intro a0 a1 a2 a3 a4 a5 a6 a7 a8 a9 k
 unfold impl_PlanAdd.f
 repeat' first
  | (with_reducible exact impl_Changes.mono _ _ _ _ _ _ _ _ _ _ _)
  | (with_reducible exact impl_recsText.mono _ _)
  | (with_reducible exact LeO.refl _)
  | (with_reducible exact LeO.none _)
  | (with_reducible refine LeO.ite ?_ ?_)
  | (with_reducible refine LeO.bind ?_ (fun _ => ?_))
  | exact impl_Changes.mono _ _ _ _ _ _ _ _ _ _ _
  | exact impl_recsText.mono _ _
  | exact LeO.none _
  | refine LeO.ite ?_ ?_
  | refine LeO.bind ?_ (fun _ => ?_)
set_option maxHeartbeats 8000000 in
set_option maxRecDepth 100000 in
theorem impl_PlanAdd.calls (k : Nat) (a0_0 : Int) (a0_1 : Int) (a0_2 : Int) (a0_3 : Int) (A0_4 : Option Addr) (c0_4 : Nat) (l0_4 : List (S117)) (a1_0 : Int) (a1_1 : Int) (a1_2 : Int) (a1_3 : Int) (A1_4 : Option Addr) (c1_4 : Nat) (l1_4 : List (S117)) (r : List (S130)) (w : World) (hr0_4 : Kd.C k117 w A0_4 l0_4.length l0_4) (hc0_4 : l0_4.length ≤ c0_4) (hr1_4 : Kd.C k117 w A1_4 l1_4.length l1_4) (hc1_4 : l1_4.length ≤ c1_4) (h : impl_PlanAdd.f k a0_0 a0_1 a0_2 a0_3 l0_4 a1_0 a1_1 a1_2 a1_3 l1_4 = some r) :
 Calls Try.prog 72 #[.agg #[.int .i64 a0_0, .int .i64 a0_1, .int .i64 a0_2, .int .i64 a0_3, .slice A0_4 l0_4.length c0_4], .agg #[.int .i64 a1_0, .int .i64 a1_1, .int .i64 a1_2, .int .i64 a1_3, .slice A1_4 l1_4.length c1_4]] w fun e w' => ∃ v0_ : Value, e = .returned (v0_) ∧ Kd.R k130 130 w' w.heap.size (fun _ => True) v0_ r ∧ Below w.heap.size w w' := by
 have hu67 := Try.underlying67
 have hu130 := Try.underlying130
 have HR0_4 := Aside0.mk hr0_4
 have HC0_4 := Aside0.mk hc0_4
 clear hr0_4 hc0_4
 have HR1_4 := Aside0.mk hr1_4
 have HC1_4 := Aside0.mk hc1_4
 clear hr1_4 hc1_4
 have HB := Aside0.mk (Below.refl w.heap.size w)
 have H : ((impl_Changes.f k a0_0 a0_1 a0_2 a0_3 l0_4 a1_0 a1_1 a1_2 a1_3 l1_4).bind fun bt335 => (if bt335.2 = true then (if (bt335.1.length : Int) = 0 then (some ([] : List (S130))) else ((impl_recsText.f k bt335.1).bind fun t339 => (some (([(⟨2, (⟨#[108, 111, 103]⟩ : ByteArray), (⟨#[]⟩ : ByteArray), t339⟩ : S130), (⟨3, (⟨#[108, 111, 103]⟩ : ByteArray), (⟨#[]⟩ : ByteArray), (⟨#[]⟩ : ByteArray)⟩ : S130)] : List (S130)))))) else (some ([] : List (S130))))) = some r := h
 clear h
 replace H := Option.bind_eq_some_iff.mp H
 obtain ⟨⟨t335, t338⟩, A30, H⟩ := H
 replace H : (if t338 = true then (if (t335.length : Int) = 0 then (some ([] : List (S130))) else ((impl_recsText.f k t335).bind fun t339 => (some (([(⟨2, (⟨#[108, 111, 103]⟩ : ByteArray), (⟨#[]⟩ : ByteArray), t339⟩ : S130), (⟨3, (⟨#[108, 111, 103]⟩ : ByteArray), (⟨#[]⟩ : ByteArray), (⟨#[]⟩ : ByteArray)⟩ : S130)] : List (S130)))))) else (some ([] : List (S130)))) = some r := H
 have A3 := Aside0.mk A30
 clear A30
 by_cases c4 : t338 = true
 ·subst c4
  replace H := iT H
  by_cases c5 : (t335.length : Int) = 0
  ·rw [if_pos c5] at H
   have c5b0 : ((t335.length : Int) == 0) = true := beq_iff_eq.mpr c5
   have c5b1 : ((t335.length : Int) != 0) = false := bne_eq_false_iff_eq.mpr c5
   clear c5
   obtain rfl := Option.some.inj H
   go_enter Try.func72, Try.ntmps72
   go_wp2_with (first | ((with_reducible refine gD 2 rfl ?_); (try (refine gate_guard rfl ?_; dsimp only)); refine boxZ 2 #[.int .i64 a0_0, .int .i64 a0_1, .int .i64 a0_2, .int .i64 a0_3, .slice A0_4 l0_4.length c0_4] 67 ?_; intro gb333 hg w6 hbox hb; have BK333 := Aside0.mk hbox; have GW333 := gw (w := w) hg; have GE333 := gw (w := w) hg; replace HB := bs (w := w) hb; clear hb hbox hg) | ((with_reducible refine gD 3 rfl ?_); (try (refine gate_guard rfl ?_; dsimp only)); refine boxZ 3 #[.int .i64 a1_0, .int .i64 a1_1, .int .i64 a1_2, .int .i64 a1_3, .slice A1_4 l1_4.length c1_4] 67 ?_; intro gb334 hg w7 hbox hb; have BK334 := Aside0.mk hbox; have GW334 := gw (w := w) hg; have GE334 := gw (w := w) hg; replace HB := bs (w := w) hb; have NB333_334 := nl BK333 hg; have NB334_333 := nr BK333 hg; replace BK333 := bv BK333 hb; clear hb hbox hg; have hnb8 := NB333_334.out; have hnc8 := NB334_333.out; obtain ⟨hcz9_0, hcz9_1, hcz9_2, hcz9_3, hcz9_4, hfz9_0, hfz9_1, hfz9_2, hfz9_3, hfz9_4⟩ := cf5 BK333; obtain ⟨hcz10_0, hcz10_1, hcz10_2, hcz10_3, hcz10_4, hfz10_0, hfz10_1, hfz10_2, hfz10_3, hfz10_4⟩ := cf5 BK334) | ((with_reducible refine gC 61 rfl ?_); refine goesZ (some 10) rfl Try.func61 #[.agg #[.int .i64 a0_0, .int .i64 a0_1, .int .i64 a0_2, .int .i64 a0_3, .slice A0_4 l0_4.length c0_4], .agg #[.int .i64 a1_0, .int .i64 a1_1, .int .i64 a1_2, .int .i64 a1_3, .slice A1_4 l1_4.length c1_4]] ?_; (with_reducible refine (impl_Changes.calls k a0_0 a0_1 a0_2 a0_3 _ _ l0_4 a1_0 a1_1 a1_2 a1_3 _ _ l1_4 t335 true _ ?side1 ?side2 ?side3 ?side4 A3.out).mono ?_); (case side1 => repeat (first | exact (Kd.C_below HR0_4.out HB.out) | (with_reducible refine Kd.C_alloc ?_ _) | (with_reducible refine Kd.C_drewN ?_ _) | (with_reducible refine Kd.C_drew ?_))); (case side2 => exact HC0_4.out); (case side3 => repeat (first | exact (Kd.C_below HR1_4.out HB.out) | (with_reducible refine Kd.C_alloc ?_ _) | (with_reducible refine Kd.C_drewN ?_ _) | (with_reducible refine Kd.C_drew ?_))); (case side4 => exact HC1_4.out); rintro e w11 ⟨v336, rfl, ho0, hb⟩; refine ⟨_, rfl, ?_⟩; have HO337 := Aside0.mk (Kd.R_lower ho0 (below_size bl)); replace BK333 := bv BK333 hb; replace BK334 := bv BK334 hb; replace HB := bs (w := w) hb; (try clear hb); (try clear hb2); (try clear hk); (try clear hi); (try clear ho0); obtain ⟨Ao12, co12, eo12⟩ := Kd.R_slice HO337.out; subst eo12))
   go_ret
   exact ⟨_, fe, by first | exact Kd.R_nil _ _ _ _ _ | exact Kd.N_nil _ _ _ _ _ | exact Kd.V_nil _ _ _ _ _ | exact Kd.Q_nil _ _ _ _ _ | exact Kd.S_nil _ _ _ _ _, bl⟩
  ·rw [if_neg c5] at H
   have c5b0 : ((t335.length : Int) == 0) = false := beq_eq_false_iff_ne.mpr c5
   have c5b1 : ((t335.length : Int) != 0) = true := bne_iff_ne.mpr c5
   have c5b2 : ¬ (t335 = []) := fun h_ => c5 (by rw [h_]; rfl)
   obtain ⟨t339, A13, H⟩ := bd H
   obtain ⟨y340, hy340⟩ : ∃ y_ : List (S130), y_ = (([(⟨2, (⟨#[108, 111, 103]⟩ : ByteArray), (⟨#[]⟩ : ByteArray), t339⟩ : S130), (⟨3, (⟨#[108, 111, 103]⟩ : ByteArray), (⟨#[]⟩ : ByteArray), (⟨#[]⟩ : ByteArray)⟩ : S130)] : List (S130))) := ⟨_, rfl⟩
   replace H : (some y340) = some r := by first | (rw [hy340]; with_reducible exact H) | (have H2_ := (Option.bind_some _ _).symm.trans H; rw [hy340]; with_reducible exact H2_) | (have H2_ := (Option.bind_some _ _).symm.trans H; with_reducible exact H2_) | with_reducible exact H | (rw [hy340]; exact H) | exact H
   have Ny340 := Aside0.mk hy340
   clear hy340
   obtain rfl := Option.some.inj H
   go_enter Try.func72, Try.ntmps72
   go_wp2_with (first | ((with_reducible refine gD 2 rfl ?_); (try (refine gate_guard rfl ?_; dsimp only)); refine boxZ 2 #[.int .i64 a0_0, .int .i64 a0_1, .int .i64 a0_2, .int .i64 a0_3, .slice A0_4 l0_4.length c0_4] 67 ?_; intro gb333 hg w14 hbox hb; have BK333 := Aside0.mk hbox; have GW333 := gw (w := w) hg; have GE333 := gw (w := w) hg; replace HB := bs (w := w) hb; clear hb hbox hg) | ((with_reducible refine gD 3 rfl ?_); (try (refine gate_guard rfl ?_; dsimp only)); refine boxZ 3 #[.int .i64 a1_0, .int .i64 a1_1, .int .i64 a1_2, .int .i64 a1_3, .slice A1_4 l1_4.length c1_4] 67 ?_; intro gb334 hg w15 hbox hb; have BK334 := Aside0.mk hbox; have GW334 := gw (w := w) hg; have GE334 := gw (w := w) hg; replace HB := bs (w := w) hb; have NB333_334 := nl BK333 hg; have NB334_333 := nr BK333 hg; replace BK333 := bv BK333 hb; clear hb hbox hg; have hnb16 := NB333_334.out; have hnc16 := NB334_333.out; obtain ⟨hcz17_0, hcz17_1, hcz17_2, hcz17_3, hcz17_4, hfz17_0, hfz17_1, hfz17_2, hfz17_3, hfz17_4⟩ := cf5 BK333; obtain ⟨hcz18_0, hcz18_1, hcz18_2, hcz18_3, hcz18_4, hfz18_0, hfz18_1, hfz18_2, hfz18_3, hfz18_4⟩ := cf5 BK334) | ((with_reducible refine gC 61 rfl ?_); refine goesZ (some 10) rfl Try.func61 #[.agg #[.int .i64 a0_0, .int .i64 a0_1, .int .i64 a0_2, .int .i64 a0_3, .slice A0_4 l0_4.length c0_4], .agg #[.int .i64 a1_0, .int .i64 a1_1, .int .i64 a1_2, .int .i64 a1_3, .slice A1_4 l1_4.length c1_4]] ?_; (with_reducible refine (impl_Changes.calls k a0_0 a0_1 a0_2 a0_3 _ _ l0_4 a1_0 a1_1 a1_2 a1_3 _ _ l1_4 t335 true _ ?side1 ?side2 ?side3 ?side4 A3.out).mono ?_); (case side1 => repeat (first | exact (Kd.C_below HR0_4.out HB.out) | (with_reducible refine Kd.C_alloc ?_ _) | (with_reducible refine Kd.C_drewN ?_ _) | (with_reducible refine Kd.C_drew ?_))); (case side2 => exact HC0_4.out); (case side3 => repeat (first | exact (Kd.C_below HR1_4.out HB.out) | (with_reducible refine Kd.C_alloc ?_ _) | (with_reducible refine Kd.C_drewN ?_ _) | (with_reducible refine Kd.C_drew ?_))); (case side4 => exact HC1_4.out); rintro e w19 ⟨v336, rfl, ho0, hb⟩; refine ⟨_, rfl, ?_⟩; have HO337 := Aside0.mk (Kd.R_lower ho0 (below_size bl)); replace BK333 := bv BK333 hb; replace BK334 := bv BK334 hb; replace HB := bs (w := w) hb; (try clear hb); (try clear hb2); (try clear hk); (try clear hi); (try clear ho0); obtain ⟨Ao20, co20, eo20⟩ := Kd.R_slice HO337.out; subst eo20) | ((with_reducible refine gC 109 rfl ?_); refine goesZ (some 21) rfl Try.func109 #[.slice Ao20 t335.length co20] ?_; (with_reducible refine (impl_recsText.calls k _ _ t335 t339 _ ?side1 ?side2 A13.out).mono ?_); (case side1 => repeat (first | exact (Kd.R_reads' HO337.out).2.2 | (with_reducible refine Kd.C_alloc ?_ _) | (with_reducible refine Kd.C_drewN ?_ _) | (with_reducible refine Kd.C_drew ?_))); (case side2 => exact (Kd.R_reads' HO337.out).2.1); rintro e w21 ⟨rfl, hb⟩; refine ⟨_, rfl, ?_⟩; replace HO337 := Aside0.mk (Kd.R_below (by (with_reducible repeat (first | apply Kd.R_alloc | apply Kd.R_drewN | apply Kd.R_drew)); exact HO337.out) hb); replace BK333 := bv BK333 hb; replace BK334 := bv BK334 hb; replace HB := bs (w := w) hb; (try clear hb); (try clear hb2); (try clear hk); (try clear hi)) | ((with_reducible refine gD 24 rfl ?_); (try (refine gate_guard rfl ?_; dsimp only)); refine Kd.R_lit k130 _ 130 ?hg (N := 24) ?hd (xs := ([(⟨2, (⟨#[108, 111, 103]⟩ : ByteArray), (⟨#[]⟩ : ByteArray), t339⟩ : S130), (⟨3, (⟨#[108, 111, 103]⟩ : ByteArray), (⟨#[]⟩ : ByteArray), (⟨#[]⟩ : ByteArray)⟩ : S130)] : List (S130))) (inner := [.int .i64 2, .string (⟨#[108, 111, 103]⟩ : ByteArray), .string (⟨#[]⟩ : ByteArray), .string t339, .int .i64 3, .string (⟨#[108, 111, 103]⟩ : ByteArray), .string (⟨#[]⟩ : ByteArray), .string (⟨#[]⟩ : ByteArray)]) (ok := fun _ => True) (okp := fun _ => True) ?hr ?hp (fun _ hk => hk) trivial (Below.refl _ _) (Nat.le_refl _) (by simp) ?_; (case hd => rfl); (case hg => rfl); (case hr => first | (go_simp; done) | (go_simp; rfl)); (case hp => exact (Reps.c4 (show Kd.M k130 _ _ _ (⟨2, (⟨#[108, 111, 103]⟩ : ByteArray), (⟨#[]⟩ : ByteArray), t339⟩ : S130) [.int .i64 2, .string (⟨#[108, 111, 103]⟩ : ByteArray), .string (⟨#[]⟩ : ByteArray), .string t339] from (k130_mkM _ _ _ (⟨2, (⟨#[108, 111, 103]⟩ : ByteArray), (⟨#[]⟩ : ByteArray), t339⟩ : S130) )) (Reps.c4 (show Kd.M k130 _ _ _ (⟨3, (⟨#[108, 111, 103]⟩ : ByteArray), (⟨#[]⟩ : ByteArray), (⟨#[]⟩ : ByteArray)⟩ : S130) [.int .i64 3, .string (⟨#[108, 111, 103]⟩ : ByteArray), .string (⟨#[]⟩ : ByteArray), .string (⟨#[]⟩ : ByteArray)] from (k130_mkM _ _ _ (⟨3, (⟨#[108, 111, 103]⟩ : ByteArray), (⟨#[]⟩ : ByteArray), (⟨#[]⟩ : ByteArray)⟩ : S130) )) (Reps.none _ _)))); intro v341 w22 ho23 hb hg_ hnew_; clear hg_ hnew_; (first | rw [← Ny340.out] at ho23 | (simp only [Int.reduceToNat] at ho23; rw [← Ny340.out] at ho23)); replace HO337 := Aside0.mk (Kd.R_below (by (with_reducible repeat (first | apply Kd.R_alloc | apply Kd.R_drewN | apply Kd.R_drew)); exact HO337.out) hb); have HO342 := Aside0.mk (Kd.R_lower ho23 (below_size bl)); replace BK333 := bv BK333 hb; replace BK334 := bv BK334 hb; replace HB := bs (w := w) hb; clear hb ho23))
   go_ret
   exact ⟨_, fe, by (with_reducible repeat (first | apply Kd.R_alloc | apply Kd.R_drewN | apply Kd.R_drew)); exact HO342.out, bl⟩
 ·replace c4 := Bool.eq_false_iff.mpr c4
  subst c4
  replace H := iF H
  obtain rfl := Option.some.inj H
  go_enter Try.func72, Try.ntmps72
  go_wp2_with (first | ((with_reducible refine gD 2 rfl ?_); (try (refine gate_guard rfl ?_; dsimp only)); refine boxZ 2 #[.int .i64 a0_0, .int .i64 a0_1, .int .i64 a0_2, .int .i64 a0_3, .slice A0_4 l0_4.length c0_4] 67 ?_; intro gb333 hg w24 hbox hb; have BK333 := Aside0.mk hbox; have GW333 := gw (w := w) hg; have GE333 := gw (w := w) hg; replace HB := bs (w := w) hb; clear hb hbox hg) | ((with_reducible refine gD 3 rfl ?_); (try (refine gate_guard rfl ?_; dsimp only)); refine boxZ 3 #[.int .i64 a1_0, .int .i64 a1_1, .int .i64 a1_2, .int .i64 a1_3, .slice A1_4 l1_4.length c1_4] 67 ?_; intro gb334 hg w25 hbox hb; have BK334 := Aside0.mk hbox; have GW334 := gw (w := w) hg; have GE334 := gw (w := w) hg; replace HB := bs (w := w) hb; have NB333_334 := nl BK333 hg; have NB334_333 := nr BK333 hg; replace BK333 := bv BK333 hb; clear hb hbox hg; have hnb26 := NB333_334.out; have hnc26 := NB334_333.out; obtain ⟨hcz27_0, hcz27_1, hcz27_2, hcz27_3, hcz27_4, hfz27_0, hfz27_1, hfz27_2, hfz27_3, hfz27_4⟩ := cf5 BK333; obtain ⟨hcz28_0, hcz28_1, hcz28_2, hcz28_3, hcz28_4, hfz28_0, hfz28_1, hfz28_2, hfz28_3, hfz28_4⟩ := cf5 BK334) | ((with_reducible refine gC 61 rfl ?_); refine goesZ (some 10) rfl Try.func61 #[.agg #[.int .i64 a0_0, .int .i64 a0_1, .int .i64 a0_2, .int .i64 a0_3, .slice A0_4 l0_4.length c0_4], .agg #[.int .i64 a1_0, .int .i64 a1_1, .int .i64 a1_2, .int .i64 a1_3, .slice A1_4 l1_4.length c1_4]] ?_; (with_reducible refine (impl_Changes.calls k a0_0 a0_1 a0_2 a0_3 _ _ l0_4 a1_0 a1_1 a1_2 a1_3 _ _ l1_4 t335 false _ ?side1 ?side2 ?side3 ?side4 A3.out).mono ?_); (case side1 => repeat (first | exact (Kd.C_below HR0_4.out HB.out) | (with_reducible refine Kd.C_alloc ?_ _) | (with_reducible refine Kd.C_drewN ?_ _) | (with_reducible refine Kd.C_drew ?_))); (case side2 => exact HC0_4.out); (case side3 => repeat (first | exact (Kd.C_below HR1_4.out HB.out) | (with_reducible refine Kd.C_alloc ?_ _) | (with_reducible refine Kd.C_drewN ?_ _) | (with_reducible refine Kd.C_drew ?_))); (case side4 => exact HC1_4.out); rintro e w29 ⟨v336, rfl, ho0, hb⟩; refine ⟨_, rfl, ?_⟩; have HO337 := Aside0.mk (Kd.R_lower ho0 (below_size bl)); replace BK333 := bv BK333 hb; replace BK334 := bv BK334 hb; replace HB := bs (w := w) hb; (try clear hb); (try clear hb2); (try clear hk); (try clear hi); (try clear ho0)))
  go_ret
  exact ⟨_, fe, by first | exact Kd.R_nil _ _ _ _ _ | exact Kd.N_nil _ _ _ _ _ | exact Kd.V_nil _ _ _ _ _ | exact Kd.Q_nil _ _ _ _ _ | exact Kd.S_nil _ _ _ _ _, bl⟩

/-! ### laws_eqStep: function 123 -/
def laws_eqStep.f (a0_0 : Int) (a0_1 : ByteArray) (a0_2 : ByteArray) (a0_3 : ByteArray) (a1_0 : Int) (a1_1 : ByteArray) (a1_2 : ByteArray) (a1_3 : ByteArray) : Option (Bool) := if a0_0 = a1_0 then (if a0_1.toList = a1_1.toList then (if a0_2.toList = a1_2.toList then (if a0_3.toList = a1_3.toList then (some true) else (some false)) else (some false)) else (some false)) else (some false)
set_option maxHeartbeats 8000000 in
set_option maxRecDepth 100000 in
theorem laws_eqStep.calls (a0_0 : Int) (a0_1 : ByteArray) (a0_2 : ByteArray) (a0_3 : ByteArray) (a1_0 : Int) (a1_1 : ByteArray) (a1_2 : ByteArray) (a1_3 : ByteArray) (r : Bool) (w : World) (h : laws_eqStep.f a0_0 a0_1 a0_2 a0_3 a1_0 a1_1 a1_2 a1_3 = some r) :
 Calls Try.prog 123 #[.agg #[.int .i64 a0_0, .string a0_1, .string a0_2, .string a0_3], .agg #[.int .i64 a1_0, .string a1_1, .string a1_2, .string a1_3]] w fun e w' => e = .returned (.bool r) ∧ Below w.heap.size w w' := by
 have hu130 := Try.underlying130
 have HB := Aside0.mk (Below.refl w.heap.size w)
 have H : (if a0_0 = a1_0 then (if a0_1.toList = a1_1.toList then (if a0_2.toList = a1_2.toList then (if a0_3.toList = a1_3.toList then (some true) else (some false)) else (some false)) else (some false)) else (some false)) = some r := h
 clear h
 by_cases c3 : a0_0 = a1_0
 ·rw [if_pos c3] at H
  have c3b0 : (a0_0 == a1_0) = true := beq_iff_eq.mpr c3
  have c3b1 : (a0_0 != a1_0) = false := bne_eq_false_iff_eq.mpr c3
  clear c3
  by_cases c4 : a0_1.toList = a1_1.toList
  ·rw [if_pos c4] at H
   have c4b0 : (a0_1.toList == a1_1.toList) = true := beq_iff_eq.mpr c4
   have c4b1 : (a0_1.toList != a1_1.toList) = false := bne_eq_false_iff_eq.mpr c4
   clear c4
   by_cases c5 : a0_2.toList = a1_2.toList
   ·rw [if_pos c5] at H
    have c5b0 : (a0_2.toList == a1_2.toList) = true := beq_iff_eq.mpr c5
    have c5b1 : (a0_2.toList != a1_2.toList) = false := bne_eq_false_iff_eq.mpr c5
    clear c5
    by_cases c6 : a0_3.toList = a1_3.toList
    ·rw [if_pos c6] at H
     have c6b0 : (a0_3.toList == a1_3.toList) = true := beq_iff_eq.mpr c6
     have c6b1 : (a0_3.toList != a1_3.toList) = false := bne_eq_false_iff_eq.mpr c6
     clear c6
     obtain rfl := Option.some.inj H
     go_enter Try.func123, Try.ntmps123
     go_wp2_with (first | ((with_reducible refine gD 2 rfl ?_); refine boxZ 2 #[.int .i64 a0_0, .string a0_1, .string a0_2, .string a0_3] 130 ?_; intro gb343 hg w7 hbox hb; have BK343 := Aside0.mk hbox; have GW343 := gw (w := w) hg; have GE343 := gw (w := w) hg; replace HB := bs (w := w) hb; clear hb hbox hg) | ((with_reducible refine gD 3 rfl ?_); refine boxZ 3 #[.int .i64 a1_0, .string a1_1, .string a1_2, .string a1_3] 130 ?_; intro gb344 hg w8 hbox hb; have BK344 := Aside0.mk hbox; have GW344 := gw (w := w) hg; have GE344 := gw (w := w) hg; replace HB := bs (w := w) hb; have NB343_344 := nl BK343 hg; have NB344_343 := nr BK343 hg; replace BK343 := bv BK343 hb; clear hb hbox hg; have hnb9 := NB343_344.out; have hnc9 := NB344_343.out; obtain ⟨hcz10_0, hcz10_1, hcz10_2, hcz10_3, hfz10_0, hfz10_1, hfz10_2, hfz10_3⟩ := cf4 BK343; obtain ⟨hcz11_0, hcz11_1, hcz11_2, hcz11_3, hfz11_0, hfz11_1, hfz11_2, hfz11_3⟩ := cf4 BK344))
     go_ret
     exact ⟨fe, bl⟩
    ·rw [if_neg c6] at H
     have c6b0 : (a0_3.toList == a1_3.toList) = false := beq_eq_false_iff_ne.mpr c6
     have c6b1 : (a0_3.toList != a1_3.toList) = true := bne_iff_ne.mpr c6
     obtain rfl := Option.some.inj H
     go_enter Try.func123, Try.ntmps123
     go_wp2_with (first | ((with_reducible refine gD 2 rfl ?_); refine boxZ 2 #[.int .i64 a0_0, .string a0_1, .string a0_2, .string a0_3] 130 ?_; intro gb343 hg w12 hbox hb; have BK343 := Aside0.mk hbox; have GW343 := gw (w := w) hg; have GE343 := gw (w := w) hg; replace HB := bs (w := w) hb; clear hb hbox hg) | ((with_reducible refine gD 3 rfl ?_); refine boxZ 3 #[.int .i64 a1_0, .string a1_1, .string a1_2, .string a1_3] 130 ?_; intro gb344 hg w13 hbox hb; have BK344 := Aside0.mk hbox; have GW344 := gw (w := w) hg; have GE344 := gw (w := w) hg; replace HB := bs (w := w) hb; have NB343_344 := nl BK343 hg; have NB344_343 := nr BK343 hg; replace BK343 := bv BK343 hb; clear hb hbox hg; have hnb14 := NB343_344.out; have hnc14 := NB344_343.out; obtain ⟨hcz15_0, hcz15_1, hcz15_2, hcz15_3, hfz15_0, hfz15_1, hfz15_2, hfz15_3⟩ := cf4 BK343; obtain ⟨hcz16_0, hcz16_1, hcz16_2, hcz16_3, hfz16_0, hfz16_1, hfz16_2, hfz16_3⟩ := cf4 BK344))
     go_ret
     exact ⟨fe, bl⟩
   ·rw [if_neg c5] at H
    have c5b0 : (a0_2.toList == a1_2.toList) = false := beq_eq_false_iff_ne.mpr c5
    have c5b1 : (a0_2.toList != a1_2.toList) = true := bne_iff_ne.mpr c5
    obtain rfl := Option.some.inj H
    go_enter Try.func123, Try.ntmps123
    go_wp2_with (first | ((with_reducible refine gD 2 rfl ?_); refine boxZ 2 #[.int .i64 a0_0, .string a0_1, .string a0_2, .string a0_3] 130 ?_; intro gb343 hg w17 hbox hb; have BK343 := Aside0.mk hbox; have GW343 := gw (w := w) hg; have GE343 := gw (w := w) hg; replace HB := bs (w := w) hb; clear hb hbox hg) | ((with_reducible refine gD 3 rfl ?_); refine boxZ 3 #[.int .i64 a1_0, .string a1_1, .string a1_2, .string a1_3] 130 ?_; intro gb344 hg w18 hbox hb; have BK344 := Aside0.mk hbox; have GW344 := gw (w := w) hg; have GE344 := gw (w := w) hg; replace HB := bs (w := w) hb; have NB343_344 := nl BK343 hg; have NB344_343 := nr BK343 hg; replace BK343 := bv BK343 hb; clear hb hbox hg; have hnb19 := NB343_344.out; have hnc19 := NB344_343.out; obtain ⟨hcz20_0, hcz20_1, hcz20_2, hcz20_3, hfz20_0, hfz20_1, hfz20_2, hfz20_3⟩ := cf4 BK343; obtain ⟨hcz21_0, hcz21_1, hcz21_2, hcz21_3, hfz21_0, hfz21_1, hfz21_2, hfz21_3⟩ := cf4 BK344))
    go_ret
    exact ⟨fe, bl⟩
  ·rw [if_neg c4] at H
   have c4b0 : (a0_1.toList == a1_1.toList) = false := beq_eq_false_iff_ne.mpr c4
   have c4b1 : (a0_1.toList != a1_1.toList) = true := bne_iff_ne.mpr c4
   obtain rfl := Option.some.inj H
   go_enter Try.func123, Try.ntmps123
   go_wp2_with (first | ((with_reducible refine gD 2 rfl ?_); refine boxZ 2 #[.int .i64 a0_0, .string a0_1, .string a0_2, .string a0_3] 130 ?_; intro gb343 hg w22 hbox hb; have BK343 := Aside0.mk hbox; have GW343 := gw (w := w) hg; have GE343 := gw (w := w) hg; replace HB := bs (w := w) hb; clear hb hbox hg) | ((with_reducible refine gD 3 rfl ?_); refine boxZ 3 #[.int .i64 a1_0, .string a1_1, .string a1_2, .string a1_3] 130 ?_; intro gb344 hg w23 hbox hb; have BK344 := Aside0.mk hbox; have GW344 := gw (w := w) hg; have GE344 := gw (w := w) hg; replace HB := bs (w := w) hb; have NB343_344 := nl BK343 hg; have NB344_343 := nr BK343 hg; replace BK343 := bv BK343 hb; clear hb hbox hg; have hnb24 := NB343_344.out; have hnc24 := NB344_343.out; obtain ⟨hcz25_0, hcz25_1, hcz25_2, hcz25_3, hfz25_0, hfz25_1, hfz25_2, hfz25_3⟩ := cf4 BK343; obtain ⟨hcz26_0, hcz26_1, hcz26_2, hcz26_3, hfz26_0, hfz26_1, hfz26_2, hfz26_3⟩ := cf4 BK344))
   go_ret
   exact ⟨fe, bl⟩
 ·rw [if_neg c3] at H
  have c3b0 : (a0_0 == a1_0) = false := beq_eq_false_iff_ne.mpr c3
  have c3b1 : (a0_0 != a1_0) = true := bne_iff_ne.mpr c3
  obtain rfl := Option.some.inj H
  go_enter Try.func123, Try.ntmps123
  go_wp2_with (first | ((with_reducible refine gD 2 rfl ?_); refine boxZ 2 #[.int .i64 a0_0, .string a0_1, .string a0_2, .string a0_3] 130 ?_; intro gb343 hg w27 hbox hb; have BK343 := Aside0.mk hbox; have GW343 := gw (w := w) hg; have GE343 := gw (w := w) hg; replace HB := bs (w := w) hb; clear hb hbox hg) | ((with_reducible refine gD 3 rfl ?_); refine boxZ 3 #[.int .i64 a1_0, .string a1_1, .string a1_2, .string a1_3] 130 ?_; intro gb344 hg w28 hbox hb; have BK344 := Aside0.mk hbox; have GW344 := gw (w := w) hg; have GE344 := gw (w := w) hg; replace HB := bs (w := w) hb; have NB343_344 := nl BK343 hg; have NB344_343 := nr BK343 hg; replace BK343 := bv BK343 hb; clear hb hbox hg; have hnb29 := NB343_344.out; have hnc29 := NB344_343.out; obtain ⟨hcz30_0, hcz30_1, hcz30_2, hcz30_3, hfz30_0, hfz30_1, hfz30_2, hfz30_3⟩ := cf4 BK343; obtain ⟨hcz31_0, hcz31_1, hcz31_2, hcz31_3, hfz31_0, hfz31_1, hfz31_2, hfz31_3⟩ := cf4 BK344))
  go_ret
  exact ⟨fe, bl⟩

/-! ### laws_eqStepS: function 73 -/
def laws_eqStepS.l0 : Nat → List (S130) → List (S130) → Int → Option (Bool)
 | 0, _, _, _ => none
 | k + 1, x0, x1, x5 => if x5 < (x0.length : Int) then (if 0 ≤ x5 then (if x5 < (x1.length : Int) then ((laws_eqStep.f ((rd_T130 x0 x5).f0) ((rd_T130 x0 x5).f1) ((rd_T130 x0 x5).f2) ((rd_T130 x0 x5).f3) ((rd_T130 x1 x5).f0) ((rd_T130 x1 x5).f1) ((rd_T130 x1 x5).f2) ((rd_T130 x1 x5).f3)).bind fun t347 => (if t347 = true then (laws_eqStepS.l0 k x0 x1 (wrap64 (x5 + 1))) else (some false))) else (none)) else (none)) else (some true)
def laws_eqStepS.f (k : Nat) (l0 : List (S130)) (l1 : List (S130)) : Option (Bool) := if (l0.length : Int) = (l1.length : Int) then (laws_eqStepS.l0 k l0 l1 0) else (some false)
theorem laws_eqStepS.mono_l : ∀ k, (∀ y0 y1 y2, LeO (laws_eqStepS.l0 k y0 y1 y2) (laws_eqStepS.l0 (k + 1) y0 y1 y2))
 | 0 => fun _ _ _ r h => by simp [laws_eqStepS.l0] at h
 | k + 1 => by
  have ih0 := laws_eqStepS.mono_l k
  ·intro y0 y1 y2
   unfold laws_eqStepS.l0
   repeat' first
   | (with_reducible exact ih0 _ _ _)
   | (with_reducible exact LeO.refl _)
   | (with_reducible exact LeO.none _)
   | (with_reducible refine LeO.ite ?_ ?_)
   | (with_reducible refine LeO.bind ?_ (fun _ => ?_))
   | exact ih0 _ _ _
   | exact LeO.none _
   | refine LeO.ite ?_ ?_
   | refine LeO.bind ?_ (fun _ => ?_)
theorem laws_eqStepS.mono : ∀ a0 a1 k, LeO (laws_eqStepS.f k a0 a1) (laws_eqStepS.f (k + 1) a0 a1) := by
 intro a0 a1 k
 have ih0 := laws_eqStepS.mono_l k
 unfold laws_eqStepS.f
 repeat' first
  | (with_reducible exact ih0 _ _ _)
  | (with_reducible exact LeO.refl _)
  | (with_reducible exact LeO.none _)
  | (with_reducible refine LeO.ite ?_ ?_)
  | (with_reducible refine LeO.bind ?_ (fun _ => ?_))
  | exact ih0 _ _ _
  | exact LeO.none _
  | refine LeO.ite ?_ ?_
  | refine LeO.bind ?_ (fun _ => ?_)
def laws_eqStepS.T6 : Bool × List (List Nat × List Nat) := (true, [([], []), ([], []), ([0, 1], [0, 1]), ([2], [2]), ([], []), ([], []), ([4, 5], [4, 5]), ([6], [6]), ([3, 7], [3, 7]), ([8], [8])])
def laws_eqStepS.B6 : List Nat := [0, 0, 3, 7, 0, 0, 48, 112, 255, 511]
theorem laws_eqStepS.tab6 : rtab .any (opsOf Try.f73 6) = laws_eqStepS.T6 := by kernel_rfl
theorem laws_eqStepS.bits6 : waitsOk laws_eqStepS.T6.2 laws_eqStepS.B6 = true := by kernel_rfl
set_option maxHeartbeats 8000000 in
set_option maxRecDepth 100000 in
theorem laws_eqStepS.calls (k : Nat) (A0 : Option Addr) (c0 : Nat) (l0 : List (S130)) (A1 : Option Addr) (c1 : Nat) (l1 : List (S130)) (r : Bool) (w : World) (hr0 : Kd.C k130 w A0 l0.length l0) (hc0 : l0.length ≤ c0) (hr1 : Kd.C k130 w A1 l1.length l1) (hc1 : l1.length ≤ c1) (h : laws_eqStepS.f k l0 l1 = some r) :
 Calls Try.prog 73 #[.slice A0 l0.length c0, .slice A1 l1.length c1] w fun e w' => e = .returned (.bool r) ∧ Below w.heap.size w w' := by
 have hu130 := Try.underlying130
 have HR0 := Aside0.mk hr0
 have HC0 := Aside0.mk hc0
 clear hr0 hc0
 have HR1 := Aside0.mk hr1
 have HC1 := Aside0.mk hc1
 clear hr1 hc1
 have HB := Aside0.mk (Below.refl w.heap.size w)
 have H : (if (l0.length : Int) = (l1.length : Int) then (laws_eqStepS.l0 k l0 l1 0) else (some false)) = some r := h
 clear h
 by_cases c3 : (l0.length : Int) = (l1.length : Int)
 ·rw [if_pos c3] at H
  have c3b0 : ((l0.length : Int) == (l1.length : Int)) = true := beq_iff_eq.mpr c3
  have c3b1 : ((l0.length : Int) != (l1.length : Int)) = false := bne_eq_false_iff_eq.mpr c3
  have c3b2 : (l0.length == l1.length) = true := by first | simpa using c3 | (simp at c3 ⊢; omega)
  clear c3
  have H' := Aside0.mk H
  clear H
  go_enter Try.func73, Try.ntmps73
  go_wp2
  go_loopg [5] k (fun kq v5 w' => ∃ (x5_1 : Int), v5 = .int .i64 x5_1 ∧ Aside0 (laws_eqStepS.l0 kq l0 l1 x5_1 = some r) ∧ Aside0 (kq ≤ k) ∧ Aside0 (Below w.heap.size w w'))
  case atStart => exact ⟨(0), fa, H', ⟨Nat.le_refl _⟩, ⟨bl⟩⟩
  case round =>
   clear H'
   try clear c1
   try clear p2
   try clear c3
   try clear c3b0
   try clear c3b1
   try clear c3b2
   obtain ⟨x5_1, rfl, HA, HK1, HB⟩ := hrel
   cases gk with
   | zero => exact absurd HA.out (by simp [laws_eqStepS.l0])
   | succ k1 =>
    have H := HA.out
    clear HA
    simp only [laws_eqStepS.l0] at H
    by_cases c4 : x5_1 < (l0.length : Int)
    ·rw [if_pos c4] at H
     have c4b0 : decide (x5_1 < (l0.length : Int)) = true := decide_eq_true c4
     clear c4
     by_cases c5 : 0 ≤ x5_1
     ·rw [if_pos c5] at H
      have c5b0 : decide (0 ≤ x5_1) = true := decide_eq_true c5
      clear c5
      by_cases c6 : x5_1 < (l1.length : Int)
      ·rw [if_pos c6] at H
       have c6b0 : decide (x5_1 < (l1.length : Int)) = true := decide_eq_true c6
       clear c6
       obtain ⟨t347, A7, H⟩ := bd H
       by_cases c8 : t347 = true
       ·subst c8
        replace H := iT H
        have H' := Aside0.mk H
        clear H
        try go_wp2
        have n0_ := Aside0.mk (below_drew1 HB.out)
        clear HB
        have HB := n0_
        clear n0_
        have p345 : 0 ≤ (x5_1 : Int) := of_decide_eq_true am
        have q345 : x5_1 < (l0.length : Int) := of_decide_eq_true am
        obtain ⟨ad345, e345, hx345_0, hx345_1, hx345_2, hx345_3⟩ := at_T130 HR0.out x5_1 p345 q345
        have hw345_3 := hx345_3
        have hw345_2 := hx345_2
        have hw345_1 := hx345_1
        have hw345_0 := hx345_0
        cases e345
        replace hx345_0 := cz HB hx345_0
        replace hx345_1 := cz HB hx345_1
        replace hx345_2 := cz HB hx345_2
        replace hx345_3 := cz HB hx345_3
        replace p345 := eq_true p345
        replace q345 := eq_true q345
        have p346 : 0 ≤ (x5_1 : Int) := of_decide_eq_true am
        have q346 : x5_1 < (l1.length : Int) := of_decide_eq_true am
        obtain ⟨ad346, e346, hx346_0, hx346_1, hx346_2, hx346_3⟩ := at_T130 HR1.out x5_1 p346 q346
        have hw346_3 := hx346_3
        have hw346_2 := hx346_2
        have hw346_1 := hx346_1
        have hw346_0 := hx346_0
        cases e346
        replace hx346_0 := cz HB hx346_0
        replace hx346_1 := cz HB hx346_1
        replace hx346_2 := cz HB hx346_2
        replace hx346_3 := cz HB hx346_3
        replace p346 := eq_true p346
        replace q346 := eq_true q346
        refine start_ (n := 10) (S := fun w' => w'.cell? (ad345.add ((x5_1).toNat * 4)) = some (.int .i64 ((rd_T130 l0 x5_1).f0)) ∧ w'.cell? ⟨(ad345.add ((x5_1).toNat * 4)).block, (ad345.add ((x5_1).toNat * 4)).off + 1, none⟩ = some (.string ((rd_T130 l0 x5_1).f1)) ∧ w'.cell? ⟨(ad345.add ((x5_1).toNat * 4)).block, (ad345.add ((x5_1).toNat * 4)).off + 2, none⟩ = some (.string ((rd_T130 l0 x5_1).f2)) ∧ w'.cell? ⟨(ad345.add ((x5_1).toNat * 4)).block, (ad345.add ((x5_1).toNat * 4)).off + 3, none⟩ = some (.string ((rd_T130 l0 x5_1).f3)) ∧ w'.cell? (ad346.add ((x5_1).toNat * 4)) = some (.int .i64 ((rd_T130 l1 x5_1).f0)) ∧ w'.cell? ⟨(ad346.add ((x5_1).toNat * 4)).block, (ad346.add ((x5_1).toNat * 4)).off + 1, none⟩ = some (.string ((rd_T130 l1 x5_1).f1)) ∧ w'.cell? ⟨(ad346.add ((x5_1).toNat * 4)).block, (ad346.add ((x5_1).toNat * 4)).off + 2, none⟩ = some (.string ((rd_T130 l1 x5_1).f2)) ∧ w'.cell? ⟨(ad346.add ((x5_1).toNat * 4)).block, (ad346.add ((x5_1).toNat * 4)).off + 3, none⟩ = some (.string ((rd_T130 l1 x5_1).f3))) (ds := []) (bo 10 0) (by kernel_rfl) rfl rfl ⟨((HB.out.cell (World.block_lt_of_cell? w _ hw345_0)).trans hw345_0), ((HB.out.cell (World.block_lt_of_cell? w _ hw345_1)).trans hw345_1), ((HB.out.cell (World.block_lt_of_cell? w _ hw345_2)).trans hw345_2), ((HB.out.cell (World.block_lt_of_cell? w _ hw345_3)).trans hw345_3), ((HB.out.cell (World.block_lt_of_cell? w _ hw346_0)).trans hw346_0), ((HB.out.cell (World.block_lt_of_cell? w _ hw346_1)).trans hw346_1), ((HB.out.cell (World.block_lt_of_cell? w _ hw346_2)).trans hw346_2), ((HB.out.cell (World.block_lt_of_cell? w _ hw346_3)).trans hw346_3)⟩ (fun hHeld => ?_); refine with_tabW laws_eqStepS.tab6 laws_eqStepS.bits6 (fun HT_ HW_ => ?_)
        generalize wr.drew = w9 at HB hx345_0 hx345_1 hx345_2 hx345_3 hx346_0 hx346_1 hx346_2 hx346_3 hHeld ⊢
        refine pure_ (i := 0) (N := some 17) (v := ?_) (a' := ?_) (bo 10 1) rfl rfl (any_of HT_.out (by kernel_rfl)) (fun _ _ _ h => h) (Or.inl ⟨by rfl, ?_⟩) ?_ ?_
        rotate_left
        ·intro w'
         go_simp
         with_reducible rfl
        rotate_left
        ·simp only [Act.put, List.setIfInBounds_toArray, List.set_cons_zero, List.set_cons_succ, i64_w, i32_w]
         rfl
        refine pure_ (i := 1) (N := some 18) (v := ?_) (a' := ?_) (bo 10 3) rfl rfl (any_of HT_.out (by kernel_rfl)) (fun _ _ _ h => h) (Or.inl ⟨by rfl, ?_⟩) ?_ ?_
        rotate_left
        ·intro w'
         go_simp
         with_reducible rfl
        rotate_left
        ·simp only [Act.put, List.setIfInBounds_toArray, List.set_cons_zero, List.set_cons_succ, i64_w, i32_w]
         rfl
        refine pure_ (i := 2) (N := some 19) (v := ?_) (a' := ?_) (bo 10 7) rfl rfl (any_of HT_.out (by kernel_rfl)) (fun _ _ _ h => h) (Or.inl ⟨by rfl, ?_⟩) ?_ ?_
        rotate_left
        ·intro w'
         go_simp
         with_reducible rfl
        rotate_left
        ·simp only [Act.put, List.setIfInBounds_toArray, List.set_cons_zero, List.set_cons_succ, i64_w, i32_w]
         rfl
        refine pure_ (i := 4) (N := some 21) (v := ?_) (a' := ?_) (bo 10 23) rfl rfl (any_of HT_.out (by kernel_rfl)) (fun _ _ _ h => h) (Or.inl ⟨by rfl, ?_⟩) ?_ ?_
        rotate_left
        ·intro w'
         go_simp
         with_reducible rfl
        rotate_left
        ·simp only [Act.put, List.setIfInBounds_toArray, List.set_cons_zero, List.set_cons_succ, i64_w, i32_w]
         rfl
        refine pure_ (i := 5) (N := some 22) (v := ?_) (a' := ?_) (bo 10 55) rfl rfl (any_of HT_.out (by kernel_rfl)) (fun _ _ _ h => h) (Or.inl ⟨by rfl, ?_⟩) ?_ ?_
        rotate_left
        ·intro w'
         go_simp
         with_reducible rfl
        rotate_left
        ·simp only [Act.put, List.setIfInBounds_toArray, List.set_cons_zero, List.set_cons_succ, i64_w, i32_w]
         rfl
        refine pure_ (i := 6) (N := some 23) (v := ?_) (a' := ?_) (bo 10 119) rfl rfl (any_of HT_.out (by kernel_rfl)) (fun _ _ _ h => h) (Or.inl ⟨by rfl, ?_⟩) ?_ ?_
        rotate_left
        ·intro w'
         go_simp
         with_reducible rfl
        rotate_left
        ·simp only [Act.put, List.setIfInBounds_toArray, List.set_cons_zero, List.set_cons_succ, i64_w, i32_w]
         rfl
        refine take_ (i := 3) (N := some 20) (v := ?_) (a' := ?_) (bo 10 127) rfl rfl (take_ofW HT_.out HW_.out (by kernel_rfl)) (fun _ _ _ h => h) (Or.inl ⟨by rfl, ?_⟩) hHeld ?_ ?_
        rotate_left
        ·rintro w' ⟨s0, s1, s2, s3, s4, s5, s6, s7⟩
         go_simp
         with_reducible rfl
        rotate_left
        ·simp only [Act.put, List.setIfInBounds_toArray, List.set_cons_zero, List.set_cons_succ, i64_w, i32_w]
         rfl
        refine take_ (i := 7) (N := some 24) (v := ?_) (a' := ?_) (bo 10 255) rfl rfl (take_ofW HT_.out HW_.out (by kernel_rfl)) (fun _ _ _ h => h) (Or.inl ⟨by rfl, ?_⟩) hHeld ?_ ?_
        rotate_left
        ·rintro w' ⟨s0, s1, s2, s3, s4, s5, s6, s7⟩
         go_simp
         with_reducible rfl
        rotate_left
        ·simp only [Act.put, List.setIfInBounds_toArray, List.set_cons_zero, List.set_cons_succ, i64_w, i32_w]
         rfl
        refine one_ (i := 8) (N := some 25) (bo 10 511) rfl rfl (one_of HT_.out (by kernel_rfl)) (by decide) (fun K hK => ?_)
        refine goes_ Try.func123 (by kernel_rfl) rfl #[.agg #[.int .i64 ((rd_T130 l0 x5_1).f0), .string ((rd_T130 l0 x5_1).f1), .string ((rd_T130 l0 x5_1).f2), .string ((rd_T130 l0 x5_1).f3)], .agg #[.int .i64 ((rd_T130 l1 x5_1).f0), .string ((rd_T130 l1 x5_1).f1), .string ((rd_T130 l1 x5_1).f2), .string ((rd_T130 l1 x5_1).f3)]] (by rfl) rfl rfl sa ?_
        with_reducible refine (laws_eqStep.calls ((rd_T130 l0 x5_1).f0) ((rd_T130 l0 x5_1).f1) ((rd_T130 l0 x5_1).f2) ((rd_T130 l0 x5_1).f3) ((rd_T130 l1 x5_1).f0) ((rd_T130 l1 x5_1).f1) ((rd_T130 l1 x5_1).f2) ((rd_T130 l1 x5_1).f3) true _ A7.out).mono ?_
        rintro e w10 ⟨rfl, hb⟩
        refine ⟨_, rfl, ?_⟩
        have n0_ := bs (w := w) hb
        clear HB
        have HB := n0_
        clear n0_
        (try clear hb)
        (try clear hb2)
        (try clear hk)
        (try clear hi)
        refine hK.out _ _ ⟨((HB.out.cell (World.block_lt_of_cell? w _ hw345_0)).trans hw345_0), ((HB.out.cell (World.block_lt_of_cell? w _ hw345_1)).trans hw345_1), ((HB.out.cell (World.block_lt_of_cell? w _ hw345_2)).trans hw345_2), ((HB.out.cell (World.block_lt_of_cell? w _ hw345_3)).trans hw345_3), ((HB.out.cell (World.block_lt_of_cell? w _ hw346_0)).trans hw346_0), ((HB.out.cell (World.block_lt_of_cell? w _ hw346_1)).trans hw346_1), ((HB.out.cell (World.block_lt_of_cell? w _ hw346_2)).trans hw346_2), ((HB.out.cell (World.block_lt_of_cell? w _ hw346_3)).trans hw346_3)⟩ (fun hHeld => ?_)
        clear hK K
        refine norm_ (a' := ?_) ?_ ?_
        rotate_left
        ·show Act.put _ (some 25) _ = _
         simp only [Act.put, List.setIfInBounds_toArray, List.set_cons_zero, List.set_cons_succ, i64_w, i32_w]
         rfl
        refine pure_ (i := 9) (N := some 26) (v := ?_) (a' := ?_) (bo 10 1023) rfl rfl (any_of HT_.out (by kernel_rfl)) (fun _ _ _ h => h) (Or.inl ⟨by rfl, ?_⟩) ?_ ?_
        rotate_left
        ·intro w'
         go_simp
         with_reducible rfl
        rotate_left
        ·simp only [Act.put, List.setIfInBounds_toArray, List.set_cons_zero, List.set_cons_succ, i64_w, i32_w]
         rfl
        refine done_ (done_of HT_.out (by kernel_rfl)) ?_
        try go_wp2
        go_roundg k1
        case measure => have := HK1.out; omega
        case rel => exact ⟨(wrap64 (x5_1 + 1)), fa, H', ⟨by have := HK1.out; omega⟩, ⟨bl⟩⟩
       ·replace c8 := Bool.eq_false_iff.mpr c8
        subst c8
        replace H := iF H
        obtain rfl := Option.some.inj H
        try go_wp2
        have n0_ := Aside0.mk (below_drew1 HB.out)
        clear HB
        have HB := n0_
        clear n0_
        have p345 : 0 ≤ (x5_1 : Int) := of_decide_eq_true am
        have q345 : x5_1 < (l0.length : Int) := of_decide_eq_true am
        obtain ⟨ad345, e345, hx345_0, hx345_1, hx345_2, hx345_3⟩ := at_T130 HR0.out x5_1 p345 q345
        have hw345_3 := hx345_3
        have hw345_2 := hx345_2
        have hw345_1 := hx345_1
        have hw345_0 := hx345_0
        cases e345
        replace hx345_0 := cz HB hx345_0
        replace hx345_1 := cz HB hx345_1
        replace hx345_2 := cz HB hx345_2
        replace hx345_3 := cz HB hx345_3
        replace p345 := eq_true p345
        replace q345 := eq_true q345
        have p346 : 0 ≤ (x5_1 : Int) := of_decide_eq_true am
        have q346 : x5_1 < (l1.length : Int) := of_decide_eq_true am
        obtain ⟨ad346, e346, hx346_0, hx346_1, hx346_2, hx346_3⟩ := at_T130 HR1.out x5_1 p346 q346
        have hw346_3 := hx346_3
        have hw346_2 := hx346_2
        have hw346_1 := hx346_1
        have hw346_0 := hx346_0
        cases e346
        replace hx346_0 := cz HB hx346_0
        replace hx346_1 := cz HB hx346_1
        replace hx346_2 := cz HB hx346_2
        replace hx346_3 := cz HB hx346_3
        replace p346 := eq_true p346
        replace q346 := eq_true q346
        refine start_ (n := 10) (S := fun w' => w'.cell? (ad345.add ((x5_1).toNat * 4)) = some (.int .i64 ((rd_T130 l0 x5_1).f0)) ∧ w'.cell? ⟨(ad345.add ((x5_1).toNat * 4)).block, (ad345.add ((x5_1).toNat * 4)).off + 1, none⟩ = some (.string ((rd_T130 l0 x5_1).f1)) ∧ w'.cell? ⟨(ad345.add ((x5_1).toNat * 4)).block, (ad345.add ((x5_1).toNat * 4)).off + 2, none⟩ = some (.string ((rd_T130 l0 x5_1).f2)) ∧ w'.cell? ⟨(ad345.add ((x5_1).toNat * 4)).block, (ad345.add ((x5_1).toNat * 4)).off + 3, none⟩ = some (.string ((rd_T130 l0 x5_1).f3)) ∧ w'.cell? (ad346.add ((x5_1).toNat * 4)) = some (.int .i64 ((rd_T130 l1 x5_1).f0)) ∧ w'.cell? ⟨(ad346.add ((x5_1).toNat * 4)).block, (ad346.add ((x5_1).toNat * 4)).off + 1, none⟩ = some (.string ((rd_T130 l1 x5_1).f1)) ∧ w'.cell? ⟨(ad346.add ((x5_1).toNat * 4)).block, (ad346.add ((x5_1).toNat * 4)).off + 2, none⟩ = some (.string ((rd_T130 l1 x5_1).f2)) ∧ w'.cell? ⟨(ad346.add ((x5_1).toNat * 4)).block, (ad346.add ((x5_1).toNat * 4)).off + 3, none⟩ = some (.string ((rd_T130 l1 x5_1).f3))) (ds := []) (bo 10 0) (by kernel_rfl) rfl rfl ⟨((HB.out.cell (World.block_lt_of_cell? w _ hw345_0)).trans hw345_0), ((HB.out.cell (World.block_lt_of_cell? w _ hw345_1)).trans hw345_1), ((HB.out.cell (World.block_lt_of_cell? w _ hw345_2)).trans hw345_2), ((HB.out.cell (World.block_lt_of_cell? w _ hw345_3)).trans hw345_3), ((HB.out.cell (World.block_lt_of_cell? w _ hw346_0)).trans hw346_0), ((HB.out.cell (World.block_lt_of_cell? w _ hw346_1)).trans hw346_1), ((HB.out.cell (World.block_lt_of_cell? w _ hw346_2)).trans hw346_2), ((HB.out.cell (World.block_lt_of_cell? w _ hw346_3)).trans hw346_3)⟩ (fun hHeld => ?_); refine with_tabW laws_eqStepS.tab6 laws_eqStepS.bits6 (fun HT_ HW_ => ?_)
        generalize wr.drew = w11 at HB hx345_0 hx345_1 hx345_2 hx345_3 hx346_0 hx346_1 hx346_2 hx346_3 hHeld ⊢
        refine pure_ (i := 0) (N := some 17) (v := ?_) (a' := ?_) (bo 10 1) rfl rfl (any_of HT_.out (by kernel_rfl)) (fun _ _ _ h => h) (Or.inl ⟨by rfl, ?_⟩) ?_ ?_
        rotate_left
        ·intro w'
         go_simp
         with_reducible rfl
        rotate_left
        ·simp only [Act.put, List.setIfInBounds_toArray, List.set_cons_zero, List.set_cons_succ, i64_w, i32_w]
         rfl
        refine pure_ (i := 1) (N := some 18) (v := ?_) (a' := ?_) (bo 10 3) rfl rfl (any_of HT_.out (by kernel_rfl)) (fun _ _ _ h => h) (Or.inl ⟨by rfl, ?_⟩) ?_ ?_
        rotate_left
        ·intro w'
         go_simp
         with_reducible rfl
        rotate_left
        ·simp only [Act.put, List.setIfInBounds_toArray, List.set_cons_zero, List.set_cons_succ, i64_w, i32_w]
         rfl
        refine pure_ (i := 2) (N := some 19) (v := ?_) (a' := ?_) (bo 10 7) rfl rfl (any_of HT_.out (by kernel_rfl)) (fun _ _ _ h => h) (Or.inl ⟨by rfl, ?_⟩) ?_ ?_
        rotate_left
        ·intro w'
         go_simp
         with_reducible rfl
        rotate_left
        ·simp only [Act.put, List.setIfInBounds_toArray, List.set_cons_zero, List.set_cons_succ, i64_w, i32_w]
         rfl
        refine pure_ (i := 4) (N := some 21) (v := ?_) (a' := ?_) (bo 10 23) rfl rfl (any_of HT_.out (by kernel_rfl)) (fun _ _ _ h => h) (Or.inl ⟨by rfl, ?_⟩) ?_ ?_
        rotate_left
        ·intro w'
         go_simp
         with_reducible rfl
        rotate_left
        ·simp only [Act.put, List.setIfInBounds_toArray, List.set_cons_zero, List.set_cons_succ, i64_w, i32_w]
         rfl
        refine pure_ (i := 5) (N := some 22) (v := ?_) (a' := ?_) (bo 10 55) rfl rfl (any_of HT_.out (by kernel_rfl)) (fun _ _ _ h => h) (Or.inl ⟨by rfl, ?_⟩) ?_ ?_
        rotate_left
        ·intro w'
         go_simp
         with_reducible rfl
        rotate_left
        ·simp only [Act.put, List.setIfInBounds_toArray, List.set_cons_zero, List.set_cons_succ, i64_w, i32_w]
         rfl
        refine pure_ (i := 6) (N := some 23) (v := ?_) (a' := ?_) (bo 10 119) rfl rfl (any_of HT_.out (by kernel_rfl)) (fun _ _ _ h => h) (Or.inl ⟨by rfl, ?_⟩) ?_ ?_
        rotate_left
        ·intro w'
         go_simp
         with_reducible rfl
        rotate_left
        ·simp only [Act.put, List.setIfInBounds_toArray, List.set_cons_zero, List.set_cons_succ, i64_w, i32_w]
         rfl
        refine take_ (i := 3) (N := some 20) (v := ?_) (a' := ?_) (bo 10 127) rfl rfl (take_ofW HT_.out HW_.out (by kernel_rfl)) (fun _ _ _ h => h) (Or.inl ⟨by rfl, ?_⟩) hHeld ?_ ?_
        rotate_left
        ·rintro w' ⟨s0, s1, s2, s3, s4, s5, s6, s7⟩
         go_simp
         with_reducible rfl
        rotate_left
        ·simp only [Act.put, List.setIfInBounds_toArray, List.set_cons_zero, List.set_cons_succ, i64_w, i32_w]
         rfl
        refine take_ (i := 7) (N := some 24) (v := ?_) (a' := ?_) (bo 10 255) rfl rfl (take_ofW HT_.out HW_.out (by kernel_rfl)) (fun _ _ _ h => h) (Or.inl ⟨by rfl, ?_⟩) hHeld ?_ ?_
        rotate_left
        ·rintro w' ⟨s0, s1, s2, s3, s4, s5, s6, s7⟩
         go_simp
         with_reducible rfl
        rotate_left
        ·simp only [Act.put, List.setIfInBounds_toArray, List.set_cons_zero, List.set_cons_succ, i64_w, i32_w]
         rfl
        refine one_ (i := 8) (N := some 25) (bo 10 511) rfl rfl (one_of HT_.out (by kernel_rfl)) (by decide) (fun K hK => ?_)
        refine goes_ Try.func123 (by kernel_rfl) rfl #[.agg #[.int .i64 ((rd_T130 l0 x5_1).f0), .string ((rd_T130 l0 x5_1).f1), .string ((rd_T130 l0 x5_1).f2), .string ((rd_T130 l0 x5_1).f3)], .agg #[.int .i64 ((rd_T130 l1 x5_1).f0), .string ((rd_T130 l1 x5_1).f1), .string ((rd_T130 l1 x5_1).f2), .string ((rd_T130 l1 x5_1).f3)]] (by rfl) rfl rfl sa ?_
        with_reducible refine (laws_eqStep.calls ((rd_T130 l0 x5_1).f0) ((rd_T130 l0 x5_1).f1) ((rd_T130 l0 x5_1).f2) ((rd_T130 l0 x5_1).f3) ((rd_T130 l1 x5_1).f0) ((rd_T130 l1 x5_1).f1) ((rd_T130 l1 x5_1).f2) ((rd_T130 l1 x5_1).f3) false _ A7.out).mono ?_
        rintro e w12 ⟨rfl, hb⟩
        refine ⟨_, rfl, ?_⟩
        have n0_ := bs (w := w) hb
        clear HB
        have HB := n0_
        clear n0_
        (try clear hb)
        (try clear hb2)
        (try clear hk)
        (try clear hi)
        refine hK.out _ _ ⟨((HB.out.cell (World.block_lt_of_cell? w _ hw345_0)).trans hw345_0), ((HB.out.cell (World.block_lt_of_cell? w _ hw345_1)).trans hw345_1), ((HB.out.cell (World.block_lt_of_cell? w _ hw345_2)).trans hw345_2), ((HB.out.cell (World.block_lt_of_cell? w _ hw345_3)).trans hw345_3), ((HB.out.cell (World.block_lt_of_cell? w _ hw346_0)).trans hw346_0), ((HB.out.cell (World.block_lt_of_cell? w _ hw346_1)).trans hw346_1), ((HB.out.cell (World.block_lt_of_cell? w _ hw346_2)).trans hw346_2), ((HB.out.cell (World.block_lt_of_cell? w _ hw346_3)).trans hw346_3)⟩ (fun hHeld => ?_)
        clear hK K
        refine norm_ (a' := ?_) ?_ ?_
        rotate_left
        ·show Act.put _ (some 25) _ = _
         simp only [Act.put, List.setIfInBounds_toArray, List.set_cons_zero, List.set_cons_succ, i64_w, i32_w]
         rfl
        refine pure_ (i := 9) (N := some 26) (v := ?_) (a' := ?_) (bo 10 1023) rfl rfl (any_of HT_.out (by kernel_rfl)) (fun _ _ _ h => h) (Or.inl ⟨by rfl, ?_⟩) ?_ ?_
        rotate_left
        ·intro w'
         go_simp
         with_reducible rfl
        rotate_left
        ·simp only [Act.put, List.setIfInBounds_toArray, List.set_cons_zero, List.set_cons_succ, i64_w, i32_w]
         rfl
        refine done_ (done_of HT_.out (by kernel_rfl)) ?_
        try go_wp2
        go_ret
        exact ⟨fe, bl⟩
      ·rw [if_neg c6] at H
       exact absurd H (by simp)
     ·rw [if_neg c5] at H
      exact absurd H (by simp)
    ·rw [if_neg c4] at H
     have c4b0 : decide (x5_1 < (l0.length : Int)) = false := decide_eq_false c4
     clear c4
     obtain rfl := Option.some.inj H
     go_wp2
     go_ret
     exact ⟨fe, bl⟩
 ·rw [if_neg c3] at H
  have c3b0 : ((l0.length : Int) == (l1.length : Int)) = false := beq_eq_false_iff_ne.mpr c3
  have c3b1 : ((l0.length : Int) != (l1.length : Int)) = true := bne_iff_ne.mpr c3
  have c3b2 : (l0.length == l1.length) = false := by first | simpa using c3 | (simp at c3 ⊢; omega)
  obtain rfl := Option.some.inj H
  go_enter Try.func73, Try.ntmps73
  go_wp2
  go_ret
  exact ⟨fe, bl⟩

/-! ### laws_markStepS: function 74 -/
def laws_markStepS.l0 : Nat → List (S130) → Int → Int → Option (Int × (List (S130)))
 | 0, _, _, _ => none
 | k + 1, x0, x1, x5 => if x5 < (x0.length : Int) then (if 0 ≤ x5 then ((some (x0.set (x5 : Int).toNat (⟨x1, (rd_T130 x0 x5).f1, (rd_T130 x0 x5).f2, (rd_T130 x0 x5).f3⟩ : S130) : List (S130))).bind fun y348 => ((laws_markText.f k (wrap64 (x1 + 1))).bind fun t349 => ((some (y348.set (x5 : Int).toNat (⟨(rd_T130 y348 x5).f0, t349, (rd_T130 y348 x5).f2, (rd_T130 y348 x5).f3⟩ : S130) : List (S130))).bind fun y350 => ((laws_markText.f k (wrap64 ((wrap64 (x1 + 1)) + 1))).bind fun t351 => ((some (y350.set (x5 : Int).toNat (⟨(rd_T130 y350 x5).f0, (rd_T130 y350 x5).f1, t351, (rd_T130 y350 x5).f3⟩ : S130) : List (S130))).bind fun y352 => ((laws_markText.f k (wrap64 ((wrap64 ((wrap64 (x1 + 1)) + 1)) + 1))).bind fun t353 => (laws_markStepS.l0 k (y352.set (x5 : Int).toNat (⟨(rd_T130 y352 x5).f0, (rd_T130 y352 x5).f1, (rd_T130 y352 x5).f2, t353⟩ : S130)) (wrap64 ((wrap64 ((wrap64 ((wrap64 (x1 + 1)) + 1)) + 1)) + 1)) (wrap64 (x5 + 1))))))))) else (none)) else (some (x1, x0))
def laws_markStepS.f (k : Nat) (l0 : List (S130)) (a1 : Int) : Option (Int × (List (S130))) := laws_markStepS.l0 k l0 a1 0
theorem laws_markStepS.mono_l : ∀ k, (∀ y0 y1 y2, LeO (laws_markStepS.l0 k y0 y1 y2) (laws_markStepS.l0 (k + 1) y0 y1 y2))
 | 0 => fun _ _ _ r h => by simp [laws_markStepS.l0] at h
 | k + 1 => by
  have ih0 := laws_markStepS.mono_l k
  ·intro y0 y1 y2
   unfold laws_markStepS.l0
   repeat' first
   | (with_reducible exact ih0 _ _ _)
   | (with_reducible exact laws_markText.mono _ _)
   | (with_reducible exact LeO.refl _)
   | (with_reducible exact LeO.none _)
   | (with_reducible refine LeO.ite ?_ ?_)
   | (with_reducible refine LeO.bind ?_ (fun _ => ?_))
   | exact ih0 _ _ _
   | exact laws_markText.mono _ _
   | exact LeO.none _
   | refine LeO.ite ?_ ?_
   | refine LeO.bind ?_ (fun _ => ?_)
theorem laws_markStepS.mono : ∀ a0 a1 k, LeO (laws_markStepS.f k a0 a1) (laws_markStepS.f (k + 1) a0 a1) := by
 intro a0 a1 k
 have ih0 := laws_markStepS.mono_l k
 unfold laws_markStepS.f
 repeat' first
  | (with_reducible exact ih0 _ _ _)
  | (with_reducible exact laws_markText.mono _ _)
  | (with_reducible exact LeO.refl _)
  | (with_reducible exact LeO.none _)
  | (with_reducible refine LeO.ite ?_ ?_)
  | (with_reducible refine LeO.bind ?_ (fun _ => ?_))
  | exact ih0 _ _ _
  | exact laws_markText.mono _ _
  | exact LeO.none _
  | refine LeO.ite ?_ ?_
  | refine LeO.bind ?_ (fun _ => ?_)
set_option maxHeartbeats 8000000 in
set_option maxRecDepth 100000 in
theorem laws_markStepS.calls (k : Nat) (P0_ : Nat → Prop) (u9000_ : Value) (l0 : List (S130)) (a1 : Int) (r1 : Int) (r2 : List (S130)) (w0 w : World) (hB : Below w0.heap.size w0 w) (ho0 : Kd.R k130 130 w w0.heap.size P0_ u9000_ l0) (h : laws_markStepS.f k l0 a1 = some (r1, r2)) :
 Calls Try.prog 74 #[u9000_, .int .i64 a1] w fun e w' => e = .returned (.int .i64 r1) ∧ Kd.R k130 130 w' w0.heap.size (fun k_ => (P0_ k_ ∨ w.heap.size ≤ k_)) u9000_ r2 ∧ Below w0.heap.size w0 w' ∧ Kept w w' (fun k_ => P0_ k_) := by
 have HO0 := Aside0.mk (show Kd.R k130 130 w w0.heap.size (fun k_ => (P0_ k_ ∨ w.heap.size ≤ k_)) u9000_ l0 from Kd.R_mono ho0 (fun k_ hk => (.inl hk)))
 have HK := Aside0.mk (Kept.refl w (fun k_ => P0_ k_))
 have HW0 := Aside0.mk hB.size
 have HB := Aside0.mk hB
 clear hB
 have H : (laws_markStepS.l0 k l0 a1 0) = some (r1, r2) := h
 clear h
 have H' := Aside0.mk H
 clear H
 go_enter Try.func74, Try.ntmps74
 go_wp2
 go_loopg [1, 5] k (fun kq v1 v5 w' => ∃ (x0_1 : List (S130)) (x1_1 : Int) (x5_1 : Int), v1 = .int .i64 x1_1 ∧ v5 = .int .i64 x5_1 ∧ Aside0 (laws_markStepS.l0 kq x0_1 x1_1 x5_1 = some (r1, r2)) ∧ Aside0 (kq ≤ k) ∧ Aside0 (Kd.R k130 130 w' w0.heap.size (fun k_ => (P0_ k_ ∨ w.heap.size ≤ k_)) u9000_ x0_1) ∧ Aside0 (Kept w w' (fun k_ => P0_ k_)) ∧ Aside0 (Below w0.heap.size w0 w'))
 case atStart => exact ⟨(l0), (a1), (0), fa, fa, H', ⟨Nat.le_refl _⟩, ⟨by (with_reducible repeat (first | apply Kd.R_alloc | apply Kd.R_drewN | apply Kd.R_drew)); exact HO0.out⟩, ⟨by repeat (first | (with_reducible first | exact HK.out | apply Kept.alloc | apply Kept.drewN | apply Kept.drew) | exact HK.out)⟩, ⟨bl⟩⟩
 case round =>
  clear H'
  try clear p2
  obtain ⟨x0_1, x1_1, x5_1, rfl, rfl, HA, HK1, HO_0, HK, HB⟩ := hrel
  cases gk with
  | zero => exact absurd HA.out (by simp [laws_markStepS.l0])
  | succ k1 =>
   have H := HA.out
   clear HA
   simp only [laws_markStepS.l0] at H
   by_cases c3 : x5_1 < (x0_1.length : Int)
   ·rw [if_pos c3] at H
    have c3b0 : decide (x5_1 < (x0_1.length : Int)) = true := decide_eq_true c3
    clear c3
    by_cases c4 : 0 ≤ x5_1
    ·rw [if_pos c4] at H
     have c4b0 : decide (0 ≤ x5_1) = true := decide_eq_true c4
     clear c4
     obtain ⟨y348, hy348⟩ : ∃ y_ : List (S130), y_ = (x0_1.set (x5_1 : Int).toNat (⟨x1_1, (rd_T130 x0_1 x5_1).f1, (rd_T130 x0_1 x5_1).f2, (rd_T130 x0_1 x5_1).f3⟩ : S130)) := ⟨_, rfl⟩
     replace H : ((laws_markText.f k1 (wrap64 (x1_1 + 1))).bind fun t349 => ((some (y348.set (x5_1 : Int).toNat (⟨(rd_T130 y348 x5_1).f0, t349, (rd_T130 y348 x5_1).f2, (rd_T130 y348 x5_1).f3⟩ : S130) : List (S130))).bind fun y350 => ((laws_markText.f k1 (wrap64 ((wrap64 (x1_1 + 1)) + 1))).bind fun t351 => ((some (y350.set (x5_1 : Int).toNat (⟨(rd_T130 y350 x5_1).f0, (rd_T130 y350 x5_1).f1, t351, (rd_T130 y350 x5_1).f3⟩ : S130) : List (S130))).bind fun y352 => ((laws_markText.f k1 (wrap64 ((wrap64 ((wrap64 (x1_1 + 1)) + 1)) + 1))).bind fun t353 => (laws_markStepS.l0 k1 (y352.set (x5_1 : Int).toNat (⟨(rd_T130 y352 x5_1).f0, (rd_T130 y352 x5_1).f1, (rd_T130 y352 x5_1).f2, t353⟩ : S130)) (wrap64 ((wrap64 ((wrap64 ((wrap64 (x1_1 + 1)) + 1)) + 1)) + 1)) (wrap64 (x5_1 + 1)))))))) = some (r1, r2) := by first | (rw [hy348]; with_reducible exact H) | (have H2_ := (Option.bind_some _ _).symm.trans H; rw [hy348]; with_reducible exact H2_) | (have H2_ := (Option.bind_some _ _).symm.trans H; with_reducible exact H2_) | with_reducible exact H | (rw [hy348]; exact H) | exact H
     have Ny348 := Aside0.mk hy348
     clear hy348
     obtain ⟨t349, A6, H⟩ := bd H
     obtain ⟨y350, hy350⟩ : ∃ y_ : List (S130), y_ = (y348.set (x5_1 : Int).toNat (⟨(rd_T130 y348 x5_1).f0, t349, (rd_T130 y348 x5_1).f2, (rd_T130 y348 x5_1).f3⟩ : S130)) := ⟨_, rfl⟩
     replace H : ((laws_markText.f k1 (wrap64 ((wrap64 (x1_1 + 1)) + 1))).bind fun t351 => ((some (y350.set (x5_1 : Int).toNat (⟨(rd_T130 y350 x5_1).f0, (rd_T130 y350 x5_1).f1, t351, (rd_T130 y350 x5_1).f3⟩ : S130) : List (S130))).bind fun y352 => ((laws_markText.f k1 (wrap64 ((wrap64 ((wrap64 (x1_1 + 1)) + 1)) + 1))).bind fun t353 => (laws_markStepS.l0 k1 (y352.set (x5_1 : Int).toNat (⟨(rd_T130 y352 x5_1).f0, (rd_T130 y352 x5_1).f1, (rd_T130 y352 x5_1).f2, t353⟩ : S130)) (wrap64 ((wrap64 ((wrap64 ((wrap64 (x1_1 + 1)) + 1)) + 1)) + 1)) (wrap64 (x5_1 + 1)))))) = some (r1, r2) := by first | (rw [hy350]; with_reducible exact H) | (have H2_ := (Option.bind_some _ _).symm.trans H; rw [hy350]; with_reducible exact H2_) | (have H2_ := (Option.bind_some _ _).symm.trans H; with_reducible exact H2_) | with_reducible exact H | (rw [hy350]; exact H) | exact H
     have Ny350 := Aside0.mk hy350
     clear hy350
     obtain ⟨t351, A8, H⟩ := bd H
     obtain ⟨y352, hy352⟩ : ∃ y_ : List (S130), y_ = (y350.set (x5_1 : Int).toNat (⟨(rd_T130 y350 x5_1).f0, (rd_T130 y350 x5_1).f1, t351, (rd_T130 y350 x5_1).f3⟩ : S130)) := ⟨_, rfl⟩
     replace H : ((laws_markText.f k1 (wrap64 ((wrap64 ((wrap64 (x1_1 + 1)) + 1)) + 1))).bind fun t353 => (laws_markStepS.l0 k1 (y352.set (x5_1 : Int).toNat (⟨(rd_T130 y352 x5_1).f0, (rd_T130 y352 x5_1).f1, (rd_T130 y352 x5_1).f2, t353⟩ : S130)) (wrap64 ((wrap64 ((wrap64 ((wrap64 (x1_1 + 1)) + 1)) + 1)) + 1)) (wrap64 (x5_1 + 1)))) = some (r1, r2) := by first | (rw [hy352]; with_reducible exact H) | (have H2_ := (Option.bind_some _ _).symm.trans H; rw [hy352]; with_reducible exact H2_) | (have H2_ := (Option.bind_some _ _).symm.trans H; with_reducible exact H2_) | with_reducible exact H | (rw [hy352]; exact H) | exact H
     have Ny352 := Aside0.mk hy352
     clear hy352
     obtain ⟨t353, A10, H⟩ := bd H
     obtain ⟨y354, hy354⟩ : ∃ y_ : List (S130), y_ = (y352.set (x5_1 : Int).toNat (⟨(rd_T130 y352 x5_1).f0, (rd_T130 y352 x5_1).f1, (rd_T130 y352 x5_1).f2, t353⟩ : S130)) := ⟨_, rfl⟩
     replace H : (laws_markStepS.l0 k1 y354 (wrap64 ((wrap64 ((wrap64 ((wrap64 (x1_1 + 1)) + 1)) + 1)) + 1)) (wrap64 (x5_1 + 1))) = some (r1, r2) := by first | (rw [hy354]; with_reducible exact H) | (have H2_ := (Option.bind_some _ _).symm.trans H; rw [hy354]; with_reducible exact H2_) | (have H2_ := (Option.bind_some _ _).symm.trans H; with_reducible exact H2_) | with_reducible exact H | (rw [hy354]; exact H) | exact H
     have Ny354 := Aside0.mk hy354
     clear hy354
     have H' := Aside0.mk H
     clear H
     obtain ⟨Ao12, co12, eo12⟩ := Kd.R_slice HO_0.out
     subst eo12
     have p5 : 0 ≤ (x5_1 : Int) := of_decide_eq_true am
     have q5 : (x5_1 : Int) < ((x0_1.length : Int) : Int) := of_decide_eq_true am
     obtain ⟨go5, co5, eo5, gb5, gl5, cl5, HG5⟩ := Kd.R_form HO_0.out (by omega)
     (first | cases eo5 | (injection eo5 with ea_ en_ ec_; (first | subst ea_ | (injection ea_ with ea_; subst ea_)); subst ec_; clear en_))
     have GB5 := Aside0.mk gb5
     have GG5 := Aside0.mk HG5
     clear gb5 gl5 HG5
     have HMgo5 := Aside0.mk (show (P0_ go5 ∨ w.heap.size ≤ go5) from (HO_0.out.1 _ rfl))
     obtain ⟨ce5, hcl5, hM5, hcc5, hfr5⟩ := Kd.R_elem HO_0.out z130 (x5_1 : Int) p5 q5
     obtain rfl := k130_openM hM5
     have hx5_0 : wr.cell? ⟨go5, (x5_1 : Int).toNat * 4, none⟩ = some (.int .i64 ((rd_T130 x0_1 x5_1).f0)) := hcc5 0 _ rfl
     have hx5_1 : wr.cell? ⟨go5, (x5_1 : Int).toNat * 4 + 1, none⟩ = some (.string ((rd_T130 x0_1 x5_1).f1)) := hcc5 1 _ rfl
     have hx5_2 : wr.cell? ⟨go5, (x5_1 : Int).toNat * 4 + 2, none⟩ = some (.string ((rd_T130 x0_1 x5_1).f2)) := hcc5 2 _ rfl
     have hx5_3 : wr.cell? ⟨go5, (x5_1 : Int).toNat * 4 + 3, none⟩ = some (.string ((rd_T130 x0_1 x5_1).f3)) := hcc5 3 _ rfl
     have hf5_0 : wr.frozen? ⟨go5, (x5_1 : Int).toNat * 4, none⟩ = false := hfr5 0
     have hf5_1 : wr.frozen? ⟨go5, (x5_1 : Int).toNat * 4 + 1, none⟩ = false := hfr5 1
     have hf5_2 : wr.frozen? ⟨go5, (x5_1 : Int).toNat * 4 + 2, none⟩ = false := hfr5 2
     have hf5_3 : wr.frozen? ⟨go5, (x5_1 : Int).toNat * 4 + 3, none⟩ = false := hfr5 3
     clear hcl5 hcc5 hfr5 hM5
     replace p5 := eq_true p5
     replace q5 := eq_true q5
     have HX13 := Aside0.mk (show Kd.R k130 130 wr w0.heap.size (fun k_ => (P0_ k_ ∨ w.heap.size ≤ k_)) (.slice (some ⟨go5, 0, none⟩) x0_1.length co12) x0_1 from (by (with_reducible repeat (first | apply Kd.R_alloc | apply Kd.R_drewN | apply Kd.R_drew)); exact HO_0.out))
     obtain ⟨ce13, hcl13, hM13, hcc13, hfr13⟩ := Kd.R_elem HX13.out z130 (x5_1 : Int) (of_decide_eq_true am) (by have h_ : (x5_1 : Int) < ((x0_1.length : Int) : Int) := of_decide_eq_true am; first | exact h_ | (have e_ := (Kd.R_reads' HO_0.out).1; omega) | simpa using h_)
     obtain rfl := k130_openM hM13
     have HP13 := Kd.R_seg HX13.out (x5_1 : Int) (of_decide_eq_true am) (by have h_ : (x5_1 : Int) < ((x0_1.length : Int) : Int) := of_decide_eq_true am; first | exact h_ | (have e_ := (Kd.R_reads' HO_0.out).1; omega) | simpa using h_) (seg := [.int .i64 x1_1]) (j := 0) hcl13 hcc13 (show 1 ≤ 4 from by decide) (x' := (⟨x1_1, (rd_T130 x0_1 x5_1).f1, (rd_T130 x0_1 x5_1).f2, (rd_T130 x0_1 x5_1).f3⟩ : S130)) (k130_mkM _ _ _ (⟨x1_1, (rd_T130 x0_1 x5_1).f1, (rd_T130 x0_1 x5_1).f2, (rd_T130 x0_1 x5_1).f3⟩ : S130) ) (fun _ hk => hk)
     have hx13_0 := hcc13 0 _ rfl
     (try simp only [show (k130).sz = 4 from rfl, Nat.mul_one, Nat.add_zero] at hx13_0)
     have hf13_0 := hfr13 0
     (try simp only [show (k130).sz = 4 from rfl, Nat.mul_one, Nat.add_zero] at hf13_0)
     clear hcl13 hcc13 hfr13 hM13
     go_wp2_with (first | ((with_reducible refine gate_store (t := 3) (p := 16) rfl ?_); refine store_event (t := 3) (p := 16) (v := ?vo_w14) (w1 := (wr.setCell ⟨go5, (x5_1 : Int).toNat * 4, none⟩ (.int .i64 x1_1))) ?hg ?ho ?hn ?hr ?_; (case ho => rfl); (case hg => rfl); (case hn => rfl); (case hr => first | (go_simp; done) | (go_simp; rfl)); intro w14 hw; have hg : wr.grownBy w14 (some go5) := (by rw [hw]; exact HP13.2); have hp_ : Kd.R k130 130 w14 w0.heap.size (fun k_ => (P0_ k_ ∨ w.heap.size ≤ k_)) (.slice (some ⟨go5, 0, none⟩) x0_1.length co12) y348 := (by rw [hw, Ny348.out]; exact HP13.1); clear HP13; replace HB := Aside0.mk ((by rw [hw]; exact below_set (HB.out) GB5.out : Below w0.heap.size w0 w14)); replace HK := Aside0.mk (Kept.of_grown (S := (fun k_ => P0_ k_)) hg (by repeat (first | (with_reducible first | exact HK.out | apply Kept.alloc | apply Kept.drewN | apply Kept.drew) | exact HK.out)) (fun k_ e_ => (HO_0.out.1 k_ e_))); replace HO_0 := Aside0.mk (hp_); clear hg hw hp_) | ((with_reducible refine gC 116 rfl ?_); refine goesZ (some 22) rfl Try.func116 #[.int .i64 (wrap64 (x1_1 + 1))] ?_; (with_reducible refine (laws_markText.calls k1 (wrap64 (x1_1 + 1)) t349 _ A6.out).mono ?_); rintro e w15 ⟨rfl, hb⟩; refine ⟨_, rfl, ?_⟩; replace HO_0 := Aside0.mk (Kd.R_below (by (with_reducible repeat (first | apply Kd.R_alloc | apply Kd.R_drewN | apply Kd.R_drew)); exact HO_0.out) hb); replace HK := Aside0.mk (Kept.below (S := (fun k_ => P0_ k_)) (by repeat (first | (with_reducible first | exact HK.out | apply Kept.alloc | apply Kept.drewN | apply Kept.drew) | exact HK.out)) hb); replace HB := bs (w := w0) hb; (try clear hb); (try clear hb2); (try clear hk); (try clear hi); have p7 : 0 ≤ (x5_1 : Int) := of_decide_eq_true am; have q7 : (x5_1 : Int) < ((x0_1.length : Int) : Int) := of_decide_eq_true am; obtain ⟨ce7, hcl7, hM7, hcc7, hfr7⟩ := Kd.R_elem HO_0.out z130 (x5_1 : Int) p7 q7; obtain rfl := k130_openM hM7; have hx7_0 : w15.cell? ⟨go5, (x5_1 : Int).toNat * 4, none⟩ = some (.int .i64 ((rd_T130 y348 x5_1).f0)) := hcc7 0 _ rfl; have hx7_1 : w15.cell? ⟨go5, (x5_1 : Int).toNat * 4 + 1, none⟩ = some (.string ((rd_T130 y348 x5_1).f1)) := hcc7 1 _ rfl; have hx7_2 : w15.cell? ⟨go5, (x5_1 : Int).toNat * 4 + 2, none⟩ = some (.string ((rd_T130 y348 x5_1).f2)) := hcc7 2 _ rfl; have hx7_3 : w15.cell? ⟨go5, (x5_1 : Int).toNat * 4 + 3, none⟩ = some (.string ((rd_T130 y348 x5_1).f3)) := hcc7 3 _ rfl; have hf7_0 : w15.frozen? ⟨go5, (x5_1 : Int).toNat * 4, none⟩ = false := hfr7 0; have hf7_1 : w15.frozen? ⟨go5, (x5_1 : Int).toNat * 4 + 1, none⟩ = false := hfr7 1; have hf7_2 : w15.frozen? ⟨go5, (x5_1 : Int).toNat * 4 + 2, none⟩ = false := hfr7 2; have hf7_3 : w15.frozen? ⟨go5, (x5_1 : Int).toNat * 4 + 3, none⟩ = false := hfr7 3; clear hcl7 hcc7 hfr7 hM7; replace p7 := eq_true p7; replace q7 := eq_true q7; have HX16 := Aside0.mk (show Kd.R k130 130 w15 w0.heap.size (fun k_ => (P0_ k_ ∨ w.heap.size ≤ k_)) (.slice (some ⟨go5, 0, none⟩) x0_1.length co12) y348 from (by (with_reducible repeat (first | apply Kd.R_alloc | apply Kd.R_drewN | apply Kd.R_drew)); exact HO_0.out)); obtain ⟨ce16, hcl16, hM16, hcc16, hfr16⟩ := Kd.R_elem HX16.out z130 (x5_1 : Int) (of_decide_eq_true am) (by have h_ : (x5_1 : Int) < ((x0_1.length : Int) : Int) := of_decide_eq_true am; first | exact h_ | (have e_ := (Kd.R_reads' HO_0.out).1; omega) | simpa using h_); obtain rfl := k130_openM hM16; have HP16 := Kd.R_seg HX16.out (x5_1 : Int) (of_decide_eq_true am) (by have h_ : (x5_1 : Int) < ((x0_1.length : Int) : Int) := of_decide_eq_true am; first | exact h_ | (have e_ := (Kd.R_reads' HO_0.out).1; omega) | simpa using h_) (seg := [.string t349]) (j := 1) hcl16 hcc16 (show 2 ≤ 4 from by decide) (x' := (⟨(rd_T130 y348 x5_1).f0, t349, (rd_T130 y348 x5_1).f2, (rd_T130 y348 x5_1).f3⟩ : S130)) (k130_mkM _ _ _ (⟨(rd_T130 y348 x5_1).f0, t349, (rd_T130 y348 x5_1).f2, (rd_T130 y348 x5_1).f3⟩ : S130) ) (fun _ hk => hk); have hx16_1 := hcc16 1 _ rfl; (try simp only [show (k130).sz = 4 from rfl, Nat.mul_one, Nat.add_zero] at hx16_1); have hf16_1 := hfr16 1; (try simp only [show (k130).sz = 4 from rfl, Nat.mul_one, Nat.add_zero] at hf16_1); clear hcl16 hcc16 hfr16 hM16) | ((with_reducible refine gate_store (t := 9) (p := 24) rfl ?_); refine store_event (t := 9) (p := 24) (v := ?vo_w17) (w1 := (w15.setCell ⟨go5, (x5_1 : Int).toNat * 4 + 1, none⟩ (.string t349))) ?hg ?ho ?hn ?hr ?_; (case ho => rfl); (case hg => rfl); (case hn => rfl); (case hr => first | (go_simp; done) | (go_simp; rfl)); intro w17 hw; have hg : w15.grownBy w17 (some go5) := (by rw [hw]; exact HP16.2); have hp_ : Kd.R k130 130 w17 w0.heap.size (fun k_ => (P0_ k_ ∨ w.heap.size ≤ k_)) (.slice (some ⟨go5, 0, none⟩) x0_1.length co12) y350 := (by rw [hw, Ny350.out]; exact HP16.1); clear HP16; replace HB := Aside0.mk ((by rw [hw]; exact below_set (HB.out) GB5.out : Below w0.heap.size w0 w17)); replace HK := Aside0.mk (Kept.of_grown (S := (fun k_ => P0_ k_)) hg (by repeat (first | (with_reducible first | exact HK.out | apply Kept.alloc | apply Kept.drewN | apply Kept.drew) | exact HK.out)) (fun k_ e_ => (HO_0.out.1 k_ e_))); replace HO_0 := Aside0.mk (hp_); clear hg hw hp_) | ((with_reducible refine gC 116 rfl ?_); refine goesZ (some 30) rfl Try.func116 #[.int .i64 (wrap64 ((wrap64 (x1_1 + 1)) + 1))] ?_; (with_reducible refine (laws_markText.calls k1 (wrap64 ((wrap64 (x1_1 + 1)) + 1)) t351 _ A8.out).mono ?_); rintro e w18 ⟨rfl, hb⟩; refine ⟨_, rfl, ?_⟩; replace HO_0 := Aside0.mk (Kd.R_below (by (with_reducible repeat (first | apply Kd.R_alloc | apply Kd.R_drewN | apply Kd.R_drew)); exact HO_0.out) hb); replace HK := Aside0.mk (Kept.below (S := (fun k_ => P0_ k_)) (by repeat (first | (with_reducible first | exact HK.out | apply Kept.alloc | apply Kept.drewN | apply Kept.drew) | exact HK.out)) hb); replace HB := bs (w := w0) hb; (try clear hb); (try clear hb2); (try clear hk); (try clear hi); have p9 : 0 ≤ (x5_1 : Int) := of_decide_eq_true am; have q9 : (x5_1 : Int) < ((x0_1.length : Int) : Int) := of_decide_eq_true am; obtain ⟨ce9, hcl9, hM9, hcc9, hfr9⟩ := Kd.R_elem HO_0.out z130 (x5_1 : Int) p9 q9; obtain rfl := k130_openM hM9; have hx9_0 : w18.cell? ⟨go5, (x5_1 : Int).toNat * 4, none⟩ = some (.int .i64 ((rd_T130 y350 x5_1).f0)) := hcc9 0 _ rfl; have hx9_1 : w18.cell? ⟨go5, (x5_1 : Int).toNat * 4 + 1, none⟩ = some (.string ((rd_T130 y350 x5_1).f1)) := hcc9 1 _ rfl; have hx9_2 : w18.cell? ⟨go5, (x5_1 : Int).toNat * 4 + 2, none⟩ = some (.string ((rd_T130 y350 x5_1).f2)) := hcc9 2 _ rfl; have hx9_3 : w18.cell? ⟨go5, (x5_1 : Int).toNat * 4 + 3, none⟩ = some (.string ((rd_T130 y350 x5_1).f3)) := hcc9 3 _ rfl; have hf9_0 : w18.frozen? ⟨go5, (x5_1 : Int).toNat * 4, none⟩ = false := hfr9 0; have hf9_1 : w18.frozen? ⟨go5, (x5_1 : Int).toNat * 4 + 1, none⟩ = false := hfr9 1; have hf9_2 : w18.frozen? ⟨go5, (x5_1 : Int).toNat * 4 + 2, none⟩ = false := hfr9 2; have hf9_3 : w18.frozen? ⟨go5, (x5_1 : Int).toNat * 4 + 3, none⟩ = false := hfr9 3; clear hcl9 hcc9 hfr9 hM9; replace p9 := eq_true p9; replace q9 := eq_true q9; have HX19 := Aside0.mk (show Kd.R k130 130 w18 w0.heap.size (fun k_ => (P0_ k_ ∨ w.heap.size ≤ k_)) (.slice (some ⟨go5, 0, none⟩) x0_1.length co12) y350 from (by (with_reducible repeat (first | apply Kd.R_alloc | apply Kd.R_drewN | apply Kd.R_drew)); exact HO_0.out)); obtain ⟨ce19, hcl19, hM19, hcc19, hfr19⟩ := Kd.R_elem HX19.out z130 (x5_1 : Int) (of_decide_eq_true am) (by have h_ : (x5_1 : Int) < ((x0_1.length : Int) : Int) := of_decide_eq_true am; first | exact h_ | (have e_ := (Kd.R_reads' HO_0.out).1; omega) | simpa using h_); obtain rfl := k130_openM hM19; have HP19 := Kd.R_seg HX19.out (x5_1 : Int) (of_decide_eq_true am) (by have h_ : (x5_1 : Int) < ((x0_1.length : Int) : Int) := of_decide_eq_true am; first | exact h_ | (have e_ := (Kd.R_reads' HO_0.out).1; omega) | simpa using h_) (seg := [.string t351]) (j := 2) hcl19 hcc19 (show 3 ≤ 4 from by decide) (x' := (⟨(rd_T130 y350 x5_1).f0, (rd_T130 y350 x5_1).f1, t351, (rd_T130 y350 x5_1).f3⟩ : S130)) (k130_mkM _ _ _ (⟨(rd_T130 y350 x5_1).f0, (rd_T130 y350 x5_1).f1, t351, (rd_T130 y350 x5_1).f3⟩ : S130) ) (fun _ hk => hk); have hx19_2 := hcc19 2 _ rfl; (try simp only [show (k130).sz = 4 from rfl, Nat.mul_one, Nat.add_zero] at hx19_2); have hf19_2 := hfr19 2; (try simp only [show (k130).sz = 4 from rfl, Nat.mul_one, Nat.add_zero] at hf19_2); clear hcl19 hcc19 hfr19 hM19) | ((with_reducible refine gate_store (t := 9) (p := 32) rfl ?_); refine store_event (t := 9) (p := 32) (v := ?vo_w20) (w1 := (w18.setCell ⟨go5, (x5_1 : Int).toNat * 4 + 2, none⟩ (.string t351))) ?hg ?ho ?hn ?hr ?_; (case ho => rfl); (case hg => rfl); (case hn => rfl); (case hr => first | (go_simp; done) | (go_simp; rfl)); intro w20 hw; have hg : w18.grownBy w20 (some go5) := (by rw [hw]; exact HP19.2); have hp_ : Kd.R k130 130 w20 w0.heap.size (fun k_ => (P0_ k_ ∨ w.heap.size ≤ k_)) (.slice (some ⟨go5, 0, none⟩) x0_1.length co12) y352 := (by rw [hw, Ny352.out]; exact HP19.1); clear HP19; replace HB := Aside0.mk ((by rw [hw]; exact below_set (HB.out) GB5.out : Below w0.heap.size w0 w20)); replace HK := Aside0.mk (Kept.of_grown (S := (fun k_ => P0_ k_)) hg (by repeat (first | (with_reducible first | exact HK.out | apply Kept.alloc | apply Kept.drewN | apply Kept.drew) | exact HK.out)) (fun k_ e_ => (HO_0.out.1 k_ e_))); replace HO_0 := Aside0.mk (hp_); clear hg hw hp_) | ((with_reducible refine gC 116 rfl ?_); refine goesZ (some 38) rfl Try.func116 #[.int .i64 (wrap64 ((wrap64 ((wrap64 (x1_1 + 1)) + 1)) + 1))] ?_; (with_reducible refine (laws_markText.calls k1 (wrap64 ((wrap64 ((wrap64 (x1_1 + 1)) + 1)) + 1)) t353 _ A10.out).mono ?_); rintro e w21 ⟨rfl, hb⟩; refine ⟨_, rfl, ?_⟩; replace HO_0 := Aside0.mk (Kd.R_below (by (with_reducible repeat (first | apply Kd.R_alloc | apply Kd.R_drewN | apply Kd.R_drew)); exact HO_0.out) hb); replace HK := Aside0.mk (Kept.below (S := (fun k_ => P0_ k_)) (by repeat (first | (with_reducible first | exact HK.out | apply Kept.alloc | apply Kept.drewN | apply Kept.drew) | exact HK.out)) hb); replace HB := bs (w := w0) hb; (try clear hb); (try clear hb2); (try clear hk); (try clear hi); have p11 : 0 ≤ (x5_1 : Int) := of_decide_eq_true am; have q11 : (x5_1 : Int) < ((x0_1.length : Int) : Int) := of_decide_eq_true am; obtain ⟨ce11, hcl11, hM11, hcc11, hfr11⟩ := Kd.R_elem HO_0.out z130 (x5_1 : Int) p11 q11; obtain rfl := k130_openM hM11; have hx11_0 : w21.cell? ⟨go5, (x5_1 : Int).toNat * 4, none⟩ = some (.int .i64 ((rd_T130 y352 x5_1).f0)) := hcc11 0 _ rfl; have hx11_1 : w21.cell? ⟨go5, (x5_1 : Int).toNat * 4 + 1, none⟩ = some (.string ((rd_T130 y352 x5_1).f1)) := hcc11 1 _ rfl; have hx11_2 : w21.cell? ⟨go5, (x5_1 : Int).toNat * 4 + 2, none⟩ = some (.string ((rd_T130 y352 x5_1).f2)) := hcc11 2 _ rfl; have hx11_3 : w21.cell? ⟨go5, (x5_1 : Int).toNat * 4 + 3, none⟩ = some (.string ((rd_T130 y352 x5_1).f3)) := hcc11 3 _ rfl; have hf11_0 : w21.frozen? ⟨go5, (x5_1 : Int).toNat * 4, none⟩ = false := hfr11 0; have hf11_1 : w21.frozen? ⟨go5, (x5_1 : Int).toNat * 4 + 1, none⟩ = false := hfr11 1; have hf11_2 : w21.frozen? ⟨go5, (x5_1 : Int).toNat * 4 + 2, none⟩ = false := hfr11 2; have hf11_3 : w21.frozen? ⟨go5, (x5_1 : Int).toNat * 4 + 3, none⟩ = false := hfr11 3; clear hcl11 hcc11 hfr11 hM11; replace p11 := eq_true p11; replace q11 := eq_true q11; have HX22 := Aside0.mk (show Kd.R k130 130 w21 w0.heap.size (fun k_ => (P0_ k_ ∨ w.heap.size ≤ k_)) (.slice (some ⟨go5, 0, none⟩) x0_1.length co12) y352 from (by (with_reducible repeat (first | apply Kd.R_alloc | apply Kd.R_drewN | apply Kd.R_drew)); exact HO_0.out)); obtain ⟨ce22, hcl22, hM22, hcc22, hfr22⟩ := Kd.R_elem HX22.out z130 (x5_1 : Int) (of_decide_eq_true am) (by have h_ : (x5_1 : Int) < ((x0_1.length : Int) : Int) := of_decide_eq_true am; first | exact h_ | (have e_ := (Kd.R_reads' HO_0.out).1; omega) | simpa using h_); obtain rfl := k130_openM hM22; have HP22 := Kd.R_seg HX22.out (x5_1 : Int) (of_decide_eq_true am) (by have h_ : (x5_1 : Int) < ((x0_1.length : Int) : Int) := of_decide_eq_true am; first | exact h_ | (have e_ := (Kd.R_reads' HO_0.out).1; omega) | simpa using h_) (seg := [.string t353]) (j := 3) hcl22 hcc22 (show 4 ≤ 4 from by decide) (x' := (⟨(rd_T130 y352 x5_1).f0, (rd_T130 y352 x5_1).f1, (rd_T130 y352 x5_1).f2, t353⟩ : S130)) (k130_mkM _ _ _ (⟨(rd_T130 y352 x5_1).f0, (rd_T130 y352 x5_1).f1, (rd_T130 y352 x5_1).f2, t353⟩ : S130) ) (fun _ hk => hk); have hx22_3 := hcc22 3 _ rfl; (try simp only [show (k130).sz = 4 from rfl, Nat.mul_one, Nat.add_zero] at hx22_3); have hf22_3 := hfr22 3; (try simp only [show (k130).sz = 4 from rfl, Nat.mul_one, Nat.add_zero] at hf22_3); clear hcl22 hcc22 hfr22 hM22) | ((with_reducible refine gate_store (t := 9) (p := 40) rfl ?_); refine store_event (t := 9) (p := 40) (v := ?vo_w23) (w1 := (w21.setCell ⟨go5, (x5_1 : Int).toNat * 4 + 3, none⟩ (.string t353))) ?hg ?ho ?hn ?hr ?_; (case ho => rfl); (case hg => rfl); (case hn => rfl); (case hr => first | (go_simp; done) | (go_simp; rfl)); intro w23 hw; have hg : w21.grownBy w23 (some go5) := (by rw [hw]; exact HP22.2); have hp_ : Kd.R k130 130 w23 w0.heap.size (fun k_ => (P0_ k_ ∨ w.heap.size ≤ k_)) (.slice (some ⟨go5, 0, none⟩) x0_1.length co12) y354 := (by rw [hw, Ny354.out]; exact HP22.1); clear HP22; replace HB := Aside0.mk ((by rw [hw]; exact below_set (HB.out) GB5.out : Below w0.heap.size w0 w23)); replace HK := Aside0.mk (Kept.of_grown (S := (fun k_ => P0_ k_)) hg (by repeat (first | (with_reducible first | exact HK.out | apply Kept.alloc | apply Kept.drewN | apply Kept.drew) | exact HK.out)) (fun k_ e_ => (HO_0.out.1 k_ e_))); replace HO_0 := Aside0.mk (hp_); clear hg hw hp_))
     go_roundg k1
     case measure => have := HK1.out; omega
     case rel => exact ⟨(y354), (wrap64 ((wrap64 ((wrap64 ((wrap64 (x1_1 + 1)) + 1)) + 1)) + 1)), (wrap64 (x5_1 + 1)), fa, fa, H', ⟨by have := HK1.out; omega⟩, ⟨by (with_reducible repeat (first | apply Kd.R_alloc | apply Kd.R_drewN | apply Kd.R_drew)); exact HO_0.out⟩, ⟨by repeat (first | (with_reducible first | exact HK.out | apply Kept.alloc | apply Kept.drewN | apply Kept.drew) | exact HK.out)⟩, ⟨bl⟩⟩
    ·rw [if_neg c4] at H
     exact absurd H (by simp)
   ·rw [if_neg c3] at H
    have c3b0 : decide (x5_1 < (x0_1.length : Int)) = false := decide_eq_false c3
    clear c3
    simp only [Option.some.injEq, Prod.mk.injEq] at H
    obtain ⟨rfl, rfl⟩ := H
    obtain ⟨Ao24, co24, eo24⟩ := Kd.R_slice HO_0.out
    subst eo24
    go_wp2
    go_ret
    exact ⟨fe, by (with_reducible repeat (first | apply Kd.R_alloc | apply Kd.R_drewN | apply Kd.R_drew)); exact HO_0.out, bl, by repeat (first | (with_reducible first | exact HK.out | apply Kept.alloc | apply Kept.drewN | apply Kept.drew) | exact HK.out)⟩

end Go.Proofs.Ytfmddjbekophnaa.PFnExactPlanAdd
