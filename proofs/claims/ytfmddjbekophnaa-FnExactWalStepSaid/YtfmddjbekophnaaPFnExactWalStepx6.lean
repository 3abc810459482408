-- PRINTED by print.py (a twelfth state) out of the translation. Not trusted: Lean checks it.
import Derived.Test.YtfmddjbekophnaaPFnExactWalStepx0
import Derived.Test.YtfmddjbekophnaaPFnExactWalStepx5
import Derived.Test.YtfmddjbekophnaaZip
namespace Go.Proofs.Ytfmddjbekophnaa.PFnExactWalStep
open Go.RowKit Go.Proofs.YtfmddjbekophnaaW.PrintWords Go.Proofs.YtfmddjbekophnaaW.PrintLast Go.Proofs.YtfmddjbekophnaaW.PrintMore Go.Proofs.Ytfmddjbekophnaa.Zip
attribute [local go_sem] max2_int min2_int max_two min_two max_three min_three max_four min_four   -- for this text's walks alone
set_option linter.unusedVariables false
set_option linter.unusedSimpArgs false

/-! ### impl_isPlace: function 137 -/
def impl_isPlace.f (a0 : Int) (a1 : Int) : Option (Bool) := if a0 = 0 then (if a1 = 0 then (some true) else ((impl_from.f a0 1 100000).bind fun t192 => (if t192 = true then ((impl_isTerm.f a1).bind fun t193 => (some t193)) else (some false)))) else ((impl_from.f a0 1 100000).bind fun t194 => (if t194 = true then ((impl_isTerm.f a1).bind fun t195 => (some t195)) else (some false)))
set_option maxHeartbeats 8000000 in
set_option maxRecDepth 100000 in
theorem impl_isPlace.calls (a0 : Int) (a1 : Int) (r : Bool) (w : World) (h : impl_isPlace.f a0 a1 = some r) :
 Calls Try.prog 137 #[.int .i64 a0, .int .i64 a1] w fun e w' => e = .returned (.bool r) ∧ Drawn0 w w' := by
 have H : (if a0 = 0 then (if a1 = 0 then (some true) else ((impl_from.f a0 1 100000).bind fun t192 => (if t192 = true then ((impl_isTerm.f a1).bind fun t193 => (some t193)) else (some false)))) else ((impl_from.f a0 1 100000).bind fun t194 => (if t194 = true then ((impl_isTerm.f a1).bind fun t195 => (some t195)) else (some false)))) = some r := h
 clear h
 by_cases c3 : a0 = 0
 ·rw [if_pos c3] at H
  have c3b0 : (a0 == 0) = true := beq_iff_eq.mpr c3
  have c3b1 : (a0 != 0) = false := bne_eq_false_iff_eq.mpr c3
  clear c3
  by_cases c4 : a1 = 0
  ·rw [if_pos c4] at H
   have c4b0 : (a1 == 0) = true := beq_iff_eq.mpr c4
   have c4b1 : (a1 != 0) = false := bne_eq_false_iff_eq.mpr c4
   clear c4
   obtain rfl := Option.some.inj H
   go_enter Try.func137, Try.ntmps137
   go_wp2
   go_ret
   exact ⟨fa, fd⟩
  ·rw [if_neg c4] at H
   have c4b0 : (a1 == 0) = false := beq_eq_false_iff_ne.mpr c4
   have c4b1 : (a1 != 0) = true := bne_iff_ne.mpr c4
   obtain ⟨t192, A5, H⟩ := bd H
   by_cases c6 : t192 = true
   ·subst c6
    replace H := iT H
    obtain ⟨t193, A7, H⟩ := bd H
    obtain rfl := Option.some.inj H
    go_enter Try.func137, Try.ntmps137
    go_wp2_with (first | (go_at_call 78; (with_reducible refine (impl_from.calls a0 1 100000 true _ A5.out).mono ?_); rintro e w' ⟨rfl, ⟨nd, rfl⟩⟩) | (go_at_call 144; (with_reducible refine (impl_isTerm.calls a1 t193 _ A7.out).mono ?_); rintro e w' ⟨rfl, ⟨nd, rfl⟩⟩))
    go_ret
    exact ⟨fa, fd⟩
   ·replace c6 := Bool.eq_false_iff.mpr c6
    subst c6
    replace H := iF H
    obtain rfl := Option.some.inj H
    go_enter Try.func137, Try.ntmps137
    go_wp2_with (first | (go_at_call 78; (with_reducible refine (impl_from.calls a0 1 100000 false _ A5.out).mono ?_); rintro e w' ⟨rfl, ⟨nd, rfl⟩⟩))
    go_ret
    exact ⟨fa, fd⟩
 ·rw [if_neg c3] at H
  have c3b0 : (a0 == 0) = false := beq_eq_false_iff_ne.mpr c3
  have c3b1 : (a0 != 0) = true := bne_iff_ne.mpr c3
  obtain ⟨t194, A8, H⟩ := bd H
  by_cases c9 : t194 = true
  ·subst c9
   replace H := iT H
   obtain ⟨t195, A10, H⟩ := bd H
   obtain rfl := Option.some.inj H
   go_enter Try.func137, Try.ntmps137
   go_wp2_with (first | (go_at_call 78; (with_reducible refine (impl_from.calls a0 1 100000 true _ A8.out).mono ?_); rintro e w' ⟨rfl, ⟨nd, rfl⟩⟩) | (go_at_call 144; (with_reducible refine (impl_isTerm.calls a1 t195 _ A10.out).mono ?_); rintro e w' ⟨rfl, ⟨nd, rfl⟩⟩))
   go_ret
   exact ⟨fa, fd⟩
  ·replace c9 := Bool.eq_false_iff.mpr c9
   subst c9
   replace H := iF H
   obtain rfl := Option.some.inj H
   go_enter Try.func137, Try.ntmps137
   go_wp2_with (first | (go_at_call 78; (with_reducible refine (impl_from.calls a0 1 100000 false _ A8.out).mono ?_); rintro e w' ⟨rfl, ⟨nd, rfl⟩⟩))
   go_ret
   exact ⟨fa, fd⟩

/-! ### impl_termsOk: function 138 -/
def impl_termsOk.l0 : Nat → Int → Int → List (S117) → Int → Int → Option (Bool)
 | 0, _, _, _, _, _ => none
 | k + 1, x1, x2, x9, x10, x11 => if x11 < x10 then (if 0 ≤ x11 then (if x11 < (x9.length : Int) then (if ((rd_T117 x9 x11).f0) < 1 then (some false) else ((impl_from.f ((rd_T117 x9 x11).f0) x1 x2).bind fun t198 => (if t198 = true then (if (((rd_T117 x9 x11).f1).size : Int) > 900 then (some false) else (impl_termsOk.l0 k ((rd_T117 x9 x11).f0) x2 x9 x10 (wrap64 (x11 + 1)))) else (some false)))) else (none)) else (none)) else (some true)
def impl_termsOk.f (k : Nat) (l0 : List (S117)) (a1 : Int) (a2 : Int) : Option (Bool) := impl_termsOk.l0 k a1 a2 l0 (l0.length : Int) 0
theorem impl_termsOk.mono_l : ∀ k, (∀ y0 y1 y2 y3 y4, LeO (impl_termsOk.l0 k y0 y1 y2 y3 y4) (impl_termsOk.l0 (k + 1) y0 y1 y2 y3 y4))
 | 0 => fun _ _ _ _ _ r h => by simp [impl_termsOk.l0] at h
 | k + 1 => by
  have ih0 := impl_termsOk.mono_l k
  ·intro y0 y1 y2 y3 y4
   unfold impl_termsOk.l0
   repeat' first
   | (with_reducible exact ih0 _ _ _ _ _)
   | (with_reducible exact LeO.refl _)
   | (with_reducible exact LeO.none _)
   | (with_reducible refine LeO.ite ?_ ?_)
   | (with_reducible refine LeO.bind ?_ (fun _ => ?_))
   | exact ih0 _ _ _ _ _
   | exact LeO.none _
   | refine LeO.ite ?_ ?_
   | refine LeO.bind ?_ (fun _ => ?_)
theorem impl_termsOk.mono : ∀ a0 a1 a2 k, LeO (impl_termsOk.f k a0 a1 a2) (impl_termsOk.f (k + 1) a0 a1 a2) := by
 intro a0 a1 a2 k
 have ih0 := impl_termsOk.mono_l k
 unfold impl_termsOk.f
 repeat' first
  | (with_reducible exact ih0 _ _ _ _ _)
  | (with_reducible exact LeO.refl _)
  | (with_reducible exact LeO.none _)
  | (with_reducible refine LeO.ite ?_ ?_)
  | (with_reducible refine LeO.bind ?_ (fun _ => ?_))
  | exact ih0 _ _ _ _ _
  | exact LeO.none _
  | refine LeO.ite ?_ ?_
  | refine LeO.bind ?_ (fun _ => ?_)
set_option maxHeartbeats 8000000 in
set_option maxRecDepth 100000 in
theorem impl_termsOk.calls (k : Nat) (A0 : Option Addr) (c0 : Nat) (l0 : List (S117)) (a1 : Int) (a2 : Int) (r : Bool) (w : World) (hr0 : Kd.C k117 w A0 l0.length l0) (hc0 : l0.length ≤ c0) (h : impl_termsOk.f k l0 a1 a2 = some r) :
 Calls Try.prog 138 #[.slice A0 l0.length c0, .int .i64 a1, .int .i64 a2] w fun e w' => e = .returned (.bool r) ∧ Below w.heap.size w w' := by
 have hu117 := Try.underlying117
 have HR0 := Aside0.mk hr0
 have HC0 := Aside0.mk hc0
 clear hr0 hc0
 have HB := Aside0.mk (Below.refl w.heap.size w)
 have H : (impl_termsOk.l0 k a1 a2 l0 (l0.length : Int) 0) = some r := h
 clear h
 have H' := Aside0.mk H
 clear H
 go_enter Try.func138, Try.ntmps138
 go_wp2
 go_loopg [1, 11] k (fun kq v1 v11 w' => ∃ (x1_1 : Int) (x11_1 : Int), v1 = .int .i64 x1_1 ∧ v11 = .int .i64 x11_1 ∧ Aside0 (impl_termsOk.l0 kq x1_1 a2 l0 (l0.length : Int) x11_1 = some r) ∧ Aside0 (kq ≤ k) ∧ Aside0 (Below w.heap.size w w'))
 case atStart => exact ⟨(a1), (0), fa, fa, H', ⟨Nat.le_refl _⟩, ⟨bl⟩⟩
 case round =>
  clear H'
  try clear c1
  try clear p2
  obtain ⟨x1_1, x11_1, rfl, rfl, HA, HK1, HB⟩ := hrel
  cases gk with
  | zero => exact absurd HA.out (by simp [impl_termsOk.l0])
  | succ k1 =>
   have H := HA.out
   clear HA
   simp only [impl_termsOk.l0] at H
   by_cases c4 : x11_1 < (l0.length : Int)
   ·rw [if_pos c4] at H
    have c4b0 : decide (x11_1 < (l0.length : Int)) = true := decide_eq_true c4
    clear c4
    by_cases c5 : 0 ≤ x11_1
    ·rw [if_pos c5] at H
     have c5b0 : decide (0 ≤ x11_1) = true := decide_eq_true c5
     clear c5
     by_cases c6 : x11_1 < (l0.length : Int)
     ·rw [if_pos c6] at H
      have c6b0 : decide (x11_1 < (l0.length : Int)) = true := decide_eq_true c6
      clear c6
      by_cases c7 : ((rd_T117 l0 x11_1).f0) < 1
      ·rw [if_pos c7] at H
       have c7b0 : decide (((rd_T117 l0 x11_1).f0) < 1) = true := decide_eq_true c7
       clear c7
       obtain rfl := Option.some.inj H
       have p196 : 0 ≤ (x11_1 : Int) := of_decide_eq_true am
       have q196 : x11_1 < (l0.length : Int) := of_decide_eq_true am
       obtain ⟨ad196, e196, hx196_0, hx196_1⟩ := at_T117 HR0.out x11_1 p196 q196
       cases e196
       replace hx196_0 := cz HB hx196_0
       replace hx196_1 := cz HB hx196_1
       replace p196 := eq_true p196
       replace q196 := eq_true q196
       go_wp2_with (first | ((with_reducible refine gD 8 rfl ?_); (try (refine gate_guard rfl ?_; dsimp only)); refine boxZ 8 #[.int .i64 0, .string (⟨#[]⟩ : ByteArray)] 117 ?_; intro gb197 hg w8 hbox hb; have BK197 := Aside0.mk hbox; have GW197 := gw (w := w) hg; have GE197 := gw (w := w) hg; replace HB := bs (w := w) hb; clear hb hbox hg; obtain ⟨Z9_0, Z9_1, Y9_0, Y9_1⟩ := cf2 BK197))
       go_ret
       exact ⟨fe, bl⟩
      ·rw [if_neg c7] at H
       have c7b0 : decide (((rd_T117 l0 x11_1).f0) < 1) = false := decide_eq_false c7
       clear c7
       obtain ⟨t198, A10, H⟩ := bd H
       by_cases c11 : t198 = true
       ·subst c11
        replace H := iT H
        by_cases c12 : (((rd_T117 l0 x11_1).f1).size : Int) > 900
        ·rw [if_pos c12] at H
         have c12b0 : decide (900 < (((rd_T117 l0 x11_1).f1).size : Int)) = true := decide_eq_true c12
         have c12b1 : decide (900 < ((rd_T117 l0 x11_1).f1).size) = true := decide_eq_true (by omega)
         clear c12
         obtain rfl := Option.some.inj H
         have p196 : 0 ≤ (x11_1 : Int) := of_decide_eq_true am
         have q196 : x11_1 < (l0.length : Int) := of_decide_eq_true am
         obtain ⟨ad196, e196, hx196_0, hx196_1⟩ := at_T117 HR0.out x11_1 p196 q196
         cases e196
         replace hx196_0 := cz HB hx196_0
         replace hx196_1 := cz HB hx196_1
         replace p196 := eq_true p196
         replace q196 := eq_true q196
         go_wp2_with (first | ((with_reducible refine gD 8 rfl ?_); (try (refine gate_guard rfl ?_; dsimp only)); refine boxZ 8 #[.int .i64 0, .string (⟨#[]⟩ : ByteArray)] 117 ?_; intro gb197 hg w13 hbox hb; have BK197 := Aside0.mk hbox; have GW197 := gw (w := w) hg; have GE197 := gw (w := w) hg; replace HB := bs (w := w) hb; clear hb hbox hg; obtain ⟨Z14_0, Z14_1, Y14_0, Y14_1⟩ := cf2 BK197) | (go_at_call 78; (with_reducible refine (impl_from.calls ((rd_T117 l0 x11_1).f0) x1_1 a2 true _ A10.out).mono ?_); rintro e w' ⟨rfl, ⟨nd, rfl⟩⟩))
         go_ret
         exact ⟨fe, bl⟩
        ·rw [if_neg c12] at H
         have c12b0 : decide (900 < (((rd_T117 l0 x11_1).f1).size : Int)) = false := decide_eq_false c12
         have c12b1 : decide (900 < ((rd_T117 l0 x11_1).f1).size) = false := decide_eq_false (by omega)
         clear c12
         have H' := Aside0.mk H
         clear H
         have p196 : 0 ≤ (x11_1 : Int) := of_decide_eq_true am
         have q196 : x11_1 < (l0.length : Int) := of_decide_eq_true am
         obtain ⟨ad196, e196, hx196_0, hx196_1⟩ := at_T117 HR0.out x11_1 p196 q196
         cases e196
         replace hx196_0 := cz HB hx196_0
         replace hx196_1 := cz HB hx196_1
         replace p196 := eq_true p196
         replace q196 := eq_true q196
         go_wp2_with (first | ((with_reducible refine gD 8 rfl ?_); (try (refine gate_guard rfl ?_; dsimp only)); refine boxZ 8 #[.int .i64 0, .string (⟨#[]⟩ : ByteArray)] 117 ?_; intro gb197 hg w15 hbox hb; have BK197 := Aside0.mk hbox; have GW197 := gw (w := w) hg; have GE197 := gw (w := w) hg; replace HB := bs (w := w) hb; clear hb hbox hg; obtain ⟨Z16_0, Z16_1, Y16_0, Y16_1⟩ := cf2 BK197) | (go_at_call 78; (with_reducible refine (impl_from.calls ((rd_T117 l0 x11_1).f0) x1_1 a2 true _ A10.out).mono ?_); rintro e w' ⟨rfl, ⟨nd, rfl⟩⟩))
         go_roundg k1
         case measure => have := HK1.out; omega
         case rel => exact ⟨((rd_T117 l0 x11_1).f0), (wrap64 (x11_1 + 1)), fa, fa, H', ⟨by have := HK1.out; omega⟩, ⟨bl⟩⟩
       ·replace c11 := Bool.eq_false_iff.mpr c11
        subst c11
        replace H := iF H
        obtain rfl := Option.some.inj H
        have p196 : 0 ≤ (x11_1 : Int) := of_decide_eq_true am
        have q196 : x11_1 < (l0.length : Int) := of_decide_eq_true am
        obtain ⟨ad196, e196, hx196_0, hx196_1⟩ := at_T117 HR0.out x11_1 p196 q196
        cases e196
        replace hx196_0 := cz HB hx196_0
        replace hx196_1 := cz HB hx196_1
        replace p196 := eq_true p196
        replace q196 := eq_true q196
        go_wp2_with (first | ((with_reducible refine gD 8 rfl ?_); (try (refine gate_guard rfl ?_; dsimp only)); refine boxZ 8 #[.int .i64 0, .string (⟨#[]⟩ : ByteArray)] 117 ?_; intro gb197 hg w17 hbox hb; have BK197 := Aside0.mk hbox; have GW197 := gw (w := w) hg; have GE197 := gw (w := w) hg; replace HB := bs (w := w) hb; clear hb hbox hg; obtain ⟨Z18_0, Z18_1, Y18_0, Y18_1⟩ := cf2 BK197) | (go_at_call 78; (with_reducible refine (impl_from.calls ((rd_T117 l0 x11_1).f0) x1_1 a2 false _ A10.out).mono ?_); rintro e w' ⟨rfl, ⟨nd, rfl⟩⟩))
        go_ret
        exact ⟨fe, bl⟩
     ·rw [if_neg c6] at H
      exact absurd H (by simp)
    ·rw [if_neg c5] at H
     exact absurd H (by simp)
   ·rw [if_neg c4] at H
    have c4b0 : decide (x11_1 < (l0.length : Int)) = false := decide_eq_false c4
    clear c4
    obtain rfl := Option.some.inj H
    go_wp2
    go_ret
    exact ⟨fe, bl⟩

/-! ### impl_WalOk: function 108 -/
def impl_WalOk.f (k : Nat) (a0_0 : Int) (a0_1 : Int) (a0_2 : Int) (a0_3 : Int) (l0_4 : List (S117)) : Option (Bool) := (impl_from.f a0_0 0 100000).bind fun t200 => (if t200 = true then ((impl_isVote.f a0_1).bind fun t201 => (if t201 = true then ((impl_isPlace.f a0_2 a0_3).bind fun t202 => (if t202 = true then (if a0_3 ≤ a0_0 then (if (l0_4.length : Int) ≤ 60 then ((impl_termsOk.f k l0_4 a0_3 a0_0).bind fun t203 => (if t203 = true then (some (decide ((wrap64 (a0_2 + (l0_4.length : Int))) ≤ 100000))) else (some false))) else (some false)) else (some false)) else (some false))) else (some false))) else (some false))
theorem impl_WalOk.mono : ∀ a0 a1 a2 a3 a4 k, LeO (impl_WalOk.f k a0 a1 a2 a3 a4) (impl_WalOk.f (k + 1) a0 a1 a2 a3 a4) := by
 intro a0 a1 a2 a3 a4 k
 unfold impl_WalOk.f
 repeat' first
  | (with_reducible exact impl_termsOk.mono _ _ _ _)
  | (with_reducible exact LeO.refl _)
  | (with_reducible exact LeO.none _)
  | (with_reducible refine LeO.ite ?_ ?_)
  | (with_reducible refine LeO.bind ?_ (fun _ => ?_))
  | exact impl_termsOk.mono _ _ _ _
  | exact LeO.none _
  | refine LeO.ite ?_ ?_
  | refine LeO.bind ?_ (fun _ => ?_)
set_option maxHeartbeats 8000000 in
set_option maxRecDepth 100000 in
theorem impl_WalOk.calls (k : Nat) (a0_0 : Int) (a0_1 : Int) (a0_2 : Int) (a0_3 : Int) (A0_4 : Option Addr) (c0_4 : Nat) (l0_4 : List (S117)) (r : Bool) (w : World) (hr0_4 : Kd.C k117 w A0_4 l0_4.length l0_4) (hc0_4 : l0_4.length ≤ c0_4) (h : impl_WalOk.f k a0_0 a0_1 a0_2 a0_3 l0_4 = some r) :
 Calls Try.prog 108 #[.agg #[.int .i64 a0_0, .int .i64 a0_1, .int .i64 a0_2, .int .i64 a0_3, .slice A0_4 l0_4.length c0_4]] w fun e w' => e = .returned (.bool r) ∧ Below w.heap.size w w' := by
 have hu67 := Try.underlying67
 have HR0_4 := Aside0.mk hr0_4
 have HC0_4 := Aside0.mk hc0_4
 clear hr0_4 hc0_4
 have HB := Aside0.mk (Below.refl w.heap.size w)
 have H : ((impl_from.f a0_0 0 100000).bind fun t200 => (if t200 = true then ((impl_isVote.f a0_1).bind fun t201 => (if t201 = true then ((impl_isPlace.f a0_2 a0_3).bind fun t202 => (if t202 = true then (if a0_3 ≤ a0_0 then (if (l0_4.length : Int) ≤ 60 then ((impl_termsOk.f k l0_4 a0_3 a0_0).bind fun t203 => (if t203 = true then (some (decide ((wrap64 (a0_2 + (l0_4.length : Int))) ≤ 100000))) else (some false))) else (some false)) else (some false)) else (some false))) else (some false))) else (some false))) = some r := h
 clear h
 obtain ⟨t200, A2, H⟩ := bd H
 by_cases c3 : t200 = true
 ·subst c3
  replace H := iT H
  obtain ⟨t201, A4, H⟩ := bd H
  by_cases c5 : t201 = true
  ·subst c5
   replace H := iT H
   obtain ⟨t202, A6, H⟩ := bd H
   by_cases c7 : t202 = true
   ·subst c7
    replace H := iT H
    by_cases c8 : a0_3 ≤ a0_0
    ·rw [if_pos c8] at H
     have c8b0 : decide (a0_3 ≤ a0_0) = true := decide_eq_true c8
     clear c8
     by_cases c9 : (l0_4.length : Int) ≤ 60
     ·rw [if_pos c9] at H
      have c9b0 : decide ((l0_4.length : Int) ≤ 60) = true := decide_eq_true c9
      have c9b1 : decide (l0_4.length ≤ 60) = true := decide_eq_true (by omega)
      clear c9
      obtain ⟨t203, A10, H⟩ := bd H
      by_cases c11 : t203 = true
      ·subst c11
       replace H := iT H
       obtain rfl := Option.some.inj H
       go_enter Try.func108, Try.ntmps108
       go_wp2_with (first | ((with_reducible refine gD 1 rfl ?_); (try (refine gate_guard rfl ?_; dsimp only)); refine boxZ 1 #[.int .i64 a0_0, .int .i64 a0_1, .int .i64 a0_2, .int .i64 a0_3, .slice A0_4 l0_4.length c0_4] 67 ?_; intro gb199 hg w12 hbox hb; have BK199 := Aside0.mk hbox; have GW199 := gw (w := w) hg; have GE199 := gw (w := w) hg; replace HB := bs (w := w) hb; clear hb hbox hg; obtain ⟨Z13_0, Z13_1, Z13_2, Z13_3, Z13_4, Y13_0, Y13_1, Y13_2, Y13_3, Y13_4⟩ := cf5 BK199) | ((with_reducible refine gC 78 rfl ?_); refine goesZ (some 5) rfl Try.func78 #[.int .i64 a0_0, .int .i64 0, .int .i64 100000] ?_; (with_reducible refine (impl_from.calls a0_0 0 100000 true _ A2.out).mono ?_); rintro e w' ⟨rfl, ⟨nd, rfl⟩⟩; refine ⟨_, rfl, ?_⟩) | (go_at_call 136; (with_reducible refine (impl_isVote.calls a0_1 true _ A4.out).mono ?_); rintro e w' ⟨rfl, ⟨nd, rfl⟩⟩) | (go_at_call 137; (with_reducible refine (impl_isPlace.calls a0_2 a0_3 true _ A6.out).mono ?_); rintro e w' ⟨rfl, ⟨nd, rfl⟩⟩) | (go_at_call 138; (with_reducible refine (impl_termsOk.calls k _ _ l0_4 a0_3 a0_0 true _ ?side1 ?side2 A10.out).mono ?_); (case side1 => exact ca (Kd.C_below HR0_4.out bl)); (case side2 => exact HC0_4.out); rintro e w14 ⟨rfl, hb⟩; replace BK199 := bv BK199 hb; replace HB := bs (w := w) hb; (try clear hb); obtain ⟨Z15_0, Z15_1, Z15_2, Z15_3, Z15_4, Y15_0, Y15_1, Y15_2, Y15_3, Y15_4⟩ := cf5 BK199))
       go_ret
       exact ⟨fe, bl⟩
      ·replace c11 := Bool.eq_false_iff.mpr c11
       subst c11
       replace H := iF H
       obtain rfl := Option.some.inj H
       go_enter Try.func108, Try.ntmps108
       go_wp2_with (first | ((with_reducible refine gD 1 rfl ?_); (try (refine gate_guard rfl ?_; dsimp only)); refine boxZ 1 #[.int .i64 a0_0, .int .i64 a0_1, .int .i64 a0_2, .int .i64 a0_3, .slice A0_4 l0_4.length c0_4] 67 ?_; intro gb199 hg w16 hbox hb; have BK199 := Aside0.mk hbox; have GW199 := gw (w := w) hg; have GE199 := gw (w := w) hg; replace HB := bs (w := w) hb; clear hb hbox hg; obtain ⟨Z17_0, Z17_1, Z17_2, Z17_3, Z17_4, Y17_0, Y17_1, Y17_2, Y17_3, Y17_4⟩ := cf5 BK199) | ((with_reducible refine gC 78 rfl ?_); refine goesZ (some 5) rfl Try.func78 #[.int .i64 a0_0, .int .i64 0, .int .i64 100000] ?_; (with_reducible refine (impl_from.calls a0_0 0 100000 true _ A2.out).mono ?_); rintro e w' ⟨rfl, ⟨nd, rfl⟩⟩; refine ⟨_, rfl, ?_⟩) | (go_at_call 136; (with_reducible refine (impl_isVote.calls a0_1 true _ A4.out).mono ?_); rintro e w' ⟨rfl, ⟨nd, rfl⟩⟩) | (go_at_call 137; (with_reducible refine (impl_isPlace.calls a0_2 a0_3 true _ A6.out).mono ?_); rintro e w' ⟨rfl, ⟨nd, rfl⟩⟩) | (go_at_call 138; (with_reducible refine (impl_termsOk.calls k _ _ l0_4 a0_3 a0_0 false _ ?side1 ?side2 A10.out).mono ?_); (case side1 => exact ca (Kd.C_below HR0_4.out bl)); (case side2 => exact HC0_4.out); rintro e w18 ⟨rfl, hb⟩; replace BK199 := bv BK199 hb; replace HB := bs (w := w) hb; (try clear hb)))
       go_ret
       exact ⟨fe, bl⟩
     ·rw [if_neg c9] at H
      have c9b0 : decide ((l0_4.length : Int) ≤ 60) = false := decide_eq_false c9
      have c9b1 : decide (l0_4.length ≤ 60) = false := decide_eq_false (by omega)
      clear c9
      obtain rfl := Option.some.inj H
      go_enter Try.func108, Try.ntmps108
      go_wp2_with (first | ((with_reducible refine gD 1 rfl ?_); (try (refine gate_guard rfl ?_; dsimp only)); refine boxZ 1 #[.int .i64 a0_0, .int .i64 a0_1, .int .i64 a0_2, .int .i64 a0_3, .slice A0_4 l0_4.length c0_4] 67 ?_; intro gb199 hg w19 hbox hb; have BK199 := Aside0.mk hbox; have GW199 := gw (w := w) hg; have GE199 := gw (w := w) hg; replace HB := bs (w := w) hb; clear hb hbox hg; obtain ⟨Z20_0, Z20_1, Z20_2, Z20_3, Z20_4, Y20_0, Y20_1, Y20_2, Y20_3, Y20_4⟩ := cf5 BK199) | ((with_reducible refine gC 78 rfl ?_); refine goesZ (some 5) rfl Try.func78 #[.int .i64 a0_0, .int .i64 0, .int .i64 100000] ?_; (with_reducible refine (impl_from.calls a0_0 0 100000 true _ A2.out).mono ?_); rintro e w' ⟨rfl, ⟨nd, rfl⟩⟩; refine ⟨_, rfl, ?_⟩) | (go_at_call 136; (with_reducible refine (impl_isVote.calls a0_1 true _ A4.out).mono ?_); rintro e w' ⟨rfl, ⟨nd, rfl⟩⟩) | (go_at_call 137; (with_reducible refine (impl_isPlace.calls a0_2 a0_3 true _ A6.out).mono ?_); rintro e w' ⟨rfl, ⟨nd, rfl⟩⟩))
      go_ret
      exact ⟨fe, bl⟩
    ·rw [if_neg c8] at H
     have c8b0 : decide (a0_3 ≤ a0_0) = false := decide_eq_false c8
     clear c8
     obtain rfl := Option.some.inj H
     go_enter Try.func108, Try.ntmps108
     go_wp2_with (first | ((with_reducible refine gD 1 rfl ?_); (try (refine gate_guard rfl ?_; dsimp only)); refine boxZ 1 #[.int .i64 a0_0, .int .i64 a0_1, .int .i64 a0_2, .int .i64 a0_3, .slice A0_4 l0_4.length c0_4] 67 ?_; intro gb199 hg w21 hbox hb; have BK199 := Aside0.mk hbox; have GW199 := gw (w := w) hg; have GE199 := gw (w := w) hg; replace HB := bs (w := w) hb; clear hb hbox hg; obtain ⟨Z22_0, Z22_1, Z22_2, Z22_3, Z22_4, Y22_0, Y22_1, Y22_2, Y22_3, Y22_4⟩ := cf5 BK199) | ((with_reducible refine gC 78 rfl ?_); refine goesZ (some 5) rfl Try.func78 #[.int .i64 a0_0, .int .i64 0, .int .i64 100000] ?_; (with_reducible refine (impl_from.calls a0_0 0 100000 true _ A2.out).mono ?_); rintro e w' ⟨rfl, ⟨nd, rfl⟩⟩; refine ⟨_, rfl, ?_⟩) | (go_at_call 136; (with_reducible refine (impl_isVote.calls a0_1 true _ A4.out).mono ?_); rintro e w' ⟨rfl, ⟨nd, rfl⟩⟩) | (go_at_call 137; (with_reducible refine (impl_isPlace.calls a0_2 a0_3 true _ A6.out).mono ?_); rintro e w' ⟨rfl, ⟨nd, rfl⟩⟩))
     go_ret
     exact ⟨fe, bl⟩
   ·replace c7 := Bool.eq_false_iff.mpr c7
    subst c7
    replace H := iF H
    obtain rfl := Option.some.inj H
    go_enter Try.func108, Try.ntmps108
    go_wp2_with (first | ((with_reducible refine gD 1 rfl ?_); (try (refine gate_guard rfl ?_; dsimp only)); refine boxZ 1 #[.int .i64 a0_0, .int .i64 a0_1, .int .i64 a0_2, .int .i64 a0_3, .slice A0_4 l0_4.length c0_4] 67 ?_; intro gb199 hg w23 hbox hb; have BK199 := Aside0.mk hbox; have GW199 := gw (w := w) hg; have GE199 := gw (w := w) hg; replace HB := bs (w := w) hb; clear hb hbox hg; obtain ⟨Z24_0, Z24_1, Z24_2, Z24_3, Z24_4, Y24_0, Y24_1, Y24_2, Y24_3, Y24_4⟩ := cf5 BK199) | ((with_reducible refine gC 78 rfl ?_); refine goesZ (some 5) rfl Try.func78 #[.int .i64 a0_0, .int .i64 0, .int .i64 100000] ?_; (with_reducible refine (impl_from.calls a0_0 0 100000 true _ A2.out).mono ?_); rintro e w' ⟨rfl, ⟨nd, rfl⟩⟩; refine ⟨_, rfl, ?_⟩) | (go_at_call 136; (with_reducible refine (impl_isVote.calls a0_1 true _ A4.out).mono ?_); rintro e w' ⟨rfl, ⟨nd, rfl⟩⟩) | (go_at_call 137; (with_reducible refine (impl_isPlace.calls a0_2 a0_3 false _ A6.out).mono ?_); rintro e w' ⟨rfl, ⟨nd, rfl⟩⟩))
    go_ret
    exact ⟨fe, bl⟩
  ·replace c5 := Bool.eq_false_iff.mpr c5
   subst c5
   replace H := iF H
   obtain rfl := Option.some.inj H
   go_enter Try.func108, Try.ntmps108
   go_wp2_with (first | ((with_reducible refine gD 1 rfl ?_); (try (refine gate_guard rfl ?_; dsimp only)); refine boxZ 1 #[.int .i64 a0_0, .int .i64 a0_1, .int .i64 a0_2, .int .i64 a0_3, .slice A0_4 l0_4.length c0_4] 67 ?_; intro gb199 hg w25 hbox hb; have BK199 := Aside0.mk hbox; have GW199 := gw (w := w) hg; have GE199 := gw (w := w) hg; replace HB := bs (w := w) hb; clear hb hbox hg; obtain ⟨Z26_0, Z26_1, Z26_2, Z26_3, Z26_4, Y26_0, Y26_1, Y26_2, Y26_3, Y26_4⟩ := cf5 BK199) | ((with_reducible refine gC 78 rfl ?_); refine goesZ (some 5) rfl Try.func78 #[.int .i64 a0_0, .int .i64 0, .int .i64 100000] ?_; (with_reducible refine (impl_from.calls a0_0 0 100000 true _ A2.out).mono ?_); rintro e w' ⟨rfl, ⟨nd, rfl⟩⟩; refine ⟨_, rfl, ?_⟩) | (go_at_call 136; (with_reducible refine (impl_isVote.calls a0_1 false _ A4.out).mono ?_); rintro e w' ⟨rfl, ⟨nd, rfl⟩⟩))
   go_ret
   exact ⟨fe, bl⟩
 ·replace c3 := Bool.eq_false_iff.mpr c3
  subst c3
  replace H := iF H
  obtain rfl := Option.some.inj H
  go_enter Try.func108, Try.ntmps108
  go_wp2_with (first | ((with_reducible refine gD 1 rfl ?_); (try (refine gate_guard rfl ?_; dsimp only)); refine boxZ 1 #[.int .i64 a0_0, .int .i64 a0_1, .int .i64 a0_2, .int .i64 a0_3, .slice A0_4 l0_4.length c0_4] 67 ?_; intro gb199 hg w27 hbox hb; have BK199 := Aside0.mk hbox; have GW199 := gw (w := w) hg; have GE199 := gw (w := w) hg; replace HB := bs (w := w) hb; clear hb hbox hg; obtain ⟨Z28_0, Z28_1, Z28_2, Z28_3, Z28_4, Y28_0, Y28_1, Y28_2, Y28_3, Y28_4⟩ := cf5 BK199) | ((with_reducible refine gC 78 rfl ?_); refine goesZ (some 5) rfl Try.func78 #[.int .i64 a0_0, .int .i64 0, .int .i64 100000] ?_; (with_reducible refine (impl_from.calls a0_0 0 100000 false _ A2.out).mono ?_); rintro e w' ⟨rfl, ⟨nd, rfl⟩⟩; refine ⟨_, rfl, ?_⟩))
  go_ret
  exact ⟨fe, bl⟩

/-! ### impl_hardFits: function 113 -/
def impl_hardFits.f (a0_0 : Int) (a0_1 : Int) (a0_2 : Int) (a0_3 : Int) (l0_4 : List (S117)) (a1 : Int) (a2 : Int) : Option (Bool) := if a1 > a0_0 then (some true) else (if a1 = a0_0 then (if a0_1 = (-1) then (some true) else (some (a0_1 == a2))) else (some false))
set_option maxHeartbeats 8000000 in
set_option maxRecDepth 100000 in
theorem impl_hardFits.calls (a0_0 : Int) (a0_1 : Int) (a0_2 : Int) (a0_3 : Int) (A0_4 : Option Addr) (c0_4 : Nat) (l0_4 : List (S117)) (a1 : Int) (a2 : Int) (r : Bool) (w : World) (hr0_4 : Kd.C k117 w A0_4 l0_4.length l0_4) (hc0_4 : l0_4.length ≤ c0_4) (h : impl_hardFits.f a0_0 a0_1 a0_2 a0_3 l0_4 a1 a2 = some r) :
 Calls Try.prog 113 #[.agg #[.int .i64 a0_0, .int .i64 a0_1, .int .i64 a0_2, .int .i64 a0_3, .slice A0_4 l0_4.length c0_4], .int .i64 a1, .int .i64 a2] w fun e w' => e = .returned (.bool r) ∧ Below w.heap.size w w' := by
 have hu67 := Try.underlying67
 have HR0_4 := Aside0.mk hr0_4
 have HC0_4 := Aside0.mk hc0_4
 clear hr0_4 hc0_4
 have HB := Aside0.mk (Below.refl w.heap.size w)
 have H : (if a1 > a0_0 then (some true) else (if a1 = a0_0 then (if a0_1 = (-1) then (some true) else (some (a0_1 == a2))) else (some false))) = some r := h
 clear h
 by_cases c4 : a1 > a0_0
 ·rw [if_pos c4] at H
  have c4b0 : decide (a0_0 < a1) = true := decide_eq_true c4
  clear c4
  obtain rfl := Option.some.inj H
  go_enter Try.func113, Try.ntmps113
  go_wp2_with (first | ((with_reducible refine gD 3 rfl ?_); refine boxZ 3 #[.int .i64 a0_0, .int .i64 a0_1, .int .i64 a0_2, .int .i64 a0_3, .slice A0_4 l0_4.length c0_4] 67 ?_; intro gb204 hg w5 hbox hb; have BK204 := Aside0.mk hbox; have GW204 := gw (w := w) hg; have GE204 := gw (w := w) hg; replace HB := bs (w := w) hb; clear hb hbox hg; obtain ⟨Z6_0, Z6_1, Z6_2, Z6_3, Z6_4, Y6_0, Y6_1, Y6_2, Y6_3, Y6_4⟩ := cf5 BK204))
  go_ret
  exact ⟨fe, bl⟩
 ·rw [if_neg c4] at H
  have c4b0 : decide (a0_0 < a1) = false := decide_eq_false c4
  clear c4
  by_cases c7 : a1 = a0_0
  ·rw [if_pos c7] at H
   have c7b0 : (a1 == a0_0) = true := beq_iff_eq.mpr c7
   have c7b1 : (a1 != a0_0) = false := bne_eq_false_iff_eq.mpr c7
   clear c7
   by_cases c8 : a0_1 = (-1)
   ·rw [if_pos c8] at H
    have c8b0 : (a0_1 == (-1)) = true := beq_iff_eq.mpr c8
    have c8b1 : (a0_1 != (-1)) = false := bne_eq_false_iff_eq.mpr c8
    clear c8
    obtain rfl := Option.some.inj H
    go_enter Try.func113, Try.ntmps113
    go_wp2_with (first | ((with_reducible refine gD 3 rfl ?_); refine boxZ 3 #[.int .i64 a0_0, .int .i64 a0_1, .int .i64 a0_2, .int .i64 a0_3, .slice A0_4 l0_4.length c0_4] 67 ?_; intro gb204 hg w9 hbox hb; have BK204 := Aside0.mk hbox; have GW204 := gw (w := w) hg; have GE204 := gw (w := w) hg; replace HB := bs (w := w) hb; clear hb hbox hg; obtain ⟨Z10_0, Z10_1, Z10_2, Z10_3, Z10_4, Y10_0, Y10_1, Y10_2, Y10_3, Y10_4⟩ := cf5 BK204))
    go_ret
    exact ⟨fe, bl⟩
   ·rw [if_neg c8] at H
    have c8b0 : (a0_1 == (-1)) = false := beq_eq_false_iff_ne.mpr c8
    have c8b1 : (a0_1 != (-1)) = true := bne_iff_ne.mpr c8
    obtain rfl := Option.some.inj H
    go_enter Try.func113, Try.ntmps113
    go_wp2_with (first | ((with_reducible refine gD 3 rfl ?_); refine boxZ 3 #[.int .i64 a0_0, .int .i64 a0_1, .int .i64 a0_2, .int .i64 a0_3, .slice A0_4 l0_4.length c0_4] 67 ?_; intro gb204 hg w11 hbox hb; have BK204 := Aside0.mk hbox; have GW204 := gw (w := w) hg; have GE204 := gw (w := w) hg; replace HB := bs (w := w) hb; clear hb hbox hg; obtain ⟨Z12_0, Z12_1, Z12_2, Z12_3, Z12_4, Y12_0, Y12_1, Y12_2, Y12_3, Y12_4⟩ := cf5 BK204))
    go_ret
    exact ⟨fe, bl⟩
  ·rw [if_neg c7] at H
   have c7b0 : (a1 == a0_0) = false := beq_eq_false_iff_ne.mpr c7
   have c7b1 : (a1 != a0_0) = true := bne_iff_ne.mpr c7
   obtain rfl := Option.some.inj H
   go_enter Try.func113, Try.ntmps113
   go_wp2_with (first | ((with_reducible refine gD 3 rfl ?_); refine boxZ 3 #[.int .i64 a0_0, .int .i64 a0_1, .int .i64 a0_2, .int .i64 a0_3, .slice A0_4 l0_4.length c0_4] 67 ?_; intro gb204 hg w13 hbox hb; have BK204 := Aside0.mk hbox; have GW204 := gw (w := w) hg; have GE204 := gw (w := w) hg; replace HB := bs (w := w) hb; clear hb hbox hg; obtain ⟨Z14_0, Z14_1, Z14_2, Z14_3, Z14_4, Y14_0, Y14_1, Y14_2, Y14_3, Y14_4⟩ := cf5 BK204))
   go_ret
   exact ⟨fe, bl⟩

/-! ### impl_Entry: function 143 -/
def impl_Entry.f (l0 : List (S117)) : Option ((List (S117))) := if l0.length < 5864062014805 then some l0 else none
set_option maxHeartbeats 8000000 in
set_option maxRecDepth 100000 in
theorem impl_Entry.calls (A0 : Option Addr) (c0 : Nat) (l0 : List (S117)) (r : List (S117)) (w : World) (hr0 : Kd.C k117 w A0 l0.length l0) (hc0 : l0.length ≤ c0) (h : impl_Entry.f l0 = some r) :
 Calls Try.prog 143 #[.slice A0 l0.length c0] w fun e w' => ∃ v0_ : Value, e = .returned (v0_) ∧ Kd.R k117 117 w' w.heap.size (fun _ => True) v0_ r ∧ Below w.heap.size w w' := by
 have c1 : l0.length < 5864062014805 := by
  by_cases c : l0.length < 5864062014805
  ·exact c
  ·simp [impl_Entry.f, c] at h
 obtain rfl : l0 = r := by simpa [impl_Entry.f, c1] using h
 have LMc := Aside0.mk c1
 clear c1 h
 have HB := Aside0.mk (Below.refl w.heap.size w)
 cases A0 with
 | none =>
  have hl : l0 = [] := by
   rcases Nat.eq_zero_or_pos l0.length with g | g
   ·exact List.length_eq_zero_iff.1 g
   ·obtain ⟨ad, e, _⟩ := hr0.2.2 g; cases e
  subst hl
  clear hr0 hc0
  have hq := fun (w : World) (n c : Nat) => Lib.run_eql_slice_nil (P := Try.prog) w 65 117 none n c 0 0 Try.underlying65
  simp only [Option.isNone_none] at hq
  go_enter Try.func143, Try.ntmps143
  go_wp2
  go_ret
  exact ⟨_, rfl, Kd.R_nil _ _ _ _ _, bl⟩
 | some ad =>
  have HR0 := Aside0.mk hr0
  clear hr0 hc0
  have hq := fun (w : World) (n c : Nat) => Lib.run_eql_slice_nil (P := Try.prog) w 65 117 (some ad) n c 0 0 Try.underlying65
  simp only [Option.isNone_some] at hq
  go_enter Try.func143, Try.ntmps143
  go_wp2_with (first | ((with_reducible refine gD 5 rfl ?_); refine Kd.R_lit k117 _ 117 ?hg (N := 5) ?hd (xs := ([] : List (S117))) (inner := []) (ok := fun _ => True) (okp := fun _ => True) ?hr ?hp (fun _ hk => hk) trivial (Below.refl _ _) (Nat.le_refl _) (by simp) ?_; (case hd => rfl); (case hg => rfl); (case hr => first | (go_simp; done) | (go_simp; rfl)); (case hp => exact (Reps.none _ _)); intro v1 w1 ho hb hg_ hnew_; clear hg_ hnew_; have HO := Aside0.mk (Kd.R_lower ho (below_size bl)); replace HB := bs (w := w) hb; clear hb ho) | ((with_reducible refine gate_builtin (b := .append) (xs := #[.tmp 5, .tmp 6]) rfl ?_); at_builtin; refine Kd.R_append_rows k117 (w0 := w) w.heap.size rfl (.tmp 5) (.tmp 6) 65 117 (.agg #[(.int .i64 0), (.string ⟨#[]⟩)]) 24 rfl Try.underlying65 info117 rfl (by decide) (by omega) v1 [] l0 _ _ _ (fun _ => True) (fun _ => False) rfl rfl ?aO ?aR (fun _ _ h => h) (fun _ h => h.elim) ?aF ?aB ?aS ?aL ?_; (case aR => exact (Kd.C_below HR0.out bl)); (case aB => exact bl); (case aF => exact (fun _ _ => trivial)); (case aO => exact HO.out); (case aS => exact (below_size bl)); (case aL => have := LMc.out; simp; omega); intro v2 w2 ho hb hg hat; clear HO HB hg hat; have HO := Aside0.mk ho; have HB := Aside0.mk hb; clear ho hb; obtain ⟨Ao, co, eo⟩ := Kd.R_slice HO.out; subst eo))
  go_ret
  exact ⟨_, rfl, HO.out, bl⟩

/-! ### impl_copyWal: function 119 -/
def impl_copyWal.f (a0_0 : Int) (a0_1 : Int) (a0_2 : Int) (a0_3 : Int) (l0_4 : List (S117)) : Option (Int × Int × Int × Int × (List (S117))) := (impl_Entry.f l0_4).bind fun t207 => (some (a0_0, a0_1, a0_2, a0_3, t207))
set_option maxHeartbeats 8000000 in
set_option maxRecDepth 100000 in
theorem impl_copyWal.calls (a0_0 : Int) (a0_1 : Int) (a0_2 : Int) (a0_3 : Int) (A0_4 : Option Addr) (c0_4 : Nat) (l0_4 : List (S117)) (r1 : Int) (r2 : Int) (r3 : Int) (r4 : Int) (r5 : List (S117)) (w : World) (hr0_4 : Kd.C k117 w A0_4 l0_4.length l0_4) (hc0_4 : l0_4.length ≤ c0_4) (h : impl_copyWal.f a0_0 a0_1 a0_2 a0_3 l0_4 = some (r1, r2, r3, r4, r5)) :
 Calls Try.prog 119 #[.agg #[.int .i64 a0_0, .int .i64 a0_1, .int .i64 a0_2, .int .i64 a0_3, .slice A0_4 l0_4.length c0_4]] w fun e w' => ∃ v4_ : Value, e = .returned (.agg #[.int .i64 r1, .int .i64 r2, .int .i64 r3, .int .i64 r4, v4_]) ∧ Kd.R k117 117 w' w.heap.size (fun _ => True) v4_ r5 ∧ Below w.heap.size w w' := by
 have hu67 := Try.underlying67
 have HR0_4 := Aside0.mk hr0_4
 have HC0_4 := Aside0.mk hc0_4
 clear hr0_4 hc0_4
 have HB := Aside0.mk (Below.refl w.heap.size w)
 have H : ((impl_Entry.f l0_4).bind fun t207 => (some (a0_0, a0_1, a0_2, a0_3, t207))) = some (r1, r2, r3, r4, r5) := h
 clear h
 obtain ⟨t207, A2, H⟩ := bd H
 simp only [Option.some.injEq, Prod.mk.injEq] at H
 obtain ⟨rfl, rfl, rfl, rfl, rfl⟩ := H
 go_enter Try.func119, Try.ntmps119
 go_wp2_with (first | ((with_reducible refine gD 1 rfl ?_); refine boxZ 1 #[.int .i64 a0_0, .int .i64 a0_1, .int .i64 a0_2, .int .i64 a0_3, .slice A0_4 l0_4.length c0_4] 67 ?_; intro gb205 hg w3 hbox hb; have BK205 := Aside0.mk hbox; have GW205 := gw (w := w) hg; have GE205 := gw (w := w) hg; replace HB := bs (w := w) hb; clear hb hbox hg) | ((with_reducible refine gD 2 rfl ?_); refine boxZ 2 #[.int .i64 0, .int .i64 0, .int .i64 0, .int .i64 0, .slice none 0 0] 67 ?_; intro gb206 hg w4 hbox hb; have BK206 := Aside0.mk hbox; have GW206 := gw (w := w) hg; have GE206 := gw (w := w) hg; replace HB := bs (w := w) hb; have NB205_206 := nl BK205 hg; have NB206_205 := nr BK205 hg; replace BK205 := bv BK205 hb; clear hb hbox hg; have hnb5 := NB205_206.out; have hnc5 := NB206_205.out; obtain ⟨Z6_0, Z6_1, Z6_2, Z6_3, Z6_4, Y6_0, Y6_1, Y6_2, Y6_3, Y6_4⟩ := cf5 BK205) | ((with_reducible refine gC 143 rfl ?_); refine goesZ (some 5) rfl Try.func143 #[.slice A0_4 l0_4.length c0_4] ?_; (with_reducible refine (impl_Entry.calls _ _ l0_4 t207 _ ?side1 ?side2 A2.out).mono ?_); (case side1 => exact ca (Kd.C_below HR0_4.out HB.out)); (case side2 => exact HC0_4.out); rintro e w7 ⟨v208, rfl, ho0, hb⟩; refine ⟨_, rfl, ?_⟩; have HO209 := Aside0.mk (Kd.R_lower ho0 (below_size bl)); replace BK205 := bv BK205 hb; replace BK206 := bv BK206 hb; replace HB := bs (w := w) hb; (try clear hb ho0); obtain ⟨Ao8, co8, rfl⟩ := Kd.R_slice HO209.out; obtain ⟨Z9_0, Z9_1, Z9_2, Z9_3, Z9_4, Y9_0, Y9_1, Y9_2, Y9_3, Y9_4⟩ := cf5 BK205; obtain ⟨Z10_0, Z10_1, Z10_2, Z10_3, Z10_4, Y10_0, Y10_1, Y10_2, Y10_3, Y10_4⟩ := cf5 BK206))
 refine bodyPost_ret (results_cell_row rfl _ _ gb206 67 #[.int .i64 a0_0, .int .i64 a0_1, .int .i64 a0_2, .int .i64 a0_3, .slice Ao8 t207.length co8] (0, 0) _ rfl bkk Try.underlying67 rfl (by kernel_rfl)) rfl ?_
 exact ⟨_, fe, rpR (Kd.R_mono (Kd.R_far (p := ⟨gb206, 4, none⟩) (Kd.R_far (p := ⟨gb206, 3, none⟩) (Kd.R_far (p := ⟨gb206, 2, none⟩) (Kd.R_far (p := ⟨gb206, 1, none⟩) (Kd.R_far (p := ⟨gb206, 0, none⟩) (Kd.R_far (p := ⟨gb205, 4, none⟩) (Kd.R_types (Kd.R_types HO209.out BK205.out (by decide)) BK206.out (by decide)) (fun _ hk => hk.1.2) (.slice Ao8 t207.length co8)) (fun _ hk => hk.2) (.int .i64 a0_0)) (fun _ hk => hk.2) (.int .i64 a0_1)) (fun _ hk => hk.2) (.int .i64 a0_2)) (fun _ hk => hk.2) (.int .i64 a0_3)) (fun _ hk => hk.2) (.slice Ao8 t207.length co8)) (fun _ hk => trivial)), bl⟩

/-! ### impl_RecOk: function 120 -/
def impl_RecOk.f (a0_0 : Int) (a0_1 : Int) (a0_2 : Int) (a0_3 : Int) (a0_4 : ByteArray) : Option (Bool) := if a0_0 = 1 then ((impl_from.f a0_1 0 100000).bind fun t211 => (if t211 = true then ((impl_isVote.f a0_3).bind fun t212 => (if t212 = true then (if a0_2 = 0 then (some (a0_4.toList == ([] : List UInt8))) else (some false)) else (some false))) else (some false))) else (if a0_0 = 2 then ((impl_isTerm.f a0_1).bind fun t213 => (if t213 = true then ((impl_from.f a0_2 1 100000).bind fun t214 => (if t214 = true then (if (a0_4.size : Int) ≤ 900 then (some (a0_3 == 0)) else (some false)) else (some false))) else (some false))) else (if a0_0 = 3 then ((impl_from.f a0_2 1 100000).bind fun t215 => (if t215 = true then (if a0_1 = 0 then (if a0_3 = 0 then (some (a0_4.toList == ([] : List UInt8))) else (some false)) else (some false)) else (some false))) else (if a0_0 = 4 then ((impl_isPlace.f a0_2 a0_1).bind fun t216 => (if t216 = true then (if a0_3 = 0 then (some (a0_4.toList == ([] : List UInt8))) else (some false)) else (some false))) else (some false))))
set_option maxHeartbeats 8000000 in
set_option maxRecDepth 100000 in
theorem impl_RecOk.calls (a0_0 : Int) (a0_1 : Int) (a0_2 : Int) (a0_3 : Int) (a0_4 : ByteArray) (r : Bool) (w : World) (h : impl_RecOk.f a0_0 a0_1 a0_2 a0_3 a0_4 = some r) :
 Calls Try.prog 120 #[.agg #[.int .i64 a0_0, .int .i64 a0_1, .int .i64 a0_2, .int .i64 a0_3, .string a0_4]] w fun e w' => e = .returned (.bool r) ∧ Below w.heap.size w w' := by
 have hu83 := Try.underlying83
 have HB := Aside0.mk (Below.refl w.heap.size w)
 have H : (if a0_0 = 1 then ((impl_from.f a0_1 0 100000).bind fun t211 => (if t211 = true then ((impl_isVote.f a0_3).bind fun t212 => (if t212 = true then (if a0_2 = 0 then (some (a0_4.toList == ([] : List UInt8))) else (some false)) else (some false))) else (some false))) else (if a0_0 = 2 then ((impl_isTerm.f a0_1).bind fun t213 => (if t213 = true then ((impl_from.f a0_2 1 100000).bind fun t214 => (if t214 = true then (if (a0_4.size : Int) ≤ 900 then (some (a0_3 == 0)) else (some false)) else (some false))) else (some false))) else (if a0_0 = 3 then ((impl_from.f a0_2 1 100000).bind fun t215 => (if t215 = true then (if a0_1 = 0 then (if a0_3 = 0 then (some (a0_4.toList == ([] : List UInt8))) else (some false)) else (some false)) else (some false))) else (if a0_0 = 4 then ((impl_isPlace.f a0_2 a0_1).bind fun t216 => (if t216 = true then (if a0_3 = 0 then (some (a0_4.toList == ([] : List UInt8))) else (some false)) else (some false))) else (some false))))) = some r := h
 clear h
 by_cases c2 : a0_0 = 1
 ·rw [if_pos c2] at H
  have c2b0 : (a0_0 == 1) = true := beq_iff_eq.mpr c2
  have c2b1 : (a0_0 != 1) = false := bne_eq_false_iff_eq.mpr c2
  clear c2
  obtain ⟨t211, A3, H⟩ := bd H
  by_cases c4 : t211 = true
  ·subst c4
   replace H := iT H
   obtain ⟨t212, A5, H⟩ := bd H
   by_cases c6 : t212 = true
   ·subst c6
    replace H := iT H
    by_cases c7 : a0_2 = 0
    ·rw [if_pos c7] at H
     have c7b0 : (a0_2 == 0) = true := beq_iff_eq.mpr c7
     have c7b1 : (a0_2 != 0) = false := bne_eq_false_iff_eq.mpr c7
     clear c7
     obtain rfl := Option.some.inj H
     go_enter Try.func120, Try.ntmps120
     go_wp2_with (first | ((with_reducible refine gD 1 rfl ?_); (try (refine gate_guard rfl ?_; dsimp only)); refine boxZ 1 #[.int .i64 a0_0, .int .i64 a0_1, .int .i64 a0_2, .int .i64 a0_3, .string a0_4] 83 ?_; intro gb210 hg w8 hbox hb; have BK210 := Aside0.mk hbox; have GW210 := gw (w := w) hg; have GE210 := gw (w := w) hg; replace HB := bs (w := w) hb; clear hb hbox hg; obtain ⟨Z9_0, Z9_1, Z9_2, Z9_3, Z9_4, Y9_0, Y9_1, Y9_2, Y9_3, Y9_4⟩ := cf5 BK210) | ((with_reducible refine gC 78 rfl ?_); refine goesZ (some 9) rfl Try.func78 #[.int .i64 a0_1, .int .i64 0, .int .i64 100000] ?_; (with_reducible refine (impl_from.calls a0_1 0 100000 true _ A3.out).mono ?_); rintro e w' ⟨rfl, ⟨nd, rfl⟩⟩; refine ⟨_, rfl, ?_⟩) | (go_at_call 136; (with_reducible refine (impl_isVote.calls a0_3 true _ A5.out).mono ?_); rintro e w' ⟨rfl, ⟨nd, rfl⟩⟩))
     go_ret
     exact ⟨fe, bl⟩
    ·rw [if_neg c7] at H
     have c7b0 : (a0_2 == 0) = false := beq_eq_false_iff_ne.mpr c7
     have c7b1 : (a0_2 != 0) = true := bne_iff_ne.mpr c7
     obtain rfl := Option.some.inj H
     go_enter Try.func120, Try.ntmps120
     go_wp2_with (first | ((with_reducible refine gD 1 rfl ?_); (try (refine gate_guard rfl ?_; dsimp only)); refine boxZ 1 #[.int .i64 a0_0, .int .i64 a0_1, .int .i64 a0_2, .int .i64 a0_3, .string a0_4] 83 ?_; intro gb210 hg w10 hbox hb; have BK210 := Aside0.mk hbox; have GW210 := gw (w := w) hg; have GE210 := gw (w := w) hg; replace HB := bs (w := w) hb; clear hb hbox hg; obtain ⟨Z11_0, Z11_1, Z11_2, Z11_3, Z11_4, Y11_0, Y11_1, Y11_2, Y11_3, Y11_4⟩ := cf5 BK210) | ((with_reducible refine gC 78 rfl ?_); refine goesZ (some 9) rfl Try.func78 #[.int .i64 a0_1, .int .i64 0, .int .i64 100000] ?_; (with_reducible refine (impl_from.calls a0_1 0 100000 true _ A3.out).mono ?_); rintro e w' ⟨rfl, ⟨nd, rfl⟩⟩; refine ⟨_, rfl, ?_⟩) | (go_at_call 136; (with_reducible refine (impl_isVote.calls a0_3 true _ A5.out).mono ?_); rintro e w' ⟨rfl, ⟨nd, rfl⟩⟩))
     go_ret
     exact ⟨fe, bl⟩
   ·replace c6 := Bool.eq_false_iff.mpr c6
    subst c6
    replace H := iF H
    obtain rfl := Option.some.inj H
    go_enter Try.func120, Try.ntmps120
    go_wp2_with (first | ((with_reducible refine gD 1 rfl ?_); (try (refine gate_guard rfl ?_; dsimp only)); refine boxZ 1 #[.int .i64 a0_0, .int .i64 a0_1, .int .i64 a0_2, .int .i64 a0_3, .string a0_4] 83 ?_; intro gb210 hg w12 hbox hb; have BK210 := Aside0.mk hbox; have GW210 := gw (w := w) hg; have GE210 := gw (w := w) hg; replace HB := bs (w := w) hb; clear hb hbox hg; obtain ⟨Z13_0, Z13_1, Z13_2, Z13_3, Z13_4, Y13_0, Y13_1, Y13_2, Y13_3, Y13_4⟩ := cf5 BK210) | ((with_reducible refine gC 78 rfl ?_); refine goesZ (some 9) rfl Try.func78 #[.int .i64 a0_1, .int .i64 0, .int .i64 100000] ?_; (with_reducible refine (impl_from.calls a0_1 0 100000 true _ A3.out).mono ?_); rintro e w' ⟨rfl, ⟨nd, rfl⟩⟩; refine ⟨_, rfl, ?_⟩) | (go_at_call 136; (with_reducible refine (impl_isVote.calls a0_3 false _ A5.out).mono ?_); rintro e w' ⟨rfl, ⟨nd, rfl⟩⟩))
    go_ret
    exact ⟨fe, bl⟩
  ·replace c4 := Bool.eq_false_iff.mpr c4
   subst c4
   replace H := iF H
   obtain rfl := Option.some.inj H
   go_enter Try.func120, Try.ntmps120
   go_wp2_with (first | ((with_reducible refine gD 1 rfl ?_); (try (refine gate_guard rfl ?_; dsimp only)); refine boxZ 1 #[.int .i64 a0_0, .int .i64 a0_1, .int .i64 a0_2, .int .i64 a0_3, .string a0_4] 83 ?_; intro gb210 hg w14 hbox hb; have BK210 := Aside0.mk hbox; have GW210 := gw (w := w) hg; have GE210 := gw (w := w) hg; replace HB := bs (w := w) hb; clear hb hbox hg; obtain ⟨Z15_0, Z15_1, Z15_2, Z15_3, Z15_4, Y15_0, Y15_1, Y15_2, Y15_3, Y15_4⟩ := cf5 BK210) | ((with_reducible refine gC 78 rfl ?_); refine goesZ (some 9) rfl Try.func78 #[.int .i64 a0_1, .int .i64 0, .int .i64 100000] ?_; (with_reducible refine (impl_from.calls a0_1 0 100000 false _ A3.out).mono ?_); rintro e w' ⟨rfl, ⟨nd, rfl⟩⟩; refine ⟨_, rfl, ?_⟩))
   go_ret
   exact ⟨fe, bl⟩
 ·rw [if_neg c2] at H
  have c2b0 : (a0_0 == 1) = false := beq_eq_false_iff_ne.mpr c2
  have c2b1 : (a0_0 != 1) = true := bne_iff_ne.mpr c2
  by_cases c16 : a0_0 = 2
  ·rw [if_pos c16] at H
   have c16b0 : (a0_0 == 2) = true := beq_iff_eq.mpr c16
   have c16b1 : (a0_0 != 2) = false := bne_eq_false_iff_eq.mpr c16
   clear c16
   obtain ⟨t213, A17, H⟩ := bd H
   by_cases c18 : t213 = true
   ·subst c18
    replace H := iT H
    obtain ⟨t214, A19, H⟩ := bd H
    by_cases c20 : t214 = true
    ·subst c20
     replace H := iT H
     by_cases c21 : (a0_4.size : Int) ≤ 900
     ·rw [if_pos c21] at H
      have c21b0 : decide ((a0_4.size : Int) ≤ 900) = true := decide_eq_true c21
      have c21b1 : decide (a0_4.size ≤ 900) = true := decide_eq_true (by omega)
      clear c21
      obtain rfl := Option.some.inj H
      go_enter Try.func120, Try.ntmps120
      go_wp2_with (first | ((with_reducible refine gD 1 rfl ?_); (try (refine gate_guard rfl ?_; dsimp only)); refine boxZ 1 #[.int .i64 a0_0, .int .i64 a0_1, .int .i64 a0_2, .int .i64 a0_3, .string a0_4] 83 ?_; intro gb210 hg w22 hbox hb; have BK210 := Aside0.mk hbox; have GW210 := gw (w := w) hg; have GE210 := gw (w := w) hg; replace HB := bs (w := w) hb; clear hb hbox hg; obtain ⟨Z23_0, Z23_1, Z23_2, Z23_3, Z23_4, Y23_0, Y23_1, Y23_2, Y23_3, Y23_4⟩ := cf5 BK210) | ((with_reducible refine gC 144 rfl ?_); refine goesZ (some 29) rfl Try.func144 #[.int .i64 a0_1] ?_; (with_reducible refine (impl_isTerm.calls a0_1 true _ A17.out).mono ?_); rintro e w' ⟨rfl, ⟨nd, rfl⟩⟩; refine ⟨_, rfl, ?_⟩) | (go_at_call 78; (with_reducible refine (impl_from.calls a0_2 1 100000 true _ A19.out).mono ?_); rintro e w' ⟨rfl, ⟨nd, rfl⟩⟩))
      go_ret
      exact ⟨fe, bl⟩
     ·rw [if_neg c21] at H
      have c21b0 : decide ((a0_4.size : Int) ≤ 900) = false := decide_eq_false c21
      have c21b1 : decide (a0_4.size ≤ 900) = false := decide_eq_false (by omega)
      clear c21
      obtain rfl := Option.some.inj H
      go_enter Try.func120, Try.ntmps120
      go_wp2_with (first | ((with_reducible refine gD 1 rfl ?_); (try (refine gate_guard rfl ?_; dsimp only)); refine boxZ 1 #[.int .i64 a0_0, .int .i64 a0_1, .int .i64 a0_2, .int .i64 a0_3, .string a0_4] 83 ?_; intro gb210 hg w24 hbox hb; have BK210 := Aside0.mk hbox; have GW210 := gw (w := w) hg; have GE210 := gw (w := w) hg; replace HB := bs (w := w) hb; clear hb hbox hg; obtain ⟨Z25_0, Z25_1, Z25_2, Z25_3, Z25_4, Y25_0, Y25_1, Y25_2, Y25_3, Y25_4⟩ := cf5 BK210) | ((with_reducible refine gC 144 rfl ?_); refine goesZ (some 29) rfl Try.func144 #[.int .i64 a0_1] ?_; (with_reducible refine (impl_isTerm.calls a0_1 true _ A17.out).mono ?_); rintro e w' ⟨rfl, ⟨nd, rfl⟩⟩; refine ⟨_, rfl, ?_⟩) | (go_at_call 78; (with_reducible refine (impl_from.calls a0_2 1 100000 true _ A19.out).mono ?_); rintro e w' ⟨rfl, ⟨nd, rfl⟩⟩))
      go_ret
      exact ⟨fe, bl⟩
    ·replace c20 := Bool.eq_false_iff.mpr c20
     subst c20
     replace H := iF H
     obtain rfl := Option.some.inj H
     go_enter Try.func120, Try.ntmps120
     go_wp2_with (first | ((with_reducible refine gD 1 rfl ?_); (try (refine gate_guard rfl ?_; dsimp only)); refine boxZ 1 #[.int .i64 a0_0, .int .i64 a0_1, .int .i64 a0_2, .int .i64 a0_3, .string a0_4] 83 ?_; intro gb210 hg w26 hbox hb; have BK210 := Aside0.mk hbox; have GW210 := gw (w := w) hg; have GE210 := gw (w := w) hg; replace HB := bs (w := w) hb; clear hb hbox hg; obtain ⟨Z27_0, Z27_1, Z27_2, Z27_3, Z27_4, Y27_0, Y27_1, Y27_2, Y27_3, Y27_4⟩ := cf5 BK210) | ((with_reducible refine gC 144 rfl ?_); refine goesZ (some 29) rfl Try.func144 #[.int .i64 a0_1] ?_; (with_reducible refine (impl_isTerm.calls a0_1 true _ A17.out).mono ?_); rintro e w' ⟨rfl, ⟨nd, rfl⟩⟩; refine ⟨_, rfl, ?_⟩) | (go_at_call 78; (with_reducible refine (impl_from.calls a0_2 1 100000 false _ A19.out).mono ?_); rintro e w' ⟨rfl, ⟨nd, rfl⟩⟩))
     go_ret
     exact ⟨fe, bl⟩
   ·replace c18 := Bool.eq_false_iff.mpr c18
    subst c18
    replace H := iF H
    obtain rfl := Option.some.inj H
    go_enter Try.func120, Try.ntmps120
    go_wp2_with (first | ((with_reducible refine gD 1 rfl ?_); (try (refine gate_guard rfl ?_; dsimp only)); refine boxZ 1 #[.int .i64 a0_0, .int .i64 a0_1, .int .i64 a0_2, .int .i64 a0_3, .string a0_4] 83 ?_; intro gb210 hg w28 hbox hb; have BK210 := Aside0.mk hbox; have GW210 := gw (w := w) hg; have GE210 := gw (w := w) hg; replace HB := bs (w := w) hb; clear hb hbox hg; obtain ⟨Z29_0, Z29_1, Z29_2, Z29_3, Z29_4, Y29_0, Y29_1, Y29_2, Y29_3, Y29_4⟩ := cf5 BK210) | ((with_reducible refine gC 144 rfl ?_); refine goesZ (some 29) rfl Try.func144 #[.int .i64 a0_1] ?_; (with_reducible refine (impl_isTerm.calls a0_1 false _ A17.out).mono ?_); rintro e w' ⟨rfl, ⟨nd, rfl⟩⟩; refine ⟨_, rfl, ?_⟩))
    go_ret
    exact ⟨fe, bl⟩
  ·rw [if_neg c16] at H
   have c16b0 : (a0_0 == 2) = false := beq_eq_false_iff_ne.mpr c16
   have c16b1 : (a0_0 != 2) = true := bne_iff_ne.mpr c16
   by_cases c30 : a0_0 = 3
   ·rw [if_pos c30] at H
    have c30b0 : (a0_0 == 3) = true := beq_iff_eq.mpr c30
    have c30b1 : (a0_0 != 3) = false := bne_eq_false_iff_eq.mpr c30
    clear c30
    obtain ⟨t215, A31, H⟩ := bd H
    by_cases c32 : t215 = true
    ·subst c32
     replace H := iT H
     by_cases c33 : a0_1 = 0
     ·rw [if_pos c33] at H
      have c33b0 : (a0_1 == 0) = true := beq_iff_eq.mpr c33
      have c33b1 : (a0_1 != 0) = false := bne_eq_false_iff_eq.mpr c33
      clear c33
      by_cases c34 : a0_3 = 0
      ·rw [if_pos c34] at H
       have c34b0 : (a0_3 == 0) = true := beq_iff_eq.mpr c34
       have c34b1 : (a0_3 != 0) = false := bne_eq_false_iff_eq.mpr c34
       clear c34
       obtain rfl := Option.some.inj H
       go_enter Try.func120, Try.ntmps120
       go_wp2_with (first | ((with_reducible refine gD 1 rfl ?_); (try (refine gate_guard rfl ?_; dsimp only)); refine boxZ 1 #[.int .i64 a0_0, .int .i64 a0_1, .int .i64 a0_2, .int .i64 a0_3, .string a0_4] 83 ?_; intro gb210 hg w35 hbox hb; have BK210 := Aside0.mk hbox; have GW210 := gw (w := w) hg; have GE210 := gw (w := w) hg; replace HB := bs (w := w) hb; clear hb hbox hg; obtain ⟨Z36_0, Z36_1, Z36_2, Z36_3, Z36_4, Y36_0, Y36_1, Y36_2, Y36_3, Y36_4⟩ := cf5 BK210) | ((with_reducible refine gC 78 rfl ?_); refine goesZ (some 50) rfl Try.func78 #[.int .i64 a0_2, .int .i64 1, .int .i64 100000] ?_; (with_reducible refine (impl_from.calls a0_2 1 100000 true _ A31.out).mono ?_); rintro e w' ⟨rfl, ⟨nd, rfl⟩⟩; refine ⟨_, rfl, ?_⟩))
       go_ret
       exact ⟨fe, bl⟩
      ·rw [if_neg c34] at H
       have c34b0 : (a0_3 == 0) = false := beq_eq_false_iff_ne.mpr c34
       have c34b1 : (a0_3 != 0) = true := bne_iff_ne.mpr c34
       obtain rfl := Option.some.inj H
       go_enter Try.func120, Try.ntmps120
       go_wp2_with (first | ((with_reducible refine gD 1 rfl ?_); (try (refine gate_guard rfl ?_; dsimp only)); refine boxZ 1 #[.int .i64 a0_0, .int .i64 a0_1, .int .i64 a0_2, .int .i64 a0_3, .string a0_4] 83 ?_; intro gb210 hg w37 hbox hb; have BK210 := Aside0.mk hbox; have GW210 := gw (w := w) hg; have GE210 := gw (w := w) hg; replace HB := bs (w := w) hb; clear hb hbox hg; obtain ⟨Z38_0, Z38_1, Z38_2, Z38_3, Z38_4, Y38_0, Y38_1, Y38_2, Y38_3, Y38_4⟩ := cf5 BK210) | ((with_reducible refine gC 78 rfl ?_); refine goesZ (some 50) rfl Try.func78 #[.int .i64 a0_2, .int .i64 1, .int .i64 100000] ?_; (with_reducible refine (impl_from.calls a0_2 1 100000 true _ A31.out).mono ?_); rintro e w' ⟨rfl, ⟨nd, rfl⟩⟩; refine ⟨_, rfl, ?_⟩))
       go_ret
       exact ⟨fe, bl⟩
     ·rw [if_neg c33] at H
      have c33b0 : (a0_1 == 0) = false := beq_eq_false_iff_ne.mpr c33
      have c33b1 : (a0_1 != 0) = true := bne_iff_ne.mpr c33
      obtain rfl := Option.some.inj H
      go_enter Try.func120, Try.ntmps120
      go_wp2_with (first | ((with_reducible refine gD 1 rfl ?_); (try (refine gate_guard rfl ?_; dsimp only)); refine boxZ 1 #[.int .i64 a0_0, .int .i64 a0_1, .int .i64 a0_2, .int .i64 a0_3, .string a0_4] 83 ?_; intro gb210 hg w39 hbox hb; have BK210 := Aside0.mk hbox; have GW210 := gw (w := w) hg; have GE210 := gw (w := w) hg; replace HB := bs (w := w) hb; clear hb hbox hg; obtain ⟨Z40_0, Z40_1, Z40_2, Z40_3, Z40_4, Y40_0, Y40_1, Y40_2, Y40_3, Y40_4⟩ := cf5 BK210) | ((with_reducible refine gC 78 rfl ?_); refine goesZ (some 50) rfl Try.func78 #[.int .i64 a0_2, .int .i64 1, .int .i64 100000] ?_; (with_reducible refine (impl_from.calls a0_2 1 100000 true _ A31.out).mono ?_); rintro e w' ⟨rfl, ⟨nd, rfl⟩⟩; refine ⟨_, rfl, ?_⟩))
      go_ret
      exact ⟨fe, bl⟩
    ·replace c32 := Bool.eq_false_iff.mpr c32
     subst c32
     replace H := iF H
     obtain rfl := Option.some.inj H
     go_enter Try.func120, Try.ntmps120
     go_wp2_with (first | ((with_reducible refine gD 1 rfl ?_); (try (refine gate_guard rfl ?_; dsimp only)); refine boxZ 1 #[.int .i64 a0_0, .int .i64 a0_1, .int .i64 a0_2, .int .i64 a0_3, .string a0_4] 83 ?_; intro gb210 hg w41 hbox hb; have BK210 := Aside0.mk hbox; have GW210 := gw (w := w) hg; have GE210 := gw (w := w) hg; replace HB := bs (w := w) hb; clear hb hbox hg; obtain ⟨Z42_0, Z42_1, Z42_2, Z42_3, Z42_4, Y42_0, Y42_1, Y42_2, Y42_3, Y42_4⟩ := cf5 BK210) | ((with_reducible refine gC 78 rfl ?_); refine goesZ (some 50) rfl Try.func78 #[.int .i64 a0_2, .int .i64 1, .int .i64 100000] ?_; (with_reducible refine (impl_from.calls a0_2 1 100000 false _ A31.out).mono ?_); rintro e w' ⟨rfl, ⟨nd, rfl⟩⟩; refine ⟨_, rfl, ?_⟩))
     go_ret
     exact ⟨fe, bl⟩
   ·rw [if_neg c30] at H
    have c30b0 : (a0_0 == 3) = false := beq_eq_false_iff_ne.mpr c30
    have c30b1 : (a0_0 != 3) = true := bne_iff_ne.mpr c30
    by_cases c43 : a0_0 = 4
    ·rw [if_pos c43] at H
     have c43b0 : (a0_0 == 4) = true := beq_iff_eq.mpr c43
     have c43b1 : (a0_0 != 4) = false := bne_eq_false_iff_eq.mpr c43
     clear c43
     obtain ⟨t216, A44, H⟩ := bd H
     by_cases c45 : t216 = true
     ·subst c45
      replace H := iT H
      by_cases c46 : a0_3 = 0
      ·rw [if_pos c46] at H
       have c46b0 : (a0_3 == 0) = true := beq_iff_eq.mpr c46
       have c46b1 : (a0_3 != 0) = false := bne_eq_false_iff_eq.mpr c46
       clear c46
       obtain rfl := Option.some.inj H
       go_enter Try.func120, Try.ntmps120
       go_wp2_with (first | ((with_reducible refine gD 1 rfl ?_); (try (refine gate_guard rfl ?_; dsimp only)); refine boxZ 1 #[.int .i64 a0_0, .int .i64 a0_1, .int .i64 a0_2, .int .i64 a0_3, .string a0_4] 83 ?_; intro gb210 hg w47 hbox hb; have BK210 := Aside0.mk hbox; have GW210 := gw (w := w) hg; have GE210 := gw (w := w) hg; replace HB := bs (w := w) hb; clear hb hbox hg; obtain ⟨Z48_0, Z48_1, Z48_2, Z48_3, Z48_4, Y48_0, Y48_1, Y48_2, Y48_3, Y48_4⟩ := cf5 BK210) | ((with_reducible refine gC 137 rfl ?_); refine goesZ (some 72) rfl Try.func137 #[.int .i64 a0_2, .int .i64 a0_1] ?_; (with_reducible refine (impl_isPlace.calls a0_2 a0_1 true _ A44.out).mono ?_); rintro e w' ⟨rfl, ⟨nd, rfl⟩⟩; refine ⟨_, rfl, ?_⟩))
       go_ret
       exact ⟨fe, bl⟩
      ·rw [if_neg c46] at H
       have c46b0 : (a0_3 == 0) = false := beq_eq_false_iff_ne.mpr c46
       have c46b1 : (a0_3 != 0) = true := bne_iff_ne.mpr c46
       obtain rfl := Option.some.inj H
       go_enter Try.func120, Try.ntmps120
       go_wp2_with (first | ((with_reducible refine gD 1 rfl ?_); (try (refine gate_guard rfl ?_; dsimp only)); refine boxZ 1 #[.int .i64 a0_0, .int .i64 a0_1, .int .i64 a0_2, .int .i64 a0_3, .string a0_4] 83 ?_; intro gb210 hg w49 hbox hb; have BK210 := Aside0.mk hbox; have GW210 := gw (w := w) hg; have GE210 := gw (w := w) hg; replace HB := bs (w := w) hb; clear hb hbox hg; obtain ⟨Z50_0, Z50_1, Z50_2, Z50_3, Z50_4, Y50_0, Y50_1, Y50_2, Y50_3, Y50_4⟩ := cf5 BK210) | ((with_reducible refine gC 137 rfl ?_); refine goesZ (some 72) rfl Try.func137 #[.int .i64 a0_2, .int .i64 a0_1] ?_; (with_reducible refine (impl_isPlace.calls a0_2 a0_1 true _ A44.out).mono ?_); rintro e w' ⟨rfl, ⟨nd, rfl⟩⟩; refine ⟨_, rfl, ?_⟩))
       go_ret
       exact ⟨fe, bl⟩
     ·replace c45 := Bool.eq_false_iff.mpr c45
      subst c45
      replace H := iF H
      obtain rfl := Option.some.inj H
      go_enter Try.func120, Try.ntmps120
      go_wp2_with (first | ((with_reducible refine gD 1 rfl ?_); (try (refine gate_guard rfl ?_; dsimp only)); refine boxZ 1 #[.int .i64 a0_0, .int .i64 a0_1, .int .i64 a0_2, .int .i64 a0_3, .string a0_4] 83 ?_; intro gb210 hg w51 hbox hb; have BK210 := Aside0.mk hbox; have GW210 := gw (w := w) hg; have GE210 := gw (w := w) hg; replace HB := bs (w := w) hb; clear hb hbox hg; obtain ⟨Z52_0, Z52_1, Z52_2, Z52_3, Z52_4, Y52_0, Y52_1, Y52_2, Y52_3, Y52_4⟩ := cf5 BK210) | ((with_reducible refine gC 137 rfl ?_); refine goesZ (some 72) rfl Try.func137 #[.int .i64 a0_2, .int .i64 a0_1] ?_; (with_reducible refine (impl_isPlace.calls a0_2 a0_1 false _ A44.out).mono ?_); rintro e w' ⟨rfl, ⟨nd, rfl⟩⟩; refine ⟨_, rfl, ?_⟩))
      go_ret
      exact ⟨fe, bl⟩
    ·rw [if_neg c43] at H
     have c43b0 : (a0_0 == 4) = false := beq_eq_false_iff_ne.mpr c43
     have c43b1 : (a0_0 != 4) = true := bne_iff_ne.mpr c43
     obtain rfl := Option.some.inj H
     go_enter Try.func120, Try.ntmps120
     go_wp2_with (first | ((with_reducible refine gD 1 rfl ?_); (try (refine gate_guard rfl ?_; dsimp only)); refine boxZ 1 #[.int .i64 a0_0, .int .i64 a0_1, .int .i64 a0_2, .int .i64 a0_3, .string a0_4] 83 ?_; intro gb210 hg w53 hbox hb; have BK210 := Aside0.mk hbox; have GW210 := gw (w := w) hg; have GE210 := gw (w := w) hg; replace HB := bs (w := w) hb; clear hb hbox hg; obtain ⟨Z54_0, Z54_1, Z54_2, Z54_3, Z54_4, Y54_0, Y54_1, Y54_2, Y54_3, Y54_4⟩ := cf5 BK210))
     go_ret
     exact ⟨fe, bl⟩

/-! ### impl_lastTerm: function 121 -/
def impl_lastTerm.f (a0_0 : Int) (a0_1 : Int) (a0_2 : Int) (a0_3 : Int) (l0_4 : List (S117)) : Option (Int) := if (l0_4.length : Int) = 0 then (some a0_3) else (if 0 ≤ (wrap64 ((l0_4.length : Int) - 1)) then (if (wrap64 ((l0_4.length : Int) - 1)) < (l0_4.length : Int) then (some ((rd_T117 l0_4 (wrap64 ((l0_4.length : Int) - 1))).f0)) else (none)) else (none))
set_option maxHeartbeats 8000000 in
set_option maxRecDepth 100000 in
theorem impl_lastTerm.calls (a0_0 : Int) (a0_1 : Int) (a0_2 : Int) (a0_3 : Int) (A0_4 : Option Addr) (c0_4 : Nat) (l0_4 : List (S117)) (r : Int) (w : World) (hr0_4 : Kd.C k117 w A0_4 l0_4.length l0_4) (hc0_4 : l0_4.length ≤ c0_4) (h : impl_lastTerm.f a0_0 a0_1 a0_2 a0_3 l0_4 = some r) :
 Calls Try.prog 121 #[.agg #[.int .i64 a0_0, .int .i64 a0_1, .int .i64 a0_2, .int .i64 a0_3, .slice A0_4 l0_4.length c0_4]] w fun e w' => e = .returned (.int .i64 r) ∧ Below w.heap.size w w' := by
 have hu67 := Try.underlying67
 have HR0_4 := Aside0.mk hr0_4
 have HC0_4 := Aside0.mk hc0_4
 clear hr0_4 hc0_4
 have HB := Aside0.mk (Below.refl w.heap.size w)
 have H : (if (l0_4.length : Int) = 0 then (some a0_3) else (if 0 ≤ (wrap64 ((l0_4.length : Int) - 1)) then (if (wrap64 ((l0_4.length : Int) - 1)) < (l0_4.length : Int) then (some ((rd_T117 l0_4 (wrap64 ((l0_4.length : Int) - 1))).f0)) else (none)) else (none))) = some r := h
 clear h
 by_cases c2 : (l0_4.length : Int) = 0
 ·rw [if_pos c2] at H
  have c2b0 : ((l0_4.length : Int) == 0) = true := beq_iff_eq.mpr c2
  have c2b1 : ((l0_4.length : Int) != 0) = false := bne_eq_false_iff_eq.mpr c2
  clear c2
  obtain rfl := Option.some.inj H
  go_enter Try.func121, Try.ntmps121
  go_wp2_with (first | ((with_reducible refine gD 1 rfl ?_); refine boxZ 1 #[.int .i64 a0_0, .int .i64 a0_1, .int .i64 a0_2, .int .i64 a0_3, .slice A0_4 l0_4.length c0_4] 67 ?_; intro gb217 hg w3 hbox hb; have BK217 := Aside0.mk hbox; have GW217 := gw (w := w) hg; have GE217 := gw (w := w) hg; replace HB := bs (w := w) hb; clear hb hbox hg; obtain ⟨Z4_0, Z4_1, Z4_2, Z4_3, Z4_4, Y4_0, Y4_1, Y4_2, Y4_3, Y4_4⟩ := cf5 BK217))
  go_ret
  exact ⟨fe, bl⟩
 ·rw [if_neg c2] at H
  have c2b0 : ((l0_4.length : Int) == 0) = false := beq_eq_false_iff_ne.mpr c2
  have c2b1 : ((l0_4.length : Int) != 0) = true := bne_iff_ne.mpr c2
  have c2b2 : ¬ (l0_4 = []) := fun h_ => c2 (by rw [h_]; rfl)
  obtain ⟨ji5, hji5⟩ : ∃ j_ : Int, (wrap64 ((l0_4.length : Int) - 1)) = j_ := ⟨_, rfl⟩
  replace H : (if 0 ≤ (ji5) then (if (ji5) < (l0_4.length : Int) then (some ((rd_T117 l0_4 (ji5)).f0)) else (none)) else (none)) = some r := by first | (rw [hji5] at H; exact H) | (simp only [hji5] at H ⊢; exact H)
  have hji5w : (IntKind.i64.wrap ((l0_4.length : Int) - 1)) = ji5 := (i64_w _).trans hji5
  by_cases c6 : 0 ≤ (ji5)
  ·rw [if_pos c6] at H
   have c6b0 : decide (0 ≤ (ji5)) = true := decide_eq_true c6
   clear c6
   by_cases c7 : (ji5) < (l0_4.length : Int)
   ·rw [if_pos c7] at H
    have c7b0 : decide ((ji5) < (l0_4.length : Int)) = true := decide_eq_true c7
    clear c7
    obtain rfl := Option.some.inj H
    go_enter Try.func121, Try.ntmps121
    go_wp2_with (first | ((with_reducible refine gD 1 rfl ?_); refine boxZ 1 #[.int .i64 a0_0, .int .i64 a0_1, .int .i64 a0_2, .int .i64 a0_3, .slice A0_4 l0_4.length c0_4] 67 ?_; intro gb217 hg w8 hbox hb; have BK217 := Aside0.mk hbox; have GW217 := gw (w := w) hg; have GE217 := gw (w := w) hg; replace HB := bs (w := w) hb; clear hb hbox hg; obtain ⟨Z9_0, Z9_1, Z9_2, Z9_3, Z9_4, Y9_0, Y9_1, Y9_2, Y9_3, Y9_4⟩ := cf5 BK217; have p218 : 0 ≤ ((ji5) : Int) := of_decide_eq_true am; have q218 : (ji5) < (l0_4.length : Int) := of_decide_eq_true am; obtain ⟨ad218, e218, hx218_0, hx218_1⟩ := at_T117 HR0_4.out (ji5) p218 q218; cases e218; replace hx218_0 := (HB.out.cell (World.block_lt_of_cell? w _ hx218_0)).trans hx218_0; replace hx218_1 := (HB.out.cell (World.block_lt_of_cell? w _ hx218_1)).trans hx218_1; replace p218 := eq_true p218; replace q218 := eq_true q218))
    go_ret
    exact ⟨by first | rfl | (simp [errW_none, errW_some] <;> rfl) | (simp only [← hji5]; first | rfl | (simp [errW_none, errW_some] <;> rfl)) | (simp [*, errW_none, errW_some] <;> rfl), bl⟩
   ·rw [if_neg c7] at H
    exact absurd H (by simp)
  ·rw [if_neg c6] at H
   exact absurd H (by simp)

end Go.Proofs.Ytfmddjbekophnaa.PFnExactWalStep
