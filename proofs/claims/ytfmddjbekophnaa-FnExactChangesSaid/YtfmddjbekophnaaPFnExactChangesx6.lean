-- PRINTED by print.py (a twelfth state) out of the translation. Not trusted: Lean checks it.
import Derived.Test.YtfmddjbekophnaaPFnExactChangesx0
import Derived.Test.YtfmddjbekophnaaZip
namespace Go.Proofs.Ytfmddjbekophnaa.PFnExactChanges
open Go.RowKit Go.Proofs.YtfmddjbekophnaaW.PrintWords Go.Proofs.YtfmddjbekophnaaW.PrintLast Go.Proofs.YtfmddjbekophnaaW.PrintMore Go.Proofs.Ytfmddjbekophnaa.Zip
attribute [local go_sem] max2_int min2_int max_two min_two max_three min_three max_four min_four   -- for this text's walks alone
set_option linter.unusedVariables false
set_option linter.unusedSimpArgs false

/-! ### impl_from: function 78 -/
def impl_from.f (a0 : Int) (a1 : Int) (a2 : Int) : Option (Bool) := if a0 ≥ a1 then (some (decide (a0 ≤ a2))) else (some false)
set_option maxHeartbeats 8000000 in
set_option maxRecDepth 100000 in
theorem impl_from.calls (a0 : Int) (a1 : Int) (a2 : Int) (r : Bool) (w : World) (h : impl_from.f a0 a1 a2 = some r) :
 Calls Try.prog 78 #[.int .i64 a0, .int .i64 a1, .int .i64 a2] w fun e w' => e = .returned (.bool r) ∧ Drawn0 w w' := by
 have H : (if a0 ≥ a1 then (some (decide (a0 ≤ a2))) else (some false)) = some r := h
 clear h
 by_cases c4 : a0 ≥ a1
 ·rw [if_pos c4] at H
  have c4b0 : decide (a1 ≤ a0) = true := decide_eq_true c4
  clear c4
  obtain rfl := Option.some.inj H
  go_enter Try.func78, Try.ntmps78
  go_wp2
  go_ret
  exact ⟨fa, fd⟩
 ·rw [if_neg c4] at H
  have c4b0 : decide (a1 ≤ a0) = false := decide_eq_false c4
  clear c4
  obtain rfl := Option.some.inj H
  go_enter Try.func78, Try.ntmps78
  go_wp2
  go_ret
  exact ⟨fa, fd⟩

/-! ### impl_isVote: function 136 -/
def impl_isVote.f (a0 : Int) : Option (Bool) := (impl_from.f a0 (-1) 4).bind fun t165 => (some t165)
set_option maxHeartbeats 8000000 in
set_option maxRecDepth 100000 in
theorem impl_isVote.calls (a0 : Int) (r : Bool) (w : World) (h : impl_isVote.f a0 = some r) :
 Calls Try.prog 136 #[.int .i64 a0] w fun e w' => e = .returned (.bool r) ∧ Drawn0 w w' := by
 have H : ((impl_from.f a0 (-1) 4).bind fun t165 => (some t165)) = some r := h
 clear h
 obtain ⟨t165, A2, H⟩ := bd H
 obtain rfl := Option.some.inj H
 go_enter Try.func136, Try.ntmps136
 go_wp2_with (first | ((with_reducible refine gC 78 rfl ?_); refine goesZ (some 4) rfl Try.func78 #[.int .i64 a0, .int .i64 (-1), .int .i64 4] ?_; (with_reducible refine (impl_from.calls a0 (-1) 4 t165 _ A2.out).mono ?_); rintro e w' ⟨rfl, ⟨nd, rfl⟩⟩; refine ⟨_, rfl, ?_⟩))
 go_ret
 exact ⟨fa, fd⟩

/-! ### impl_isTerm: function 144 -/
def impl_isTerm.f (a0 : Int) : Option (Bool) := (impl_from.f a0 1 100000).bind fun t166 => (some t166)
set_option maxHeartbeats 8000000 in
set_option maxRecDepth 100000 in
theorem impl_isTerm.calls (a0 : Int) (r : Bool) (w : World) (h : impl_isTerm.f a0 = some r) :
 Calls Try.prog 144 #[.int .i64 a0] w fun e w' => e = .returned (.bool r) ∧ Drawn0 w w' := by
 have H : ((impl_from.f a0 1 100000).bind fun t166 => (some t166)) = some r := h
 clear h
 obtain ⟨t166, A2, H⟩ := bd H
 obtain rfl := Option.some.inj H
 go_enter Try.func144, Try.ntmps144
 go_wp2_with (first | ((with_reducible refine gC 78 rfl ?_); refine goesZ (some 4) rfl Try.func78 #[.int .i64 a0, .int .i64 1, .int .i64 100000] ?_; (with_reducible refine (impl_from.calls a0 1 100000 t166 _ A2.out).mono ?_); rintro e w' ⟨rfl, ⟨nd, rfl⟩⟩; refine ⟨_, rfl, ?_⟩))
 go_ret
 exact ⟨fa, fd⟩

/-! ### impl_isPlace: function 137 -/
def impl_isPlace.f (a0 : Int) (a1 : Int) : Option (Bool) := if a0 = 0 then (if a1 = 0 then (some true) else ((impl_from.f a0 1 100000).bind fun t167 => (if t167 = true then ((impl_isTerm.f a1).bind fun t168 => (some t168)) else (some false)))) else ((impl_from.f a0 1 100000).bind fun t169 => (if t169 = true then ((impl_isTerm.f a1).bind fun t170 => (some t170)) else (some false)))
set_option maxHeartbeats 8000000 in
set_option maxRecDepth 100000 in
theorem impl_isPlace.calls (a0 : Int) (a1 : Int) (r : Bool) (w : World) (h : impl_isPlace.f a0 a1 = some r) :
 Calls Try.prog 137 #[.int .i64 a0, .int .i64 a1] w fun e w' => e = .returned (.bool r) ∧ Drawn0 w w' := by
 have H : (if a0 = 0 then (if a1 = 0 then (some true) else ((impl_from.f a0 1 100000).bind fun t167 => (if t167 = true then ((impl_isTerm.f a1).bind fun t168 => (some t168)) else (some false)))) else ((impl_from.f a0 1 100000).bind fun t169 => (if t169 = true then ((impl_isTerm.f a1).bind fun t170 => (some t170)) else (some false)))) = some r := h
 clear h
 by_cases c3 : a0 = 0
 ·rw [if_pos c3] at H
  have c3b0 : (a0 == 0) = true := beq_iff_eq.mpr c3
  have c3b1 : (a0 != 0) = false := bne_eq_false_iff_eq.mpr c3
  clear c3
  by_cases c4 : a1 = 0
  ·rw [if_pos c4] at H
   have c4b0 : (a1 == 0) = true := beq_iff_eq.mpr c4
   have c4b1 : (a1 != 0) = false := bne_eq_false_iff_eq.mpr c4
   clear c4
   obtain rfl := Option.some.inj H
   go_enter Try.func137, Try.ntmps137
   go_wp2
   go_ret
   exact ⟨fa, fd⟩
  ·rw [if_neg c4] at H
   have c4b0 : (a1 == 0) = false := beq_eq_false_iff_ne.mpr c4
   have c4b1 : (a1 != 0) = true := bne_iff_ne.mpr c4
   obtain ⟨t167, A5, H⟩ := bd H
   by_cases c6 : t167 = true
   ·subst c6
    replace H := iT H
    obtain ⟨t168, A7, H⟩ := bd H
    obtain rfl := Option.some.inj H
    go_enter Try.func137, Try.ntmps137
    go_wp2_with (first | (go_at_call 78; (with_reducible refine (impl_from.calls a0 1 100000 true _ A5.out).mono ?_); rintro e w' ⟨rfl, ⟨nd, rfl⟩⟩) | (go_at_call 144; (with_reducible refine (impl_isTerm.calls a1 t168 _ A7.out).mono ?_); rintro e w' ⟨rfl, ⟨nd, rfl⟩⟩))
    go_ret
    exact ⟨fa, fd⟩
   ·replace c6 := Bool.eq_false_iff.mpr c6
    subst c6
    replace H := iF H
    obtain rfl := Option.some.inj H
    go_enter Try.func137, Try.ntmps137
    go_wp2_with (first | (go_at_call 78; (with_reducible refine (impl_from.calls a0 1 100000 false _ A5.out).mono ?_); rintro e w' ⟨rfl, ⟨nd, rfl⟩⟩))
    go_ret
    exact ⟨fa, fd⟩
 ·rw [if_neg c3] at H
  have c3b0 : (a0 == 0) = false := beq_eq_false_iff_ne.mpr c3
  have c3b1 : (a0 != 0) = true := bne_iff_ne.mpr c3
  obtain ⟨t169, A8, H⟩ := bd H
  by_cases c9 : t169 = true
  ·subst c9
   replace H := iT H
   obtain ⟨t170, A10, H⟩ := bd H
   obtain rfl := Option.some.inj H
   go_enter Try.func137, Try.ntmps137
   go_wp2_with (first | (go_at_call 78; (with_reducible refine (impl_from.calls a0 1 100000 true _ A8.out).mono ?_); rintro e w' ⟨rfl, ⟨nd, rfl⟩⟩) | (go_at_call 144; (with_reducible refine (impl_isTerm.calls a1 t170 _ A10.out).mono ?_); rintro e w' ⟨rfl, ⟨nd, rfl⟩⟩))
   go_ret
   exact ⟨fa, fd⟩
  ·replace c9 := Bool.eq_false_iff.mpr c9
   subst c9
   replace H := iF H
   obtain rfl := Option.some.inj H
   go_enter Try.func137, Try.ntmps137
   go_wp2_with (first | (go_at_call 78; (with_reducible refine (impl_from.calls a0 1 100000 false _ A8.out).mono ?_); rintro e w' ⟨rfl, ⟨nd, rfl⟩⟩))
   go_ret
   exact ⟨fa, fd⟩

/-! ### impl_termsOk: function 138 -/
def impl_termsOk.l0 : Nat → Int → Int → List (S117) → Int → Int → Option (Bool)
 | 0, _, _, _, _, _ => none
 | k + 1, x1, x2, x9, x10, x11 => if x11 < x10 then (if 0 ≤ x11 then (if x11 < (x9.length : Int) then (if ((rd_T117 x9 x11).f0) < 1 then (some false) else ((impl_from.f ((rd_T117 x9 x11).f0) x1 x2).bind fun t173 => (if t173 = true then (if (((rd_T117 x9 x11).f1).size : Int) > 900 then (some false) else (impl_termsOk.l0 k ((rd_T117 x9 x11).f0) x2 x9 x10 (wrap64 (x11 + 1)))) else (some false)))) else (none)) else (none)) else (some true)
def impl_termsOk.f (k : Nat) (l0 : List (S117)) (a1 : Int) (a2 : Int) : Option (Bool) := impl_termsOk.l0 k a1 a2 l0 (l0.length : Int) 0
theorem impl_termsOk.mono_l : ∀ k, (∀ y0 y1 y2 y3 y4, LeO (impl_termsOk.l0 k y0 y1 y2 y3 y4) (impl_termsOk.l0 (k + 1) y0 y1 y2 y3 y4))
 | 0 => fun _ _ _ _ _ r h => by simp [impl_termsOk.l0] at h
 | k + 1 => by
  have ih0 := impl_termsOk.mono_l k
  ·intro y0 y1 y2 y3 y4
   unfold impl_termsOk.l0
   repeat' first
   | (with_reducible exact ih0 _ _ _ _ _)
   | (with_reducible exact LeO.refl _)
   | (with_reducible exact LeO.none _)
   | (with_reducible refine LeO.ite ?_ ?_)
   | (with_reducible refine LeO.bind ?_ (fun _ => ?_))
   | exact ih0 _ _ _ _ _
   | exact LeO.none _
   | refine LeO.ite ?_ ?_
   | refine LeO.bind ?_ (fun _ => ?_)
theorem impl_termsOk.mono : ∀ a0 a1 a2 k, LeO (impl_termsOk.f k a0 a1 a2) (impl_termsOk.f (k + 1) a0 a1 a2) := by
 intro a0 a1 a2 k
 have ih0 := impl_termsOk.mono_l k
 unfold impl_termsOk.f
 repeat' first
  | (with_reducible exact ih0 _ _ _ _ _)
  | (with_reducible exact LeO.refl _)
  | (with_reducible exact LeO.none _)
  | (with_reducible refine LeO.ite ?_ ?_)
  | (with_reducible refine LeO.bind ?_ (fun _ => ?_))
  | exact ih0 _ _ _ _ _
  | exact LeO.none _
  | refine LeO.ite ?_ ?_
  | refine LeO.bind ?_ (fun _ => ?_)
set_option maxHeartbeats 8000000 in
set_option maxRecDepth 100000 in
theorem impl_termsOk.calls (k : Nat) (A0 : Option Addr) (c0 : Nat) (l0 : List (S117)) (a1 : Int) (a2 : Int) (r : Bool) (w : World) (hr0 : Kd.C k117 w A0 l0.length l0) (hc0 : l0.length ≤ c0) (h : impl_termsOk.f k l0 a1 a2 = some r) :
 Calls Try.prog 138 #[.slice A0 l0.length c0, .int .i64 a1, .int .i64 a2] w fun e w' => e = .returned (.bool r) ∧ Below w.heap.size w w' := by
 have hu117 := Try.underlying117
 have HR0 := Aside0.mk hr0
 have HC0 := Aside0.mk hc0
 clear hr0 hc0
 have HB := Aside0.mk (Below.refl w.heap.size w)
 have H : (impl_termsOk.l0 k a1 a2 l0 (l0.length : Int) 0) = some r := h
 clear h
 have H' := Aside0.mk H
 clear H
 go_enter Try.func138, Try.ntmps138
 go_wp2
 go_loopg [1, 11] k (fun kq v1 v11 w' => ∃ (x1_1 : Int) (x11_1 : Int), v1 = .int .i64 x1_1 ∧ v11 = .int .i64 x11_1 ∧ Aside0 (impl_termsOk.l0 kq x1_1 a2 l0 (l0.length : Int) x11_1 = some r) ∧ Aside0 (kq ≤ k) ∧ Aside0 (Below w.heap.size w w'))
 case atStart => exact ⟨(a1), (0), fa, fa, H', ⟨Nat.le_refl _⟩, ⟨bl⟩⟩
 case round =>
  clear H'
  try clear c1
  try clear p2
  obtain ⟨x1_1, x11_1, rfl, rfl, HA, HK1, HB⟩ := hrel
  cases gk with
  | zero => exact absurd HA.out (by simp [impl_termsOk.l0])
  | succ k1 =>
   have H := HA.out
   clear HA
   simp only [impl_termsOk.l0] at H
   by_cases c4 : x11_1 < (l0.length : Int)
   ·rw [if_pos c4] at H
    have c4b0 : decide (x11_1 < (l0.length : Int)) = true := decide_eq_true c4
    clear c4
    by_cases c5 : 0 ≤ x11_1
    ·rw [if_pos c5] at H
     have c5b0 : decide (0 ≤ x11_1) = true := decide_eq_true c5
     clear c5
     by_cases c6 : x11_1 < (l0.length : Int)
     ·rw [if_pos c6] at H
      have c6b0 : decide (x11_1 < (l0.length : Int)) = true := decide_eq_true c6
      clear c6
      by_cases c7 : ((rd_T117 l0 x11_1).f0) < 1
      ·rw [if_pos c7] at H
       have c7b0 : decide (((rd_T117 l0 x11_1).f0) < 1) = true := decide_eq_true c7
       clear c7
       obtain rfl := Option.some.inj H
       have p171 : 0 ≤ (x11_1 : Int) := of_decide_eq_true am
       have q171 : x11_1 < (l0.length : Int) := of_decide_eq_true am
       obtain ⟨ad171, e171, hx171_0, hx171_1⟩ := at_T117 HR0.out x11_1 p171 q171
       cases e171
       replace hx171_0 := cz HB hx171_0
       replace hx171_1 := cz HB hx171_1
       replace p171 := eq_true p171
       replace q171 := eq_true q171
       go_wp2_with (first | ((with_reducible refine gD 8 rfl ?_); (try (refine gate_guard rfl ?_; dsimp only)); refine boxZ 8 #[.int .i64 0, .string (⟨#[]⟩ : ByteArray)] 117 ?_; intro gb172 hg w8 hbox hb; have BK172 := Aside0.mk hbox; have GW172 := gw (w := w) hg; have GE172 := gw (w := w) hg; replace HB := bs (w := w) hb; clear hb hbox hg; obtain ⟨hcz9_0, hcz9_1, hfz9_0, hfz9_1⟩ := cf2 BK172))
       go_ret
       exact ⟨fe, bl⟩
      ·rw [if_neg c7] at H
       have c7b0 : decide (((rd_T117 l0 x11_1).f0) < 1) = false := decide_eq_false c7
       clear c7
       obtain ⟨t173, A10, H⟩ := bd H
       by_cases c11 : t173 = true
       ·subst c11
        replace H := iT H
        by_cases c12 : (((rd_T117 l0 x11_1).f1).size : Int) > 900
        ·rw [if_pos c12] at H
         have c12b0 : decide (900 < (((rd_T117 l0 x11_1).f1).size : Int)) = true := decide_eq_true c12
         have c12b1 : decide (900 < ((rd_T117 l0 x11_1).f1).size) = true := decide_eq_true (by omega)
         clear c12
         obtain rfl := Option.some.inj H
         have p171 : 0 ≤ (x11_1 : Int) := of_decide_eq_true am
         have q171 : x11_1 < (l0.length : Int) := of_decide_eq_true am
         obtain ⟨ad171, e171, hx171_0, hx171_1⟩ := at_T117 HR0.out x11_1 p171 q171
         cases e171
         replace hx171_0 := cz HB hx171_0
         replace hx171_1 := cz HB hx171_1
         replace p171 := eq_true p171
         replace q171 := eq_true q171
         go_wp2_with (first | ((with_reducible refine gD 8 rfl ?_); (try (refine gate_guard rfl ?_; dsimp only)); refine boxZ 8 #[.int .i64 0, .string (⟨#[]⟩ : ByteArray)] 117 ?_; intro gb172 hg w13 hbox hb; have BK172 := Aside0.mk hbox; have GW172 := gw (w := w) hg; have GE172 := gw (w := w) hg; replace HB := bs (w := w) hb; clear hb hbox hg; obtain ⟨hcz14_0, hcz14_1, hfz14_0, hfz14_1⟩ := cf2 BK172) | (go_at_call 78; (with_reducible refine (impl_from.calls ((rd_T117 l0 x11_1).f0) x1_1 a2 true _ A10.out).mono ?_); rintro e w' ⟨rfl, ⟨nd, rfl⟩⟩))
         go_ret
         exact ⟨fe, bl⟩
        ·rw [if_neg c12] at H
         have c12b0 : decide (900 < (((rd_T117 l0 x11_1).f1).size : Int)) = false := decide_eq_false c12
         have c12b1 : decide (900 < ((rd_T117 l0 x11_1).f1).size) = false := decide_eq_false (by omega)
         clear c12
         have H' := Aside0.mk H
         clear H
         have p171 : 0 ≤ (x11_1 : Int) := of_decide_eq_true am
         have q171 : x11_1 < (l0.length : Int) := of_decide_eq_true am
         obtain ⟨ad171, e171, hx171_0, hx171_1⟩ := at_T117 HR0.out x11_1 p171 q171
         cases e171
         replace hx171_0 := cz HB hx171_0
         replace hx171_1 := cz HB hx171_1
         replace p171 := eq_true p171
         replace q171 := eq_true q171
         go_wp2_with (first | ((with_reducible refine gD 8 rfl ?_); (try (refine gate_guard rfl ?_; dsimp only)); refine boxZ 8 #[.int .i64 0, .string (⟨#[]⟩ : ByteArray)] 117 ?_; intro gb172 hg w15 hbox hb; have BK172 := Aside0.mk hbox; have GW172 := gw (w := w) hg; have GE172 := gw (w := w) hg; replace HB := bs (w := w) hb; clear hb hbox hg; obtain ⟨hcz16_0, hcz16_1, hfz16_0, hfz16_1⟩ := cf2 BK172) | (go_at_call 78; (with_reducible refine (impl_from.calls ((rd_T117 l0 x11_1).f0) x1_1 a2 true _ A10.out).mono ?_); rintro e w' ⟨rfl, ⟨nd, rfl⟩⟩))
         go_roundg k1
         case measure => have := HK1.out; omega
         case rel => exact ⟨((rd_T117 l0 x11_1).f0), (wrap64 (x11_1 + 1)), fa, fa, H', ⟨by have := HK1.out; omega⟩, ⟨bl⟩⟩
       ·replace c11 := Bool.eq_false_iff.mpr c11
        subst c11
        replace H := iF H
        obtain rfl := Option.some.inj H
        have p171 : 0 ≤ (x11_1 : Int) := of_decide_eq_true am
        have q171 : x11_1 < (l0.length : Int) := of_decide_eq_true am
        obtain ⟨ad171, e171, hx171_0, hx171_1⟩ := at_T117 HR0.out x11_1 p171 q171
        cases e171
        replace hx171_0 := cz HB hx171_0
        replace hx171_1 := cz HB hx171_1
        replace p171 := eq_true p171
        replace q171 := eq_true q171
        go_wp2_with (first | ((with_reducible refine gD 8 rfl ?_); (try (refine gate_guard rfl ?_; dsimp only)); refine boxZ 8 #[.int .i64 0, .string (⟨#[]⟩ : ByteArray)] 117 ?_; intro gb172 hg w17 hbox hb; have BK172 := Aside0.mk hbox; have GW172 := gw (w := w) hg; have GE172 := gw (w := w) hg; replace HB := bs (w := w) hb; clear hb hbox hg; obtain ⟨hcz18_0, hcz18_1, hfz18_0, hfz18_1⟩ := cf2 BK172) | (go_at_call 78; (with_reducible refine (impl_from.calls ((rd_T117 l0 x11_1).f0) x1_1 a2 false _ A10.out).mono ?_); rintro e w' ⟨rfl, ⟨nd, rfl⟩⟩))
        go_ret
        exact ⟨fe, bl⟩
     ·rw [if_neg c6] at H
      exact absurd H (by simp)
    ·rw [if_neg c5] at H
     exact absurd H (by simp)
   ·rw [if_neg c4] at H
    have c4b0 : decide (x11_1 < (l0.length : Int)) = false := decide_eq_false c4
    clear c4
    obtain rfl := Option.some.inj H
    go_wp2
    go_ret
    exact ⟨fe, bl⟩

/-! ### impl_WalOk: function 108 -/
def impl_WalOk.f (k : Nat) (a0_0 : Int) (a0_1 : Int) (a0_2 : Int) (a0_3 : Int) (l0_4 : List (S117)) : Option (Bool) := (impl_from.f a0_0 0 100000).bind fun t175 => (if t175 = true then ((impl_isVote.f a0_1).bind fun t176 => (if t176 = true then ((impl_isPlace.f a0_2 a0_3).bind fun t177 => (if t177 = true then (if a0_3 ≤ a0_0 then (if (l0_4.length : Int) ≤ 60 then ((impl_termsOk.f k l0_4 a0_3 a0_0).bind fun t178 => (if t178 = true then (some (decide ((wrap64 (a0_2 + (l0_4.length : Int))) ≤ 100000))) else (some false))) else (some false)) else (some false)) else (some false))) else (some false))) else (some false))
theorem impl_WalOk.mono : ∀ a0 a1 a2 a3 a4 k, LeO (impl_WalOk.f k a0 a1 a2 a3 a4) (impl_WalOk.f (k + 1) a0 a1 a2 a3 a4) := by
 intro a0 a1 a2 a3 a4 k
 unfold impl_WalOk.f
 repeat' first
  | (with_reducible exact impl_termsOk.mono _ _ _ _)
  | (with_reducible exact LeO.refl _)
  | (with_reducible exact LeO.none _)
  | (with_reducible refine LeO.ite ?_ ?_)
  | (with_reducible refine LeO.bind ?_ (fun _ => ?_))
  | exact impl_termsOk.mono _ _ _ _
  | exact LeO.none _
  | refine LeO.ite ?_ ?_
  | refine LeO.bind ?_ (fun _ => ?_)
set_option maxHeartbeats 8000000 in
set_option maxRecDepth 100000 in
theorem impl_WalOk.calls (k : Nat) (a0_0 : Int) (a0_1 : Int) (a0_2 : Int) (a0_3 : Int) (A0_4 : Option Addr) (c0_4 : Nat) (l0_4 : List (S117)) (r : Bool) (w : World) (hr0_4 : Kd.C k117 w A0_4 l0_4.length l0_4) (hc0_4 : l0_4.length ≤ c0_4) (h : impl_WalOk.f k a0_0 a0_1 a0_2 a0_3 l0_4 = some r) :
 Calls Try.prog 108 #[.agg #[.int .i64 a0_0, .int .i64 a0_1, .int .i64 a0_2, .int .i64 a0_3, .slice A0_4 l0_4.length c0_4]] w fun e w' => e = .returned (.bool r) ∧ Below w.heap.size w w' := by
 have hu67 := Try.underlying67
 have HR0_4 := Aside0.mk hr0_4
 have HC0_4 := Aside0.mk hc0_4
 clear hr0_4 hc0_4
 have HB := Aside0.mk (Below.refl w.heap.size w)
 have H : ((impl_from.f a0_0 0 100000).bind fun t175 => (if t175 = true then ((impl_isVote.f a0_1).bind fun t176 => (if t176 = true then ((impl_isPlace.f a0_2 a0_3).bind fun t177 => (if t177 = true then (if a0_3 ≤ a0_0 then (if (l0_4.length : Int) ≤ 60 then ((impl_termsOk.f k l0_4 a0_3 a0_0).bind fun t178 => (if t178 = true then (some (decide ((wrap64 (a0_2 + (l0_4.length : Int))) ≤ 100000))) else (some false))) else (some false)) else (some false)) else (some false))) else (some false))) else (some false))) = some r := h
 clear h
 obtain ⟨t175, A2, H⟩ := bd H
 by_cases c3 : t175 = true
 ·subst c3
  replace H := iT H
  obtain ⟨t176, A4, H⟩ := bd H
  by_cases c5 : t176 = true
  ·subst c5
   replace H := iT H
   obtain ⟨t177, A6, H⟩ := bd H
   by_cases c7 : t177 = true
   ·subst c7
    replace H := iT H
    by_cases c8 : a0_3 ≤ a0_0
    ·rw [if_pos c8] at H
     have c8b0 : decide (a0_3 ≤ a0_0) = true := decide_eq_true c8
     clear c8
     by_cases c9 : (l0_4.length : Int) ≤ 60
     ·rw [if_pos c9] at H
      have c9b0 : decide ((l0_4.length : Int) ≤ 60) = true := decide_eq_true c9
      have c9b1 : decide (l0_4.length ≤ 60) = true := decide_eq_true (by omega)
      clear c9
      obtain ⟨t178, A10, H⟩ := bd H
      by_cases c11 : t178 = true
      ·subst c11
       replace H := iT H
       obtain rfl := Option.some.inj H
       go_enter Try.func108, Try.ntmps108
       go_wp2_with (first | ((with_reducible refine gD 1 rfl ?_); (try (refine gate_guard rfl ?_; dsimp only)); refine boxZ 1 #[.int .i64 a0_0, .int .i64 a0_1, .int .i64 a0_2, .int .i64 a0_3, .slice A0_4 l0_4.length c0_4] 67 ?_; intro gb174 hg w12 hbox hb; have BK174 := Aside0.mk hbox; have GW174 := gw (w := w) hg; have GE174 := gw (w := w) hg; replace HB := bs (w := w) hb; clear hb hbox hg; obtain ⟨hcz13_0, hcz13_1, hcz13_2, hcz13_3, hcz13_4, hfz13_0, hfz13_1, hfz13_2, hfz13_3, hfz13_4⟩ := cf5 BK174) | ((with_reducible refine gC 78 rfl ?_); refine goesZ (some 5) rfl Try.func78 #[.int .i64 a0_0, .int .i64 0, .int .i64 100000] ?_; (with_reducible refine (impl_from.calls a0_0 0 100000 true _ A2.out).mono ?_); rintro e w' ⟨rfl, ⟨nd, rfl⟩⟩; refine ⟨_, rfl, ?_⟩) | (go_at_call 136; (with_reducible refine (impl_isVote.calls a0_1 true _ A4.out).mono ?_); rintro e w' ⟨rfl, ⟨nd, rfl⟩⟩) | (go_at_call 137; (with_reducible refine (impl_isPlace.calls a0_2 a0_3 true _ A6.out).mono ?_); rintro e w' ⟨rfl, ⟨nd, rfl⟩⟩) | (go_at_call 138; (with_reducible refine (impl_termsOk.calls k _ _ l0_4 a0_3 a0_0 true _ ?side1 ?side2 A10.out).mono ?_); (case side1 => repeat (first | exact (Kd.C_below HR0_4.out bl) | (with_reducible refine Kd.C_alloc ?_ _) | (with_reducible refine Kd.C_drewN ?_ _) | (with_reducible refine Kd.C_drew ?_))); (case side2 => exact HC0_4.out); rintro e w14 ⟨rfl, hb⟩; replace BK174 := bv BK174 hb; replace HB := bs (w := w) hb; (try clear hb); (try clear hb2); (try clear hk); (try clear hi); obtain ⟨hcz15_0, hcz15_1, hcz15_2, hcz15_3, hcz15_4, hfz15_0, hfz15_1, hfz15_2, hfz15_3, hfz15_4⟩ := cf5 BK174))
       go_ret
       exact ⟨fe, bl⟩
      ·replace c11 := Bool.eq_false_iff.mpr c11
       subst c11
       replace H := iF H
       obtain rfl := Option.some.inj H
       go_enter Try.func108, Try.ntmps108
       go_wp2_with (first | ((with_reducible refine gD 1 rfl ?_); (try (refine gate_guard rfl ?_; dsimp only)); refine boxZ 1 #[.int .i64 a0_0, .int .i64 a0_1, .int .i64 a0_2, .int .i64 a0_3, .slice A0_4 l0_4.length c0_4] 67 ?_; intro gb174 hg w16 hbox hb; have BK174 := Aside0.mk hbox; have GW174 := gw (w := w) hg; have GE174 := gw (w := w) hg; replace HB := bs (w := w) hb; clear hb hbox hg; obtain ⟨hcz17_0, hcz17_1, hcz17_2, hcz17_3, hcz17_4, hfz17_0, hfz17_1, hfz17_2, hfz17_3, hfz17_4⟩ := cf5 BK174) | ((with_reducible refine gC 78 rfl ?_); refine goesZ (some 5) rfl Try.func78 #[.int .i64 a0_0, .int .i64 0, .int .i64 100000] ?_; (with_reducible refine (impl_from.calls a0_0 0 100000 true _ A2.out).mono ?_); rintro e w' ⟨rfl, ⟨nd, rfl⟩⟩; refine ⟨_, rfl, ?_⟩) | (go_at_call 136; (with_reducible refine (impl_isVote.calls a0_1 true _ A4.out).mono ?_); rintro e w' ⟨rfl, ⟨nd, rfl⟩⟩) | (go_at_call 137; (with_reducible refine (impl_isPlace.calls a0_2 a0_3 true _ A6.out).mono ?_); rintro e w' ⟨rfl, ⟨nd, rfl⟩⟩) | (go_at_call 138; (with_reducible refine (impl_termsOk.calls k _ _ l0_4 a0_3 a0_0 false _ ?side1 ?side2 A10.out).mono ?_); (case side1 => repeat (first | exact (Kd.C_below HR0_4.out bl) | (with_reducible refine Kd.C_alloc ?_ _) | (with_reducible refine Kd.C_drewN ?_ _) | (with_reducible refine Kd.C_drew ?_))); (case side2 => exact HC0_4.out); rintro e w18 ⟨rfl, hb⟩; replace BK174 := bv BK174 hb; replace HB := bs (w := w) hb; (try clear hb); (try clear hb2); (try clear hk); (try clear hi)))
       go_ret
       exact ⟨fe, bl⟩
     ·rw [if_neg c9] at H
      have c9b0 : decide ((l0_4.length : Int) ≤ 60) = false := decide_eq_false c9
      have c9b1 : decide (l0_4.length ≤ 60) = false := decide_eq_false (by omega)
      clear c9
      obtain rfl := Option.some.inj H
      go_enter Try.func108, Try.ntmps108
      go_wp2_with (first | ((with_reducible refine gD 1 rfl ?_); (try (refine gate_guard rfl ?_; dsimp only)); refine boxZ 1 #[.int .i64 a0_0, .int .i64 a0_1, .int .i64 a0_2, .int .i64 a0_3, .slice A0_4 l0_4.length c0_4] 67 ?_; intro gb174 hg w19 hbox hb; have BK174 := Aside0.mk hbox; have GW174 := gw (w := w) hg; have GE174 := gw (w := w) hg; replace HB := bs (w := w) hb; clear hb hbox hg; obtain ⟨hcz20_0, hcz20_1, hcz20_2, hcz20_3, hcz20_4, hfz20_0, hfz20_1, hfz20_2, hfz20_3, hfz20_4⟩ := cf5 BK174) | ((with_reducible refine gC 78 rfl ?_); refine goesZ (some 5) rfl Try.func78 #[.int .i64 a0_0, .int .i64 0, .int .i64 100000] ?_; (with_reducible refine (impl_from.calls a0_0 0 100000 true _ A2.out).mono ?_); rintro e w' ⟨rfl, ⟨nd, rfl⟩⟩; refine ⟨_, rfl, ?_⟩) | (go_at_call 136; (with_reducible refine (impl_isVote.calls a0_1 true _ A4.out).mono ?_); rintro e w' ⟨rfl, ⟨nd, rfl⟩⟩) | (go_at_call 137; (with_reducible refine (impl_isPlace.calls a0_2 a0_3 true _ A6.out).mono ?_); rintro e w' ⟨rfl, ⟨nd, rfl⟩⟩))
      go_ret
      exact ⟨fe, bl⟩
    ·rw [if_neg c8] at H
     have c8b0 : decide (a0_3 ≤ a0_0) = false := decide_eq_false c8
     clear c8
     obtain rfl := Option.some.inj H
     go_enter Try.func108, Try.ntmps108
     go_wp2_with (first | ((with_reducible refine gD 1 rfl ?_); (try (refine gate_guard rfl ?_; dsimp only)); refine boxZ 1 #[.int .i64 a0_0, .int .i64 a0_1, .int .i64 a0_2, .int .i64 a0_3, .slice A0_4 l0_4.length c0_4] 67 ?_; intro gb174 hg w21 hbox hb; have BK174 := Aside0.mk hbox; have GW174 := gw (w := w) hg; have GE174 := gw (w := w) hg; replace HB := bs (w := w) hb; clear hb hbox hg; obtain ⟨hcz22_0, hcz22_1, hcz22_2, hcz22_3, hcz22_4, hfz22_0, hfz22_1, hfz22_2, hfz22_3, hfz22_4⟩ := cf5 BK174) | ((with_reducible refine gC 78 rfl ?_); refine goesZ (some 5) rfl Try.func78 #[.int .i64 a0_0, .int .i64 0, .int .i64 100000] ?_; (with_reducible refine (impl_from.calls a0_0 0 100000 true _ A2.out).mono ?_); rintro e w' ⟨rfl, ⟨nd, rfl⟩⟩; refine ⟨_, rfl, ?_⟩) | (go_at_call 136; (with_reducible refine (impl_isVote.calls a0_1 true _ A4.out).mono ?_); rintro e w' ⟨rfl, ⟨nd, rfl⟩⟩) | (go_at_call 137; (with_reducible refine (impl_isPlace.calls a0_2 a0_3 true _ A6.out).mono ?_); rintro e w' ⟨rfl, ⟨nd, rfl⟩⟩))
     go_ret
     exact ⟨fe, bl⟩
   ·replace c7 := Bool.eq_false_iff.mpr c7
    subst c7
    replace H := iF H
    obtain rfl := Option.some.inj H
    go_enter Try.func108, Try.ntmps108
    go_wp2_with (first | ((with_reducible refine gD 1 rfl ?_); (try (refine gate_guard rfl ?_; dsimp only)); refine boxZ 1 #[.int .i64 a0_0, .int .i64 a0_1, .int .i64 a0_2, .int .i64 a0_3, .slice A0_4 l0_4.length c0_4] 67 ?_; intro gb174 hg w23 hbox hb; have BK174 := Aside0.mk hbox; have GW174 := gw (w := w) hg; have GE174 := gw (w := w) hg; replace HB := bs (w := w) hb; clear hb hbox hg; obtain ⟨hcz24_0, hcz24_1, hcz24_2, hcz24_3, hcz24_4, hfz24_0, hfz24_1, hfz24_2, hfz24_3, hfz24_4⟩ := cf5 BK174) | ((with_reducible refine gC 78 rfl ?_); refine goesZ (some 5) rfl Try.func78 #[.int .i64 a0_0, .int .i64 0, .int .i64 100000] ?_; (with_reducible refine (impl_from.calls a0_0 0 100000 true _ A2.out).mono ?_); rintro e w' ⟨rfl, ⟨nd, rfl⟩⟩; refine ⟨_, rfl, ?_⟩) | (go_at_call 136; (with_reducible refine (impl_isVote.calls a0_1 true _ A4.out).mono ?_); rintro e w' ⟨rfl, ⟨nd, rfl⟩⟩) | (go_at_call 137; (with_reducible refine (impl_isPlace.calls a0_2 a0_3 false _ A6.out).mono ?_); rintro e w' ⟨rfl, ⟨nd, rfl⟩⟩))
    go_ret
    exact ⟨fe, bl⟩
  ·replace c5 := Bool.eq_false_iff.mpr c5
   subst c5
   replace H := iF H
   obtain rfl := Option.some.inj H
   go_enter Try.func108, Try.ntmps108
   go_wp2_with (first | ((with_reducible refine gD 1 rfl ?_); (try (refine gate_guard rfl ?_; dsimp only)); refine boxZ 1 #[.int .i64 a0_0, .int .i64 a0_1, .int .i64 a0_2, .int .i64 a0_3, .slice A0_4 l0_4.length c0_4] 67 ?_; intro gb174 hg w25 hbox hb; have BK174 := Aside0.mk hbox; have GW174 := gw (w := w) hg; have GE174 := gw (w := w) hg; replace HB := bs (w := w) hb; clear hb hbox hg; obtain ⟨hcz26_0, hcz26_1, hcz26_2, hcz26_3, hcz26_4, hfz26_0, hfz26_1, hfz26_2, hfz26_3, hfz26_4⟩ := cf5 BK174) | ((with_reducible refine gC 78 rfl ?_); refine goesZ (some 5) rfl Try.func78 #[.int .i64 a0_0, .int .i64 0, .int .i64 100000] ?_; (with_reducible refine (impl_from.calls a0_0 0 100000 true _ A2.out).mono ?_); rintro e w' ⟨rfl, ⟨nd, rfl⟩⟩; refine ⟨_, rfl, ?_⟩) | (go_at_call 136; (with_reducible refine (impl_isVote.calls a0_1 false _ A4.out).mono ?_); rintro e w' ⟨rfl, ⟨nd, rfl⟩⟩))
   go_ret
   exact ⟨fe, bl⟩
 ·replace c3 := Bool.eq_false_iff.mpr c3
  subst c3
  replace H := iF H
  obtain rfl := Option.some.inj H
  go_enter Try.func108, Try.ntmps108
  go_wp2_with (first | ((with_reducible refine gD 1 rfl ?_); (try (refine gate_guard rfl ?_; dsimp only)); refine boxZ 1 #[.int .i64 a0_0, .int .i64 a0_1, .int .i64 a0_2, .int .i64 a0_3, .slice A0_4 l0_4.length c0_4] 67 ?_; intro gb174 hg w27 hbox hb; have BK174 := Aside0.mk hbox; have GW174 := gw (w := w) hg; have GE174 := gw (w := w) hg; replace HB := bs (w := w) hb; clear hb hbox hg; obtain ⟨hcz28_0, hcz28_1, hcz28_2, hcz28_3, hcz28_4, hfz28_0, hfz28_1, hfz28_2, hfz28_3, hfz28_4⟩ := cf5 BK174) | ((with_reducible refine gC 78 rfl ?_); refine goesZ (some 5) rfl Try.func78 #[.int .i64 a0_0, .int .i64 0, .int .i64 100000] ?_; (with_reducible refine (impl_from.calls a0_0 0 100000 false _ A2.out).mono ?_); rintro e w' ⟨rfl, ⟨nd, rfl⟩⟩; refine ⟨_, rfl, ?_⟩))
  go_ret
  exact ⟨fe, bl⟩

/-! ### impl_entryRecs: function 110 -/
def impl_entryRecs.l0 : Nat → Int → List (S83) → List (S117) → Int → Int → Option ((List (S83)))
 | 0, _, _, _, _, _ => none
 | k + 1, x1, x5, x9, x10, x11 => if x11 < x10 then (if 0 ≤ x11 then (if x11 < (x9.length : Int) then (if x5.length < 2932031007402 then (impl_entryRecs.l0 k x1 (x5 ++ [(⟨2, (rd_T117 x9 x11).f0, wrap64 (x1 + x11), 0, (rd_T117 x9 x11).f1⟩ : S83)]) x9 x10 (wrap64 (x11 + 1))) else (none)) else (none)) else (none)) else (some x5)
def impl_entryRecs.f (k : Nat) (l0 : List (S117)) (a1 : Int) : Option ((List (S83))) := impl_entryRecs.l0 k a1 (([] : List (S83))) l0 (l0.length : Int) 0
theorem impl_entryRecs.mono_l : ∀ k, (∀ y0 y1 y2 y3 y4, LeO (impl_entryRecs.l0 k y0 y1 y2 y3 y4) (impl_entryRecs.l0 (k + 1) y0 y1 y2 y3 y4))
 | 0 => fun _ _ _ _ _ r h => by simp [impl_entryRecs.l0] at h
 | k + 1 => by
  have ih0 := impl_entryRecs.mono_l k
  ·intro y0 y1 y2 y3 y4
   unfold impl_entryRecs.l0
   repeat' first
   | (with_reducible exact ih0 _ _ _ _ _)
   | (with_reducible exact LeO.refl _)
   | (with_reducible exact LeO.none _)
   | (with_reducible refine LeO.ite ?_ ?_)
   | (with_reducible refine LeO.bind ?_ (fun _ => ?_))
   | exact ih0 _ _ _ _ _
   | exact LeO.none _
   | refine LeO.ite ?_ ?_
   | refine LeO.bind ?_ (fun _ => ?_)
theorem impl_entryRecs.mono : ∀ a0 a1 k, LeO (impl_entryRecs.f k a0 a1) (impl_entryRecs.f (k + 1) a0 a1) := by
 intro a0 a1 k
 have ih0 := impl_entryRecs.mono_l k
 unfold impl_entryRecs.f
 repeat' first
  | (with_reducible exact ih0 _ _ _ _ _)
  | (with_reducible exact LeO.refl _)
  | (with_reducible exact LeO.none _)
  | (with_reducible refine LeO.ite ?_ ?_)
  | (with_reducible refine LeO.bind ?_ (fun _ => ?_))
  | exact ih0 _ _ _ _ _
  | exact LeO.none _
  | refine LeO.ite ?_ ?_
  | refine LeO.bind ?_ (fun _ => ?_)
set_option maxHeartbeats 8000000 in
set_option maxRecDepth 100000 in
theorem impl_entryRecs.calls (k : Nat) (A0 : Option Addr) (c0 : Nat) (l0 : List (S117)) (a1 : Int) (r : List (S83)) (w : World) (hr0 : Kd.C k117 w A0 l0.length l0) (hc0 : l0.length ≤ c0) (h : impl_entryRecs.f k l0 a1 = some r) :
 Calls Try.prog 110 #[.slice A0 l0.length c0, .int .i64 a1] w fun e w' => ∃ v0_ : Value, e = .returned (v0_) ∧ Kd.R k83 83 w' w.heap.size (fun _ => True) v0_ r ∧ Below w.heap.size w w' := by
 have hu117 := Try.underlying117
 have hu83 := Try.underlying83
 have HR0 := Aside0.mk hr0
 have HC0 := Aside0.mk hc0
 clear hr0 hc0
 have HB := Aside0.mk (Below.refl w.heap.size w)
 have H : (impl_entryRecs.l0 k a1 (([] : List (S83))) l0 (l0.length : Int) 0) = some r := h
 clear h
 obtain ⟨y179, hy179⟩ : ∃ y_ : List (S83), y_ = (([] : List (S83))) := ⟨_, rfl⟩
 replace H : (impl_entryRecs.l0 k a1 y179 l0 (l0.length : Int) 0) = some r := by first | (rw [hy179]; with_reducible exact H) | (have H2_ := (Option.bind_some _ _).symm.trans H; rw [hy179]; with_reducible exact H2_) | (have H2_ := (Option.bind_some _ _).symm.trans H; with_reducible exact H2_) | with_reducible exact H | (rw [hy179]; exact H) | exact H
 have Ny179 := Aside0.mk hy179
 clear hy179
 have H' := Aside0.mk H
 clear H
 go_enter Try.func110, Try.ntmps110
 go_wp2_with (first | ((with_reducible refine gD 8 rfl ?_); refine Kd.R_lit k83 _ 83 ?hg (N := 8) ?hd (xs := ([] : List (S83))) (inner := []) (ok := fun _ => True) (okp := fun _ => True) ?hr ?hp (fun _ hk => hk) trivial (Below.refl _ _) (Nat.le_refl _) (by simp) ?_; (case hd => rfl); (case hg => rfl); (case hr => first | (go_simp; done) | (go_simp; rfl)); (case hp => exact (Reps.none _ _)); intro v180 w3 ho4 hb hg_ hnew_; clear hg_ hnew_; (first | rw [← Ny179.out] at ho4 | (simp only [Int.reduceToNat] at ho4; rw [← Ny179.out] at ho4)); have HO181 := Aside0.mk (Kd.R_lower ho4 (below_size bl)); replace HB := bs (w := w) hb; clear hb ho4))
 go_loopg [5, 11] k (fun kq v5 v11 w' => ∃ (x5_1 : List (S83)) (x11_1 : Int), v11 = .int .i64 x11_1 ∧ Aside0 (impl_entryRecs.l0 kq a1 x5_1 l0 (l0.length : Int) x11_1 = some r) ∧ Aside0 (kq ≤ k) ∧ Aside0 (Kd.R k83 83 w' w.heap.size (fun _ => True) v5 x5_1) ∧ Aside0 (Below w.heap.size w w'))
 case atStart => exact ⟨(y179), (0), fa, H', ⟨Nat.le_refl _⟩, ⟨by (with_reducible repeat (first | apply Kd.R_alloc | apply Kd.R_drewN | apply Kd.R_drew)); exact HO181.out⟩, ⟨bl⟩⟩
 case round =>
  clear H'
  try clear c1
  try clear p2
  obtain ⟨x5_1, x11_1, rfl, HA, HK1, HO_5, HB⟩ := hrel
  cases gk with
  | zero => exact absurd HA.out (by simp [impl_entryRecs.l0])
  | succ k1 =>
   have H := HA.out
   clear HA
   simp only [impl_entryRecs.l0] at H
   by_cases c5 : x11_1 < (l0.length : Int)
   ·rw [if_pos c5] at H
    have c5b0 : decide (x11_1 < (l0.length : Int)) = true := decide_eq_true c5
    clear c5
    by_cases c6 : 0 ≤ x11_1
    ·rw [if_pos c6] at H
     have c6b0 : decide (0 ≤ x11_1) = true := decide_eq_true c6
     clear c6
     by_cases c7 : x11_1 < (l0.length : Int)
     ·rw [if_pos c7] at H
      have c7b0 : decide (x11_1 < (l0.length : Int)) = true := decide_eq_true c7
      clear c7
      by_cases c8 : x5_1.length < 2932031007402
      ·rw [if_pos c8] at H
       have LMc8 := Aside0.mk c8
       clear c8
       obtain ⟨y184, hy184⟩ : ∃ y_ : List (S83), y_ = (x5_1 ++ [(⟨2, (rd_T117 l0 x11_1).f0, wrap64 (a1 + x11_1), 0, (rd_T117 l0 x11_1).f1⟩ : S83)]) := ⟨_, rfl⟩
       replace H : (impl_entryRecs.l0 k1 a1 y184 l0 (l0.length : Int) (wrap64 (x11_1 + 1))) = some r := by first | (rw [hy184]; with_reducible exact H) | (have H2_ := (Option.bind_some _ _).symm.trans H; rw [hy184]; with_reducible exact H2_) | (have H2_ := (Option.bind_some _ _).symm.trans H; with_reducible exact H2_) | with_reducible exact H | (rw [hy184]; exact H) | exact H
       have Ny184 := Aside0.mk hy184
       clear hy184
       have H' := Aside0.mk H
       clear H
       have p182 : 0 ≤ (x11_1 : Int) := of_decide_eq_true am
       have q182 : x11_1 < (l0.length : Int) := of_decide_eq_true am
       obtain ⟨ad182, e182, hx182_0, hx182_1⟩ := at_T117 HR0.out x11_1 p182 q182
       cases e182
       replace hx182_0 := cz HB hx182_0
       replace hx182_1 := cz HB hx182_1
       replace p182 := eq_true p182
       replace q182 := eq_true q182
       go_wp2_with (first | ((with_reducible refine gD 7 rfl ?_); refine boxZ 7 #[.int .i64 0, .string (⟨#[]⟩ : ByteArray)] 117 ?_; intro gb183 hg w9 hbox hb; replace HO_5 := Aside0.mk (Kd.R_below (by (with_reducible repeat (first | apply Kd.R_alloc | apply Kd.R_drewN | apply Kd.R_drew)); exact HO_5.out) hb); have BK183 := Aside0.mk hbox; have GW183 := gw (w := w) hg; have GE183 := gw (w := w) hg; replace HB := bs (w := w) hb; clear hb hbox hg; obtain ⟨hcz10_0, hcz10_1, hfz10_0, hfz10_1⟩ := cf2 BK183) | ((with_reducible refine gate_builtin (b := .append) (xs := #[.tmp 16, .tmp 25]) rfl ?_); at_builtin; refine Kd.R_append k83 (w0 := w) w.heap.size rfl (.tmp 16) (.tmp 25) 71 83 (.agg #[(.int .i64 0), (.int .i64 0), (.int .i64 0), (.int .i64 0), (.string ⟨#[]⟩)]) 48 rfl Try.underlying71 info83 rfl (by decide) (by omega) u5 x5_1 (⟨2, (rd_T117 l0 x11_1).f0, wrap64 (a1 + x11_1), 0, (rd_T117 l0 x11_1).f1⟩ : S83) [.int .i64 2, .int .i64 ((rd_T117 l0 x11_1).f0), .int .i64 (wrap64 (a1 + x11_1)), .int .i64 0, .string ((rd_T117 l0 x11_1).f1)] (fun _ => True) (fun _ => False) rfl (by first | (go_simp; done) | (go_simp; rfl)) ?aP (fun _ hk => hk.elim) ?aF ?aO ?aB ?aS ?aL ?_; (case aP => exact k83_mkM _ _ _ (⟨2, (rd_T117 l0 x11_1).f0, wrap64 (a1 + x11_1), 0, (rd_T117 l0 x11_1).f1⟩ : S83)); (case aB => exact bl); (case aF => exact (fun _ _ => trivial)); (case aO => exact (by (with_reducible repeat (first | apply Kd.R_alloc | apply Kd.R_drewN | apply Kd.R_drew)); exact Kd.R_mono (Kd.R_far (p := ⟨gb183, 1, none⟩) (Kd.R_far (p := ⟨gb183, 0, none⟩) (Kd.R_types HO_5.out BK183.out (by decide)) (fun _ hk => hk.2) (.int .i64 ((rd_T117 l0 x11_1).f0))) (fun _ hk => hk.2) (.string ((rd_T117 l0 x11_1).f1))) (fun _ hk => trivial))); (case aS => exact (below_size bl)); (case aL => have := LMc8.out; omega); intro v185 w11 ho hb hg hat; rw [← Ny184.out] at ho; replace BK183 := Aside0.mk (blk_grown (g := gb183) (o := .cells #[.int .i64 ((rd_T117 l0 x11_1).f0), .string ((rd_T117 l0 x11_1).f1)] 117 (0, 0)) (by (with_reducible repeat (first | refine blk_drewN ?_ _ | refine blk_drew ?_ | refine blk_alloc ?_ _)); refine blk_put (cs := #[.int .i64 ((rd_T117 l0 x11_1).f0), .string (⟨#[]⟩ : ByteArray)]) ?_ 1 _ rfl; (with_reducible repeat (first | refine blk_drewN ?_ _ | refine blk_drew ?_ | refine blk_alloc ?_ _)); refine blk_put (cs := #[.int .i64 0, .string (⟨#[]⟩ : ByteArray)]) ?_ 0 _ rfl; (with_reducible repeat (first | refine blk_drewN ?_ _ | refine blk_drew ?_ | refine blk_alloc ?_ _)); exact BK183.out) hg (Kd.R_ne HO_5.out BK183.out (by decide))); replace HB := Aside0.mk (hb); have HO186 := Aside0.mk (ho); clear HO_5; clear ho hb hg hat))
       go_roundg k1
       case measure => have := HK1.out; omega
       case rel => exact ⟨(y184), (wrap64 (x11_1 + 1)), fa, H', ⟨by have := HK1.out; omega⟩, ⟨by (with_reducible repeat (first | apply Kd.R_alloc | apply Kd.R_drewN | apply Kd.R_drew)); exact HO186.out⟩, ⟨bl⟩⟩
      ·rw [if_neg c8] at H
       exact absurd H (by simp)
     ·rw [if_neg c7] at H
      exact absurd H (by simp)
    ·rw [if_neg c6] at H
     exact absurd H (by simp)
   ·rw [if_neg c5] at H
    have c5b0 : decide (x11_1 < (l0.length : Int)) = false := decide_eq_false c5
    clear c5
    obtain rfl := Option.some.inj H
    go_wp2
    go_ret
    exact ⟨_, fe, by (with_reducible repeat (first | apply Kd.R_alloc | apply Kd.R_drewN | apply Kd.R_drew)); exact HO_5.out, bl⟩

/-! ### impl_hardFits: function 113 -/
def impl_hardFits.f (a0_0 : Int) (a0_1 : Int) (a0_2 : Int) (a0_3 : Int) (l0_4 : List (S117)) (a1 : Int) (a2 : Int) : Option (Bool) := if a1 > a0_0 then (some true) else (if a1 = a0_0 then (if a0_1 = (-1) then (some true) else (some (a0_1 == a2))) else (some false))
set_option maxHeartbeats 8000000 in
set_option maxRecDepth 100000 in
theorem impl_hardFits.calls (a0_0 : Int) (a0_1 : Int) (a0_2 : Int) (a0_3 : Int) (A0_4 : Option Addr) (c0_4 : Nat) (l0_4 : List (S117)) (a1 : Int) (a2 : Int) (r : Bool) (w : World) (hr0_4 : Kd.C k117 w A0_4 l0_4.length l0_4) (hc0_4 : l0_4.length ≤ c0_4) (h : impl_hardFits.f a0_0 a0_1 a0_2 a0_3 l0_4 a1 a2 = some r) :
 Calls Try.prog 113 #[.agg #[.int .i64 a0_0, .int .i64 a0_1, .int .i64 a0_2, .int .i64 a0_3, .slice A0_4 l0_4.length c0_4], .int .i64 a1, .int .i64 a2] w fun e w' => e = .returned (.bool r) ∧ Below w.heap.size w w' := by
 have hu67 := Try.underlying67
 have HR0_4 := Aside0.mk hr0_4
 have HC0_4 := Aside0.mk hc0_4
 clear hr0_4 hc0_4
 have HB := Aside0.mk (Below.refl w.heap.size w)
 have H : (if a1 > a0_0 then (some true) else (if a1 = a0_0 then (if a0_1 = (-1) then (some true) else (some (a0_1 == a2))) else (some false))) = some r := h
 clear h
 by_cases c4 : a1 > a0_0
 ·rw [if_pos c4] at H
  have c4b0 : decide (a0_0 < a1) = true := decide_eq_true c4
  clear c4
  obtain rfl := Option.some.inj H
  go_enter Try.func113, Try.ntmps113
  go_wp2_with (first | ((with_reducible refine gD 3 rfl ?_); refine boxZ 3 #[.int .i64 a0_0, .int .i64 a0_1, .int .i64 a0_2, .int .i64 a0_3, .slice A0_4 l0_4.length c0_4] 67 ?_; intro gb187 hg w5 hbox hb; have BK187 := Aside0.mk hbox; have GW187 := gw (w := w) hg; have GE187 := gw (w := w) hg; replace HB := bs (w := w) hb; clear hb hbox hg; obtain ⟨hcz6_0, hcz6_1, hcz6_2, hcz6_3, hcz6_4, hfz6_0, hfz6_1, hfz6_2, hfz6_3, hfz6_4⟩ := cf5 BK187))
  go_ret
  exact ⟨fe, bl⟩
 ·rw [if_neg c4] at H
  have c4b0 : decide (a0_0 < a1) = false := decide_eq_false c4
  clear c4
  by_cases c7 : a1 = a0_0
  ·rw [if_pos c7] at H
   have c7b0 : (a1 == a0_0) = true := beq_iff_eq.mpr c7
   have c7b1 : (a1 != a0_0) = false := bne_eq_false_iff_eq.mpr c7
   clear c7
   by_cases c8 : a0_1 = (-1)
   ·rw [if_pos c8] at H
    have c8b0 : (a0_1 == (-1)) = true := beq_iff_eq.mpr c8
    have c8b1 : (a0_1 != (-1)) = false := bne_eq_false_iff_eq.mpr c8
    clear c8
    obtain rfl := Option.some.inj H
    go_enter Try.func113, Try.ntmps113
    go_wp2_with (first | ((with_reducible refine gD 3 rfl ?_); refine boxZ 3 #[.int .i64 a0_0, .int .i64 a0_1, .int .i64 a0_2, .int .i64 a0_3, .slice A0_4 l0_4.length c0_4] 67 ?_; intro gb187 hg w9 hbox hb; have BK187 := Aside0.mk hbox; have GW187 := gw (w := w) hg; have GE187 := gw (w := w) hg; replace HB := bs (w := w) hb; clear hb hbox hg; obtain ⟨hcz10_0, hcz10_1, hcz10_2, hcz10_3, hcz10_4, hfz10_0, hfz10_1, hfz10_2, hfz10_3, hfz10_4⟩ := cf5 BK187))
    go_ret
    exact ⟨fe, bl⟩
   ·rw [if_neg c8] at H
    have c8b0 : (a0_1 == (-1)) = false := beq_eq_false_iff_ne.mpr c8
    have c8b1 : (a0_1 != (-1)) = true := bne_iff_ne.mpr c8
    obtain rfl := Option.some.inj H
    go_enter Try.func113, Try.ntmps113
    go_wp2_with (first | ((with_reducible refine gD 3 rfl ?_); refine boxZ 3 #[.int .i64 a0_0, .int .i64 a0_1, .int .i64 a0_2, .int .i64 a0_3, .slice A0_4 l0_4.length c0_4] 67 ?_; intro gb187 hg w11 hbox hb; have BK187 := Aside0.mk hbox; have GW187 := gw (w := w) hg; have GE187 := gw (w := w) hg; replace HB := bs (w := w) hb; clear hb hbox hg; obtain ⟨hcz12_0, hcz12_1, hcz12_2, hcz12_3, hcz12_4, hfz12_0, hfz12_1, hfz12_2, hfz12_3, hfz12_4⟩ := cf5 BK187))
    go_ret
    exact ⟨fe, bl⟩
  ·rw [if_neg c7] at H
   have c7b0 : (a1 == a0_0) = false := beq_eq_false_iff_ne.mpr c7
   have c7b1 : (a1 != a0_0) = true := bne_iff_ne.mpr c7
   obtain rfl := Option.some.inj H
   go_enter Try.func113, Try.ntmps113
   go_wp2_with (first | ((with_reducible refine gD 3 rfl ?_); refine boxZ 3 #[.int .i64 a0_0, .int .i64 a0_1, .int .i64 a0_2, .int .i64 a0_3, .slice A0_4 l0_4.length c0_4] 67 ?_; intro gb187 hg w13 hbox hb; have BK187 := Aside0.mk hbox; have GW187 := gw (w := w) hg; have GE187 := gw (w := w) hg; replace HB := bs (w := w) hb; clear hb hbox hg; obtain ⟨hcz14_0, hcz14_1, hcz14_2, hcz14_3, hcz14_4, hfz14_0, hfz14_1, hfz14_2, hfz14_3, hfz14_4⟩ := cf5 BK187))
   go_ret
   exact ⟨fe, bl⟩

end Go.Proofs.Ytfmddjbekophnaa.PFnExactChanges
