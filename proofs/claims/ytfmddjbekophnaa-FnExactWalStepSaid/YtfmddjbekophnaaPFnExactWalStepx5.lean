-- PRINTED by print.py (a twelfth state) out of the translation. Not trusted: Lean checks it.
import Derived.Test.YtfmddjbekophnaaPFnExactWalStepx0
import Derived.Test.YtfmddjbekophnaaPFnExactWalStepx2
import Derived.Test.YtfmddjbekophnaaPFnExactWalStepx3
import Derived.Test.YtfmddjbekophnaaPFnExactWalStepx4
import Derived.Test.YtfmddjbekophnaaZip
namespace Go.Proofs.Ytfmddjbekophnaa.PFnExactWalStep
open Go.RowKit Go.Proofs.YtfmddjbekophnaaW.PrintWords Go.Proofs.YtfmddjbekophnaaW.PrintLast Go.Proofs.YtfmddjbekophnaaW.PrintMore Go.Proofs.Ytfmddjbekophnaa.Zip
attribute [local go_sem] max2_int min2_int max_two min_two max_three min_three max_four min_four   -- for this text's walks alone
set_option linter.unusedVariables false
set_option linter.unusedSimpArgs false

/-! ### spec_l5Copy: function 117 -/
def spec_l5Copy.f (a0_0 : Int) (a0_1 : Int) (a0_2 : Int) (a0_3 : Int) (l0_4 : List (S117)) : Option (Int × Int × Int × Int × (List (S117))) := (some (([] : List (S117)) : List (S117))).bind fun y155 => (if y155.length + l0_4.length < 5864062014805 then (some (a0_0, a0_1, a0_2, a0_3, (y155 ++ l0_4))) else (none))
set_option maxHeartbeats 8000000 in
set_option maxRecDepth 100000 in
theorem spec_l5Copy.calls (a0_0 : Int) (a0_1 : Int) (a0_2 : Int) (a0_3 : Int) (A0_4 : Option Addr) (c0_4 : Nat) (l0_4 : List (S117)) (r1 : Int) (r2 : Int) (r3 : Int) (r4 : Int) (r5 : List (S117)) (w : World) (hr0_4 : Kd.C k117 w A0_4 l0_4.length l0_4) (hc0_4 : l0_4.length ≤ c0_4) (h : spec_l5Copy.f a0_0 a0_1 a0_2 a0_3 l0_4 = some (r1, r2, r3, r4, r5)) :
 Calls Try.prog 117 #[.agg #[.int .i64 a0_0, .int .i64 a0_1, .int .i64 a0_2, .int .i64 a0_3, .slice A0_4 l0_4.length c0_4]] w fun e w' => ∃ v4_ : Value, e = .returned (.agg #[.int .i64 r1, .int .i64 r2, .int .i64 r3, .int .i64 r4, v4_]) ∧ Kd.R k117 117 w' w.heap.size (fun _ => True) v4_ r5 ∧ Below w.heap.size w w' := by
 have hu67 := Try.underlying67
 have HR0_4 := Aside0.mk hr0_4
 have HC0_4 := Aside0.mk hc0_4
 clear hr0_4 hc0_4
 have HB := Aside0.mk (Below.refl w.heap.size w)
 have H : ((some (([] : List (S117)) : List (S117))).bind fun y155 => (if y155.length + l0_4.length < 5864062014805 then (some (a0_0, a0_1, a0_2, a0_3, (y155 ++ l0_4))) else (none))) = some (r1, r2, r3, r4, r5) := h
 clear h
 obtain ⟨y155, hy155⟩ : ∃ y_ : List (S117), y_ = (([] : List (S117))) := ⟨_, rfl⟩
 replace H : (if y155.length + l0_4.length < 5864062014805 then (some (a0_0, a0_1, a0_2, a0_3, (y155 ++ l0_4))) else (none)) = some (r1, r2, r3, r4, r5) := by first | (rw [hy155]; with_reducible exact H) | (have H2_ := (Option.bind_some _ _).symm.trans H; rw [hy155]; with_reducible exact H2_) | (have H2_ := (Option.bind_some _ _).symm.trans H; with_reducible exact H2_) | with_reducible exact H | (rw [hy155]; exact H) | exact H
 have Ny155 := Aside0.mk hy155
 clear hy155
 by_cases c2 : y155.length + l0_4.length < 5864062014805
 ·rw [if_pos c2] at H
  have LMc2 := Aside0.mk c2
  clear c2
  obtain ⟨y158, hy158⟩ : ∃ y_ : List (S117), y_ = (y155 ++ l0_4) := ⟨_, rfl⟩
  replace H : (some (a0_0, a0_1, a0_2, a0_3, y158)) = some (r1, r2, r3, r4, r5) := by first | (rw [hy158]; with_reducible exact H) | (have H2_ := (Option.bind_some _ _).symm.trans H; rw [hy158]; with_reducible exact H2_) | (have H2_ := (Option.bind_some _ _).symm.trans H; with_reducible exact H2_) | with_reducible exact H | (rw [hy158]; exact H) | exact H
  have Ny158 := Aside0.mk hy158
  clear hy158
  simp only [Option.some.injEq, Prod.mk.injEq] at H
  obtain ⟨rfl, rfl, rfl, rfl, rfl⟩ := H
  go_enter Try.func117, Try.ntmps117
  go_wp2_with (first | ((with_reducible refine gD 1 rfl ?_); refine boxZ 1 #[.int .i64 a0_0, .int .i64 a0_1, .int .i64 a0_2, .int .i64 a0_3, .slice A0_4 l0_4.length c0_4] 67 ?_; intro gb153 hg w3 hbox hb; have BK153 := Aside0.mk hbox; have GW153 := gw (w := w) hg; have GE153 := gw (w := w) hg; replace HB := bs (w := w) hb; clear hb hbox hg) | ((with_reducible refine gD 2 rfl ?_); refine boxZ 2 #[.int .i64 0, .int .i64 0, .int .i64 0, .int .i64 0, .slice none 0 0] 67 ?_; intro gb154 hg w4 hbox hb; have BK154 := Aside0.mk hbox; have GW154 := gw (w := w) hg; have GE154 := gw (w := w) hg; replace HB := bs (w := w) hb; have NB153_154 := nl BK153 hg; have NB154_153 := nr BK153 hg; replace BK153 := bv BK153 hb; clear hb hbox hg) | ((with_reducible refine gD 3 rfl ?_); refine Kd.R_lit k117 _ 117 ?hg (N := 3) ?hd (xs := ([] : List (S117))) (inner := []) (ok := fun _ => True) (okp := fun _ => True) ?hr ?hp (fun _ hk => hk) trivial (Below.refl _ _) (Nat.le_refl _) (by simp) ?_; (case hd => rfl); (case hg => rfl); (case hr => first | (go_simp; done) | (go_simp; rfl)); (case hp => exact (Reps.none _ _)); intro v156 w5 ho6 hb hg_ hnew_; clear hg_ hnew_; (first | rw [← Ny155.out] at ho6 | (simp only [Int.reduceToNat] at ho6; rw [← Ny155.out] at ho6)); have HO157 := Aside0.mk (Kd.R_lower ho6 (below_size bl)); replace BK153 := bv BK153 hb; replace BK154 := bv BK154 hb; replace HB := bs (w := w) hb; clear hb ho6; have hnb7 := NB153_154.out; have hnc7 := NB154_153.out; obtain ⟨Z8_0, Z8_1, Z8_2, Z8_3, Z8_4, Y8_0, Y8_1, Y8_2, Y8_3, Y8_4⟩ := cf5 BK153) | ((with_reducible refine gate_builtin (b := .append) (xs := #[.tmp 3, .tmp 5]) rfl ?_); at_builtin; refine Kd.R_append_rows k117 (w0 := w) w.heap.size rfl (.tmp 3) (.tmp 5) 65 117 (.agg #[(.int .i64 0), (.string ⟨#[]⟩)]) 24 rfl Try.underlying65 info117 rfl (by decide) (by omega) v156 y155 l0_4 _ _ _ (fun _ => True) (fun _ => False) rfl rfl ?aO ?aR (fun _ _ h => h) (fun _ h => h.elim) ?aF ?aB ?aS ?aL ?_; (case aR => exact ca (Kd.C_below HR0_4.out HB.out)); (case aB => exact bl); (case aF => exact (fun _ _ => trivial)); (case aO => exact (rpR HO157.out)); (case aS => exact (below_size bl)); (case aL => have := LMc2.out; omega); intro v159 w9 ho hb hg hat; rw [← Ny158.out] at ho; replace BK153 := Aside0.mk (blk_grown (g := gb153) (o := .cells #[.int .i64 a0_0, .int .i64 a0_1, .int .i64 a0_2, .int .i64 a0_3, .slice A0_4 l0_4.length c0_4] 67 (0, 0)) bk hg (Kd.R_ne HO157.out BK153.out (by decide))); replace BK154 := Aside0.mk (blk_grown (g := gb154) (o := .cells #[.int .i64 0, .int .i64 0, .int .i64 0, .int .i64 0, .slice none 0 0] 67 (0, 0)) bk hg (Kd.R_ne HO157.out BK154.out (by decide))); replace HB := Aside0.mk (hb); have HO160 := Aside0.mk (ho); clear HO157; clear ho hb hg hat; obtain ⟨Ao10, co10, rfl⟩ := Kd.R_slice HO160.out; obtain ⟨Z11_0, Z11_1, Z11_2, Z11_3, Z11_4, Y11_0, Y11_1, Y11_2, Y11_3, Y11_4⟩ := cf5 BK153; obtain ⟨Z12_0, Z12_1, Z12_2, Z12_3, Z12_4, Y12_0, Y12_1, Y12_2, Y12_3, Y12_4⟩ := cf5 BK154))
  refine bodyPost_ret (results_cell_row rfl _ _ gb154 67 #[.int .i64 a0_0, .int .i64 a0_1, .int .i64 a0_2, .int .i64 a0_3, .slice Ao10 y158.length co10] (0, 0) _ rfl bkk Try.underlying67 rfl (by kernel_rfl)) rfl ?_
  exact ⟨_, fe, rpR (Kd.R_mono (Kd.R_far (p := ⟨gb154, 4, none⟩) (Kd.R_far (p := ⟨gb154, 3, none⟩) (Kd.R_far (p := ⟨gb154, 2, none⟩) (Kd.R_far (p := ⟨gb154, 1, none⟩) (Kd.R_far (p := ⟨gb154, 0, none⟩) (Kd.R_far (p := ⟨gb153, 4, none⟩) (Kd.R_types (Kd.R_types HO160.out BK153.out (by decide)) BK154.out (by decide)) (fun _ hk => hk.1.2) (.slice Ao10 y158.length co10)) (fun _ hk => hk.2) (.int .i64 a0_0)) (fun _ hk => hk.2) (.int .i64 a0_1)) (fun _ hk => hk.2) (.int .i64 a0_2)) (fun _ hk => hk.2) (.int .i64 a0_3)) (fun _ hk => hk.2) (.slice Ao10 y158.length co10)) (fun _ hk => trivial)), bl⟩
 ·rw [if_neg c2] at H
  exact absurd H (by simp)

/-! ### spec_RecOk: function 118 -/
def spec_RecOk.f (a0_0 : Int) (a0_1 : Int) (a0_2 : Int) (a0_3 : Int) (a0_4 : ByteArray) : Option (Bool) := if a0_0 = 1 then ((spec_l1In.f a0_1 0 100000).bind fun t162 => (if t162 = true then ((spec_l1In.f a0_3 (-1) 4).bind fun t163 => (if t163 = true then (if a0_2 = 0 then (some (a0_4.toList == ([] : List UInt8))) else (some false)) else (some false))) else (some false))) else (if a0_0 = 2 then ((spec_l1In.f a0_1 1 100000).bind fun t164 => (if t164 = true then ((spec_l1In.f a0_2 1 100000).bind fun t165 => (if t165 = true then (if a0_3 = 0 then (some (decide ((a0_4.size : Int) ≤ 900))) else (some false)) else (some false))) else (some false))) else (if a0_0 = 3 then (if a0_1 = 0 then ((spec_l1In.f a0_2 1 100000).bind fun t166 => (if t166 = true then (if a0_3 = 0 then (some (a0_4.toList == ([] : List UInt8))) else (some false)) else (some false))) else (some false)) else (if a0_0 = 4 then ((spec_l5Based.f a0_2 a0_1).bind fun t167 => (if t167 = true then (if a0_3 = 0 then (some (a0_4.toList == ([] : List UInt8))) else (some false)) else (some false))) else (some false))))
set_option maxHeartbeats 8000000 in
set_option maxRecDepth 100000 in
theorem spec_RecOk.calls (a0_0 : Int) (a0_1 : Int) (a0_2 : Int) (a0_3 : Int) (a0_4 : ByteArray) (r : Bool) (w : World) (h : spec_RecOk.f a0_0 a0_1 a0_2 a0_3 a0_4 = some r) :
 Calls Try.prog 118 #[.agg #[.int .i64 a0_0, .int .i64 a0_1, .int .i64 a0_2, .int .i64 a0_3, .string a0_4]] w fun e w' => e = .returned (.bool r) ∧ Below w.heap.size w w' := by
 have hu83 := Try.underlying83
 have HB := Aside0.mk (Below.refl w.heap.size w)
 have H : (if a0_0 = 1 then ((spec_l1In.f a0_1 0 100000).bind fun t162 => (if t162 = true then ((spec_l1In.f a0_3 (-1) 4).bind fun t163 => (if t163 = true then (if a0_2 = 0 then (some (a0_4.toList == ([] : List UInt8))) else (some false)) else (some false))) else (some false))) else (if a0_0 = 2 then ((spec_l1In.f a0_1 1 100000).bind fun t164 => (if t164 = true then ((spec_l1In.f a0_2 1 100000).bind fun t165 => (if t165 = true then (if a0_3 = 0 then (some (decide ((a0_4.size : Int) ≤ 900))) else (some false)) else (some false))) else (some false))) else (if a0_0 = 3 then (if a0_1 = 0 then ((spec_l1In.f a0_2 1 100000).bind fun t166 => (if t166 = true then (if a0_3 = 0 then (some (a0_4.toList == ([] : List UInt8))) else (some false)) else (some false))) else (some false)) else (if a0_0 = 4 then ((spec_l5Based.f a0_2 a0_1).bind fun t167 => (if t167 = true then (if a0_3 = 0 then (some (a0_4.toList == ([] : List UInt8))) else (some false)) else (some false))) else (some false))))) = some r := h
 clear h
 by_cases c2 : a0_0 = 1
 ·rw [if_pos c2] at H
  have c2b0 : (a0_0 == 1) = true := beq_iff_eq.mpr c2
  have c2b1 : (a0_0 != 1) = false := bne_eq_false_iff_eq.mpr c2
  clear c2
  obtain ⟨t162, A3, H⟩ := bd H
  by_cases c4 : t162 = true
  ·subst c4
   replace H := iT H
   obtain ⟨t163, A5, H⟩ := bd H
   by_cases c6 : t163 = true
   ·subst c6
    replace H := iT H
    by_cases c7 : a0_2 = 0
    ·rw [if_pos c7] at H
     have c7b0 : (a0_2 == 0) = true := beq_iff_eq.mpr c7
     have c7b1 : (a0_2 != 0) = false := bne_eq_false_iff_eq.mpr c7
     clear c7
     obtain rfl := Option.some.inj H
     go_enter Try.func118, Try.ntmps118
     go_wp2_with (first | ((with_reducible refine gD 1 rfl ?_); (try (refine gate_guard rfl ?_; dsimp only)); refine boxZ 1 #[.int .i64 a0_0, .int .i64 a0_1, .int .i64 a0_2, .int .i64 a0_3, .string a0_4] 83 ?_; intro gb161 hg w8 hbox hb; have BK161 := Aside0.mk hbox; have GW161 := gw (w := w) hg; have GE161 := gw (w := w) hg; replace HB := bs (w := w) hb; clear hb hbox hg; obtain ⟨Z9_0, Z9_1, Z9_2, Z9_3, Z9_4, Y9_0, Y9_1, Y9_2, Y9_3, Y9_4⟩ := cf5 BK161) | ((with_reducible refine gC 76 rfl ?_); refine goesZ (some 9) rfl Try.func76 #[.int .i64 a0_1, .int .i64 0, .int .i64 100000] ?_; (with_reducible refine (spec_l1In.calls a0_1 0 100000 true _ A3.out).mono ?_); rintro e w' ⟨rfl, ⟨nd, rfl⟩⟩; refine ⟨_, rfl, ?_⟩) | (go_at_call 76; (with_reducible refine (spec_l1In.calls a0_3 (-1) 4 true _ A5.out).mono ?_); rintro e w' ⟨rfl, ⟨nd, rfl⟩⟩))
     go_ret
     exact ⟨fe, bl⟩
    ·rw [if_neg c7] at H
     have c7b0 : (a0_2 == 0) = false := beq_eq_false_iff_ne.mpr c7
     have c7b1 : (a0_2 != 0) = true := bne_iff_ne.mpr c7
     obtain rfl := Option.some.inj H
     go_enter Try.func118, Try.ntmps118
     go_wp2_with (first | ((with_reducible refine gD 1 rfl ?_); (try (refine gate_guard rfl ?_; dsimp only)); refine boxZ 1 #[.int .i64 a0_0, .int .i64 a0_1, .int .i64 a0_2, .int .i64 a0_3, .string a0_4] 83 ?_; intro gb161 hg w10 hbox hb; have BK161 := Aside0.mk hbox; have GW161 := gw (w := w) hg; have GE161 := gw (w := w) hg; replace HB := bs (w := w) hb; clear hb hbox hg; obtain ⟨Z11_0, Z11_1, Z11_2, Z11_3, Z11_4, Y11_0, Y11_1, Y11_2, Y11_3, Y11_4⟩ := cf5 BK161) | ((with_reducible refine gC 76 rfl ?_); refine goesZ (some 9) rfl Try.func76 #[.int .i64 a0_1, .int .i64 0, .int .i64 100000] ?_; (with_reducible refine (spec_l1In.calls a0_1 0 100000 true _ A3.out).mono ?_); rintro e w' ⟨rfl, ⟨nd, rfl⟩⟩; refine ⟨_, rfl, ?_⟩) | (go_at_call 76; (with_reducible refine (spec_l1In.calls a0_3 (-1) 4 true _ A5.out).mono ?_); rintro e w' ⟨rfl, ⟨nd, rfl⟩⟩))
     go_ret
     exact ⟨fe, bl⟩
   ·replace c6 := Bool.eq_false_iff.mpr c6
    subst c6
    replace H := iF H
    obtain rfl := Option.some.inj H
    go_enter Try.func118, Try.ntmps118
    go_wp2_with (first | ((with_reducible refine gD 1 rfl ?_); (try (refine gate_guard rfl ?_; dsimp only)); refine boxZ 1 #[.int .i64 a0_0, .int .i64 a0_1, .int .i64 a0_2, .int .i64 a0_3, .string a0_4] 83 ?_; intro gb161 hg w12 hbox hb; have BK161 := Aside0.mk hbox; have GW161 := gw (w := w) hg; have GE161 := gw (w := w) hg; replace HB := bs (w := w) hb; clear hb hbox hg; obtain ⟨Z13_0, Z13_1, Z13_2, Z13_3, Z13_4, Y13_0, Y13_1, Y13_2, Y13_3, Y13_4⟩ := cf5 BK161) | ((with_reducible refine gC 76 rfl ?_); refine goesZ (some 9) rfl Try.func76 #[.int .i64 a0_1, .int .i64 0, .int .i64 100000] ?_; (with_reducible refine (spec_l1In.calls a0_1 0 100000 true _ A3.out).mono ?_); rintro e w' ⟨rfl, ⟨nd, rfl⟩⟩; refine ⟨_, rfl, ?_⟩) | (go_at_call 76; (with_reducible refine (spec_l1In.calls a0_3 (-1) 4 false _ A5.out).mono ?_); rintro e w' ⟨rfl, ⟨nd, rfl⟩⟩))
    go_ret
    exact ⟨fe, bl⟩
  ·replace c4 := Bool.eq_false_iff.mpr c4
   subst c4
   replace H := iF H
   obtain rfl := Option.some.inj H
   go_enter Try.func118, Try.ntmps118
   go_wp2_with (first | ((with_reducible refine gD 1 rfl ?_); (try (refine gate_guard rfl ?_; dsimp only)); refine boxZ 1 #[.int .i64 a0_0, .int .i64 a0_1, .int .i64 a0_2, .int .i64 a0_3, .string a0_4] 83 ?_; intro gb161 hg w14 hbox hb; have BK161 := Aside0.mk hbox; have GW161 := gw (w := w) hg; have GE161 := gw (w := w) hg; replace HB := bs (w := w) hb; clear hb hbox hg; obtain ⟨Z15_0, Z15_1, Z15_2, Z15_3, Z15_4, Y15_0, Y15_1, Y15_2, Y15_3, Y15_4⟩ := cf5 BK161) | ((with_reducible refine gC 76 rfl ?_); refine goesZ (some 9) rfl Try.func76 #[.int .i64 a0_1, .int .i64 0, .int .i64 100000] ?_; (with_reducible refine (spec_l1In.calls a0_1 0 100000 false _ A3.out).mono ?_); rintro e w' ⟨rfl, ⟨nd, rfl⟩⟩; refine ⟨_, rfl, ?_⟩))
   go_ret
   exact ⟨fe, bl⟩
 ·rw [if_neg c2] at H
  have c2b0 : (a0_0 == 1) = false := beq_eq_false_iff_ne.mpr c2
  have c2b1 : (a0_0 != 1) = true := bne_iff_ne.mpr c2
  by_cases c16 : a0_0 = 2
  ·rw [if_pos c16] at H
   have c16b0 : (a0_0 == 2) = true := beq_iff_eq.mpr c16
   have c16b1 : (a0_0 != 2) = false := bne_eq_false_iff_eq.mpr c16
   clear c16
   obtain ⟨t164, A17, H⟩ := bd H
   by_cases c18 : t164 = true
   ·subst c18
    replace H := iT H
    obtain ⟨t165, A19, H⟩ := bd H
    by_cases c20 : t165 = true
    ·subst c20
     replace H := iT H
     by_cases c21 : a0_3 = 0
     ·rw [if_pos c21] at H
      have c21b0 : (a0_3 == 0) = true := beq_iff_eq.mpr c21
      have c21b1 : (a0_3 != 0) = false := bne_eq_false_iff_eq.mpr c21
      clear c21
      obtain rfl := Option.some.inj H
      go_enter Try.func118, Try.ntmps118
      go_wp2_with (first | ((with_reducible refine gD 1 rfl ?_); (try (refine gate_guard rfl ?_; dsimp only)); refine boxZ 1 #[.int .i64 a0_0, .int .i64 a0_1, .int .i64 a0_2, .int .i64 a0_3, .string a0_4] 83 ?_; intro gb161 hg w22 hbox hb; have BK161 := Aside0.mk hbox; have GW161 := gw (w := w) hg; have GE161 := gw (w := w) hg; replace HB := bs (w := w) hb; clear hb hbox hg; obtain ⟨Z23_0, Z23_1, Z23_2, Z23_3, Z23_4, Y23_0, Y23_1, Y23_2, Y23_3, Y23_4⟩ := cf5 BK161) | ((with_reducible refine gC 76 rfl ?_); refine goesZ (some 29) rfl Try.func76 #[.int .i64 a0_1, .int .i64 1, .int .i64 100000] ?_; (with_reducible refine (spec_l1In.calls a0_1 1 100000 true _ A17.out).mono ?_); rintro e w' ⟨rfl, ⟨nd, rfl⟩⟩; refine ⟨_, rfl, ?_⟩) | (go_at_call 76; (with_reducible refine (spec_l1In.calls a0_2 1 100000 true _ A19.out).mono ?_); rintro e w' ⟨rfl, ⟨nd, rfl⟩⟩))
      go_ret
      exact ⟨fe, bl⟩
     ·rw [if_neg c21] at H
      have c21b0 : (a0_3 == 0) = false := beq_eq_false_iff_ne.mpr c21
      have c21b1 : (a0_3 != 0) = true := bne_iff_ne.mpr c21
      obtain rfl := Option.some.inj H
      go_enter Try.func118, Try.ntmps118
      go_wp2_with (first | ((with_reducible refine gD 1 rfl ?_); (try (refine gate_guard rfl ?_; dsimp only)); refine boxZ 1 #[.int .i64 a0_0, .int .i64 a0_1, .int .i64 a0_2, .int .i64 a0_3, .string a0_4] 83 ?_; intro gb161 hg w24 hbox hb; have BK161 := Aside0.mk hbox; have GW161 := gw (w := w) hg; have GE161 := gw (w := w) hg; replace HB := bs (w := w) hb; clear hb hbox hg; obtain ⟨Z25_0, Z25_1, Z25_2, Z25_3, Z25_4, Y25_0, Y25_1, Y25_2, Y25_3, Y25_4⟩ := cf5 BK161) | ((with_reducible refine gC 76 rfl ?_); refine goesZ (some 29) rfl Try.func76 #[.int .i64 a0_1, .int .i64 1, .int .i64 100000] ?_; (with_reducible refine (spec_l1In.calls a0_1 1 100000 true _ A17.out).mono ?_); rintro e w' ⟨rfl, ⟨nd, rfl⟩⟩; refine ⟨_, rfl, ?_⟩) | (go_at_call 76; (with_reducible refine (spec_l1In.calls a0_2 1 100000 true _ A19.out).mono ?_); rintro e w' ⟨rfl, ⟨nd, rfl⟩⟩))
      go_ret
      exact ⟨fe, bl⟩
    ·replace c20 := Bool.eq_false_iff.mpr c20
     subst c20
     replace H := iF H
     obtain rfl := Option.some.inj H
     go_enter Try.func118, Try.ntmps118
     go_wp2_with (first | ((with_reducible refine gD 1 rfl ?_); (try (refine gate_guard rfl ?_; dsimp only)); refine boxZ 1 #[.int .i64 a0_0, .int .i64 a0_1, .int .i64 a0_2, .int .i64 a0_3, .string a0_4] 83 ?_; intro gb161 hg w26 hbox hb; have BK161 := Aside0.mk hbox; have GW161 := gw (w := w) hg; have GE161 := gw (w := w) hg; replace HB := bs (w := w) hb; clear hb hbox hg; obtain ⟨Z27_0, Z27_1, Z27_2, Z27_3, Z27_4, Y27_0, Y27_1, Y27_2, Y27_3, Y27_4⟩ := cf5 BK161) | ((with_reducible refine gC 76 rfl ?_); refine goesZ (some 29) rfl Try.func76 #[.int .i64 a0_1, .int .i64 1, .int .i64 100000] ?_; (with_reducible refine (spec_l1In.calls a0_1 1 100000 true _ A17.out).mono ?_); rintro e w' ⟨rfl, ⟨nd, rfl⟩⟩; refine ⟨_, rfl, ?_⟩) | (go_at_call 76; (with_reducible refine (spec_l1In.calls a0_2 1 100000 false _ A19.out).mono ?_); rintro e w' ⟨rfl, ⟨nd, rfl⟩⟩))
     go_ret
     exact ⟨fe, bl⟩
   ·replace c18 := Bool.eq_false_iff.mpr c18
    subst c18
    replace H := iF H
    obtain rfl := Option.some.inj H
    go_enter Try.func118, Try.ntmps118
    go_wp2_with (first | ((with_reducible refine gD 1 rfl ?_); (try (refine gate_guard rfl ?_; dsimp only)); refine boxZ 1 #[.int .i64 a0_0, .int .i64 a0_1, .int .i64 a0_2, .int .i64 a0_3, .string a0_4] 83 ?_; intro gb161 hg w28 hbox hb; have BK161 := Aside0.mk hbox; have GW161 := gw (w := w) hg; have GE161 := gw (w := w) hg; replace HB := bs (w := w) hb; clear hb hbox hg; obtain ⟨Z29_0, Z29_1, Z29_2, Z29_3, Z29_4, Y29_0, Y29_1, Y29_2, Y29_3, Y29_4⟩ := cf5 BK161) | ((with_reducible refine gC 76 rfl ?_); refine goesZ (some 29) rfl Try.func76 #[.int .i64 a0_1, .int .i64 1, .int .i64 100000] ?_; (with_reducible refine (spec_l1In.calls a0_1 1 100000 false _ A17.out).mono ?_); rintro e w' ⟨rfl, ⟨nd, rfl⟩⟩; refine ⟨_, rfl, ?_⟩))
    go_ret
    exact ⟨fe, bl⟩
  ·rw [if_neg c16] at H
   have c16b0 : (a0_0 == 2) = false := beq_eq_false_iff_ne.mpr c16
   have c16b1 : (a0_0 != 2) = true := bne_iff_ne.mpr c16
   by_cases c30 : a0_0 = 3
   ·rw [if_pos c30] at H
    have c30b0 : (a0_0 == 3) = true := beq_iff_eq.mpr c30
    have c30b1 : (a0_0 != 3) = false := bne_eq_false_iff_eq.mpr c30
    clear c30
    by_cases c31 : a0_1 = 0
    ·rw [if_pos c31] at H
     have c31b0 : (a0_1 == 0) = true := beq_iff_eq.mpr c31
     have c31b1 : (a0_1 != 0) = false := bne_eq_false_iff_eq.mpr c31
     clear c31
     obtain ⟨t166, A32, H⟩ := bd H
     by_cases c33 : t166 = true
     ·subst c33
      replace H := iT H
      by_cases c34 : a0_3 = 0
      ·rw [if_pos c34] at H
       have c34b0 : (a0_3 == 0) = true := beq_iff_eq.mpr c34
       have c34b1 : (a0_3 != 0) = false := bne_eq_false_iff_eq.mpr c34
       clear c34
       obtain rfl := Option.some.inj H
       go_enter Try.func118, Try.ntmps118
       go_wp2_with (first | ((with_reducible refine gD 1 rfl ?_); (try (refine gate_guard rfl ?_; dsimp only)); refine boxZ 1 #[.int .i64 a0_0, .int .i64 a0_1, .int .i64 a0_2, .int .i64 a0_3, .string a0_4] 83 ?_; intro gb161 hg w35 hbox hb; have BK161 := Aside0.mk hbox; have GW161 := gw (w := w) hg; have GE161 := gw (w := w) hg; replace HB := bs (w := w) hb; clear hb hbox hg; obtain ⟨Z36_0, Z36_1, Z36_2, Z36_3, Z36_4, Y36_0, Y36_1, Y36_2, Y36_3, Y36_4⟩ := cf5 BK161) | (go_at_call 76; (with_reducible refine (spec_l1In.calls a0_2 1 100000 true _ A32.out).mono ?_); rintro e w' ⟨rfl, ⟨nd, rfl⟩⟩))
       go_ret
       exact ⟨fe, bl⟩
      ·rw [if_neg c34] at H
       have c34b0 : (a0_3 == 0) = false := beq_eq_false_iff_ne.mpr c34
       have c34b1 : (a0_3 != 0) = true := bne_iff_ne.mpr c34
       obtain rfl := Option.some.inj H
       go_enter Try.func118, Try.ntmps118
       go_wp2_with (first | ((with_reducible refine gD 1 rfl ?_); (try (refine gate_guard rfl ?_; dsimp only)); refine boxZ 1 #[.int .i64 a0_0, .int .i64 a0_1, .int .i64 a0_2, .int .i64 a0_3, .string a0_4] 83 ?_; intro gb161 hg w37 hbox hb; have BK161 := Aside0.mk hbox; have GW161 := gw (w := w) hg; have GE161 := gw (w := w) hg; replace HB := bs (w := w) hb; clear hb hbox hg; obtain ⟨Z38_0, Z38_1, Z38_2, Z38_3, Z38_4, Y38_0, Y38_1, Y38_2, Y38_3, Y38_4⟩ := cf5 BK161) | (go_at_call 76; (with_reducible refine (spec_l1In.calls a0_2 1 100000 true _ A32.out).mono ?_); rintro e w' ⟨rfl, ⟨nd, rfl⟩⟩))
       go_ret
       exact ⟨fe, bl⟩
     ·replace c33 := Bool.eq_false_iff.mpr c33
      subst c33
      replace H := iF H
      obtain rfl := Option.some.inj H
      go_enter Try.func118, Try.ntmps118
      go_wp2_with (first | ((with_reducible refine gD 1 rfl ?_); (try (refine gate_guard rfl ?_; dsimp only)); refine boxZ 1 #[.int .i64 a0_0, .int .i64 a0_1, .int .i64 a0_2, .int .i64 a0_3, .string a0_4] 83 ?_; intro gb161 hg w39 hbox hb; have BK161 := Aside0.mk hbox; have GW161 := gw (w := w) hg; have GE161 := gw (w := w) hg; replace HB := bs (w := w) hb; clear hb hbox hg; obtain ⟨Z40_0, Z40_1, Z40_2, Z40_3, Z40_4, Y40_0, Y40_1, Y40_2, Y40_3, Y40_4⟩ := cf5 BK161) | (go_at_call 76; (with_reducible refine (spec_l1In.calls a0_2 1 100000 false _ A32.out).mono ?_); rintro e w' ⟨rfl, ⟨nd, rfl⟩⟩))
      go_ret
      exact ⟨fe, bl⟩
    ·rw [if_neg c31] at H
     have c31b0 : (a0_1 == 0) = false := beq_eq_false_iff_ne.mpr c31
     have c31b1 : (a0_1 != 0) = true := bne_iff_ne.mpr c31
     obtain rfl := Option.some.inj H
     go_enter Try.func118, Try.ntmps118
     go_wp2_with (first | ((with_reducible refine gD 1 rfl ?_); (try (refine gate_guard rfl ?_; dsimp only)); refine boxZ 1 #[.int .i64 a0_0, .int .i64 a0_1, .int .i64 a0_2, .int .i64 a0_3, .string a0_4] 83 ?_; intro gb161 hg w41 hbox hb; have BK161 := Aside0.mk hbox; have GW161 := gw (w := w) hg; have GE161 := gw (w := w) hg; replace HB := bs (w := w) hb; clear hb hbox hg; obtain ⟨Z42_0, Z42_1, Z42_2, Z42_3, Z42_4, Y42_0, Y42_1, Y42_2, Y42_3, Y42_4⟩ := cf5 BK161))
     go_ret
     exact ⟨fe, bl⟩
   ·rw [if_neg c30] at H
    have c30b0 : (a0_0 == 3) = false := beq_eq_false_iff_ne.mpr c30
    have c30b1 : (a0_0 != 3) = true := bne_iff_ne.mpr c30
    by_cases c43 : a0_0 = 4
    ·rw [if_pos c43] at H
     have c43b0 : (a0_0 == 4) = true := beq_iff_eq.mpr c43
     have c43b1 : (a0_0 != 4) = false := bne_eq_false_iff_eq.mpr c43
     clear c43
     obtain ⟨t167, A44, H⟩ := bd H
     by_cases c45 : t167 = true
     ·subst c45
      replace H := iT H
      by_cases c46 : a0_3 = 0
      ·rw [if_pos c46] at H
       have c46b0 : (a0_3 == 0) = true := beq_iff_eq.mpr c46
       have c46b1 : (a0_3 != 0) = false := bne_eq_false_iff_eq.mpr c46
       clear c46
       obtain rfl := Option.some.inj H
       go_enter Try.func118, Try.ntmps118
       go_wp2_with (first | ((with_reducible refine gD 1 rfl ?_); (try (refine gate_guard rfl ?_; dsimp only)); refine boxZ 1 #[.int .i64 a0_0, .int .i64 a0_1, .int .i64 a0_2, .int .i64 a0_3, .string a0_4] 83 ?_; intro gb161 hg w47 hbox hb; have BK161 := Aside0.mk hbox; have GW161 := gw (w := w) hg; have GE161 := gw (w := w) hg; replace HB := bs (w := w) hb; clear hb hbox hg; obtain ⟨Z48_0, Z48_1, Z48_2, Z48_3, Z48_4, Y48_0, Y48_1, Y48_2, Y48_3, Y48_4⟩ := cf5 BK161) | ((with_reducible refine gC 132 rfl ?_); refine goesZ (some 72) rfl Try.func132 #[.int .i64 a0_2, .int .i64 a0_1] ?_; (with_reducible refine (spec_l5Based.calls a0_2 a0_1 true _ A44.out).mono ?_); rintro e w' ⟨rfl, ⟨nd, rfl⟩⟩; refine ⟨_, rfl, ?_⟩))
       go_ret
       exact ⟨fe, bl⟩
      ·rw [if_neg c46] at H
       have c46b0 : (a0_3 == 0) = false := beq_eq_false_iff_ne.mpr c46
       have c46b1 : (a0_3 != 0) = true := bne_iff_ne.mpr c46
       obtain rfl := Option.some.inj H
       go_enter Try.func118, Try.ntmps118
       go_wp2_with (first | ((with_reducible refine gD 1 rfl ?_); (try (refine gate_guard rfl ?_; dsimp only)); refine boxZ 1 #[.int .i64 a0_0, .int .i64 a0_1, .int .i64 a0_2, .int .i64 a0_3, .string a0_4] 83 ?_; intro gb161 hg w49 hbox hb; have BK161 := Aside0.mk hbox; have GW161 := gw (w := w) hg; have GE161 := gw (w := w) hg; replace HB := bs (w := w) hb; clear hb hbox hg; obtain ⟨Z50_0, Z50_1, Z50_2, Z50_3, Z50_4, Y50_0, Y50_1, Y50_2, Y50_3, Y50_4⟩ := cf5 BK161) | ((with_reducible refine gC 132 rfl ?_); refine goesZ (some 72) rfl Try.func132 #[.int .i64 a0_2, .int .i64 a0_1] ?_; (with_reducible refine (spec_l5Based.calls a0_2 a0_1 true _ A44.out).mono ?_); rintro e w' ⟨rfl, ⟨nd, rfl⟩⟩; refine ⟨_, rfl, ?_⟩))
       go_ret
       exact ⟨fe, bl⟩
     ·replace c45 := Bool.eq_false_iff.mpr c45
      subst c45
      replace H := iF H
      obtain rfl := Option.some.inj H
      go_enter Try.func118, Try.ntmps118
      go_wp2_with (first | ((with_reducible refine gD 1 rfl ?_); (try (refine gate_guard rfl ?_; dsimp only)); refine boxZ 1 #[.int .i64 a0_0, .int .i64 a0_1, .int .i64 a0_2, .int .i64 a0_3, .string a0_4] 83 ?_; intro gb161 hg w51 hbox hb; have BK161 := Aside0.mk hbox; have GW161 := gw (w := w) hg; have GE161 := gw (w := w) hg; replace HB := bs (w := w) hb; clear hb hbox hg; obtain ⟨Z52_0, Z52_1, Z52_2, Z52_3, Z52_4, Y52_0, Y52_1, Y52_2, Y52_3, Y52_4⟩ := cf5 BK161) | ((with_reducible refine gC 132 rfl ?_); refine goesZ (some 72) rfl Try.func132 #[.int .i64 a0_2, .int .i64 a0_1] ?_; (with_reducible refine (spec_l5Based.calls a0_2 a0_1 false _ A44.out).mono ?_); rintro e w' ⟨rfl, ⟨nd, rfl⟩⟩; refine ⟨_, rfl, ?_⟩))
      go_ret
      exact ⟨fe, bl⟩
    ·rw [if_neg c43] at H
     have c43b0 : (a0_0 == 4) = false := beq_eq_false_iff_ne.mpr c43
     have c43b1 : (a0_0 != 4) = true := bne_iff_ne.mpr c43
     obtain rfl := Option.some.inj H
     go_enter Try.func118, Try.ntmps118
     go_wp2_with (first | ((with_reducible refine gD 1 rfl ?_); (try (refine gate_guard rfl ?_; dsimp only)); refine boxZ 1 #[.int .i64 a0_0, .int .i64 a0_1, .int .i64 a0_2, .int .i64 a0_3, .string a0_4] 83 ?_; intro gb161 hg w53 hbox hb; have BK161 := Aside0.mk hbox; have GW161 := gw (w := w) hg; have GE161 := gw (w := w) hg; replace HB := bs (w := w) hb; clear hb hbox hg; obtain ⟨Z54_0, Z54_1, Z54_2, Z54_3, Z54_4, Y54_0, Y54_1, Y54_2, Y54_3, Y54_4⟩ := cf5 BK161))
     go_ret
     exact ⟨fe, bl⟩

/-! ### spec_WalStep: function 67 -/
def spec_WalStep.j0 : Nat → Bool → Int → Int → Int → Int → List (S117) → Int → Int → Int → Int → ByteArray → Option (Int × Int × Int × Int × (List (S117)) × Bool)
 | 0, _, _, _, _, _, _, _, _, _, _, _ => none
 | k + 1, x20, x169000, x169001, x169002, x169003, x169004, x170000, x170001, x170002, x170003, x170004 => if x20 = true then (some (x169000, x169001, x169002, x169003, x169004, false)) else (if x170000 = 1 then (some (x170001, x170003, x169002, x169003, x169004, true)) else (if x170000 = 2 then (if x169004.length < 5864062014805 then (some (x169000, x169001, x169002, x169003, (x169004 ++ [(⟨x170001, x170004⟩ : S117)]), true)) else (none)) else (if 0 ≤ (wrap64 ((wrap64 (x170002 - x169002)) - 1)) then (if (wrap64 ((wrap64 (x170002 - x169002)) - 1)) ≤ (x169004.length : Int) then (some (x169000, x169001, x169002, x169003, (x169004.take ((wrap64 ((wrap64 (x170002 - x169002)) - 1)) : Int).toNat), true)) else (none)) else (none))))
def spec_WalStep.f (k : Nat) (a0_0 : Int) (a0_1 : Int) (a0_2 : Int) (a0_3 : Int) (l0_4 : List (S117)) (a1_0 : Int) (a1_1 : Int) (a1_2 : Int) (a1_3 : Int) (a1_4 : ByteArray) : Option (Int × Int × Int × Int × (List (S117)) × Bool) := (spec_WalOk.f k a0_0 a0_1 a0_2 a0_3 l0_4).bind fun t171 => (if t171 = true then ((spec_l5Copy.f a0_0 a0_1 a0_2 a0_3 l0_4).bind fun bt172 => ((spec_RecOk.f a1_0 a1_1 a1_2 a1_3 a1_4).bind fun t179 => (if t179 = true then ((spec_l5Fits.f bt172.1 bt172.2.1 bt172.2.2.1 bt172.2.2.2.1 bt172.2.2.2.2 a1_0 a1_1 a1_2 a1_3 a1_4).bind fun t180 => (spec_WalStep.j0 k (!t180) bt172.1 bt172.2.1 bt172.2.2.1 bt172.2.2.2.1 bt172.2.2.2.2 a1_0 a1_1 a1_2 a1_3 a1_4)) else (spec_WalStep.j0 k true bt172.1 bt172.2.1 bt172.2.2.1 bt172.2.2.2.1 bt172.2.2.2.2 a1_0 a1_1 a1_2 a1_3 a1_4)))) else (some (0, 0, 0, 0, ([] : List (S117)), false)))
theorem spec_WalStep.mono_l : ∀ k, (∀ y0 y1 y2 y3 y4 y5 y6 y7 y8 y9 y10, LeO (spec_WalStep.j0 k y0 y1 y2 y3 y4 y5 y6 y7 y8 y9 y10) (spec_WalStep.j0 (k + 1) y0 y1 y2 y3 y4 y5 y6 y7 y8 y9 y10))
 | 0 => fun _ _ _ _ _ _ _ _ _ _ _ r h => by simp [spec_WalStep.j0] at h
 | k + 1 => by
  have ih0 := spec_WalStep.mono_l k
  ·intro y0 y1 y2 y3 y4 y5 y6 y7 y8 y9 y10
   unfold spec_WalStep.j0
   repeat' first
   | (with_reducible exact ih0 _ _ _ _ _ _ _ _ _ _ _)
   | (with_reducible exact spec_WalOk.mono _ _ _ _ _ _)
   | (with_reducible exact LeO.refl _)
   | (with_reducible exact LeO.none _)
   | (with_reducible refine LeO.ite ?_ ?_)
   | (with_reducible refine LeO.bind ?_ (fun _ => ?_))
   | exact ih0 _ _ _ _ _ _ _ _ _ _ _
   | exact spec_WalOk.mono _ _ _ _ _ _
   | exact LeO.none _
   | refine LeO.ite ?_ ?_
   | refine LeO.bind ?_ (fun _ => ?_)
theorem spec_WalStep.mono : ∀ a0 a1 a2 a3 a4 a5 a6 a7 a8 a9 k, LeO (spec_WalStep.f k a0 a1 a2 a3 a4 a5 a6 a7 a8 a9) (spec_WalStep.f (k + 1) a0 a1 a2 a3 a4 a5 a6 a7 a8 a9) := by
 intro a0 a1 a2 a3 a4 a5 a6 a7 a8 a9 k
 have ih0 := spec_WalStep.mono_l k
 unfold spec_WalStep.f
 repeat' first
  | (with_reducible exact ih0 _ _ _ _ _ _ _ _ _ _ _)
  | (with_reducible exact spec_WalOk.mono _ _ _ _ _ _)
  | (with_reducible exact LeO.refl _)
  | (with_reducible exact LeO.none _)
  | (with_reducible refine LeO.ite ?_ ?_)
  | (with_reducible refine LeO.bind ?_ (fun _ => ?_))
  | exact ih0 _ _ _ _ _ _ _ _ _ _ _
  | exact spec_WalOk.mono _ _ _ _ _ _
  | exact LeO.none _
  | refine LeO.ite ?_ ?_
  | refine LeO.bind ?_ (fun _ => ?_)
set_option maxHeartbeats 8000000 in
set_option maxRecDepth 100000 in
theorem spec_WalStep.calls (k : Nat) (a0_0 : Int) (a0_1 : Int) (a0_2 : Int) (a0_3 : Int) (A0_4 : Option Addr) (c0_4 : Nat) (l0_4 : List (S117)) (a1_0 : Int) (a1_1 : Int) (a1_2 : Int) (a1_3 : Int) (a1_4 : ByteArray) (r1 : Int) (r2 : Int) (r3 : Int) (r4 : Int) (r5 : List (S117)) (r6 : Bool) (w : World) (hr0_4 : Kd.C k117 w A0_4 l0_4.length l0_4) (hc0_4 : l0_4.length ≤ c0_4) (h : spec_WalStep.f k a0_0 a0_1 a0_2 a0_3 l0_4 a1_0 a1_1 a1_2 a1_3 a1_4 = some (r1, r2, r3, r4, r5, r6)) :
 Calls Try.prog 67 #[.agg #[.int .i64 a0_0, .int .i64 a0_1, .int .i64 a0_2, .int .i64 a0_3, .slice A0_4 l0_4.length c0_4], .agg #[.int .i64 a1_0, .int .i64 a1_1, .int .i64 a1_2, .int .i64 a1_3, .string a1_4]] w fun e w' => ∃ v4_ : Value, e = .returned (.tuple #[.agg #[.int .i64 r1, .int .i64 r2, .int .i64 r3, .int .i64 r4, v4_], .bool r6]) ∧ Kd.R k117 117 w' w.heap.size (fun _ => True) v4_ r5 ∧ Below w.heap.size w w' := by
 have hu67 := Try.underlying67
 have hu83 := Try.underlying83
 have hu117 := Try.underlying117
 have HR0_4 := Aside0.mk hr0_4
 have HC0_4 := Aside0.mk hc0_4
 clear hr0_4 hc0_4
 have HB := Aside0.mk (Below.refl w.heap.size w)
 have H : ((spec_WalOk.f k a0_0 a0_1 a0_2 a0_3 l0_4).bind fun t171 => (if t171 = true then ((spec_l5Copy.f a0_0 a0_1 a0_2 a0_3 l0_4).bind fun bt172 => ((spec_RecOk.f a1_0 a1_1 a1_2 a1_3 a1_4).bind fun t179 => (if t179 = true then ((spec_l5Fits.f bt172.1 bt172.2.1 bt172.2.2.1 bt172.2.2.2.1 bt172.2.2.2.2 a1_0 a1_1 a1_2 a1_3 a1_4).bind fun t180 => (spec_WalStep.j0 k (!t180) bt172.1 bt172.2.1 bt172.2.2.1 bt172.2.2.2.1 bt172.2.2.2.2 a1_0 a1_1 a1_2 a1_3 a1_4)) else (spec_WalStep.j0 k true bt172.1 bt172.2.1 bt172.2.2.1 bt172.2.2.2.1 bt172.2.2.2.2 a1_0 a1_1 a1_2 a1_3 a1_4)))) else (some (0, 0, 0, 0, ([] : List (S117)), false)))) = some (r1, r2, r3, r4, r5, r6) := h
 clear h
 obtain ⟨t171, A3, H⟩ := bd H
 by_cases c4 : t171 = true
 ·subst c4
  replace H := iT H
  replace H := Option.bind_eq_some_iff.mp H
  obtain ⟨⟨t172, t173, t174, t175, t176⟩, A50, H⟩ := H
  replace H : ((spec_RecOk.f a1_0 a1_1 a1_2 a1_3 a1_4).bind fun t179 => (if t179 = true then ((spec_l5Fits.f t172 t173 t174 t175 t176 a1_0 a1_1 a1_2 a1_3 a1_4).bind fun t180 => (spec_WalStep.j0 k (!t180) t172 t173 t174 t175 t176 a1_0 a1_1 a1_2 a1_3 a1_4)) else (spec_WalStep.j0 k true t172 t173 t174 t175 t176 a1_0 a1_1 a1_2 a1_3 a1_4))) = some (r1, r2, r3, r4, r5, r6) := H
  have A5 := Aside0.mk A50
  clear A50
  have HC6 := Aside0.mk H
  clear H
  go_enter Try.func67, Try.ntmps67
  go_upto_region 4 with (first | ((with_reducible refine gD 2 rfl ?_); refine boxZ 2 #[.int .i64 a0_0, .int .i64 a0_1, .int .i64 a0_2, .int .i64 a0_3, .slice A0_4 l0_4.length c0_4] 67 ?_; intro gb168 hg w7 hbox hb; have BK168 := Aside0.mk hbox; have GW168 := gw (w := w) hg; have GE168 := gw (w := w) hg; replace HB := bs (w := w) hb; clear hb hbox hg) | ((with_reducible refine gD 3 rfl ?_); refine boxZ 3 #[.int .i64 a1_0, .int .i64 a1_1, .int .i64 a1_2, .int .i64 a1_3, .string a1_4] 83 ?_; intro gb169 hg w8 hbox hb; have BK169 := Aside0.mk hbox; have GW169 := gw (w := w) hg; have GE169 := gw (w := w) hg; replace HB := bs (w := w) hb; have NB168_169 := nl BK168 hg; have NB169_168 := nr BK168 hg; replace BK168 := bv BK168 hb; clear hb hbox hg) | ((with_reducible refine gD 4 rfl ?_); refine boxZ 4 #[.int .i64 0, .int .i64 0, .int .i64 0, .int .i64 0, .slice none 0 0] 67 ?_; intro gb170 hg w9 hbox hb; have BK170 := Aside0.mk hbox; have GW170 := gw (w := w) hg; have GE170 := gw (w := w) hg; replace HB := bs (w := w) hb; have NB168_170 := nl BK168 hg; have NB170_168 := nr BK168 hg; replace BK168 := bv BK168 hb; have NB169_170 := nl BK169 hg; have NB170_169 := nr BK169 hg; replace BK169 := bv BK169 hb; clear hb hbox hg; have hnb10 := NB168_169.out; have hnc10 := NB169_168.out; have hnb11 := NB168_170.out; have hnc11 := NB170_168.out; obtain ⟨Z12_0, Z12_1, Z12_2, Z12_3, Z12_4, Y12_0, Y12_1, Y12_2, Y12_3, Y12_4⟩ := cf5 BK168) | ((with_reducible refine gC 104 rfl ?_); refine goesZ (some 7) rfl Try.func104 #[.agg #[.int .i64 a0_0, .int .i64 a0_1, .int .i64 a0_2, .int .i64 a0_3, .slice A0_4 l0_4.length c0_4]] ?_; (with_reducible refine (spec_WalOk.calls k a0_0 a0_1 a0_2 a0_3 _ _ l0_4 true _ ?side1 ?side2 A3.out).mono ?_); (case side1 => exact ca (Kd.C_below HR0_4.out HB.out)); (case side2 => exact HC0_4.out); rintro e w13 ⟨rfl, hb⟩; refine ⟨_, rfl, ?_⟩; replace BK168 := bv BK168 hb; replace BK169 := bv BK169 hb; replace BK170 := bv BK170 hb; replace HB := bs (w := w) hb; (try clear hb); obtain ⟨Z14_0, Z14_1, Z14_2, Z14_3, Z14_4, Y14_0, Y14_1, Y14_2, Y14_3, Y14_4⟩ := cf5 BK168) | ((with_reducible refine gC 117 rfl ?_); refine goesZ (some 11) rfl Try.func117 #[.agg #[.int .i64 a0_0, .int .i64 a0_1, .int .i64 a0_2, .int .i64 a0_3, .slice A0_4 l0_4.length c0_4]] ?_; (with_reducible refine (spec_l5Copy.calls a0_0 a0_1 a0_2 a0_3 _ _ l0_4 t172 t173 t174 t175 t176 _ ?side1 ?side2 A5.out).mono ?_); (case side1 => exact ca (Kd.C_below HR0_4.out HB.out)); (case side2 => exact HC0_4.out); rintro e w15 ⟨v177, rfl, ho0, hb⟩; refine ⟨_, rfl, ?_⟩; have HO178 := Aside0.mk (Kd.R_lower ho0 (below_size bl)); replace BK168 := bv BK168 hb; replace BK169 := bv BK169 hb; replace BK170 := bv BK170 hb; replace HB := bs (w := w) hb; (try clear hb ho0); obtain ⟨Z16_0, Z16_1, Z16_2, Z16_3, Z16_4, Y16_0, Y16_1, Y16_2, Y16_3, Y16_4⟩ := cf5 BK168; obtain ⟨Ao17, co17, rfl⟩ := Kd.R_slice HO178.out))
  (try simp only [Act.put, List.setIfInBounds_toArray, List.set_cons_zero, List.set_cons_succ])
  go_cut [20] (fun v20 wc => ∃ (kq : Nat) (x20_5 : Bool), v20 = .bool x20_5 ∧ Aside0 (spec_WalStep.j0 kq x20_5 t172 t173 t174 t175 t176 a1_0 a1_1 a1_2 a1_3 a1_4 = some (r1, r2, r3, r4, r5, r6)) ∧ Aside0 (kq ≤ k) ∧ Aside0 (Kd.R k117 117 wc w.heap.size (fun _ => True) (.slice Ao17 t176.length co17) t176) ∧ Aside0 (wc.heap[gb168]? = some (.cells #[.int .i64 t172, .int .i64 t173, .int .i64 t174, .int .i64 t175, (.slice Ao17 t176.length co17)] 67 (0, 0))) ∧ Aside0 (wc.heap[gb169]? = some (.cells #[.int .i64 a1_0, .int .i64 a1_1, .int .i64 a1_2, .int .i64 a1_3, .string a1_4] 83 (0, 0))) ∧ Aside0 (wc.heap[gb170]? = some (.cells #[.int .i64 0, .int .i64 0, .int .i64 0, .int .i64 0, (.slice none 0 0)] 67 (0, 0))) ∧ Aside0 (Below w.heap.size w wc))
  case first =>
   have H := HC6.out
   clear HC6
   obtain ⟨t179, A18, H⟩ := bd H
   by_cases c19 : t179 = true
   ·subst c19
    replace H := iT H
    obtain ⟨t180, A20, H⟩ := bd H
    have H' := Aside0.mk H
    clear H
    have hnb21 := NB169_168.out
    have hnc21 := NB168_169.out
    have hnb22 := NB169_170.out
    have hnc22 := NB170_169.out
    obtain ⟨Z23_0, Z23_1, Z23_2, Z23_3, Z23_4, Y23_0, Y23_1, Y23_2, Y23_3, Y23_4⟩ := cf5 BK169
    go_wp2_with (first | ((with_reducible refine gC 118 rfl ?_); refine goesZ (some 13) rfl Try.func118 #[.agg #[.int .i64 a1_0, .int .i64 a1_1, .int .i64 a1_2, .int .i64 a1_3, .string a1_4]] ?_; (with_reducible refine (spec_RecOk.calls a1_0 a1_1 a1_2 a1_3 a1_4 true _ A18.out).mono ?_); rintro e w24 ⟨rfl, hb⟩; refine ⟨_, rfl, ?_⟩; replace HO178 := Aside0.mk (Kd.R_below (rpR (Kd.R_mono (Kd.R_far (p := ⟨gb168, 4, none⟩) (Kd.R_far (p := ⟨gb168, 3, none⟩) (Kd.R_far (p := ⟨gb168, 2, none⟩) (Kd.R_far (p := ⟨gb168, 1, none⟩) (Kd.R_far (p := ⟨gb168, 0, none⟩) (Kd.R_types HO178.out BK168.out (by decide)) (fun _ hk => hk.2) (.int .i64 t172)) (fun _ hk => hk.2) (.int .i64 t173)) (fun _ hk => hk.2) (.int .i64 t174)) (fun _ hk => hk.2) (.int .i64 t175)) (fun _ hk => hk.2) (.slice Ao17 t176.length co17)) (fun _ h_ => h_.1))) hb); replace BK168 := Aside0.mk (blk_below (g := gb168) (o := .cells #[.int .i64 t172, .int .i64 t173, .int .i64 t174, .int .i64 t175, .slice Ao17 t176.length co17] 67 (0, 0)) bkk hb); replace BK169 := Aside0.mk (blk_below (g := gb169) (o := .cells #[.int .i64 a1_0, .int .i64 a1_1, .int .i64 a1_2, .int .i64 a1_3, .string a1_4] 83 (0, 0)) bkk hb); replace BK170 := Aside0.mk (blk_below (g := gb170) (o := .cells #[.int .i64 0, .int .i64 0, .int .i64 0, .int .i64 0, .slice none 0 0] 67 (0, 0)) bkk hb); replace HB := bs (w := w) hb; (try clear hb); have hnb25 := NB168_170.out; have hnc25 := NB170_168.out; obtain ⟨Z26_0, Z26_1, Z26_2, Z26_3, Z26_4, Y26_0, Y26_1, Y26_2, Y26_3, Y26_4⟩ := cf5 BK168; obtain ⟨Z27_0, Z27_1, Z27_2, Z27_3, Z27_4, Y27_0, Y27_1, Y27_2, Y27_3, Y27_4⟩ := cf5 BK169) | (go_at_call 112; (with_reducible refine (spec_l5Fits.calls t172 t173 t174 t175 _ _ t176 a1_0 a1_1 a1_2 a1_3 a1_4 t180 _ ?side1 ?side2 A20.out).mono ?_); (case side1 => exact ca ((Kd.R_reads' HO178.out).2.2)); (case side2 => exact (Kd.R_reads' HO178.out).2.1); rintro e w28 ⟨rfl, hb⟩; replace HO178 := Aside0.mk (Kd.R_below (rpR HO178.out) hb); replace BK168 := bv BK168 hb; replace BK169 := bv BK169 hb; replace BK170 := bv BK170 hb; replace HB := bs (w := w) hb; (try clear hb)))
    go_meet
    case rel => exact ⟨_, (!t180), fa, H', ⟨by first | omega | exact Nat.le_refl _⟩, ⟨rpR HO178.out⟩, ⟨by (with_reducible repeat (first | refine blk_drewN ?_ _ | refine blk_drew ?_ | refine blk_alloc ?_ _)); exact BK168.out⟩, ⟨by (with_reducible repeat (first | refine blk_drewN ?_ _ | refine blk_drew ?_ | refine blk_alloc ?_ _)); exact BK169.out⟩, ⟨by (with_reducible repeat (first | refine blk_drewN ?_ _ | refine blk_drew ?_ | refine blk_alloc ?_ _)); exact BK170.out⟩, ⟨bl⟩⟩
   ·replace c19 := Bool.eq_false_iff.mpr c19
    subst c19
    replace H := iF H
    have H' := Aside0.mk H
    clear H
    have hnb29 := NB169_168.out
    have hnc29 := NB168_169.out
    have hnb30 := NB169_170.out
    have hnc30 := NB170_169.out
    obtain ⟨Z31_0, Z31_1, Z31_2, Z31_3, Z31_4, Y31_0, Y31_1, Y31_2, Y31_3, Y31_4⟩ := cf5 BK169
    go_wp2_with (first | ((with_reducible refine gC 118 rfl ?_); refine goesZ (some 13) rfl Try.func118 #[.agg #[.int .i64 a1_0, .int .i64 a1_1, .int .i64 a1_2, .int .i64 a1_3, .string a1_4]] ?_; (with_reducible refine (spec_RecOk.calls a1_0 a1_1 a1_2 a1_3 a1_4 false _ A18.out).mono ?_); rintro e w32 ⟨rfl, hb⟩; refine ⟨_, rfl, ?_⟩; replace HO178 := Aside0.mk (Kd.R_below (rpR (Kd.R_mono (Kd.R_far (p := ⟨gb168, 4, none⟩) (Kd.R_far (p := ⟨gb168, 3, none⟩) (Kd.R_far (p := ⟨gb168, 2, none⟩) (Kd.R_far (p := ⟨gb168, 1, none⟩) (Kd.R_far (p := ⟨gb168, 0, none⟩) (Kd.R_types HO178.out BK168.out (by decide)) (fun _ hk => hk.2) (.int .i64 t172)) (fun _ hk => hk.2) (.int .i64 t173)) (fun _ hk => hk.2) (.int .i64 t174)) (fun _ hk => hk.2) (.int .i64 t175)) (fun _ hk => hk.2) (.slice Ao17 t176.length co17)) (fun _ h_ => h_.1))) hb); replace BK168 := Aside0.mk (blk_below (g := gb168) (o := .cells #[.int .i64 t172, .int .i64 t173, .int .i64 t174, .int .i64 t175, .slice Ao17 t176.length co17] 67 (0, 0)) bkk hb); replace BK169 := Aside0.mk (blk_below (g := gb169) (o := .cells #[.int .i64 a1_0, .int .i64 a1_1, .int .i64 a1_2, .int .i64 a1_3, .string a1_4] 83 (0, 0)) bkk hb); replace BK170 := Aside0.mk (blk_below (g := gb170) (o := .cells #[.int .i64 0, .int .i64 0, .int .i64 0, .int .i64 0, .slice none 0 0] 67 (0, 0)) bkk hb); replace HB := bs (w := w) hb; (try clear hb)))
    go_meet
    case rel => exact ⟨_, (true), fa, H', ⟨by first | omega | exact Nat.le_refl _⟩, ⟨rpR HO178.out⟩, ⟨by (with_reducible repeat (first | refine blk_drewN ?_ _ | refine blk_drew ?_ | refine blk_alloc ?_ _)); exact BK168.out⟩, ⟨by (with_reducible repeat (first | refine blk_drewN ?_ _ | refine blk_drew ?_ | refine blk_alloc ?_ _)); exact BK169.out⟩, ⟨by (with_reducible repeat (first | refine blk_drewN ?_ _ | refine blk_drew ?_ | refine blk_alloc ?_ _)); exact BK170.out⟩, ⟨bl⟩⟩
  case rest =>
   clear HC6
   try clear c1
   try clear c2
   try clear p2
   try clear c3
   try clear c4
   try clear c6
   try clear c10
   try clear c11
   try clear c19
   try clear c21
   try clear c22
   try clear c25
   try clear c29
   try clear c30
   try clear Z12_0 Z12_1 Z12_2 Z12_3 Z12_4
   try clear Z14_0 Z14_1 Z14_2 Z14_3 Z14_4
   try clear Z16_0 Z16_1 Z16_2 Z16_3 Z16_4
   try clear Z23_0 Z23_1 Z23_2 Z23_3 Z23_4
   try clear Z26_0 Z26_1 Z26_2 Z26_3 Z26_4
   try clear Z27_0 Z27_1 Z27_2 Z27_3 Z27_4
   try clear Z31_0 Z31_1 Z31_2 Z31_3 Z31_4
   try clear Y12_0 Y12_1 Y12_2 Y12_3 Y12_4
   try clear Y14_0 Y14_1 Y14_2 Y14_3 Y14_4
   try clear Y16_0 Y16_1 Y16_2 Y16_3 Y16_4
   try clear Y23_0 Y23_1 Y23_2 Y23_3 Y23_4
   try clear Y26_0 Y26_1 Y26_2 Y26_3 Y26_4
   try clear Y27_0 Y27_1 Y27_2 Y27_3 Y27_4
   try clear Y31_0 Y31_1 Y31_2 Y31_3 Y31_4
   obtain ⟨kq, x20_5, rfl, HA, HJ5, HO_169004, BK168, BK169, BK170, HB⟩ := hcut
   cases kq with
   | zero => exact absurd HA.out (by simp [spec_WalStep.j0])
   | succ kj5 =>
    have H := HA.out
    clear HA
    simp only [spec_WalStep.j0] at H
    by_cases c33 : x20_5 = true
    ·subst c33
     replace H := iT H
     simp only [Option.some.injEq, Prod.mk.injEq] at H
     obtain ⟨rfl, rfl, rfl, rfl, rfl, rfl⟩ := H
     have hnb34 := NB168_169.out
     have hnc34 := NB169_168.out
     have hnb35 := NB168_170.out
     have hnc35 := NB170_168.out
     obtain ⟨Z36_0, Z36_1, Z36_2, Z36_3, Z36_4, Y36_0, Y36_1, Y36_2, Y36_3, Y36_4⟩ := cf5 BK168
     have hnb37 := NB170_169.out
     have hnc37 := NB169_170.out
     obtain ⟨Z38_0, Z38_1, Z38_2, Z38_3, Z38_4, Y38_0, Y38_1, Y38_2, Y38_3, Y38_4⟩ := cf5 BK170
     go_wp2
     refine bodyPost_ret (results_ct rfl _ _ gb170 67 #[.int .i64 t172, .int .i64 t173, .int .i64 t174, .int .i64 t175, .slice Ao17 t176.length co17] (0, 0) _ rfl bkk Try.underlying67 rfl (by kernel_rfl)) rfl ?_
     exact ⟨_, fe, rpR (Kd.R_mono (Kd.R_far (p := ⟨gb170, 4, none⟩) (Kd.R_far (p := ⟨gb170, 3, none⟩) (Kd.R_far (p := ⟨gb170, 2, none⟩) (Kd.R_far (p := ⟨gb170, 1, none⟩) (Kd.R_far (p := ⟨gb170, 0, none⟩) (Kd.R_types HO_169004.out BK170.out (by decide)) (fun _ hk => hk.2) (.int .i64 t172)) (fun _ hk => hk.2) (.int .i64 t173)) (fun _ hk => hk.2) (.int .i64 t174)) (fun _ hk => hk.2) (.int .i64 t175)) (fun _ hk => hk.2) (.slice Ao17 t176.length co17)) (fun _ hk => trivial)), bl⟩
    ·replace c33 := Bool.eq_false_iff.mpr c33
     subst c33
     replace H := iF H
     by_cases c39 : a1_0 = 1
     ·rw [if_pos c39] at H
      have c39b0 : (a1_0 == 1) = true := beq_iff_eq.mpr c39
      have c39b1 : (a1_0 != 1) = false := bne_eq_false_iff_eq.mpr c39
      clear c39
      simp only [Option.some.injEq, Prod.mk.injEq] at H
      obtain ⟨rfl, rfl, rfl, rfl, rfl, rfl⟩ := H
      have hnb40 := NB169_168.out
      have hnc40 := NB168_169.out
      have hnb41 := NB169_170.out
      have hnc41 := NB170_169.out
      obtain ⟨Z42_0, Z42_1, Z42_2, Z42_3, Z42_4, Y42_0, Y42_1, Y42_2, Y42_3, Y42_4⟩ := cf5 BK169
      have hnb43 := NB168_170.out
      have hnc43 := NB170_168.out
      obtain ⟨Z44_0, Z44_1, Z44_2, Z44_3, Z44_4, Y44_0, Y44_1, Y44_2, Y44_3, Y44_4⟩ := cf5 BK168; obtain ⟨Z45_0, Z45_1, Z45_2, Z45_3, Z45_4, Y45_0, Y45_1, Y45_2, Y45_3, Y45_4⟩ := cf5 BK170
      go_wp2
      refine bodyPost_ret (results_ct rfl _ _ gb170 67 #[.int .i64 a1_1, .int .i64 a1_3, .int .i64 t174, .int .i64 t175, .slice Ao17 t176.length co17] (0, 0) _ rfl bkk Try.underlying67 rfl (by kernel_rfl)) rfl ?_
      exact ⟨_, fe, rpR (Kd.R_mono (Kd.R_far (p := ⟨gb170, 4, none⟩) (Kd.R_far (p := ⟨gb170, 3, none⟩) (Kd.R_far (p := ⟨gb170, 2, none⟩) (Kd.R_far (p := ⟨gb170, 1, none⟩) (Kd.R_far (p := ⟨gb170, 0, none⟩) (Kd.R_far (p := ⟨gb168, 1, none⟩) (Kd.R_far (p := ⟨gb168, 0, none⟩) (Kd.R_types (Kd.R_types HO_169004.out BK168.out (by decide)) BK170.out (by decide)) (fun _ hk => hk.1.2) (.int .i64 a1_1)) (fun _ hk => hk.1.2) (.int .i64 a1_3)) (fun _ hk => hk.2) (.int .i64 a1_1)) (fun _ hk => hk.2) (.int .i64 a1_3)) (fun _ hk => hk.2) (.int .i64 t174)) (fun _ hk => hk.2) (.int .i64 t175)) (fun _ hk => hk.2) (.slice Ao17 t176.length co17)) (fun _ hk => trivial)), bl⟩
     ·rw [if_neg c39] at H
      have c39b0 : (a1_0 == 1) = false := beq_eq_false_iff_ne.mpr c39
      have c39b1 : (a1_0 != 1) = true := bne_iff_ne.mpr c39
      by_cases c46 : a1_0 = 2
      ·rw [if_pos c46] at H
       have c46b0 : (a1_0 == 2) = true := beq_iff_eq.mpr c46
       have c46b1 : (a1_0 != 2) = false := bne_eq_false_iff_eq.mpr c46
       clear c46
       by_cases c47 : t176.length < 5864062014805
       ·rw [if_pos c47] at H
        have LMc47 := Aside0.mk c47
        clear c47
        obtain ⟨y181, hy181⟩ : ∃ y_ : List (S117), y_ = (t176 ++ [(⟨a1_1, a1_4⟩ : S117)]) := ⟨_, rfl⟩
        replace H : (some (t172, t173, t174, t175, y181, true)) = some (r1, r2, r3, r4, r5, r6) := by first | (rw [hy181]; with_reducible exact H) | (have H2_ := (Option.bind_some _ _).symm.trans H; rw [hy181]; with_reducible exact H2_) | (have H2_ := (Option.bind_some _ _).symm.trans H; with_reducible exact H2_) | with_reducible exact H | (rw [hy181]; exact H) | exact H
        have Ny181 := Aside0.mk hy181
        clear hy181
        simp only [Option.some.injEq, Prod.mk.injEq] at H
        obtain ⟨rfl, rfl, rfl, rfl, rfl, rfl⟩ := H
        have hnb48 := NB169_168.out
        have hnc48 := NB168_169.out
        have hnb49 := NB169_170.out
        have hnc49 := NB170_169.out
        obtain ⟨Z50_0, Z50_1, Z50_2, Z50_3, Z50_4, Y50_0, Y50_1, Y50_2, Y50_3, Y50_4⟩ := cf5 BK169
        have hnb51 := NB168_170.out
        have hnc51 := NB170_168.out
        obtain ⟨Z52_0, Z52_1, Z52_2, Z52_3, Z52_4, Y52_0, Y52_1, Y52_2, Y52_3, Y52_4⟩ := cf5 BK168
        go_wp2_with (first | ((with_reducible refine gate_builtin (b := .append) (xs := #[.tmp 45, .tmp 51]) rfl ?_); at_builtin; refine Kd.R_append k117 (w0 := w) w.heap.size rfl (.tmp 45) (.tmp 51) 65 117 (.agg #[(.int .i64 0), (.string ⟨#[]⟩)]) 24 rfl Try.underlying65 info117 rfl (by decide) (by omega) (.slice Ao17 t176.length co17) t176 (⟨a1_1, a1_4⟩ : S117) [.int .i64 a1_1, .string a1_4] (fun _ => True) (fun _ => False) rfl rfl ?aP (fun _ hk => hk.elim) ?aF ?aO ?aB ?aS ?aL ?_; (case aP => exact k117_mkM _ _ _ (⟨a1_1, a1_4⟩ : S117)); (case aB => exact bl); (case aF => exact (fun _ _ => trivial)); (case aO => exact (rpR HO_169004.out)); (case aS => exact (below_size bl)); (case aL => have := LMc47.out; omega); intro v182 w53 ho hb hg hat; rw [← Ny181.out] at ho; replace BK168 := Aside0.mk (blk_grown (g := gb168) (o := .cells #[.int .i64 t172, .int .i64 t173, .int .i64 t174, .int .i64 t175, .slice Ao17 t176.length co17] 67 (0, 0)) bk hg (Kd.R_ne HO_169004.out BK168.out (by decide))); replace BK169 := Aside0.mk (blk_grown (g := gb169) (o := .cells #[.int .i64 a1_0, .int .i64 a1_1, .int .i64 a1_2, .int .i64 a1_3, .string a1_4] 83 (0, 0)) bk hg (Kd.R_ne HO_169004.out BK169.out (by decide))); replace BK170 := Aside0.mk (blk_grown (g := gb170) (o := .cells #[.int .i64 0, .int .i64 0, .int .i64 0, .int .i64 0, .slice none 0 0] 67 (0, 0)) bk hg (Kd.R_ne HO_169004.out BK170.out (by decide))); replace HB := Aside0.mk (hb); have HO183 := Aside0.mk (ho); clear HO_169004; clear ho hb hg hat; obtain ⟨Ao54, co54, rfl⟩ := Kd.R_slice HO183.out; obtain ⟨Z55_0, Z55_1, Z55_2, Z55_3, Z55_4, Y55_0, Y55_1, Y55_2, Y55_3, Y55_4⟩ := cf5 BK168; obtain ⟨Z56_0, Z56_1, Z56_2, Z56_3, Z56_4, Y56_0, Y56_1, Y56_2, Y56_3, Y56_4⟩ := cf5 BK170))
        refine bodyPost_ret (results_ct rfl _ _ gb170 67 #[.int .i64 t172, .int .i64 t173, .int .i64 t174, .int .i64 t175, .slice Ao54 y181.length co54] (0, 0) _ rfl bkk Try.underlying67 rfl (by kernel_rfl)) rfl ?_
        exact ⟨_, fe, rpR (Kd.R_mono (Kd.R_far (p := ⟨gb170, 4, none⟩) (Kd.R_far (p := ⟨gb170, 3, none⟩) (Kd.R_far (p := ⟨gb170, 2, none⟩) (Kd.R_far (p := ⟨gb170, 1, none⟩) (Kd.R_far (p := ⟨gb170, 0, none⟩) (Kd.R_far (p := ⟨gb168, 4, none⟩) (Kd.R_types (Kd.R_types HO183.out BK168.out (by decide)) BK170.out (by decide)) (fun _ hk => hk.1.2) (.slice Ao54 y181.length co54)) (fun _ hk => hk.2) (.int .i64 t172)) (fun _ hk => hk.2) (.int .i64 t173)) (fun _ hk => hk.2) (.int .i64 t174)) (fun _ hk => hk.2) (.int .i64 t175)) (fun _ hk => hk.2) (.slice Ao54 y181.length co54)) (fun _ hk => trivial)), bl⟩
       ·rw [if_neg c47] at H
        exact absurd H (by simp)
      ·rw [if_neg c46] at H
       have c46b0 : (a1_0 == 2) = false := beq_eq_false_iff_ne.mpr c46
       have c46b1 : (a1_0 != 2) = true := bne_iff_ne.mpr c46
       obtain ⟨ji57, hji57⟩ : ∃ j_ : Int, (wrap64 ((wrap64 (a1_2 - t174)) - 1)) = j_ := ⟨_, rfl⟩
       replace H : (if 0 ≤ (ji57) then (if (ji57) ≤ (t176.length : Int) then (some (t172, t173, t174, t175, (t176.take ((ji57) : Int).toNat), true)) else (none)) else (none)) = some (r1, r2, r3, r4, r5, r6) := by first | (rw [hji57] at H; exact H) | (simp only [hji57] at H ⊢; exact H)
       have hji57w : (IntKind.i64.wrap ((wrap64 (a1_2 - t174)) - 1)) = ji57 := (i64_w _).trans hji57
       by_cases c58 : 0 ≤ (ji57)
       ·rw [if_pos c58] at H
        have c58b0 := eq_true c58
        have c58b1 : decide (0 ≤ (ji57)) = true := decide_eq_true c58
        clear c58
        by_cases c59 : (ji57) ≤ (t176.length : Int)
        ·rw [if_pos c59] at H
         have c59b0 := eq_true c59
         have c59b1 : decide ((ji57) ≤ (t176.length : Int)) = true := decide_eq_true c59
         clear c59
         obtain ⟨y184, hy184⟩ : ∃ y_ : List (S117), y_ = (t176.take ((ji57) : Int).toNat) := ⟨_, rfl⟩
         replace H : (some (t172, t173, t174, t175, y184, true)) = some (r1, r2, r3, r4, r5, r6) := by first | (rw [hy184]; with_reducible exact H) | (have H2_ := (Option.bind_some _ _).symm.trans H; rw [hy184]; with_reducible exact H2_) | (have H2_ := (Option.bind_some _ _).symm.trans H; with_reducible exact H2_) | with_reducible exact H | (rw [hy184]; exact H) | exact H
         have Ny184 := Aside0.mk hy184
         clear hy184
         simp only [Option.some.injEq, Prod.mk.injEq] at H
         obtain ⟨rfl, rfl, rfl, rfl, rfl, rfl⟩ := H
         have hnb60 := NB169_168.out
         have hnc60 := NB168_169.out
         have hnb61 := NB169_170.out
         have hnc61 := NB170_169.out
         obtain ⟨Z62_0, Z62_1, Z62_2, Z62_3, Z62_4, Y62_0, Y62_1, Y62_2, Y62_3, Y62_4⟩ := cf5 BK169
         have hnb63 := NB168_170.out
         have hnc63 := NB170_168.out
         obtain ⟨Z64_0, Z64_1, Z64_2, Z64_3, Z64_4, Y64_0, Y64_1, Y64_2, Y64_3, Y64_4⟩ := cf5 BK168
         have q65 : ((ji57) : Int) ≤ ((t176.length : Int) : Int) := of_decide_eq_true am
         obtain ⟨i065, hi065, _, hsz65, _⟩ := info_parts info117
         have hcut65 := cut_to (P := Try.prog) 65 117 .i64 Try.underlying65 hi065 Ao17 t176.length co17 (ji57) (of_decide_eq_true am) q65 (Kd.R_reads' HO_169004.out).2.1
         have hr65 := Kd.R_take (m := ((ji57) : Int).toNat) HO_169004.out (by omega)
         have hy65 : y184.length = ((ji57) : Int).toNat := (by rw [Ny184.out, List.length_take]; omega)
         rw [← Ny184.out] at hr65
         rw [← hy65] at hr65 hcut65
         clear hy65 hi065 hsz65 HO_169004
         have HO186 := Aside0.mk hr65
         clear hr65
         replace q65 := eq_true q65
         obtain ⟨Z66_0, Z66_1, Z66_2, Z66_3, Z66_4, Y66_0, Y66_1, Y66_2, Y66_3, Y66_4⟩ := cf5 BK170
         go_wp2
         refine bodyPost_ret (results_ct rfl _ _ gb170 67 #[.int .i64 t172, .int .i64 t173, .int .i64 t174, .int .i64 t175, .slice Ao17 y184.length co17] (0, 0) _ rfl bkk Try.underlying67 rfl (by kernel_rfl)) rfl ?_
         exact ⟨_, by first | rfl | (simp [errW_none, errW_some] <;> rfl) | (simp only [← hji57]; first | rfl | (simp [errW_none, errW_some] <;> rfl)) | (simp [*, errW_none, errW_some] <;> rfl), rpR (Kd.R_mono (Kd.R_far (p := ⟨gb170, 4, none⟩) (Kd.R_far (p := ⟨gb170, 3, none⟩) (Kd.R_far (p := ⟨gb170, 2, none⟩) (Kd.R_far (p := ⟨gb170, 1, none⟩) (Kd.R_far (p := ⟨gb170, 0, none⟩) (Kd.R_far (p := ⟨gb168, 4, none⟩) (Kd.R_types (Kd.R_types HO186.out BK168.out (by decide)) BK170.out (by decide)) (fun _ hk => hk.1.2) (.slice Ao17 y184.length co17)) (fun _ hk => hk.2) (.int .i64 t172)) (fun _ hk => hk.2) (.int .i64 t173)) (fun _ hk => hk.2) (.int .i64 t174)) (fun _ hk => hk.2) (.int .i64 t175)) (fun _ hk => hk.2) (.slice Ao17 y184.length co17)) (fun _ hk => trivial)), bl⟩
        ·rw [if_neg c59] at H
         exact absurd H (by simp)
       ·rw [if_neg c58] at H
        exact absurd H (by simp)
 ·replace c4 := Bool.eq_false_iff.mpr c4
  subst c4
  replace H := iF H
  simp only [Option.some.injEq, Prod.mk.injEq] at H
  obtain ⟨rfl, rfl, rfl, rfl, rfl, rfl⟩ := H
  go_enter Try.func67, Try.ntmps67
  go_wp2_with (first | ((with_reducible refine gD 2 rfl ?_); refine boxZ 2 #[.int .i64 a0_0, .int .i64 a0_1, .int .i64 a0_2, .int .i64 a0_3, .slice A0_4 l0_4.length c0_4] 67 ?_; intro gb168 hg w67 hbox hb; have BK168 := Aside0.mk hbox; have GW168 := gw (w := w) hg; have GE168 := gw (w := w) hg; replace HB := bs (w := w) hb; clear hb hbox hg) | ((with_reducible refine gD 3 rfl ?_); refine boxZ 3 #[.int .i64 a1_0, .int .i64 a1_1, .int .i64 a1_2, .int .i64 a1_3, .string a1_4] 83 ?_; intro gb169 hg w68 hbox hb; have BK169 := Aside0.mk hbox; have GW169 := gw (w := w) hg; have GE169 := gw (w := w) hg; replace HB := bs (w := w) hb; have NB168_169 := nl BK168 hg; have NB169_168 := nr BK168 hg; replace BK168 := bv BK168 hb; clear hb hbox hg) | ((with_reducible refine gD 4 rfl ?_); refine boxZ 4 #[.int .i64 0, .int .i64 0, .int .i64 0, .int .i64 0, .slice none 0 0] 67 ?_; intro gb170 hg w69 hbox hb; have BK170 := Aside0.mk hbox; have GW170 := gw (w := w) hg; have GE170 := gw (w := w) hg; replace HB := bs (w := w) hb; have NB168_170 := nl BK168 hg; have NB170_168 := nr BK168 hg; replace BK168 := bv BK168 hb; have NB169_170 := nl BK169 hg; have NB170_169 := nr BK169 hg; replace BK169 := bv BK169 hb; clear hb hbox hg; have hnb70 := NB168_169.out; have hnc70 := NB169_168.out; have hnb71 := NB168_170.out; have hnc71 := NB170_168.out; obtain ⟨Z72_0, Z72_1, Z72_2, Z72_3, Z72_4, Y72_0, Y72_1, Y72_2, Y72_3, Y72_4⟩ := cf5 BK168) | ((with_reducible refine gC 104 rfl ?_); refine goesZ (some 7) rfl Try.func104 #[.agg #[.int .i64 a0_0, .int .i64 a0_1, .int .i64 a0_2, .int .i64 a0_3, .slice A0_4 l0_4.length c0_4]] ?_; (with_reducible refine (spec_WalOk.calls k a0_0 a0_1 a0_2 a0_3 _ _ l0_4 false _ ?side1 ?side2 A3.out).mono ?_); (case side1 => exact ca (Kd.C_below HR0_4.out HB.out)); (case side2 => exact HC0_4.out); rintro e w73 ⟨rfl, hb⟩; refine ⟨_, rfl, ?_⟩; replace BK168 := bv BK168 hb; replace BK169 := bv BK169 hb; replace BK170 := bv BK170 hb; replace HB := bs (w := w) hb; (try clear hb); have hnb74 := NB170_169.out; have hnc74 := NB169_170.out; obtain ⟨Z75_0, Z75_1, Z75_2, Z75_3, Z75_4, Y75_0, Y75_1, Y75_2, Y75_3, Y75_4⟩ := cf5 BK170))
  refine bodyPost_ret (results_ct rfl _ _ gb170 67 #[.int .i64 0, .int .i64 0, .int .i64 0, .int .i64 0, .slice none 0 0] (0, 0) _ rfl bkk Try.underlying67 rfl (by kernel_rfl)) rfl ?_
  exact ⟨_, fe, by first | exact Kd.R_nil _ _ _ _ _ | exact Kd.N_nil _ _ _ _ _ | exact Kd.V_nil _ _ _ _ _ | exact Kd.Q_nil _ _ _ _ _ | exact Kd.S_nil _ _ _ _ _, bl⟩

/-! ### laws_toRec: function 68 -/
def laws_toRec.f (a0_0 : Int) (a0_1 : Int) (a0_2 : Int) (a0_3 : Int) (a0_4 : ByteArray) : Option (Int × Int × Int × Int × ByteArray) := some (a0_0, a0_1, a0_2, a0_3, a0_4)
set_option maxHeartbeats 8000000 in
set_option maxRecDepth 100000 in
theorem laws_toRec.calls (a0_0 : Int) (a0_1 : Int) (a0_2 : Int) (a0_3 : Int) (a0_4 : ByteArray) (r1 : Int) (r2 : Int) (r3 : Int) (r4 : Int) (r5 : ByteArray) (w : World) (h : laws_toRec.f a0_0 a0_1 a0_2 a0_3 a0_4 = some (r1, r2, r3, r4, r5)) :
 Calls Try.prog 68 #[.agg #[.int .i64 a0_0, .int .i64 a0_1, .int .i64 a0_2, .int .i64 a0_3, .string a0_4]] w fun e w' => e = .returned (.agg #[.int .i64 r1, .int .i64 r2, .int .i64 r3, .int .i64 r4, .string r5]) ∧ Below w.heap.size w w' := by
 have hu79 := Try.underlying79
 have hu83 := Try.underlying83
 have HB := Aside0.mk (Below.refl w.heap.size w)
 have H : (some (a0_0, a0_1, a0_2, a0_3, a0_4)) = some (r1, r2, r3, r4, r5) := h
 clear h
 simp only [Option.some.injEq, Prod.mk.injEq] at H
 obtain ⟨rfl, rfl, rfl, rfl, rfl⟩ := H
 go_enter Try.func68, Try.ntmps68
 go_wp2_with (first | ((with_reducible refine gD 1 rfl ?_); refine boxZ 1 #[.int .i64 a0_0, .int .i64 a0_1, .int .i64 a0_2, .int .i64 a0_3, .string a0_4] 79 ?_; intro gb187 hg w2 hbox hb; have BK187 := Aside0.mk hbox; have GW187 := gw (w := w) hg; have GE187 := gw (w := w) hg; replace HB := bs (w := w) hb; clear hb hbox hg) | ((with_reducible refine gD 2 rfl ?_); refine boxZ 2 #[.int .i64 0, .int .i64 0, .int .i64 0, .int .i64 0, .string (⟨#[]⟩ : ByteArray)] 83 ?_; intro gb188 hg w3 hbox hb; have BK188 := Aside0.mk hbox; have GW188 := gw (w := w) hg; have GE188 := gw (w := w) hg; replace HB := bs (w := w) hb; have NB187_188 := nl BK187 hg; have NB188_187 := nr BK187 hg; replace BK187 := bv BK187 hb; clear hb hbox hg) | ((with_reducible refine gD 3 rfl ?_); refine boxZ 3 #[.int .i64 0, .int .i64 0, .int .i64 0, .int .i64 0, .string (⟨#[]⟩ : ByteArray)] 83 ?_; intro gb189 hg w4 hbox hb; have BK189 := Aside0.mk hbox; have GW189 := gw (w := w) hg; have GE189 := gw (w := w) hg; replace HB := bs (w := w) hb; have NB187_189 := nl BK187 hg; have NB189_187 := nr BK187 hg; replace BK187 := bv BK187 hb; have NB188_189 := nl BK188 hg; have NB189_188 := nr BK188 hg; replace BK188 := bv BK188 hb; clear hb hbox hg; have hnb5 := NB187_188.out; have hnc5 := NB188_187.out; have hnb6 := NB187_189.out; have hnc6 := NB189_187.out; obtain ⟨Z7_0, Z7_1, Z7_2, Z7_3, Z7_4, Y7_0, Y7_1, Y7_2, Y7_3, Y7_4⟩ := cf5 BK187; have hnb8 := NB189_188.out; have hnc8 := NB188_189.out; obtain ⟨Z9_0, Z9_1, Z9_2, Z9_3, Z9_4, Y9_0, Y9_1, Y9_2, Y9_3, Y9_4⟩ := cf5 BK189; obtain ⟨Z10_0, Z10_1, Z10_2, Z10_3, Z10_4, Y10_0, Y10_1, Y10_2, Y10_3, Y10_4⟩ := cf5 BK188))
 refine bodyPost_ret (results_cell_row rfl _ _ gb188 83 #[.int .i64 a0_0, .int .i64 a0_1, .int .i64 a0_2, .int .i64 a0_3, .string a0_4] (0, 0) _ rfl bkk Try.underlying83 rfl (by kernel_rfl)) rfl ?_
 exact ⟨fe, bl⟩

/-! ### impl_from: function 78 -/
def impl_from.f (a0 : Int) (a1 : Int) (a2 : Int) : Option (Bool) := if a0 ≥ a1 then (some (decide (a0 ≤ a2))) else (some false)
set_option maxHeartbeats 8000000 in
set_option maxRecDepth 100000 in
theorem impl_from.calls (a0 : Int) (a1 : Int) (a2 : Int) (r : Bool) (w : World) (h : impl_from.f a0 a1 a2 = some r) :
 Calls Try.prog 78 #[.int .i64 a0, .int .i64 a1, .int .i64 a2] w fun e w' => e = .returned (.bool r) ∧ Drawn0 w w' := by
 have H : (if a0 ≥ a1 then (some (decide (a0 ≤ a2))) else (some false)) = some r := h
 clear h
 by_cases c4 : a0 ≥ a1
 ·rw [if_pos c4] at H
  have c4b0 : decide (a1 ≤ a0) = true := decide_eq_true c4
  clear c4
  obtain rfl := Option.some.inj H
  go_enter Try.func78, Try.ntmps78
  go_wp2
  go_ret
  exact ⟨fa, fd⟩
 ·rw [if_neg c4] at H
  have c4b0 : decide (a1 ≤ a0) = false := decide_eq_false c4
  clear c4
  obtain rfl := Option.some.inj H
  go_enter Try.func78, Try.ntmps78
  go_wp2
  go_ret
  exact ⟨fa, fd⟩

/-! ### impl_isVote: function 136 -/
def impl_isVote.f (a0 : Int) : Option (Bool) := (impl_from.f a0 (-1) 4).bind fun t190 => (some t190)
set_option maxHeartbeats 8000000 in
set_option maxRecDepth 100000 in
theorem impl_isVote.calls (a0 : Int) (r : Bool) (w : World) (h : impl_isVote.f a0 = some r) :
 Calls Try.prog 136 #[.int .i64 a0] w fun e w' => e = .returned (.bool r) ∧ Drawn0 w w' := by
 have H : ((impl_from.f a0 (-1) 4).bind fun t190 => (some t190)) = some r := h
 clear h
 obtain ⟨t190, A2, H⟩ := bd H
 obtain rfl := Option.some.inj H
 go_enter Try.func136, Try.ntmps136
 go_wp2_with (first | ((with_reducible refine gC 78 rfl ?_); refine goesZ (some 4) rfl Try.func78 #[.int .i64 a0, .int .i64 (-1), .int .i64 4] ?_; (with_reducible refine (impl_from.calls a0 (-1) 4 t190 _ A2.out).mono ?_); rintro e w' ⟨rfl, ⟨nd, rfl⟩⟩; refine ⟨_, rfl, ?_⟩))
 go_ret
 exact ⟨fa, fd⟩

/-! ### impl_isTerm: function 144 -/
def impl_isTerm.f (a0 : Int) : Option (Bool) := (impl_from.f a0 1 100000).bind fun t191 => (some t191)
set_option maxHeartbeats 8000000 in
set_option maxRecDepth 100000 in
theorem impl_isTerm.calls (a0 : Int) (r : Bool) (w : World) (h : impl_isTerm.f a0 = some r) :
 Calls Try.prog 144 #[.int .i64 a0] w fun e w' => e = .returned (.bool r) ∧ Drawn0 w w' := by
 have H : ((impl_from.f a0 1 100000).bind fun t191 => (some t191)) = some r := h
 clear h
 obtain ⟨t191, A2, H⟩ := bd H
 obtain rfl := Option.some.inj H
 go_enter Try.func144, Try.ntmps144
 go_wp2_with (first | ((with_reducible refine gC 78 rfl ?_); refine goesZ (some 4) rfl Try.func78 #[.int .i64 a0, .int .i64 1, .int .i64 100000] ?_; (with_reducible refine (impl_from.calls a0 1 100000 t191 _ A2.out).mono ?_); rintro e w' ⟨rfl, ⟨nd, rfl⟩⟩; refine ⟨_, rfl, ?_⟩))
 go_ret
 exact ⟨fa, fd⟩

end Go.Proofs.Ytfmddjbekophnaa.PFnExactWalStep
