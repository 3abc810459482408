-- PRINTED by print.py (a twelfth state) out of the translation. Not trusted: Lean checks it.
import Derived.Test.YtflegbpgkkiijaaPFnExactReplayx0
import Derived.Test.YtflegbpgkkiijaaPFnExactReplayx6
import Derived.Test.YtflegbpgkkiijaaZip
namespace Go.Proofs.Ytflegbpgkkiijaa.PFnExactReplay
open Go.RowKit Go.Proofs.YtflegbpgkkiijaaW.PrintWords Go.Proofs.YtflegbpgkkiijaaW.PrintLast Go.Proofs.YtflegbpgkkiijaaW.PrintMore Go.Proofs.Ytflegbpgkkiijaa.Zip
attribute [local go_sem] max2_int min2_int max_two min_two max_three min_three max_four min_four   -- for this text's walks alone
set_option linter.unusedVariables false
set_option linter.unusedSimpArgs false

/-! ### spec_l5Fits: function 24 -/
def spec_l5Fits.f (a0_0 : Int) (a0_1 : Int) (a0_2 : Int) (a0_3 : Int) (l0_4 : List (S51)) (a1_0 : Int) (a1_1 : Int) (a1_2 : Int) (a1_3 : Int) (a1_4 : ByteArray) : Option (Bool) := if a1_0 = 1 then (if a1_1 > a0_0 then (some true) else (if a1_1 = a0_0 then (if a0_1 = (-1) then (some true) else (some (a1_3 == a0_1))) else (some false))) else (if a1_0 = 2 then (if a1_2 = (wrap64 ((wrap64 (a0_2 + (l0_4.length : Int))) + 1)) then (if (l0_4.length : Int) < 60 then ((spec_l5LastTerm.f a0_0 a0_1 a0_2 a0_3 l0_4).bind fun t176 => (if a1_1 ≥ t176 then (some (decide (a1_1 ≤ a0_0))) else (some false))) else (some false)) else (some false)) else (if a1_0 = 3 then (if a1_2 > a0_2 then (some (decide (a1_2 ≤ (wrap64 (a0_2 + (l0_4.length : Int)))))) else (some false)) else (some false)))
def spec_l5Fits.T6 : Bool × List (List Nat × List Nat) := (true, [([], []), ([0], [0]), ([], []), ([2], [2]), ([1, 3], [1, 3]), ([4], [4]), ([5], [5]), ([6, 5], [5, 6]), ([7, 5], [5, 7]), ([8, 5], [5, 8]), ([5, 9], [5, 9]), ([10, 5], [10]), ([11], [11]), ([12, 11], [11, 12]), ([11], [11]), ([14, 11, 11], [11, 14]), ([13, 15, 11], [11, 13, 15]), ([11, 16], [11, 16]), ([17, 15], [17]), ([18], [18]), ([19, 18], [18, 19]), ([18], [18]), ([21, 18], [18, 21]), ([20, 22, 18], [18, 20, 22]), ([18, 23], [18, 23]), ([24, 18, 0, 1, 2, 3, 4, 5, 6, 7, 8, 9, 10, 11, 12, 13, 14, 15, 16, 17, 18, 19, 20, 21, 22, 23, 24], [24])])
def spec_l5Fits.B6 : List Nat := [0, 1, 0, 4, 15, 31, 63, 127, 255, 511, 1023, 2047, 4095, 8191, 4095, 20479, 65535, 131071, 262143, 524287, 1048575, 524287, 2621439, 8388607, 16777215, 33554431]
theorem spec_l5Fits.tab6 : rtab .any (opsOf Try.f24 6) = spec_l5Fits.T6 := by kernel_rfl
theorem spec_l5Fits.bits6 : waitsOk spec_l5Fits.T6.2 spec_l5Fits.B6 = true := by kernel_rfl
set_option maxHeartbeats 8000000 in
set_option maxRecDepth 100000 in
theorem spec_l5Fits.calls (a0_0 : Int) (a0_1 : Int) (a0_2 : Int) (a0_3 : Int) (A0_4 : Option Addr) (c0_4 : Nat) (l0_4 : List (S51)) (a1_0 : Int) (a1_1 : Int) (a1_2 : Int) (a1_3 : Int) (a1_4 : ByteArray) (r : Bool) (w : World) (hr0_4 : Kd.C k51 w A0_4 l0_4.length l0_4) (hc0_4 : l0_4.length ≤ c0_4) (h : spec_l5Fits.f a0_0 a0_1 a0_2 a0_3 l0_4 a1_0 a1_1 a1_2 a1_3 a1_4 = some r) :
 Calls Try.prog 24 #[.agg #[.int .i64 a0_0, .int .i64 a0_1, .int .i64 a0_2, .int .i64 a0_3, .slice A0_4 l0_4.length c0_4], .agg #[.int .i64 a1_0, .int .i64 a1_1, .int .i64 a1_2, .int .i64 a1_3, .string a1_4]] w fun e w' => e = .returned (.bool r) ∧ Below w.heap.size w w' := by
 have hu24 := Try.underlying24
 have hu34 := Try.underlying34
 have HR0_4 := Aside0.mk hr0_4
 have HC0_4 := Aside0.mk hc0_4
 clear hr0_4 hc0_4
 have HB := Aside0.mk (Below.refl w.heap.size w)
 have H : (if a1_0 = 1 then (if a1_1 > a0_0 then (some true) else (if a1_1 = a0_0 then (if a0_1 = (-1) then (some true) else (some (a1_3 == a0_1))) else (some false))) else (if a1_0 = 2 then (if a1_2 = (wrap64 ((wrap64 (a0_2 + (l0_4.length : Int))) + 1)) then (if (l0_4.length : Int) < 60 then ((spec_l5LastTerm.f a0_0 a0_1 a0_2 a0_3 l0_4).bind fun t176 => (if a1_1 ≥ t176 then (some (decide (a1_1 ≤ a0_0))) else (some false))) else (some false)) else (some false)) else (if a1_0 = 3 then (if a1_2 > a0_2 then (some (decide (a1_2 ≤ (wrap64 (a0_2 + (l0_4.length : Int)))))) else (some false)) else (some false)))) = some r := h
 clear h
 by_cases c3 : a1_0 = 1
 ·rw [if_pos c3] at H
  have c3b0 : (a1_0 == 1) = true := beq_iff_eq.mpr c3
  have c3b1 : (a1_0 != 1) = false := bne_eq_false_iff_eq.mpr c3
  clear c3
  by_cases c4 : a1_1 > a0_0
  ·rw [if_pos c4] at H
   have c4b0 : decide (a0_0 < a1_1) = true := decide_eq_true c4
   clear c4
   obtain rfl := Option.some.inj H
   go_enter Try.func24, Try.ntmps24
   go_wp2_with (first | ((with_reducible refine gD 2 rfl ?_); (try (refine gate_guard rfl ?_; dsimp only)); refine boxZ 2 #[.int .i64 a0_0, .int .i64 a0_1, .int .i64 a0_2, .int .i64 a0_3, .slice A0_4 l0_4.length c0_4] 24 ?_; intro gb174 hg w5 hbox hb; have BK174 := Aside0.mk hbox; have GW174 := gw (w := w) hg; have GE174 := gw (w := w) hg; replace HB := bs (w := w) hb; clear hb hbox hg) | ((with_reducible refine gD 3 rfl ?_); (try (refine gate_guard rfl ?_; dsimp only)); refine boxZ 3 #[.int .i64 a1_0, .int .i64 a1_1, .int .i64 a1_2, .int .i64 a1_3, .string a1_4] 34 ?_; intro gb175 hg w6 hbox hb; have BK175 := Aside0.mk hbox; have GW175 := gw (w := w) hg; have GE175 := gw (w := w) hg; replace HB := bs (w := w) hb; have NB174_175 := nl BK174 hg; have NB175_174 := nr BK174 hg; replace BK174 := bv BK174 hb; clear hb hbox hg; have hnb7 := NB174_175.out; have hnc7 := NB175_174.out; obtain ⟨Z8_0, Z8_1, Z8_2, Z8_3, Z8_4, Y8_0, Y8_1, Y8_2, Y8_3, Y8_4⟩ := cf5 BK174; obtain ⟨Z9_0, Z9_1, Z9_2, Z9_3, Z9_4, Y9_0, Y9_1, Y9_2, Y9_3, Y9_4⟩ := cf5 BK175))
   go_ret
   exact ⟨fe, bl⟩
  ·rw [if_neg c4] at H
   have c4b0 : decide (a0_0 < a1_1) = false := decide_eq_false c4
   clear c4
   by_cases c10 : a1_1 = a0_0
   ·rw [if_pos c10] at H
    have c10b0 : (a1_1 == a0_0) = true := beq_iff_eq.mpr c10
    have c10b1 : (a1_1 != a0_0) = false := bne_eq_false_iff_eq.mpr c10
    clear c10
    by_cases c11 : a0_1 = (-1)
    ·rw [if_pos c11] at H
     have c11b0 : (a0_1 == (-1)) = true := beq_iff_eq.mpr c11
     have c11b1 : (a0_1 != (-1)) = false := bne_eq_false_iff_eq.mpr c11
     clear c11
     obtain rfl := Option.some.inj H
     go_enter Try.func24, Try.ntmps24
     go_wp2_with (first | ((with_reducible refine gD 2 rfl ?_); (try (refine gate_guard rfl ?_; dsimp only)); refine boxZ 2 #[.int .i64 a0_0, .int .i64 a0_1, .int .i64 a0_2, .int .i64 a0_3, .slice A0_4 l0_4.length c0_4] 24 ?_; intro gb174 hg w12 hbox hb; have BK174 := Aside0.mk hbox; have GW174 := gw (w := w) hg; have GE174 := gw (w := w) hg; replace HB := bs (w := w) hb; clear hb hbox hg) | ((with_reducible refine gD 3 rfl ?_); (try (refine gate_guard rfl ?_; dsimp only)); refine boxZ 3 #[.int .i64 a1_0, .int .i64 a1_1, .int .i64 a1_2, .int .i64 a1_3, .string a1_4] 34 ?_; intro gb175 hg w13 hbox hb; have BK175 := Aside0.mk hbox; have GW175 := gw (w := w) hg; have GE175 := gw (w := w) hg; replace HB := bs (w := w) hb; have NB174_175 := nl BK174 hg; have NB175_174 := nr BK174 hg; replace BK174 := bv BK174 hb; clear hb hbox hg; have hnb14 := NB174_175.out; have hnc14 := NB175_174.out; obtain ⟨Z15_0, Z15_1, Z15_2, Z15_3, Z15_4, Y15_0, Y15_1, Y15_2, Y15_3, Y15_4⟩ := cf5 BK174; obtain ⟨Z16_0, Z16_1, Z16_2, Z16_3, Z16_4, Y16_0, Y16_1, Y16_2, Y16_3, Y16_4⟩ := cf5 BK175))
     go_ret
     exact ⟨fe, bl⟩
    ·rw [if_neg c11] at H
     have c11b0 : (a0_1 == (-1)) = false := beq_eq_false_iff_ne.mpr c11
     have c11b1 : (a0_1 != (-1)) = true := bne_iff_ne.mpr c11
     obtain rfl := Option.some.inj H
     go_enter Try.func24, Try.ntmps24
     go_wp2_with (first | ((with_reducible refine gD 2 rfl ?_); (try (refine gate_guard rfl ?_; dsimp only)); refine boxZ 2 #[.int .i64 a0_0, .int .i64 a0_1, .int .i64 a0_2, .int .i64 a0_3, .slice A0_4 l0_4.length c0_4] 24 ?_; intro gb174 hg w17 hbox hb; have BK174 := Aside0.mk hbox; have GW174 := gw (w := w) hg; have GE174 := gw (w := w) hg; replace HB := bs (w := w) hb; clear hb hbox hg) | ((with_reducible refine gD 3 rfl ?_); (try (refine gate_guard rfl ?_; dsimp only)); refine boxZ 3 #[.int .i64 a1_0, .int .i64 a1_1, .int .i64 a1_2, .int .i64 a1_3, .string a1_4] 34 ?_; intro gb175 hg w18 hbox hb; have BK175 := Aside0.mk hbox; have GW175 := gw (w := w) hg; have GE175 := gw (w := w) hg; replace HB := bs (w := w) hb; have NB174_175 := nl BK174 hg; have NB175_174 := nr BK174 hg; replace BK174 := bv BK174 hb; clear hb hbox hg; have hnb19 := NB174_175.out; have hnc19 := NB175_174.out; obtain ⟨Z20_0, Z20_1, Z20_2, Z20_3, Z20_4, Y20_0, Y20_1, Y20_2, Y20_3, Y20_4⟩ := cf5 BK174; obtain ⟨Z21_0, Z21_1, Z21_2, Z21_3, Z21_4, Y21_0, Y21_1, Y21_2, Y21_3, Y21_4⟩ := cf5 BK175))
     go_ret
     exact ⟨fe, bl⟩
   ·rw [if_neg c10] at H
    have c10b0 : (a1_1 == a0_0) = false := beq_eq_false_iff_ne.mpr c10
    have c10b1 : (a1_1 != a0_0) = true := bne_iff_ne.mpr c10
    obtain rfl := Option.some.inj H
    go_enter Try.func24, Try.ntmps24
    go_wp2_with (first | ((with_reducible refine gD 2 rfl ?_); (try (refine gate_guard rfl ?_; dsimp only)); refine boxZ 2 #[.int .i64 a0_0, .int .i64 a0_1, .int .i64 a0_2, .int .i64 a0_3, .slice A0_4 l0_4.length c0_4] 24 ?_; intro gb174 hg w22 hbox hb; have BK174 := Aside0.mk hbox; have GW174 := gw (w := w) hg; have GE174 := gw (w := w) hg; replace HB := bs (w := w) hb; clear hb hbox hg) | ((with_reducible refine gD 3 rfl ?_); (try (refine gate_guard rfl ?_; dsimp only)); refine boxZ 3 #[.int .i64 a1_0, .int .i64 a1_1, .int .i64 a1_2, .int .i64 a1_3, .string a1_4] 34 ?_; intro gb175 hg w23 hbox hb; have BK175 := Aside0.mk hbox; have GW175 := gw (w := w) hg; have GE175 := gw (w := w) hg; replace HB := bs (w := w) hb; have NB174_175 := nl BK174 hg; have NB175_174 := nr BK174 hg; replace BK174 := bv BK174 hb; clear hb hbox hg; have hnb24 := NB174_175.out; have hnc24 := NB175_174.out; obtain ⟨Z25_0, Z25_1, Z25_2, Z25_3, Z25_4, Y25_0, Y25_1, Y25_2, Y25_3, Y25_4⟩ := cf5 BK174; obtain ⟨Z26_0, Z26_1, Z26_2, Z26_3, Z26_4, Y26_0, Y26_1, Y26_2, Y26_3, Y26_4⟩ := cf5 BK175))
    go_ret
    exact ⟨fe, bl⟩
 ·rw [if_neg c3] at H
  have c3b0 : (a1_0 == 1) = false := beq_eq_false_iff_ne.mpr c3
  have c3b1 : (a1_0 != 1) = true := bne_iff_ne.mpr c3
  by_cases c27 : a1_0 = 2
  ·rw [if_pos c27] at H
   have c27b0 : (a1_0 == 2) = true := beq_iff_eq.mpr c27
   have c27b1 : (a1_0 != 2) = false := bne_eq_false_iff_eq.mpr c27
   clear c27
   by_cases c28 : a1_2 = (wrap64 ((wrap64 (a0_2 + (l0_4.length : Int))) + 1))
   ·rw [if_pos c28] at H
    have c28b0 : (a1_2 == (wrap64 ((wrap64 (a0_2 + (l0_4.length : Int))) + 1))) = true := beq_iff_eq.mpr c28
    have c28b1 : (a1_2 != (wrap64 ((wrap64 (a0_2 + (l0_4.length : Int))) + 1))) = false := bne_eq_false_iff_eq.mpr c28
    clear c28
    by_cases c29 : (l0_4.length : Int) < 60
    ·rw [if_pos c29] at H
     have c29b0 : decide ((l0_4.length : Int) < 60) = true := decide_eq_true c29
     have c29b1 : decide (l0_4.length < 60) = true := decide_eq_true (by omega)
     clear c29
     obtain ⟨t176, A30, H⟩ := bd H
     by_cases c31 : a1_1 ≥ t176
     ·rw [if_pos c31] at H
      have c31b0 : decide (t176 ≤ a1_1) = true := decide_eq_true c31
      clear c31
      obtain rfl := Option.some.inj H
      go_enter Try.func24, Try.ntmps24
      try go_wp2_with (first | ((with_reducible refine gD 2 rfl ?_); (try (refine gate_guard rfl ?_; dsimp only)); refine boxZ 2 #[.int .i64 a0_0, .int .i64 a0_1, .int .i64 a0_2, .int .i64 a0_3, .slice A0_4 l0_4.length c0_4] 24 ?_; intro gb174 hg w32 hbox hb; have BK174 := Aside0.mk hbox; have GW174 := gw (w := w) hg; have GE174 := gw (w := w) hg; replace HB := bs (w := w) hb; clear hb hbox hg) | ((with_reducible refine gD 3 rfl ?_); (try (refine gate_guard rfl ?_; dsimp only)); refine boxZ 3 #[.int .i64 a1_0, .int .i64 a1_1, .int .i64 a1_2, .int .i64 a1_3, .string a1_4] 34 ?_; intro gb175 hg w33 hbox hb; have BK175 := Aside0.mk hbox; have GW175 := gw (w := w) hg; have GE175 := gw (w := w) hg; replace HB := bs (w := w) hb; have NB174_175 := nl BK174 hg; have NB175_174 := nr BK174 hg; replace BK174 := bv BK174 hb; clear hb hbox hg; have hnb34 := NB174_175.out; have hnc34 := NB175_174.out; obtain ⟨Z35_0, Z35_1, Z35_2, Z35_3, Z35_4, Y35_0, Y35_1, Y35_2, Y35_3, Y35_4⟩ := cf5 BK174; obtain ⟨Z36_0, Z36_1, Z36_2, Z36_3, Z36_4, Y36_0, Y36_1, Y36_2, Y36_3, Y36_4⟩ := cf5 BK175))
      replace BK174 := Aside0.mk (blk_drew BK174.out); replace BK175 := Aside0.mk (blk_drew BK175.out); replace HB := Aside0.mk (below_drew1 HB.out)
      refine start_ (n := 26) (S := fun w' => w'.cell? ⟨gb175, 0, none⟩ = some (.int .i64 a1_0) ∧ w'.cell? ⟨gb175, 1, none⟩ = some (.int .i64 a1_1) ∧ w'.cell? ⟨gb175, 2, none⟩ = some (.int .i64 a1_2) ∧ w'.cell? ⟨gb175, 3, none⟩ = some (.int .i64 a1_3) ∧ w'.cell? ⟨gb175, 4, none⟩ = some (.string a1_4) ∧ w'.cell? ⟨gb174, 0, none⟩ = some (.int .i64 a0_0) ∧ w'.cell? ⟨gb174, 1, none⟩ = some (.int .i64 a0_1) ∧ w'.cell? ⟨gb174, 2, none⟩ = some (.int .i64 a0_2) ∧ w'.cell? ⟨gb174, 3, none⟩ = some (.int .i64 a0_3) ∧ w'.cell? ⟨gb174, 4, none⟩ = some (.slice A0_4 l0_4.length c0_4)) (ds := []) (bo 26 0) (by kernel_rfl) rfl rfl ⟨cb 0 BK175, cb 1 BK175, cb 2 BK175, cb 3 BK175, cb 4 BK175, cb 0 BK174, cb 1 BK174, cb 2 BK174, cb 3 BK174, cb 4 BK174⟩ (fun hHeld => ?_); refine with_tabW spec_l5Fits.tab6 spec_l5Fits.bits6 (fun HT_ HW_ => ?_)
      generalize w33.drew = w37 at BK174 BK175 HB hHeld ⊢
      refine pV 0 42 (bo 26 1) ?_
      refine pV 2 44 (bo 26 5) ?_
      refine pV 3 45 (bo 26 13) ?_
      refine tV 1 43 (bo 26 15) ?_
      refine pV 4 46 (bo 26 31) ?_
      refine pV 5 47 (bo 26 63) ?_
      refine pV 6 48 (bo 26 127) ?_
      refine tV 7 49 (bo 26 255) ?_
      refine pV 8 50 (bo 26 511) ?_
      refine pV 9 51 (bo 26 1023) ?_
      refine pV 10 52 (bo 26 2047) ?_
      refine pV 11 53 (bo 26 4095) ?_
      refine pV 12 54 (bo 26 8191) ?_
      refine tV 13 55 (bo 26 16383) ?_
      refine tV 14 56 (bo 26 32767) ?_
      refine one_ (i := 15) (N := some 57) (bo 26 65535) rfl rfl (one_of HT_.out (by kernel_rfl)) (by decide) (fun K hK => ?_)
      refine goes_ Try.func42 (by kernel_rfl) rfl #[.agg #[.int .i64 a0_0, .int .i64 a0_1, .int .i64 a0_2, .int .i64 a0_3, .slice A0_4 l0_4.length c0_4]] (by rfl) rfl rfl sa ?_
      with_reducible refine (spec_l5LastTerm.calls a0_0 a0_1 a0_2 a0_3 _ _ l0_4 t176 _ ?side1 ?side2 A30.out).mono ?_
      (case side1 => exact ca (Kd.C_below HR0_4.out HB.out))
      (case side2 => exact HC0_4.out)
      rintro e w38 ⟨rfl, hb⟩
      refine ⟨_, rfl, ?_⟩
      replace BK174 := bv BK174 hb; replace BK175 := bv BK175 hb; replace HB := bs (w := w) hb; (try clear hb hb2 hk hi)
      refine hK.out _ _ ⟨cb 0 BK175, cb 1 BK175, cb 2 BK175, cb 3 BK175, cb 4 BK175, cb 0 BK174, cb 1 BK174, cb 2 BK174, cb 3 BK174, cb 4 BK174⟩ (fun hHeld => ?_)
      clear hK K
      refine norm_ (a' := ?_) ?_ ?_
      rotate_left
      ·show Act.put _ (some 57) _ = _
       simp only [Act.put, List.setIfInBounds_toArray, List.set_cons_zero, List.set_cons_succ, i64_w, i32_w]
       rfl
      refine pV 16 58 (bo 26 131071) ?_
      refine pV 17 59 (bo 26 262143) ?_
      refine pV 18 60 (bo 26 524287) ?_
      refine pV 19 61 (bo 26 1048575) ?_
      refine pV 21 63 (bo 26 3145727) ?_
      refine tV 20 62 (bo 26 4194303) ?_
      refine tV 22 64 (bo 26 8388607) ?_
      refine pV 23 65 (bo 26 16777215) ?_
      refine pV 24 66 (bo 26 33554431) ?_
      refine pV 25 4 (bo 26 67108863) ?_
      refine done_ (done_of HT_.out (by kernel_rfl)) ?_
      try go_wp2
      go_ret
      exact ⟨fe, bl⟩
     ·rw [if_neg c31] at H
      have c31b0 : decide (t176 ≤ a1_1) = false := decide_eq_false c31
      clear c31
      obtain rfl := Option.some.inj H
      go_enter Try.func24, Try.ntmps24
      try go_wp2_with (first | ((with_reducible refine gD 2 rfl ?_); (try (refine gate_guard rfl ?_; dsimp only)); refine boxZ 2 #[.int .i64 a0_0, .int .i64 a0_1, .int .i64 a0_2, .int .i64 a0_3, .slice A0_4 l0_4.length c0_4] 24 ?_; intro gb174 hg w39 hbox hb; have BK174 := Aside0.mk hbox; have GW174 := gw (w := w) hg; have GE174 := gw (w := w) hg; replace HB := bs (w := w) hb; clear hb hbox hg) | ((with_reducible refine gD 3 rfl ?_); (try (refine gate_guard rfl ?_; dsimp only)); refine boxZ 3 #[.int .i64 a1_0, .int .i64 a1_1, .int .i64 a1_2, .int .i64 a1_3, .string a1_4] 34 ?_; intro gb175 hg w40 hbox hb; have BK175 := Aside0.mk hbox; have GW175 := gw (w := w) hg; have GE175 := gw (w := w) hg; replace HB := bs (w := w) hb; have NB174_175 := nl BK174 hg; have NB175_174 := nr BK174 hg; replace BK174 := bv BK174 hb; clear hb hbox hg; have hnb41 := NB174_175.out; have hnc41 := NB175_174.out; obtain ⟨Z42_0, Z42_1, Z42_2, Z42_3, Z42_4, Y42_0, Y42_1, Y42_2, Y42_3, Y42_4⟩ := cf5 BK174; obtain ⟨Z43_0, Z43_1, Z43_2, Z43_3, Z43_4, Y43_0, Y43_1, Y43_2, Y43_3, Y43_4⟩ := cf5 BK175))
      replace BK174 := Aside0.mk (blk_drew BK174.out); replace BK175 := Aside0.mk (blk_drew BK175.out); replace HB := Aside0.mk (below_drew1 HB.out)
      refine start_ (n := 26) (S := fun w' => w'.cell? ⟨gb175, 0, none⟩ = some (.int .i64 a1_0) ∧ w'.cell? ⟨gb175, 1, none⟩ = some (.int .i64 a1_1) ∧ w'.cell? ⟨gb175, 2, none⟩ = some (.int .i64 a1_2) ∧ w'.cell? ⟨gb175, 3, none⟩ = some (.int .i64 a1_3) ∧ w'.cell? ⟨gb175, 4, none⟩ = some (.string a1_4) ∧ w'.cell? ⟨gb174, 0, none⟩ = some (.int .i64 a0_0) ∧ w'.cell? ⟨gb174, 1, none⟩ = some (.int .i64 a0_1) ∧ w'.cell? ⟨gb174, 2, none⟩ = some (.int .i64 a0_2) ∧ w'.cell? ⟨gb174, 3, none⟩ = some (.int .i64 a0_3) ∧ w'.cell? ⟨gb174, 4, none⟩ = some (.slice A0_4 l0_4.length c0_4)) (ds := []) (bo 26 0) (by kernel_rfl) rfl rfl ⟨cb 0 BK175, cb 1 BK175, cb 2 BK175, cb 3 BK175, cb 4 BK175, cb 0 BK174, cb 1 BK174, cb 2 BK174, cb 3 BK174, cb 4 BK174⟩ (fun hHeld => ?_); refine with_tabW spec_l5Fits.tab6 spec_l5Fits.bits6 (fun HT_ HW_ => ?_)
      generalize w40.drew = w44 at BK174 BK175 HB hHeld ⊢
      refine pV 0 42 (bo 26 1) ?_
      refine pV 2 44 (bo 26 5) ?_
      refine pV 3 45 (bo 26 13) ?_
      refine tV 1 43 (bo 26 15) ?_
      refine pV 4 46 (bo 26 31) ?_
      refine pV 5 47 (bo 26 63) ?_
      refine pV 6 48 (bo 26 127) ?_
      refine tV 7 49 (bo 26 255) ?_
      refine pV 8 50 (bo 26 511) ?_
      refine pV 9 51 (bo 26 1023) ?_
      refine pV 10 52 (bo 26 2047) ?_
      refine pV 11 53 (bo 26 4095) ?_
      refine pV 12 54 (bo 26 8191) ?_
      refine tV 13 55 (bo 26 16383) ?_
      refine tV 14 56 (bo 26 32767) ?_
      refine one_ (i := 15) (N := some 57) (bo 26 65535) rfl rfl (one_of HT_.out (by kernel_rfl)) (by decide) (fun K hK => ?_)
      refine goes_ Try.func42 (by kernel_rfl) rfl #[.agg #[.int .i64 a0_0, .int .i64 a0_1, .int .i64 a0_2, .int .i64 a0_3, .slice A0_4 l0_4.length c0_4]] (by rfl) rfl rfl sa ?_
      with_reducible refine (spec_l5LastTerm.calls a0_0 a0_1 a0_2 a0_3 _ _ l0_4 t176 _ ?side1 ?side2 A30.out).mono ?_
      (case side1 => exact ca (Kd.C_below HR0_4.out HB.out))
      (case side2 => exact HC0_4.out)
      rintro e w45 ⟨rfl, hb⟩
      refine ⟨_, rfl, ?_⟩
      replace BK174 := bv BK174 hb; replace BK175 := bv BK175 hb; replace HB := bs (w := w) hb; (try clear hb hb2 hk hi)
      refine hK.out _ _ ⟨cb 0 BK175, cb 1 BK175, cb 2 BK175, cb 3 BK175, cb 4 BK175, cb 0 BK174, cb 1 BK174, cb 2 BK174, cb 3 BK174, cb 4 BK174⟩ (fun hHeld => ?_)
      clear hK K
      refine norm_ (a' := ?_) ?_ ?_
      rotate_left
      ·show Act.put _ (some 57) _ = _
       simp only [Act.put, List.setIfInBounds_toArray, List.set_cons_zero, List.set_cons_succ, i64_w, i32_w]
       rfl
      refine pV 16 58 (bo 26 131071) ?_
      refine pV 17 59 (bo 26 262143) ?_
      refine pV 18 60 (bo 26 524287) ?_
      refine pU 19 61 (bo 26 1048575) ?_
      refine pU 20 62 (bo 26 2097151) ?_
      refine pU 21 63 (bo 26 4194303) ?_
      refine pU 22 64 (bo 26 8388607) ?_
      refine pU 23 65 (bo 26 16777215) ?_
      refine pV 24 66 (bo 26 33554431) ?_
      refine pV 25 4 (bo 26 67108863) ?_
      refine done_ (done_of HT_.out (by kernel_rfl)) ?_
      try go_wp2
      go_ret
      exact ⟨fe, bl⟩
    ·rw [if_neg c29] at H
     have c29b0 : decide ((l0_4.length : Int) < 60) = false := decide_eq_false c29
     have c29b1 : decide (l0_4.length < 60) = false := decide_eq_false (by omega)
     clear c29
     obtain rfl := Option.some.inj H
     go_enter Try.func24, Try.ntmps24
     try go_wp2_with (first | ((with_reducible refine gD 2 rfl ?_); (try (refine gate_guard rfl ?_; dsimp only)); refine boxZ 2 #[.int .i64 a0_0, .int .i64 a0_1, .int .i64 a0_2, .int .i64 a0_3, .slice A0_4 l0_4.length c0_4] 24 ?_; intro gb174 hg w46 hbox hb; have BK174 := Aside0.mk hbox; have GW174 := gw (w := w) hg; have GE174 := gw (w := w) hg; replace HB := bs (w := w) hb; clear hb hbox hg) | ((with_reducible refine gD 3 rfl ?_); (try (refine gate_guard rfl ?_; dsimp only)); refine boxZ 3 #[.int .i64 a1_0, .int .i64 a1_1, .int .i64 a1_2, .int .i64 a1_3, .string a1_4] 34 ?_; intro gb175 hg w47 hbox hb; have BK175 := Aside0.mk hbox; have GW175 := gw (w := w) hg; have GE175 := gw (w := w) hg; replace HB := bs (w := w) hb; have NB174_175 := nl BK174 hg; have NB175_174 := nr BK174 hg; replace BK174 := bv BK174 hb; clear hb hbox hg; have hnb48 := NB174_175.out; have hnc48 := NB175_174.out; obtain ⟨Z49_0, Z49_1, Z49_2, Z49_3, Z49_4, Y49_0, Y49_1, Y49_2, Y49_3, Y49_4⟩ := cf5 BK174; obtain ⟨Z50_0, Z50_1, Z50_2, Z50_3, Z50_4, Y50_0, Y50_1, Y50_2, Y50_3, Y50_4⟩ := cf5 BK175))
     replace BK174 := Aside0.mk (blk_drew BK174.out); replace BK175 := Aside0.mk (blk_drew BK175.out); replace HB := Aside0.mk (below_drew1 HB.out)
     refine start_ (n := 26) (S := fun w' => w'.cell? ⟨gb175, 0, none⟩ = some (.int .i64 a1_0) ∧ w'.cell? ⟨gb175, 1, none⟩ = some (.int .i64 a1_1) ∧ w'.cell? ⟨gb175, 2, none⟩ = some (.int .i64 a1_2) ∧ w'.cell? ⟨gb175, 3, none⟩ = some (.int .i64 a1_3) ∧ w'.cell? ⟨gb175, 4, none⟩ = some (.string a1_4) ∧ w'.cell? ⟨gb174, 0, none⟩ = some (.int .i64 a0_0) ∧ w'.cell? ⟨gb174, 1, none⟩ = some (.int .i64 a0_1) ∧ w'.cell? ⟨gb174, 2, none⟩ = some (.int .i64 a0_2) ∧ w'.cell? ⟨gb174, 3, none⟩ = some (.int .i64 a0_3) ∧ w'.cell? ⟨gb174, 4, none⟩ = some (.slice A0_4 l0_4.length c0_4)) (ds := []) (bo 26 0) (by kernel_rfl) rfl rfl ⟨cb 0 BK175, cb 1 BK175, cb 2 BK175, cb 3 BK175, cb 4 BK175, cb 0 BK174, cb 1 BK174, cb 2 BK174, cb 3 BK174, cb 4 BK174⟩ (fun hHeld => ?_); refine with_tabW spec_l5Fits.tab6 spec_l5Fits.bits6 (fun HT_ HW_ => ?_)
     generalize w47.drew = w51 at BK174 BK175 HB hHeld ⊢
     refine pV 0 42 (bo 26 1) ?_
     refine pV 2 44 (bo 26 5) ?_
     refine pV 3 45 (bo 26 13) ?_
     refine tV 1 43 (bo 26 15) ?_
     refine pV 4 46 (bo 26 31) ?_
     refine pV 5 47 (bo 26 63) ?_
     refine pV 6 48 (bo 26 127) ?_
     refine tV 7 49 (bo 26 255) ?_
     refine pV 8 50 (bo 26 511) ?_
     refine pV 9 51 (bo 26 1023) ?_
     refine pV 10 52 (bo 26 2047) ?_
     refine pV 11 53 (bo 26 4095) ?_
     refine pU 12 54 (bo 26 8191) ?_
     refine pU 13 55 (bo 26 16383) ?_
     refine pU 14 56 (bo 26 32767) ?_
     refine pU 15 57 (bo 26 65535) ?_
     refine pU 16 58 (bo 26 131071) ?_
     refine pV 17 59 (bo 26 262143) ?_
     refine pV 18 60 (bo 26 524287) ?_
     refine pU 19 61 (bo 26 1048575) ?_
     refine pU 20 62 (bo 26 2097151) ?_
     refine pU 21 63 (bo 26 4194303) ?_
     refine pU 22 64 (bo 26 8388607) ?_
     refine pU 23 65 (bo 26 16777215) ?_
     refine pV 24 66 (bo 26 33554431) ?_
     refine pV 25 4 (bo 26 67108863) ?_
     refine done_ (done_of HT_.out (by kernel_rfl)) ?_
     try go_wp2
     go_ret
     exact ⟨fe, bl⟩
   ·rw [if_neg c28] at H
    have c28b0 : (a1_2 == (wrap64 ((wrap64 (a0_2 + (l0_4.length : Int))) + 1))) = false := beq_eq_false_iff_ne.mpr c28
    have c28b1 : (a1_2 != (wrap64 ((wrap64 (a0_2 + (l0_4.length : Int))) + 1))) = true := bne_iff_ne.mpr c28
    obtain rfl := Option.some.inj H
    go_enter Try.func24, Try.ntmps24
    try go_wp2_with (first | ((with_reducible refine gD 2 rfl ?_); (try (refine gate_guard rfl ?_; dsimp only)); refine boxZ 2 #[.int .i64 a0_0, .int .i64 a0_1, .int .i64 a0_2, .int .i64 a0_3, .slice A0_4 l0_4.length c0_4] 24 ?_; intro gb174 hg w52 hbox hb; have BK174 := Aside0.mk hbox; have GW174 := gw (w := w) hg; have GE174 := gw (w := w) hg; replace HB := bs (w := w) hb; clear hb hbox hg) | ((with_reducible refine gD 3 rfl ?_); (try (refine gate_guard rfl ?_; dsimp only)); refine boxZ 3 #[.int .i64 a1_0, .int .i64 a1_1, .int .i64 a1_2, .int .i64 a1_3, .string a1_4] 34 ?_; intro gb175 hg w53 hbox hb; have BK175 := Aside0.mk hbox; have GW175 := gw (w := w) hg; have GE175 := gw (w := w) hg; replace HB := bs (w := w) hb; have NB174_175 := nl BK174 hg; have NB175_174 := nr BK174 hg; replace BK174 := bv BK174 hb; clear hb hbox hg; have hnb54 := NB174_175.out; have hnc54 := NB175_174.out; obtain ⟨Z55_0, Z55_1, Z55_2, Z55_3, Z55_4, Y55_0, Y55_1, Y55_2, Y55_3, Y55_4⟩ := cf5 BK174; obtain ⟨Z56_0, Z56_1, Z56_2, Z56_3, Z56_4, Y56_0, Y56_1, Y56_2, Y56_3, Y56_4⟩ := cf5 BK175))
    replace BK174 := Aside0.mk (blk_drew BK174.out); replace BK175 := Aside0.mk (blk_drew BK175.out); replace HB := Aside0.mk (below_drew1 HB.out)
    refine start_ (n := 26) (S := fun w' => w'.cell? ⟨gb175, 0, none⟩ = some (.int .i64 a1_0) ∧ w'.cell? ⟨gb175, 1, none⟩ = some (.int .i64 a1_1) ∧ w'.cell? ⟨gb175, 2, none⟩ = some (.int .i64 a1_2) ∧ w'.cell? ⟨gb175, 3, none⟩ = some (.int .i64 a1_3) ∧ w'.cell? ⟨gb175, 4, none⟩ = some (.string a1_4)) (ds := []) (bo 26 0) (by kernel_rfl) rfl rfl ⟨cb 0 BK175, cb 1 BK175, cb 2 BK175, cb 3 BK175, cb 4 BK175⟩ (fun hHeld => ?_); refine with_tabW spec_l5Fits.tab6 spec_l5Fits.bits6 (fun HT_ HW_ => ?_)
    generalize w53.drew = w57 at BK174 BK175 HB hHeld ⊢
    refine pV 0 42 (bo 26 1) ?_
    refine pV 2 44 (bo 26 5) ?_
    refine pV 3 45 (bo 26 13) ?_
    refine tV 1 43 (bo 26 15) ?_
    refine pV 4 46 (bo 26 31) ?_
    refine pV 5 47 (bo 26 63) ?_
    refine pU 6 48 (bo 26 127) ?_
    refine pU 7 49 (bo 26 255) ?_
    refine pU 8 50 (bo 26 511) ?_
    refine pU 9 51 (bo 26 1023) ?_
    refine pV 10 52 (bo 26 2047) ?_
    refine pV 11 53 (bo 26 4095) ?_
    refine pU 12 54 (bo 26 8191) ?_
    refine pU 13 55 (bo 26 16383) ?_
    refine pU 14 56 (bo 26 32767) ?_
    refine pU 15 57 (bo 26 65535) ?_
    refine pU 16 58 (bo 26 131071) ?_
    refine pV 17 59 (bo 26 262143) ?_
    refine pV 18 60 (bo 26 524287) ?_
    refine pU 19 61 (bo 26 1048575) ?_
    refine pU 20 62 (bo 26 2097151) ?_
    refine pU 21 63 (bo 26 4194303) ?_
    refine pU 22 64 (bo 26 8388607) ?_
    refine pU 23 65 (bo 26 16777215) ?_
    refine pV 24 66 (bo 26 33554431) ?_
    refine pV 25 4 (bo 26 67108863) ?_
    refine done_ (done_of HT_.out (by kernel_rfl)) ?_
    try go_wp2
    go_ret
    exact ⟨fe, bl⟩
  ·rw [if_neg c27] at H
   have c27b0 : (a1_0 == 2) = false := beq_eq_false_iff_ne.mpr c27
   have c27b1 : (a1_0 != 2) = true := bne_iff_ne.mpr c27
   by_cases c58 : a1_0 = 3
   ·rw [if_pos c58] at H
    have c58b0 : (a1_0 == 3) = true := beq_iff_eq.mpr c58
    have c58b1 : (a1_0 != 3) = false := bne_eq_false_iff_eq.mpr c58
    clear c58
    by_cases c59 : a1_2 > a0_2
    ·rw [if_pos c59] at H
     have c59b0 : decide (a0_2 < a1_2) = true := decide_eq_true c59
     clear c59
     obtain rfl := Option.some.inj H
     go_enter Try.func24, Try.ntmps24
     go_wp2_with (first | ((with_reducible refine gD 2 rfl ?_); (try (refine gate_guard rfl ?_; dsimp only)); refine boxZ 2 #[.int .i64 a0_0, .int .i64 a0_1, .int .i64 a0_2, .int .i64 a0_3, .slice A0_4 l0_4.length c0_4] 24 ?_; intro gb174 hg w60 hbox hb; have BK174 := Aside0.mk hbox; have GW174 := gw (w := w) hg; have GE174 := gw (w := w) hg; replace HB := bs (w := w) hb; clear hb hbox hg) | ((with_reducible refine gD 3 rfl ?_); (try (refine gate_guard rfl ?_; dsimp only)); refine boxZ 3 #[.int .i64 a1_0, .int .i64 a1_1, .int .i64 a1_2, .int .i64 a1_3, .string a1_4] 34 ?_; intro gb175 hg w61 hbox hb; have BK175 := Aside0.mk hbox; have GW175 := gw (w := w) hg; have GE175 := gw (w := w) hg; replace HB := bs (w := w) hb; have NB174_175 := nl BK174 hg; have NB175_174 := nr BK174 hg; replace BK174 := bv BK174 hb; clear hb hbox hg; have hnb62 := NB174_175.out; have hnc62 := NB175_174.out; obtain ⟨Z63_0, Z63_1, Z63_2, Z63_3, Z63_4, Y63_0, Y63_1, Y63_2, Y63_3, Y63_4⟩ := cf5 BK174; obtain ⟨Z64_0, Z64_1, Z64_2, Z64_3, Z64_4, Y64_0, Y64_1, Y64_2, Y64_3, Y64_4⟩ := cf5 BK175))
     go_ret
     exact ⟨fe, bl⟩
    ·rw [if_neg c59] at H
     have c59b0 : decide (a0_2 < a1_2) = false := decide_eq_false c59
     clear c59
     obtain rfl := Option.some.inj H
     go_enter Try.func24, Try.ntmps24
     go_wp2_with (first | ((with_reducible refine gD 2 rfl ?_); (try (refine gate_guard rfl ?_; dsimp only)); refine boxZ 2 #[.int .i64 a0_0, .int .i64 a0_1, .int .i64 a0_2, .int .i64 a0_3, .slice A0_4 l0_4.length c0_4] 24 ?_; intro gb174 hg w65 hbox hb; have BK174 := Aside0.mk hbox; have GW174 := gw (w := w) hg; have GE174 := gw (w := w) hg; replace HB := bs (w := w) hb; clear hb hbox hg) | ((with_reducible refine gD 3 rfl ?_); (try (refine gate_guard rfl ?_; dsimp only)); refine boxZ 3 #[.int .i64 a1_0, .int .i64 a1_1, .int .i64 a1_2, .int .i64 a1_3, .string a1_4] 34 ?_; intro gb175 hg w66 hbox hb; have BK175 := Aside0.mk hbox; have GW175 := gw (w := w) hg; have GE175 := gw (w := w) hg; replace HB := bs (w := w) hb; have NB174_175 := nl BK174 hg; have NB175_174 := nr BK174 hg; replace BK174 := bv BK174 hb; clear hb hbox hg; have hnb67 := NB174_175.out; have hnc67 := NB175_174.out; obtain ⟨Z68_0, Z68_1, Z68_2, Z68_3, Z68_4, Y68_0, Y68_1, Y68_2, Y68_3, Y68_4⟩ := cf5 BK174; obtain ⟨Z69_0, Z69_1, Z69_2, Z69_3, Z69_4, Y69_0, Y69_1, Y69_2, Y69_3, Y69_4⟩ := cf5 BK175))
     go_ret
     exact ⟨fe, bl⟩
   ·rw [if_neg c58] at H
    have c58b0 : (a1_0 == 3) = false := beq_eq_false_iff_ne.mpr c58
    have c58b1 : (a1_0 != 3) = true := bne_iff_ne.mpr c58
    obtain rfl := Option.some.inj H
    go_enter Try.func24, Try.ntmps24
    go_wp2_with (first | ((with_reducible refine gD 2 rfl ?_); (try (refine gate_guard rfl ?_; dsimp only)); refine boxZ 2 #[.int .i64 a0_0, .int .i64 a0_1, .int .i64 a0_2, .int .i64 a0_3, .slice A0_4 l0_4.length c0_4] 24 ?_; intro gb174 hg w70 hbox hb; have BK174 := Aside0.mk hbox; have GW174 := gw (w := w) hg; have GE174 := gw (w := w) hg; replace HB := bs (w := w) hb; clear hb hbox hg) | ((with_reducible refine gD 3 rfl ?_); (try (refine gate_guard rfl ?_; dsimp only)); refine boxZ 3 #[.int .i64 a1_0, .int .i64 a1_1, .int .i64 a1_2, .int .i64 a1_3, .string a1_4] 34 ?_; intro gb175 hg w71 hbox hb; have BK175 := Aside0.mk hbox; have GW175 := gw (w := w) hg; have GE175 := gw (w := w) hg; replace HB := bs (w := w) hb; have NB174_175 := nl BK174 hg; have NB175_174 := nr BK174 hg; replace BK174 := bv BK174 hb; clear hb hbox hg; have hnb72 := NB174_175.out; have hnc72 := NB175_174.out; obtain ⟨Z73_0, Z73_1, Z73_2, Z73_3, Z73_4, Y73_0, Y73_1, Y73_2, Y73_3, Y73_4⟩ := cf5 BK174; obtain ⟨Z74_0, Z74_1, Z74_2, Z74_3, Z74_4, Y74_0, Y74_1, Y74_2, Y74_3, Y74_4⟩ := cf5 BK175))
    go_ret
    exact ⟨fe, bl⟩

end Go.Proofs.Ytflegbpgkkiijaa.PFnExactReplay
