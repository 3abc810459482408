-- PRINTED by print.py (a twelfth state) out of the translation. Not trusted: Lean checks it.
import Derived.Test.YtflegbpgkkiijaaPFnExactReplayx0
import Derived.Test.YtflegbpgkkiijaaPFnExactReplayx9
import Derived.Test.YtflegbpgkkiijaaPFnExactReplayx12
import Derived.Test.YtflegbpgkkiijaaPFnExactReplayx14
import Derived.Test.YtflegbpgkkiijaaZip
namespace Go.Proofs.Ytflegbpgkkiijaa.PFnExactReplay
open Go.RowKit Go.Proofs.YtflegbpgkkiijaaW.PrintWords Go.Proofs.YtflegbpgkkiijaaW.PrintLast Go.Proofs.YtflegbpgkkiijaaW.PrintMore Go.Proofs.Ytflegbpgkkiijaa.Zip
attribute [local go_sem] max2_int min2_int max_two min_two max_three min_three max_four min_four   -- for this text's walks alone
set_option linter.unusedVariables false
set_option linter.unusedSimpArgs false

/-! ### impl_WalStep: function 14 -/
mutual
def impl_WalStep.j0 : Nat → Int → Bool → Int → Int → Int → Int → List (S51) → Int → Int → Int → Int → ByteArray → Option (Int × Int × Int × Int × (List (S51)) × Bool)
 | 0, _, _, _, _, _, _, _, _, _, _, _, _ => none
 | k + 1, x6, x24, x322000, x322001, x322002, x322003, x322004, x323000, x323001, x323002, x323003, x323004 => if x24 = true then (some (x323001, x323003, x322002, x322003, x322004, true)) else (if x323000 = 2 then (if x323002 = (wrap64 (x6 + 1)) then (if (x322004.length : Int) < 60 then ((impl_lastTerm.f x322000 x322001 x322002 x322003 x322004).bind fun t334 => ((impl_from.f x323001 t334 x322000).bind fun t335 => (impl_WalStep.j1 k x6 t335 x322000 x322001 x322002 x322003 x322004 x323000 x323001 x323002 x323003 x323004))) else (impl_WalStep.j1 k x6 false x322000 x322001 x322002 x322003 x322004 x323000 x323001 x323002 x323003 x323004)) else (impl_WalStep.j1 k x6 false x322000 x322001 x322002 x322003 x322004 x323000 x323001 x323002 x323003 x323004)) else (impl_WalStep.j1 k x6 false x322000 x322001 x322002 x322003 x322004 x323000 x323001 x323002 x323003 x323004))
def impl_WalStep.j1 : Nat → Int → Bool → Int → Int → Int → Int → List (S51) → Int → Int → Int → Int → ByteArray → Option (Int × Int × Int × Int × (List (S51)) × Bool)
 | 0, _, _, _, _, _, _, _, _, _, _, _, _ => none
 | k + 1, x6, x42, x322000, x322001, x322002, x322003, x322004, x323000, x323001, x323002, x323003, x323004 => if x42 = true then (if x322004.length < 5864062014805 then (some (x322000, x322001, x322002, x322003, (x322004 ++ [(⟨x323001, x323004⟩ : S51)]), true)) else (none)) else (if x323000 = 3 then ((impl_from.f x323002 (wrap64 (x322002 + 1)) x6).bind fun t339 => (if t339 = true then (if 0 ≤ (wrap64 ((wrap64 (x323002 - x322002)) - 1)) then (if (wrap64 ((wrap64 (x323002 - x322002)) - 1)) ≤ (x322004.length : Int) then (some (x322000, x322001, x322002, x322003, (x322004.take ((wrap64 ((wrap64 (x323002 - x322002)) - 1)) : Int).toNat), true)) else (none)) else (none)) else (some (x322000, x322001, x322002, x322003, x322004, false)))) else (some (x322000, x322001, x322002, x322003, x322004, false)))
end
def impl_WalStep.f (k : Nat) (a0_0 : Int) (a0_1 : Int) (a0_2 : Int) (a0_3 : Int) (l0_4 : List (S51)) (a1_0 : Int) (a1_1 : Int) (a1_2 : Int) (a1_3 : Int) (a1_4 : ByteArray) : Option (Int × Int × Int × Int × (List (S51)) × Bool) := (impl_WalOk.f k a0_0 a0_1 a0_2 a0_3 l0_4).bind fun t324 => (if t324 = true then ((impl_copyWal.f a0_0 a0_1 a0_2 a0_3 l0_4).bind fun bt325 => ((impl_RecOk.f a1_0 a1_1 a1_2 a1_3 a1_4).bind fun t332 => (if t332 = true then (if a1_0 = 1 then ((impl_hardFits.f bt325.1 bt325.2.1 bt325.2.2.1 bt325.2.2.2.1 bt325.2.2.2.2 a1_1 a1_3).bind fun t333 => (impl_WalStep.j0 k (wrap64 (bt325.2.2.1 + (bt325.2.2.2.2.length : Int))) t333 bt325.1 bt325.2.1 bt325.2.2.1 bt325.2.2.2.1 bt325.2.2.2.2 a1_0 a1_1 a1_2 a1_3 a1_4)) else (impl_WalStep.j0 k (wrap64 (bt325.2.2.1 + (bt325.2.2.2.2.length : Int))) false bt325.1 bt325.2.1 bt325.2.2.1 bt325.2.2.2.1 bt325.2.2.2.2 a1_0 a1_1 a1_2 a1_3 a1_4)) else (some (bt325.1, bt325.2.1, bt325.2.2.1, bt325.2.2.2.1, bt325.2.2.2.2, false))))) else (some (0, 0, 0, 0, ([] : List (S51)), false)))
theorem impl_WalStep.mono_l : ∀ k, (∀ y0 y1 y2 y3 y4 y5 y6 y7 y8 y9 y10 y11, LeO (impl_WalStep.j0 k y0 y1 y2 y3 y4 y5 y6 y7 y8 y9 y10 y11) (impl_WalStep.j0 (k + 1) y0 y1 y2 y3 y4 y5 y6 y7 y8 y9 y10 y11)) ∧ (∀ y0 y1 y2 y3 y4 y5 y6 y7 y8 y9 y10 y11, LeO (impl_WalStep.j1 k y0 y1 y2 y3 y4 y5 y6 y7 y8 y9 y10 y11) (impl_WalStep.j1 (k + 1) y0 y1 y2 y3 y4 y5 y6 y7 y8 y9 y10 y11))
 | 0 => ⟨fun _ _ _ _ _ _ _ _ _ _ _ _ r h => by simp [impl_WalStep.j0] at h, fun _ _ _ _ _ _ _ _ _ _ _ _ r h => by simp [impl_WalStep.j1] at h⟩
 | k + 1 => by
  obtain ⟨ih0, ih1⟩ := impl_WalStep.mono_l k
  refine ⟨?_, ?_⟩
  ·intro y0 y1 y2 y3 y4 y5 y6 y7 y8 y9 y10 y11
   unfold impl_WalStep.j0
   repeat' first
   | (with_reducible exact ih0 _ _ _ _ _ _ _ _ _ _ _ _)
   | (with_reducible exact ih1 _ _ _ _ _ _ _ _ _ _ _ _)
   | (with_reducible exact impl_WalOk.mono _ _ _ _ _ _)
   | (with_reducible exact LeO.refl _)
   | (with_reducible exact LeO.none _)
   | (with_reducible refine LeO.ite ?_ ?_)
   | (with_reducible refine LeO.bind ?_ (fun _ => ?_))
   | exact ih0 _ _ _ _ _ _ _ _ _ _ _ _
   | exact ih1 _ _ _ _ _ _ _ _ _ _ _ _
   | exact impl_WalOk.mono _ _ _ _ _ _
   | exact LeO.none _
   | refine LeO.ite ?_ ?_
   | refine LeO.bind ?_ (fun _ => ?_)
  ·intro y0 y1 y2 y3 y4 y5 y6 y7 y8 y9 y10 y11
   unfold impl_WalStep.j1
   repeat' first
   | (with_reducible exact ih0 _ _ _ _ _ _ _ _ _ _ _ _)
   | (with_reducible exact ih1 _ _ _ _ _ _ _ _ _ _ _ _)
   | (with_reducible exact impl_WalOk.mono _ _ _ _ _ _)
   | (with_reducible exact LeO.refl _)
   | (with_reducible exact LeO.none _)
   | (with_reducible refine LeO.ite ?_ ?_)
   | (with_reducible refine LeO.bind ?_ (fun _ => ?_))
   | exact ih0 _ _ _ _ _ _ _ _ _ _ _ _
   | exact ih1 _ _ _ _ _ _ _ _ _ _ _ _
   | exact impl_WalOk.mono _ _ _ _ _ _
   | exact LeO.none _
   | refine LeO.ite ?_ ?_
   | refine LeO.bind ?_ (fun _ => ?_)
theorem impl_WalStep.mono : ∀ a0 a1 a2 a3 a4 a5 a6 a7 a8 a9 k, LeO (impl_WalStep.f k a0 a1 a2 a3 a4 a5 a6 a7 a8 a9) (impl_WalStep.f (k + 1) a0 a1 a2 a3 a4 a5 a6 a7 a8 a9) := by
 intro a0 a1 a2 a3 a4 a5 a6 a7 a8 a9 k
 obtain ⟨ih0, ih1⟩ := impl_WalStep.mono_l k
 unfold impl_WalStep.f
 repeat' first
  | (with_reducible exact ih0 _ _ _ _ _ _ _ _ _ _ _ _)
  | (with_reducible exact ih1 _ _ _ _ _ _ _ _ _ _ _ _)
  | (with_reducible exact impl_WalOk.mono _ _ _ _ _ _)
  | (with_reducible exact LeO.refl _)
  | (with_reducible exact LeO.none _)
  | (with_reducible refine LeO.ite ?_ ?_)
  | (with_reducible refine LeO.bind ?_ (fun _ => ?_))
  | exact ih0 _ _ _ _ _ _ _ _ _ _ _ _
  | exact ih1 _ _ _ _ _ _ _ _ _ _ _ _
  | exact impl_WalOk.mono _ _ _ _ _ _
  | exact LeO.none _
  | refine LeO.ite ?_ ?_
  | refine LeO.bind ?_ (fun _ => ?_)
def impl_WalStep.T11 : Bool × List (List Nat × List Nat) := (true, [([], []), ([0], [0]), ([1], [1]), ([2], [2]), ([3], [3]), ([4, 3], [3, 4]), ([3], [3]), ([6, 3], [3, 6]), ([5, 7, 3], [3, 5, 7]), ([3, 8], [3, 8]), ([9, 3], [9]), ([10], [10]), ([11, 10], [10, 11]), ([12, 10], [10, 12]), ([13, 10], [10, 13]), ([10, 14], [10, 14]), ([15, 10], [15]), ([16], [16]), ([17, 16], [16, 17]), ([16], [16]), ([19, 16, 16], [16, 19]), ([16], [16]), ([21, 16], [16, 21]), ([18, 20, 22, 20, 16], [16, 18, 20, 22]), ([16, 23], [16, 23]), ([24, 23], [24])])
def impl_WalStep.B11 : List Nat := [0, 1, 3, 7, 15, 31, 15, 79, 255, 511, 1023, 2047, 4095, 8191, 16383, 32767, 65535, 131071, 262143, 131071, 655359, 131071, 2228223, 8388607, 16777215, 33554431]
theorem impl_WalStep.tab11 : rtab .any (opsOf Try.f14 11) = impl_WalStep.T11 := by kernel_rfl
theorem impl_WalStep.bits11 : waitsOk impl_WalStep.T11.2 impl_WalStep.B11 = true := by kernel_rfl
set_option maxHeartbeats 8000000 in
set_option maxRecDepth 100000 in
theorem impl_WalStep.calls (k : Nat) (a0_0 : Int) (a0_1 : Int) (a0_2 : Int) (a0_3 : Int) (A0_4 : Option Addr) (c0_4 : Nat) (l0_4 : List (S51)) (a1_0 : Int) (a1_1 : Int) (a1_2 : Int) (a1_3 : Int) (a1_4 : ByteArray) (r1 : Int) (r2 : Int) (r3 : Int) (r4 : Int) (r5 : List (S51)) (r6 : Bool) (w : World) (hr0_4 : Kd.C k51 w A0_4 l0_4.length l0_4) (hc0_4 : l0_4.length ≤ c0_4) (h : impl_WalStep.f k a0_0 a0_1 a0_2 a0_3 l0_4 a1_0 a1_1 a1_2 a1_3 a1_4 = some (r1, r2, r3, r4, r5, r6)) :
 Calls Try.prog 14 #[.agg #[.int .i64 a0_0, .int .i64 a0_1, .int .i64 a0_2, .int .i64 a0_3, .slice A0_4 l0_4.length c0_4], .agg #[.int .i64 a1_0, .int .i64 a1_1, .int .i64 a1_2, .int .i64 a1_3, .string a1_4]] w fun e w' => ∃ v4_ : Value, e = .returned (.tuple #[.agg #[.int .i64 r1, .int .i64 r2, .int .i64 r3, .int .i64 r4, v4_], .bool r6]) ∧ Kd.R k51 51 w' w.heap.size (fun _ => True) v4_ r5 ∧ Below w.heap.size w w' := by
 have hu24 := Try.underlying24
 have hu34 := Try.underlying34
 have hu51 := Try.underlying51
 have HR0_4 := Aside0.mk hr0_4
 have HC0_4 := Aside0.mk hc0_4
 clear hr0_4 hc0_4
 have HB := Aside0.mk (Below.refl w.heap.size w)
 have H : ((impl_WalOk.f k a0_0 a0_1 a0_2 a0_3 l0_4).bind fun t324 => (if t324 = true then ((impl_copyWal.f a0_0 a0_1 a0_2 a0_3 l0_4).bind fun bt325 => ((impl_RecOk.f a1_0 a1_1 a1_2 a1_3 a1_4).bind fun t332 => (if t332 = true then (if a1_0 = 1 then ((impl_hardFits.f bt325.1 bt325.2.1 bt325.2.2.1 bt325.2.2.2.1 bt325.2.2.2.2 a1_1 a1_3).bind fun t333 => (impl_WalStep.j0 k (wrap64 (bt325.2.2.1 + (bt325.2.2.2.2.length : Int))) t333 bt325.1 bt325.2.1 bt325.2.2.1 bt325.2.2.2.1 bt325.2.2.2.2 a1_0 a1_1 a1_2 a1_3 a1_4)) else (impl_WalStep.j0 k (wrap64 (bt325.2.2.1 + (bt325.2.2.2.2.length : Int))) false bt325.1 bt325.2.1 bt325.2.2.1 bt325.2.2.2.1 bt325.2.2.2.2 a1_0 a1_1 a1_2 a1_3 a1_4)) else (some (bt325.1, bt325.2.1, bt325.2.2.1, bt325.2.2.2.1, bt325.2.2.2.2, false))))) else (some (0, 0, 0, 0, ([] : List (S51)), false)))) = some (r1, r2, r3, r4, r5, r6) := h
 clear h
 obtain ⟨t324, A3, H⟩ := bd H
 by_cases c4 : t324 = true
 ·subst c4
  replace H := iT H
  replace H := Option.bind_eq_some_iff.mp H
  obtain ⟨⟨t325, t326, t327, t328, t329⟩, A50, H⟩ := H
  replace H : ((impl_RecOk.f a1_0 a1_1 a1_2 a1_3 a1_4).bind fun t332 => (if t332 = true then (if a1_0 = 1 then ((impl_hardFits.f t325 t326 t327 t328 t329 a1_1 a1_3).bind fun t333 => (impl_WalStep.j0 k (wrap64 (t327 + (t329.length : Int))) t333 t325 t326 t327 t328 t329 a1_0 a1_1 a1_2 a1_3 a1_4)) else (impl_WalStep.j0 k (wrap64 (t327 + (t329.length : Int))) false t325 t326 t327 t328 t329 a1_0 a1_1 a1_2 a1_3 a1_4)) else (some (t325, t326, t327, t328, t329, false)))) = some (r1, r2, r3, r4, r5, r6) := H
  have A5 := Aside0.mk A50
  clear A50
  obtain ⟨t332, A6, H⟩ := bd H
  by_cases c7 : t332 = true
  ·subst c7
   replace H := iT H
   have HC8 := Aside0.mk H
   clear H
   go_enter Try.func14, Try.ntmps14
   go_upto_region 8 with (first | ((with_reducible refine gD 2 rfl ?_); (try (refine gate_guard rfl ?_; dsimp only)); refine boxZ 2 #[.int .i64 a0_0, .int .i64 a0_1, .int .i64 a0_2, .int .i64 a0_3, .slice A0_4 l0_4.length c0_4] 24 ?_; intro gb321 hg w9 hbox hb; have BK321 := Aside0.mk hbox; have GW321 := gw (w := w) hg; have GE321 := gw (w := w) hg; replace HB := bs (w := w) hb; clear hb hbox hg) | ((with_reducible refine gD 3 rfl ?_); (try (refine gate_guard rfl ?_; dsimp only)); refine boxZ 3 #[.int .i64 a1_0, .int .i64 a1_1, .int .i64 a1_2, .int .i64 a1_3, .string a1_4] 34 ?_; intro gb322 hg w10 hbox hb; have BK322 := Aside0.mk hbox; have GW322 := gw (w := w) hg; have GE322 := gw (w := w) hg; replace HB := bs (w := w) hb; have NB321_322 := nl BK321 hg; have NB322_321 := nr BK321 hg; replace BK321 := bv BK321 hb; clear hb hbox hg) | ((with_reducible refine gD 4 rfl ?_); (try (refine gate_guard rfl ?_; dsimp only)); refine boxZ 4 #[.int .i64 0, .int .i64 0, .int .i64 0, .int .i64 0, .slice none 0 0] 24 ?_; intro gb323 hg w11 hbox hb; have BK323 := Aside0.mk hbox; have GW323 := gw (w := w) hg; have GE323 := gw (w := w) hg; replace HB := bs (w := w) hb; have NB321_323 := nl BK321 hg; have NB323_321 := nr BK321 hg; replace BK321 := bv BK321 hb; have NB322_323 := nl BK322 hg; have NB323_322 := nr BK322 hg; replace BK322 := bv BK322 hb; clear hb hbox hg; have hnb12 := NB321_322.out; have hnc12 := NB322_321.out; have hnb13 := NB321_323.out; have hnc13 := NB323_321.out; obtain ⟨Z14_0, Z14_1, Z14_2, Z14_3, Z14_4, Y14_0, Y14_1, Y14_2, Y14_3, Y14_4⟩ := cf5 BK321) | ((with_reducible refine gC 29 rfl ?_); refine goesZ (some 8) rfl Try.func29 #[.agg #[.int .i64 a0_0, .int .i64 a0_1, .int .i64 a0_2, .int .i64 a0_3, .slice A0_4 l0_4.length c0_4]] ?_; (with_reducible refine (impl_WalOk.calls k a0_0 a0_1 a0_2 a0_3 _ _ l0_4 true _ ?side1 ?side2 A3.out).mono ?_); (case side1 => exact ca (Kd.C_below HR0_4.out HB.out)); (case side2 => exact HC0_4.out); rintro e w15 ⟨rfl, hb⟩; refine ⟨_, rfl, ?_⟩; replace BK321 := bv BK321 hb; replace BK322 := bv BK322 hb; replace BK323 := bv BK323 hb; replace HB := bs (w := w) hb; (try clear hb); obtain ⟨Z16_0, Z16_1, Z16_2, Z16_3, Z16_4, Y16_0, Y16_1, Y16_2, Y16_3, Y16_4⟩ := cf5 BK321) | ((with_reducible refine gC 30 rfl ?_); refine goesZ (some 12) rfl Try.func30 #[.agg #[.int .i64 a0_0, .int .i64 a0_1, .int .i64 a0_2, .int .i64 a0_3, .slice A0_4 l0_4.length c0_4]] ?_; (with_reducible refine (impl_copyWal.calls a0_0 a0_1 a0_2 a0_3 _ _ l0_4 t325 t326 t327 t328 t329 _ ?side1 ?side2 A5.out).mono ?_); (case side1 => exact ca (Kd.C_below HR0_4.out HB.out)); (case side2 => exact HC0_4.out); rintro e w17 ⟨v330, rfl, ho0, hb⟩; refine ⟨_, rfl, ?_⟩; have HO331 := Aside0.mk (Kd.R_lower ho0 (below_size bl)); replace BK321 := bv BK321 hb; replace BK322 := bv BK322 hb; replace BK323 := bv BK323 hb; replace HB := bs (w := w) hb; (try clear hb ho0); obtain ⟨Z18_0, Z18_1, Z18_2, Z18_3, Z18_4, Y18_0, Y18_1, Y18_2, Y18_3, Y18_4⟩ := cf5 BK321; obtain ⟨Ao19, co19, rfl⟩ := Kd.R_slice HO331.out; have hnb20 := NB322_323.out; have hnc20 := NB323_322.out; obtain ⟨Z21_0, Z21_1, Z21_2, Z21_3, Z21_4, Y21_0, Y21_1, Y21_2, Y21_3, Y21_4⟩ := cf5 BK322) | ((with_reducible refine gC 31 rfl ?_); refine goesZ (some 14) rfl Try.func31 #[.agg #[.int .i64 a1_0, .int .i64 a1_1, .int .i64 a1_2, .int .i64 a1_3, .string a1_4]] ?_; (with_reducible refine (impl_RecOk.calls a1_0 a1_1 a1_2 a1_3 a1_4 true _ A6.out).mono ?_); rintro e w22 ⟨rfl, hb⟩; refine ⟨_, rfl, ?_⟩; replace HO331 := Aside0.mk (Kd.R_below (rpR (Kd.R_mono (Kd.R_far (p := ⟨gb321, 4, none⟩) (Kd.R_far (p := ⟨gb321, 3, none⟩) (Kd.R_far (p := ⟨gb321, 2, none⟩) (Kd.R_far (p := ⟨gb321, 1, none⟩) (Kd.R_far (p := ⟨gb321, 0, none⟩) (Kd.R_types HO331.out BK321.out (by decide)) (fun _ hk => hk.2) (.int .i64 t325)) (fun _ hk => hk.2) (.int .i64 t326)) (fun _ hk => hk.2) (.int .i64 t327)) (fun _ hk => hk.2) (.int .i64 t328)) (fun _ hk => hk.2) (.slice Ao19 t329.length co19)) (fun _ h_ => h_.1))) hb); replace BK321 := Aside0.mk (blk_below (g := gb321) (o := .cells #[.int .i64 t325, .int .i64 t326, .int .i64 t327, .int .i64 t328, .slice Ao19 t329.length co19] 24 (0, 0)) bkk hb); replace BK322 := Aside0.mk (blk_below (g := gb322) (o := .cells #[.int .i64 a1_0, .int .i64 a1_1, .int .i64 a1_2, .int .i64 a1_3, .string a1_4] 34 (0, 0)) bkk hb); replace BK323 := Aside0.mk (blk_below (g := gb323) (o := .cells #[.int .i64 0, .int .i64 0, .int .i64 0, .int .i64 0, .slice none 0 0] 24 (0, 0)) bkk hb); replace HB := bs (w := w) hb; (try clear hb); obtain ⟨Z23_0, Z23_1, Z23_2, Z23_3, Z23_4, Y23_0, Y23_1, Y23_2, Y23_3, Y23_4⟩ := cf5 BK321))
   (try simp only [Act.put, List.setIfInBounds_toArray, List.set_cons_zero, List.set_cons_succ])
   go_cut [24] (fun v24 wc => ∃ (kq : Nat) (x24_7 : Bool), v24 = .bool x24_7 ∧ Aside0 (impl_WalStep.j0 kq (wrap64 (t327 + (t329.length : Int))) x24_7 t325 t326 t327 t328 t329 a1_0 a1_1 a1_2 a1_3 a1_4 = some (r1, r2, r3, r4, r5, r6)) ∧ Aside0 (kq ≤ k) ∧ Aside0 (Kd.R k51 51 wc w.heap.size (fun _ => True) (.slice Ao19 t329.length co19) t329) ∧ Aside0 (wc.heap[gb321]? = some (.cells #[.int .i64 t325, .int .i64 t326, .int .i64 t327, .int .i64 t328, (.slice Ao19 t329.length co19)] 24 (0, 0))) ∧ Aside0 (wc.heap[gb322]? = some (.cells #[.int .i64 a1_0, .int .i64 a1_1, .int .i64 a1_2, .int .i64 a1_3, .string a1_4] 34 (0, 0))) ∧ Aside0 (wc.heap[gb323]? = some (.cells #[.int .i64 0, .int .i64 0, .int .i64 0, .int .i64 0, (.slice none 0 0)] 24 (0, 0))) ∧ Aside0 (Below w.heap.size w wc))
   case first =>
    have H := HC8.out
    clear HC8
    by_cases c24 : a1_0 = 1
    ·rw [if_pos c24] at H
     have c24b0 : (a1_0 == 1) = true := beq_iff_eq.mpr c24
     have c24b1 : (a1_0 != 1) = false := bne_eq_false_iff_eq.mpr c24
     clear c24
     (first | rw [c24b0] | (simp only [i64_w, i32_w]; rw [c24b0]) | skip)
     obtain ⟨t333, A25, H⟩ := bd H
     have H' := Aside0.mk H
     clear H
     have hnb26 := NB322_321.out
     have hnc26 := NB321_322.out
     have hnb27 := NB322_323.out
     have hnc27 := NB323_322.out
     obtain ⟨Z28_0, Z28_1, Z28_2, Z28_3, Z28_4, Y28_0, Y28_1, Y28_2, Y28_3, Y28_4⟩ := cf5 BK322
     have hnb29 := NB321_323.out
     have hnc29 := NB323_321.out
     obtain ⟨Z30_0, Z30_1, Z30_2, Z30_3, Z30_4, Y30_0, Y30_1, Y30_2, Y30_3, Y30_4⟩ := cf5 BK321
     go_wp2_with (first | (go_at_call 32; (with_reducible refine (impl_hardFits.calls t325 t326 t327 t328 _ _ t329 a1_1 a1_3 t333 _ ?side1 ?side2 A25.out).mono ?_); (case side1 => exact ca ((Kd.R_reads' HO331.out).2.2)); (case side2 => exact (Kd.R_reads' HO331.out).2.1); rintro e w31 ⟨rfl, hb⟩; replace HO331 := Aside0.mk (Kd.R_below (rpR HO331.out) hb); replace BK321 := bv BK321 hb; replace BK322 := bv BK322 hb; replace BK323 := bv BK323 hb; replace HB := bs (w := w) hb; (try clear hb)))
     go_meet
     case rel => exact ⟨_, (t333), fa, H', ⟨by first | omega | exact Nat.le_refl _⟩, ⟨rpR HO331.out⟩, ⟨by (with_reducible repeat (first | refine blk_drewN ?_ _ | refine blk_drew ?_ | refine blk_alloc ?_ _)); exact BK321.out⟩, ⟨by (with_reducible repeat (first | refine blk_drewN ?_ _ | refine blk_drew ?_ | refine blk_alloc ?_ _)); exact BK322.out⟩, ⟨by (with_reducible repeat (first | refine blk_drewN ?_ _ | refine blk_drew ?_ | refine blk_alloc ?_ _)); exact BK323.out⟩, ⟨bl⟩⟩
    ·rw [if_neg c24] at H
     have c24b0 : (a1_0 == 1) = false := beq_eq_false_iff_ne.mpr c24
     have c24b1 : (a1_0 != 1) = true := bne_iff_ne.mpr c24
     (first | rw [c24b0] | (simp only [i64_w, i32_w]; rw [c24b0]) | skip)
     have H' := Aside0.mk H
     clear H
     have hnb32 := NB322_321.out
     have hnc32 := NB321_322.out
     have hnb33 := NB322_323.out
     have hnc33 := NB323_322.out
     obtain ⟨Z34_0, Z34_1, Z34_2, Z34_3, Z34_4, Y34_0, Y34_1, Y34_2, Y34_3, Y34_4⟩ := cf5 BK322
     go_wp2
     go_meet
     case rel => exact ⟨_, (false), fa, H', ⟨by first | omega | exact Nat.le_refl _⟩, ⟨rpR HO331.out⟩, ⟨by (with_reducible repeat (first | refine blk_drewN ?_ _ | refine blk_drew ?_ | refine blk_alloc ?_ _)); exact BK321.out⟩, ⟨by (with_reducible repeat (first | refine blk_drewN ?_ _ | refine blk_drew ?_ | refine blk_alloc ?_ _)); exact BK322.out⟩, ⟨by (with_reducible repeat (first | refine blk_drewN ?_ _ | refine blk_drew ?_ | refine blk_alloc ?_ _)); exact BK323.out⟩, ⟨bl⟩⟩
   case rest =>
    clear HC8
    try clear c1
    try clear c2
    try clear p2
    try clear c3
    try clear c4
    try clear p6
    try clear c7
    try clear c12
    try clear c13
    try clear c14
    try clear c20
    try clear c24
    try clear c24b0
    try clear c24b1
    try clear c26
    try clear c27
    try clear c29
    try clear c30
    try clear c31
    try clear c32
    try clear c33
    try clear Z14_0 Z14_1 Z14_2 Z14_3 Z14_4
    try clear Z16_0 Z16_1 Z16_2 Z16_3 Z16_4
    try clear Z18_0 Z18_1 Z18_2 Z18_3 Z18_4
    try clear Z21_0 Z21_1 Z21_2 Z21_3 Z21_4
    try clear Z23_0 Z23_1 Z23_2 Z23_3 Z23_4
    try clear Z28_0 Z28_1 Z28_2 Z28_3 Z28_4
    try clear Z30_0 Z30_1 Z30_2 Z30_3 Z30_4
    try clear Z34_0 Z34_1 Z34_2 Z34_3 Z34_4
    try clear Y14_0 Y14_1 Y14_2 Y14_3 Y14_4
    try clear Y16_0 Y16_1 Y16_2 Y16_3 Y16_4
    try clear Y18_0 Y18_1 Y18_2 Y18_3 Y18_4
    try clear Y21_0 Y21_1 Y21_2 Y21_3 Y21_4
    try clear Y23_0 Y23_1 Y23_2 Y23_3 Y23_4
    try clear Y28_0 Y28_1 Y28_2 Y28_3 Y28_4
    try clear Y30_0 Y30_1 Y30_2 Y30_3 Y30_4
    try clear Y34_0 Y34_1 Y34_2 Y34_3 Y34_4
    obtain ⟨kq, x24_7, rfl, HA, HJ7, HO_322004, BK321, BK322, BK323, HB⟩ := hcut
    cases kq with
    | zero => exact absurd HA.out (by simp [impl_WalStep.j0])
    | succ kj7 =>
     have H := HA.out
     clear HA
     simp only [impl_WalStep.j0] at H
     by_cases c35 : x24_7 = true
     ·subst c35
      replace H := iT H
      simp only [Option.some.injEq, Prod.mk.injEq] at H
      obtain ⟨rfl, rfl, rfl, rfl, rfl, rfl⟩ := H
      have hnb36 := NB322_321.out
      have hnc36 := NB321_322.out
      have hnb37 := NB322_323.out
      have hnc37 := NB323_322.out
      obtain ⟨Z38_0, Z38_1, Z38_2, Z38_3, Z38_4, Y38_0, Y38_1, Y38_2, Y38_3, Y38_4⟩ := cf5 BK322
      have hnb39 := NB321_323.out
      have hnc39 := NB323_321.out
      obtain ⟨Z40_0, Z40_1, Z40_2, Z40_3, Z40_4, Y40_0, Y40_1, Y40_2, Y40_3, Y40_4⟩ := cf5 BK321; obtain ⟨Z41_0, Z41_1, Z41_2, Z41_3, Z41_4, Y41_0, Y41_1, Y41_2, Y41_3, Y41_4⟩ := cf5 BK323
      go_wp2
      refine bodyPost_ret (results_ct rfl _ _ gb323 24 #[.int .i64 a1_1, .int .i64 a1_3, .int .i64 t327, .int .i64 t328, .slice Ao19 t329.length co19] (0, 0) _ rfl bkk Try.underlying24 rfl (by kernel_rfl)) rfl ?_
      exact ⟨_, fe, rpR (Kd.R_mono (Kd.R_far (p := ⟨gb323, 4, none⟩) (Kd.R_far (p := ⟨gb323, 3, none⟩) (Kd.R_far (p := ⟨gb323, 2, none⟩) (Kd.R_far (p := ⟨gb323, 1, none⟩) (Kd.R_far (p := ⟨gb323, 0, none⟩) (Kd.R_far (p := ⟨gb321, 1, none⟩) (Kd.R_far (p := ⟨gb321, 0, none⟩) (Kd.R_types (Kd.R_types HO_322004.out BK321.out (by decide)) BK323.out (by decide)) (fun _ hk => hk.1.2) (.int .i64 a1_1)) (fun _ hk => hk.1.2) (.int .i64 a1_3)) (fun _ hk => hk.2) (.int .i64 a1_1)) (fun _ hk => hk.2) (.int .i64 a1_3)) (fun _ hk => hk.2) (.int .i64 t327)) (fun _ hk => hk.2) (.int .i64 t328)) (fun _ hk => hk.2) (.slice Ao19 t329.length co19)) (fun _ hk => trivial)), bl⟩
     ·replace c35 := Bool.eq_false_iff.mpr c35
      subst c35
      replace H := iF H
      have HC42 := Aside0.mk H
      clear H
      go_upto_region 11 with (fail)
      go_cut [42] (fun v42 wc => ∃ (kq : Nat) (x42_41 : Bool), v42 = .bool x42_41 ∧ Aside0 (impl_WalStep.j1 kq (wrap64 (t327 + (t329.length : Int))) x42_41 t325 t326 t327 t328 t329 a1_0 a1_1 a1_2 a1_3 a1_4 = some (r1, r2, r3, r4, r5, r6)) ∧ Aside0 (kq ≤ kj7) ∧ Aside0 (Kd.R k51 51 wc w.heap.size (fun _ => True) (.slice Ao19 t329.length co19) t329) ∧ Aside0 (wc.heap[gb321]? = some (.cells #[.int .i64 t325, .int .i64 t326, .int .i64 t327, .int .i64 t328, (.slice Ao19 t329.length co19)] 24 (0, 0))) ∧ Aside0 (wc.heap[gb322]? = some (.cells #[.int .i64 a1_0, .int .i64 a1_1, .int .i64 a1_2, .int .i64 a1_3, .string a1_4] 34 (0, 0))) ∧ Aside0 (wc.heap[gb323]? = some (.cells #[.int .i64 0, .int .i64 0, .int .i64 0, .int .i64 0, (.slice none 0 0)] 24 (0, 0))) ∧ Aside0 (Below w.heap.size w wc))
      case first =>
       have H := HC42.out
       clear HC42
       by_cases c43 : a1_0 = 2
       ·rw [if_pos c43] at H
        have c43b0 : (a1_0 == 2) = true := beq_iff_eq.mpr c43
        have c43b1 : (a1_0 != 2) = false := bne_eq_false_iff_eq.mpr c43
        clear c43
        (first | rw [c43b0] | (simp only [i64_w, i32_w]; rw [c43b0]) | skip)
        by_cases c44 : a1_2 = (wrap64 ((wrap64 (t327 + (t329.length : Int))) + 1))
        ·rw [if_pos c44] at H
         have c44b0 : (a1_2 == (wrap64 ((wrap64 (t327 + (t329.length : Int))) + 1))) = true := beq_iff_eq.mpr c44
         have c44b1 : (a1_2 != (wrap64 ((wrap64 (t327 + (t329.length : Int))) + 1))) = false := bne_eq_false_iff_eq.mpr c44
         clear c44
         by_cases c45 : (t329.length : Int) < 60
         ·rw [if_pos c45] at H
          have c45b0 : decide ((t329.length : Int) < 60) = true := decide_eq_true c45
          have c45b1 : decide (t329.length < 60) = true := decide_eq_true (by omega)
          clear c45
          obtain ⟨t334, A46, H⟩ := bd H
          obtain ⟨t335, A47, H⟩ := bd H
          have H' := Aside0.mk H
          clear H
          try go_wp2
          replace HO_322004 := Aside0.mk (Kd.R_drew HO_322004.out); replace BK321 := Aside0.mk (blk_drew BK321.out); replace BK322 := Aside0.mk (blk_drew BK322.out); replace BK323 := Aside0.mk (blk_drew BK323.out); replace HB := Aside0.mk (below_drew1 HB.out)
          refine start_ (n := 26) (S := fun w' => w'.cell? ⟨gb322, 0, none⟩ = some (.int .i64 a1_0) ∧ w'.cell? ⟨gb322, 1, none⟩ = some (.int .i64 a1_1) ∧ w'.cell? ⟨gb322, 2, none⟩ = some (.int .i64 a1_2) ∧ w'.cell? ⟨gb322, 3, none⟩ = some (.int .i64 a1_3) ∧ w'.cell? ⟨gb322, 4, none⟩ = some (.string a1_4) ∧ w'.cell? ⟨gb321, 0, none⟩ = some (.int .i64 t325) ∧ w'.cell? ⟨gb321, 1, none⟩ = some (.int .i64 t326) ∧ w'.cell? ⟨gb321, 2, none⟩ = some (.int .i64 t327) ∧ w'.cell? ⟨gb321, 3, none⟩ = some (.int .i64 t328) ∧ w'.cell? ⟨gb321, 4, none⟩ = some (.slice Ao19 t329.length co19)) (ds := []) (bo 26 0) (by kernel_rfl) rfl rfl ⟨cb 0 BK322, cb 1 BK322, cb 2 BK322, cb 3 BK322, cb 4 BK322, cb 0 BK321, cb 1 BK321, cb 2 BK321, cb 3 BK321, cb 4 BK321⟩ (fun hHeld => ?_); refine with_tabW impl_WalStep.tab11 impl_WalStep.bits11 (fun HT_ HW_ => ?_)
          generalize wc.drew = w48 at HO_322004 BK321 BK322 BK323 HB hHeld ⊢
          refine pV 0 43 (bo 26 1) ?_
          refine tV 1 44 (bo 26 3) ?_
          refine pV 2 45 (bo 26 7) ?_
          refine pV 3 46 (bo 26 15) ?_
          refine pV 4 47 (bo 26 31) ?_
          refine pV 6 49 (bo 26 95) ?_
          refine pV 7 50 (bo 26 223) ?_
          refine tV 5 48 (bo 26 255) ?_
          refine pV 8 51 (bo 26 511) ?_
          refine pV 9 52 (bo 26 1023) ?_
          refine pV 10 53 (bo 26 2047) ?_
          refine pV 11 54 (bo 26 4095) ?_
          refine tV 12 55 (bo 26 8191) ?_
          refine pV 13 56 (bo 26 16383) ?_
          refine pV 14 57 (bo 26 32767) ?_
          refine pV 15 58 (bo 26 65535) ?_
          refine pV 16 59 (bo 26 131071) ?_
          refine pV 17 60 (bo 26 262143) ?_
          refine pV 21 64 (bo 26 2359295) ?_
          refine tV 18 61 (bo 26 2621439) ?_
          refine tV 19 62 (bo 26 3145727) ?_
          refine tV 22 65 (bo 26 7340031) ?_
          refine one_ (i := 20) (N := some 63) (bo 26 8388607) rfl rfl (one_of HT_.out (by kernel_rfl)) (by decide) (fun K hK => ?_)
          refine goes_ Try.func34 (by kernel_rfl) rfl #[.agg #[.int .i64 t325, .int .i64 t326, .int .i64 t327, .int .i64 t328, .slice Ao19 t329.length co19]] (by rfl) rfl rfl sa ?_
          with_reducible refine (impl_lastTerm.calls t325 t326 t327 t328 _ _ t329 t334 _ ?side1 ?side2 A46.out).mono ?_
          (case side1 => exact ca ((Kd.R_reads' HO_322004.out).2.2))
          (case side2 => exact (Kd.R_reads' HO_322004.out).2.1)
          rintro e w49 ⟨rfl, hb⟩
          refine ⟨_, rfl, ?_⟩
          replace HO_322004 := Aside0.mk (Kd.R_below (rpR HO_322004.out) hb); replace BK321 := bv BK321 hb; replace BK322 := bv BK322 hb; replace BK323 := bv BK323 hb; replace HB := bs (w := w) hb; (try clear hb hb2 hk hi)
          refine hK.out _ _ ⟨cb 0 BK322, cb 1 BK322, cb 2 BK322, cb 3 BK322, cb 4 BK322, cb 0 BK321, cb 1 BK321, cb 2 BK321, cb 3 BK321, cb 4 BK321⟩ (fun hHeld => ?_)
          clear hK K
          refine norm_ (a' := ?_) ?_ ?_
          rotate_left
          ·show Act.put _ (some 63) _ = _
           simp only [Act.put, List.setIfInBounds_toArray, List.set_cons_zero, List.set_cons_succ, i64_w, i32_w]
           rfl
          refine one_ (i := 23) (N := some 66) (bo 26 16777215) rfl rfl (one_of HT_.out (by kernel_rfl)) (by decide) (fun K hK => ?_)
          refine goes_ Try.func33 (by kernel_rfl) rfl #[.int .i64 a1_1, .int .i64 t334, .int .i64 t325] (by rfl) rfl rfl sa ?_
          with_reducible refine (impl_from.calls a1_1 t334 t325 t335 _ A47.out).mono ?_
          rintro e w' ⟨rfl, ⟨nd, rfl⟩⟩
          refine ⟨_, rfl, ?_⟩
          refine hK.out _ _ ⟨cb 0 BK322, cb 1 BK322, cb 2 BK322, cb 3 BK322, cb 4 BK322, cb 0 BK321, cb 1 BK321, cb 2 BK321, cb 3 BK321, cb 4 BK321⟩ (fun hHeld => ?_)
          clear hK K
          refine norm_ (a' := ?_) ?_ ?_
          rotate_left
          ·show Act.put _ (some 66) _ = _
           simp only [Act.put, List.setIfInBounds_toArray, List.set_cons_zero, List.set_cons_succ, i64_w, i32_w]
           rfl
          refine pV 24 67 (bo 26 33554431) ?_
          refine pV 25 42 (bo 26 67108863) ?_
          refine done_ (done_of HT_.out (by kernel_rfl)) ?_
          try go_wp2
          go_meet
          case rel => exact ⟨_, (t335), fa, H', ⟨by have := HJ7.out; first | omega | exact Nat.le_refl _⟩, ⟨rpR HO_322004.out⟩, ⟨by (with_reducible repeat (first | refine blk_drewN ?_ _ | refine blk_drew ?_ | refine blk_alloc ?_ _)); exact BK321.out⟩, ⟨by (with_reducible repeat (first | refine blk_drewN ?_ _ | refine blk_drew ?_ | refine blk_alloc ?_ _)); exact BK322.out⟩, ⟨by (with_reducible repeat (first | refine blk_drewN ?_ _ | refine blk_drew ?_ | refine blk_alloc ?_ _)); exact BK323.out⟩, ⟨bl⟩⟩
         ·rw [if_neg c45] at H
          have c45b0 : decide ((t329.length : Int) < 60) = false := decide_eq_false c45
          have c45b1 : decide (t329.length < 60) = false := decide_eq_false (by omega)
          clear c45
          have H' := Aside0.mk H
          clear H
          try go_wp2
          replace HO_322004 := Aside0.mk (Kd.R_drew HO_322004.out); replace BK321 := Aside0.mk (blk_drew BK321.out); replace BK322 := Aside0.mk (blk_drew BK322.out); replace BK323 := Aside0.mk (blk_drew BK323.out); replace HB := Aside0.mk (below_drew1 HB.out)
          refine start_ (n := 26) (S := fun w' => w'.cell? ⟨gb322, 0, none⟩ = some (.int .i64 a1_0) ∧ w'.cell? ⟨gb322, 1, none⟩ = some (.int .i64 a1_1) ∧ w'.cell? ⟨gb322, 2, none⟩ = some (.int .i64 a1_2) ∧ w'.cell? ⟨gb322, 3, none⟩ = some (.int .i64 a1_3) ∧ w'.cell? ⟨gb322, 4, none⟩ = some (.string a1_4) ∧ w'.cell? ⟨gb321, 0, none⟩ = some (.int .i64 t325) ∧ w'.cell? ⟨gb321, 1, none⟩ = some (.int .i64 t326) ∧ w'.cell? ⟨gb321, 2, none⟩ = some (.int .i64 t327) ∧ w'.cell? ⟨gb321, 3, none⟩ = some (.int .i64 t328) ∧ w'.cell? ⟨gb321, 4, none⟩ = some (.slice Ao19 t329.length co19)) (ds := []) (bo 26 0) (by kernel_rfl) rfl rfl ⟨cb 0 BK322, cb 1 BK322, cb 2 BK322, cb 3 BK322, cb 4 BK322, cb 0 BK321, cb 1 BK321, cb 2 BK321, cb 3 BK321, cb 4 BK321⟩ (fun hHeld => ?_); refine with_tabW impl_WalStep.tab11 impl_WalStep.bits11 (fun HT_ HW_ => ?_)
          generalize wc.drew = w50 at HO_322004 BK321 BK322 BK323 HB hHeld ⊢
          refine pV 0 43 (bo 26 1) ?_
          refine tV 1 44 (bo 26 3) ?_
          refine pV 2 45 (bo 26 7) ?_
          refine pV 3 46 (bo 26 15) ?_
          refine pV 4 47 (bo 26 31) ?_
          refine pV 6 49 (bo 26 95) ?_
          refine pV 7 50 (bo 26 223) ?_
          refine tV 5 48 (bo 26 255) ?_
          refine pV 8 51 (bo 26 511) ?_
          refine pV 9 52 (bo 26 1023) ?_
          refine pV 10 53 (bo 26 2047) ?_
          refine pV 11 54 (bo 26 4095) ?_
          refine tV 12 55 (bo 26 8191) ?_
          refine pV 13 56 (bo 26 16383) ?_
          refine pV 14 57 (bo 26 32767) ?_
          refine pV 15 58 (bo 26 65535) ?_
          refine pV 16 59 (bo 26 131071) ?_
          refine pU 17 60 (bo 26 262143) ?_
          refine pU 18 61 (bo 26 524287) ?_
          refine pU 19 62 (bo 26 1048575) ?_
          refine pU 20 63 (bo 26 2097151) ?_
          refine pU 21 64 (bo 26 4194303) ?_
          refine pU 22 65 (bo 26 8388607) ?_
          refine pU 23 66 (bo 26 16777215) ?_
          refine pV 24 67 (bo 26 33554431) ?_
          refine pV 25 42 (bo 26 67108863) ?_
          refine done_ (done_of HT_.out (by kernel_rfl)) ?_
          try go_wp2
          go_meet
          case rel => exact ⟨_, (false), fa, H', ⟨by have := HJ7.out; first | omega | exact Nat.le_refl _⟩, ⟨rpR HO_322004.out⟩, ⟨by (with_reducible repeat (first | refine blk_drewN ?_ _ | refine blk_drew ?_ | refine blk_alloc ?_ _)); exact BK321.out⟩, ⟨by (with_reducible repeat (first | refine blk_drewN ?_ _ | refine blk_drew ?_ | refine blk_alloc ?_ _)); exact BK322.out⟩, ⟨by (with_reducible repeat (first | refine blk_drewN ?_ _ | refine blk_drew ?_ | refine blk_alloc ?_ _)); exact BK323.out⟩, ⟨bl⟩⟩
        ·rw [if_neg c44] at H
         have c44b0 : (a1_2 == (wrap64 ((wrap64 (t327 + (t329.length : Int))) + 1))) = false := beq_eq_false_iff_ne.mpr c44
         have c44b1 : (a1_2 != (wrap64 ((wrap64 (t327 + (t329.length : Int))) + 1))) = true := bne_iff_ne.mpr c44
         have H' := Aside0.mk H
         clear H
         try go_wp2
         replace HO_322004 := Aside0.mk (Kd.R_drew HO_322004.out); replace BK321 := Aside0.mk (blk_drew BK321.out); replace BK322 := Aside0.mk (blk_drew BK322.out); replace BK323 := Aside0.mk (blk_drew BK323.out); replace HB := Aside0.mk (below_drew1 HB.out)
         refine start_ (n := 26) (S := fun w' => w'.cell? ⟨gb322, 0, none⟩ = some (.int .i64 a1_0) ∧ w'.cell? ⟨gb322, 1, none⟩ = some (.int .i64 a1_1) ∧ w'.cell? ⟨gb322, 2, none⟩ = some (.int .i64 a1_2) ∧ w'.cell? ⟨gb322, 3, none⟩ = some (.int .i64 a1_3) ∧ w'.cell? ⟨gb322, 4, none⟩ = some (.string a1_4)) (ds := []) (bo 26 0) (by kernel_rfl) rfl rfl ⟨cb 0 BK322, cb 1 BK322, cb 2 BK322, cb 3 BK322, cb 4 BK322⟩ (fun hHeld => ?_); refine with_tabW impl_WalStep.tab11 impl_WalStep.bits11 (fun HT_ HW_ => ?_)
         generalize wc.drew = w51 at HO_322004 BK321 BK322 BK323 HB hHeld ⊢
         refine pV 0 43 (bo 26 1) ?_
         refine tV 1 44 (bo 26 3) ?_
         refine pV 2 45 (bo 26 7) ?_
         refine pV 3 46 (bo 26 15) ?_
         refine pV 4 47 (bo 26 31) ?_
         refine pV 6 49 (bo 26 95) ?_
         refine pV 7 50 (bo 26 223) ?_
         refine tV 5 48 (bo 26 255) ?_
         refine pV 8 51 (bo 26 511) ?_
         refine pV 9 52 (bo 26 1023) ?_
         refine pV 10 53 (bo 26 2047) ?_
         refine pU 11 54 (bo 26 4095) ?_
         refine pU 12 55 (bo 26 8191) ?_
         refine pU 13 56 (bo 26 16383) ?_
         refine pU 14 57 (bo 26 32767) ?_
         refine pV 15 58 (bo 26 65535) ?_
         refine pV 16 59 (bo 26 131071) ?_
         refine pU 17 60 (bo 26 262143) ?_
         refine pU 18 61 (bo 26 524287) ?_
         refine pU 19 62 (bo 26 1048575) ?_
         refine pU 20 63 (bo 26 2097151) ?_
         refine pU 21 64 (bo 26 4194303) ?_
         refine pU 22 65 (bo 26 8388607) ?_
         refine pU 23 66 (bo 26 16777215) ?_
         refine pV 24 67 (bo 26 33554431) ?_
         refine pV 25 42 (bo 26 67108863) ?_
         refine done_ (done_of HT_.out (by kernel_rfl)) ?_
         try go_wp2
         go_meet
         case rel => exact ⟨_, (false), fa, H', ⟨by have := HJ7.out; first | omega | exact Nat.le_refl _⟩, ⟨rpR HO_322004.out⟩, ⟨by (with_reducible repeat (first | refine blk_drewN ?_ _ | refine blk_drew ?_ | refine blk_alloc ?_ _)); exact BK321.out⟩, ⟨by (with_reducible repeat (first | refine blk_drewN ?_ _ | refine blk_drew ?_ | refine blk_alloc ?_ _)); exact BK322.out⟩, ⟨by (with_reducible repeat (first | refine blk_drewN ?_ _ | refine blk_drew ?_ | refine blk_alloc ?_ _)); exact BK323.out⟩, ⟨bl⟩⟩
       ·rw [if_neg c43] at H
        have c43b0 : (a1_0 == 2) = false := beq_eq_false_iff_ne.mpr c43
        have c43b1 : (a1_0 != 2) = true := bne_iff_ne.mpr c43
        (first | rw [c43b0] | (simp only [i64_w, i32_w]; rw [c43b0]) | skip)
        have H' := Aside0.mk H
        clear H
        try go_wp2
        replace HO_322004 := Aside0.mk (Kd.R_drew HO_322004.out); replace BK321 := Aside0.mk (blk_drew BK321.out); replace BK322 := Aside0.mk (blk_drew BK322.out); replace BK323 := Aside0.mk (blk_drew BK323.out); replace HB := Aside0.mk (below_drew1 HB.out)
        refine start_ (n := 26) (S := fun w' => w'.cell? ⟨gb322, 0, none⟩ = some (.int .i64 a1_0) ∧ w'.cell? ⟨gb322, 1, none⟩ = some (.int .i64 a1_1) ∧ w'.cell? ⟨gb322, 2, none⟩ = some (.int .i64 a1_2) ∧ w'.cell? ⟨gb322, 3, none⟩ = some (.int .i64 a1_3) ∧ w'.cell? ⟨gb322, 4, none⟩ = some (.string a1_4)) (ds := []) (bo 26 0) (by kernel_rfl) rfl rfl ⟨cb 0 BK322, cb 1 BK322, cb 2 BK322, cb 3 BK322, cb 4 BK322⟩ (fun hHeld => ?_); refine with_tabW impl_WalStep.tab11 impl_WalStep.bits11 (fun HT_ HW_ => ?_)
        generalize wc.drew = w52 at HO_322004 BK321 BK322 BK323 HB hHeld ⊢
        refine pV 0 43 (bo 26 1) ?_
        refine tV 1 44 (bo 26 3) ?_
        refine pV 2 45 (bo 26 7) ?_
        refine pV 3 46 (bo 26 15) ?_
        refine pU 4 47 (bo 26 31) ?_
        refine pU 5 48 (bo 26 63) ?_
        refine pU 6 49 (bo 26 127) ?_
        refine pU 7 50 (bo 26 255) ?_
        refine pU 8 51 (bo 26 511) ?_
        refine pV 9 52 (bo 26 1023) ?_
        refine pV 10 53 (bo 26 2047) ?_
        refine pU 11 54 (bo 26 4095) ?_
        refine pU 12 55 (bo 26 8191) ?_
        refine pU 13 56 (bo 26 16383) ?_
        refine pU 14 57 (bo 26 32767) ?_
        refine pV 15 58 (bo 26 65535) ?_
        refine pV 16 59 (bo 26 131071) ?_
        refine pU 17 60 (bo 26 262143) ?_
        refine pU 18 61 (bo 26 524287) ?_
        refine pU 19 62 (bo 26 1048575) ?_
        refine pU 20 63 (bo 26 2097151) ?_
        refine pU 21 64 (bo 26 4194303) ?_
        refine pU 22 65 (bo 26 8388607) ?_
        refine pU 23 66 (bo 26 16777215) ?_
        refine pV 24 67 (bo 26 33554431) ?_
        refine pV 25 42 (bo 26 67108863) ?_
        refine done_ (done_of HT_.out (by kernel_rfl)) ?_
        try go_wp2
        go_meet
        case rel => exact ⟨_, (false), fa, H', ⟨by have := HJ7.out; first | omega | exact Nat.le_refl _⟩, ⟨rpR HO_322004.out⟩, ⟨by (with_reducible repeat (first | refine blk_drewN ?_ _ | refine blk_drew ?_ | refine blk_alloc ?_ _)); exact BK321.out⟩, ⟨by (with_reducible repeat (first | refine blk_drewN ?_ _ | refine blk_drew ?_ | refine blk_alloc ?_ _)); exact BK322.out⟩, ⟨by (with_reducible repeat (first | refine blk_drewN ?_ _ | refine blk_drew ?_ | refine blk_alloc ?_ _)); exact BK323.out⟩, ⟨bl⟩⟩
      case rest =>
       clear HC42
       try clear p2
       try clear c4
       try clear p6
       try clear c43
       try clear c43b0
       try clear c43b1
       try clear c44
       try clear c44b0
       try clear c44b1
       try clear c45
       try clear c45b0
       try clear c45b1
       obtain ⟨kq, x42_41, rfl, HA, HJ41, HO_322004, BK321, BK322, BK323, HB⟩ := hcut
       cases kq with
       | zero => exact absurd HA.out (by simp [impl_WalStep.j1])
       | succ kj41 =>
        have H := HA.out
        clear HA
        simp only [impl_WalStep.j1] at H
        by_cases c53 : x42_41 = true
        ·subst c53
         replace H := iT H
         by_cases c54 : t329.length < 5864062014805
         ·rw [if_pos c54] at H
          have LMc54 := Aside0.mk c54
          clear c54
          obtain ⟨y336, hy336⟩ : ∃ y_ : List (S51), y_ = (t329 ++ [(⟨a1_1, a1_4⟩ : S51)]) := ⟨_, rfl⟩
          replace H : (some (t325, t326, t327, t328, y336, true)) = some (r1, r2, r3, r4, r5, r6) := by first | (rw [hy336]; with_reducible exact H) | (have H2_ := (Option.bind_some _ _).symm.trans H; rw [hy336]; with_reducible exact H2_) | (have H2_ := (Option.bind_some _ _).symm.trans H; with_reducible exact H2_) | with_reducible exact H | (rw [hy336]; exact H) | exact H
          have Ny336 := Aside0.mk hy336
          clear hy336
          simp only [Option.some.injEq, Prod.mk.injEq] at H
          obtain ⟨rfl, rfl, rfl, rfl, rfl, rfl⟩ := H
          have hnb55 := NB321_322.out
          have hnc55 := NB322_321.out
          have hnb56 := NB321_323.out
          have hnc56 := NB323_321.out
          obtain ⟨Z57_0, Z57_1, Z57_2, Z57_3, Z57_4, Y57_0, Y57_1, Y57_2, Y57_3, Y57_4⟩ := cf5 BK321
          have hnb58 := NB322_323.out
          have hnc58 := NB323_322.out
          obtain ⟨Z59_0, Z59_1, Z59_2, Z59_3, Z59_4, Y59_0, Y59_1, Y59_2, Y59_3, Y59_4⟩ := cf5 BK322
          go_wp2_with (first | ((with_reducible refine gate_builtin (b := .append) (xs := #[.tmp 69, .tmp 75]) rfl ?_); (try (refine gate_guard rfl ?_; dsimp only)); at_builtin; refine Kd.R_append k51 (w0 := w) w.heap.size rfl (.tmp 69) (.tmp 75) 22 51 (.agg #[(.int .i64 0), (.string ⟨#[]⟩)]) 24 rfl Try.underlying22 info51 rfl (by decide) (by omega) (.slice Ao19 t329.length co19) t329 (⟨a1_1, a1_4⟩ : S51) [.int .i64 a1_1, .string a1_4] (fun _ => True) (fun _ => False) rfl rfl ?aP (fun _ hk => hk.elim) ?aF ?aO ?aB ?aS ?aL ?_; (case aP => exact k51_mkM _ _ _ (⟨a1_1, a1_4⟩ : S51)); (case aB => exact bl); (case aF => exact (fun _ _ => trivial)); (case aO => exact (rpR HO_322004.out)); (case aS => exact (below_size bl)); (case aL => have := LMc54.out; omega); intro v337 w60 ho hb hg hat; rw [← Ny336.out] at ho; replace BK321 := Aside0.mk (blk_grown (g := gb321) (o := .cells #[.int .i64 t325, .int .i64 t326, .int .i64 t327, .int .i64 t328, .slice Ao19 t329.length co19] 24 (0, 0)) bk hg (Kd.R_ne HO_322004.out BK321.out (by decide))); replace BK322 := Aside0.mk (blk_grown (g := gb322) (o := .cells #[.int .i64 a1_0, .int .i64 a1_1, .int .i64 a1_2, .int .i64 a1_3, .string a1_4] 34 (0, 0)) bk hg (Kd.R_ne HO_322004.out BK322.out (by decide))); replace BK323 := Aside0.mk (blk_grown (g := gb323) (o := .cells #[.int .i64 0, .int .i64 0, .int .i64 0, .int .i64 0, .slice none 0 0] 24 (0, 0)) bk hg (Kd.R_ne HO_322004.out BK323.out (by decide))); replace HB := Aside0.mk (hb); have HO338 := Aside0.mk (ho); clear HO_322004; clear ho hb hg hat; obtain ⟨Ao61, co61, rfl⟩ := Kd.R_slice HO338.out; obtain ⟨Z62_0, Z62_1, Z62_2, Z62_3, Z62_4, Y62_0, Y62_1, Y62_2, Y62_3, Y62_4⟩ := cf5 BK321; obtain ⟨Z63_0, Z63_1, Z63_2, Z63_3, Z63_4, Y63_0, Y63_1, Y63_2, Y63_3, Y63_4⟩ := cf5 BK323))
          refine bodyPost_ret (results_ct rfl _ _ gb323 24 #[.int .i64 t325, .int .i64 t326, .int .i64 t327, .int .i64 t328, .slice Ao61 y336.length co61] (0, 0) _ rfl bkk Try.underlying24 rfl (by kernel_rfl)) rfl ?_
          exact ⟨_, fe, rpR (Kd.R_mono (Kd.R_far (p := ⟨gb323, 4, none⟩) (Kd.R_far (p := ⟨gb323, 3, none⟩) (Kd.R_far (p := ⟨gb323, 2, none⟩) (Kd.R_far (p := ⟨gb323, 1, none⟩) (Kd.R_far (p := ⟨gb323, 0, none⟩) (Kd.R_far (p := ⟨gb321, 4, none⟩) (Kd.R_types (Kd.R_types HO338.out BK321.out (by decide)) BK323.out (by decide)) (fun _ hk => hk.1.2) (.slice Ao61 y336.length co61)) (fun _ hk => hk.2) (.int .i64 t325)) (fun _ hk => hk.2) (.int .i64 t326)) (fun _ hk => hk.2) (.int .i64 t327)) (fun _ hk => hk.2) (.int .i64 t328)) (fun _ hk => hk.2) (.slice Ao61 y336.length co61)) (fun _ hk => trivial)), bl⟩
         ·rw [if_neg c54] at H
          exact absurd H (by simp)
        ·replace c53 := Bool.eq_false_iff.mpr c53
         subst c53
         replace H := iF H
         by_cases c64 : a1_0 = 3
         ·rw [if_pos c64] at H
          have c64b0 : (a1_0 == 3) = true := beq_iff_eq.mpr c64
          have c64b1 : (a1_0 != 3) = false := bne_eq_false_iff_eq.mpr c64
          clear c64
          obtain ⟨t339, A65, H⟩ := bd H
          by_cases c66 : t339 = true
          ·subst c66
           replace H := iT H
           obtain ⟨ji67, hji67⟩ : ∃ j_ : Int, (wrap64 ((wrap64 (a1_2 - t327)) - 1)) = j_ := ⟨_, rfl⟩
           replace H : (if 0 ≤ (ji67) then (if (ji67) ≤ (t329.length : Int) then (some (t325, t326, t327, t328, (t329.take ((ji67) : Int).toNat), true)) else (none)) else (none)) = some (r1, r2, r3, r4, r5, r6) := by first | (rw [hji67] at H; exact H) | (simp only [hji67] at H ⊢; exact H)
           (try rw [hji67] at A65)
           have hji67w : (IntKind.i64.wrap ((wrap64 (a1_2 - t327)) - 1)) = ji67 := (i64_w _).trans hji67
           by_cases c68 : 0 ≤ (ji67)
           ·rw [if_pos c68] at H
            have c68b0 := eq_true c68
            have c68b1 : decide (0 ≤ (ji67)) = true := decide_eq_true c68
            clear c68
            by_cases c69 : (ji67) ≤ (t329.length : Int)
            ·rw [if_pos c69] at H
             have c69b0 := eq_true c69
             have c69b1 : decide ((ji67) ≤ (t329.length : Int)) = true := decide_eq_true c69
             clear c69
             obtain ⟨y340, hy340⟩ : ∃ y_ : List (S51), y_ = (t329.take ((ji67) : Int).toNat) := ⟨_, rfl⟩
             replace H : (some (t325, t326, t327, t328, y340, true)) = some (r1, r2, r3, r4, r5, r6) := by first | (rw [hy340]; with_reducible exact H) | (have H2_ := (Option.bind_some _ _).symm.trans H; rw [hy340]; with_reducible exact H2_) | (have H2_ := (Option.bind_some _ _).symm.trans H; with_reducible exact H2_) | with_reducible exact H | (rw [hy340]; exact H) | exact H
             have Ny340 := Aside0.mk hy340
             clear hy340
             simp only [Option.some.injEq, Prod.mk.injEq] at H
             obtain ⟨rfl, rfl, rfl, rfl, rfl, rfl⟩ := H
             have hnb70 := NB322_321.out
             have hnc70 := NB321_322.out
             have hnb71 := NB322_323.out
             have hnc71 := NB323_322.out
             obtain ⟨Z72_0, Z72_1, Z72_2, Z72_3, Z72_4, Y72_0, Y72_1, Y72_2, Y72_3, Y72_4⟩ := cf5 BK322
             have hnb73 := NB321_323.out
             have hnc73 := NB323_321.out
             obtain ⟨Z74_0, Z74_1, Z74_2, Z74_3, Z74_4, Y74_0, Y74_1, Y74_2, Y74_3, Y74_4⟩ := cf5 BK321
             go_wp2_with (first | (go_at_call 33; (with_reducible refine (impl_from.calls a1_2 (wrap64 (t327 + 1)) (wrap64 (t327 + (t329.length : Int))) true _ A65.out).mono ?_); rintro e w' ⟨rfl, ⟨nd, rfl⟩⟩; (try (rw [drewN_self wc]; generalize hq_ : World.drewN wc _ = wc; have n0_ : Aside0 (Kd.R k51 51 wc w.heap.size (fun _ => True) (.slice Ao19 t329.length co19) t329) := ⟨by rw [← hq_]; exact (rpR HO_322004.out)⟩; have n1_ : Aside0 (wc.heap[gb321]? = some (.cells #[.int .i64 t325, .int .i64 t326, .int .i64 t327, .int .i64 t328, .slice Ao19 t329.length co19] 24 (0, 0))) := ⟨by rw [← hq_]; exact bk⟩; have n2_ : Aside0 (wc.heap[gb322]? = some (.cells #[.int .i64 a1_0, .int .i64 a1_1, .int .i64 a1_2, .int .i64 a1_3, .string a1_4] 34 (0, 0))) := ⟨by rw [← hq_]; exact bk⟩; have n3_ : Aside0 (wc.heap[gb323]? = some (.cells #[.int .i64 0, .int .i64 0, .int .i64 0, .int .i64 0, .slice none 0 0] 24 (0, 0))) := ⟨by rw [← hq_]; exact bk⟩; have n4_ : Aside0 (Below w.heap.size w wc) := ⟨by rw [← hq_]; exact bl⟩; clear HO_322004 BK321 BK322 BK323 HB hq_; have HO_322004 := n0_; have BK321 := n1_; have BK322 := n2_; have BK323 := n3_; have HB := n4_; clear n0_ n1_ n2_ n3_ n4_)); have q75 : ((ji67) : Int) ≤ ((t329.length : Int) : Int) := of_decide_eq_true am; obtain ⟨i075, hi075, _, hsz75, _⟩ := info_parts info51; have hcut75 := cut_to (P := Try.prog) 22 51 .i64 Try.underlying22 hi075 Ao19 t329.length co19 (ji67) (of_decide_eq_true am) q75 (Kd.R_reads' HO_322004.out).2.1; have hr75 := Kd.R_take (m := ((ji67) : Int).toNat) HO_322004.out (by omega); have hy75 : y340.length = ((ji67) : Int).toNat := (by rw [Ny340.out, List.length_take]; omega); rw [← Ny340.out] at hr75; rw [← hy75] at hr75 hcut75; clear hy75 hi075 hsz75 HO_322004; have HO342 := Aside0.mk hr75; clear hr75; replace q75 := eq_true q75; obtain ⟨Z76_0, Z76_1, Z76_2, Z76_3, Z76_4, Y76_0, Y76_1, Y76_2, Y76_3, Y76_4⟩ := cf5 BK323; obtain ⟨X0321_0, X0321_1, X0321_2, X0321_3, X0321_4, W0321_0, W0321_1, W0321_2, W0321_3, W0321_4⟩ := cf5 BK321; obtain ⟨X1322_0, X1322_1, X1322_2, X1322_3, X1322_4, W1322_0, W1322_1, W1322_2, W1322_3, W1322_4⟩ := cf5 BK322))
             refine bodyPost_ret (results_ct rfl _ _ gb323 24 #[.int .i64 t325, .int .i64 t326, .int .i64 t327, .int .i64 t328, .slice Ao19 y340.length co19] (0, 0) _ rfl bkk Try.underlying24 rfl (by kernel_rfl)) rfl ?_
             exact ⟨_, by first | rfl | (simp [errW_none, errW_some] <;> rfl) | (simp only [← hji67]; first | rfl | (simp [errW_none, errW_some] <;> rfl)) | (simp [*, errW_none, errW_some] <;> rfl), rpR (Kd.R_mono (Kd.R_far (p := ⟨gb323, 4, none⟩) (Kd.R_far (p := ⟨gb323, 3, none⟩) (Kd.R_far (p := ⟨gb323, 2, none⟩) (Kd.R_far (p := ⟨gb323, 1, none⟩) (Kd.R_far (p := ⟨gb323, 0, none⟩) (Kd.R_far (p := ⟨gb321, 4, none⟩) (Kd.R_types (Kd.R_types HO342.out BK321.out (by decide)) BK323.out (by decide)) (fun _ hk => hk.1.2) (.slice Ao19 y340.length co19)) (fun _ hk => hk.2) (.int .i64 t325)) (fun _ hk => hk.2) (.int .i64 t326)) (fun _ hk => hk.2) (.int .i64 t327)) (fun _ hk => hk.2) (.int .i64 t328)) (fun _ hk => hk.2) (.slice Ao19 y340.length co19)) (fun _ hk => trivial)), bl⟩
            ·rw [if_neg c69] at H
             exact absurd H (by simp)
           ·rw [if_neg c68] at H
            exact absurd H (by simp)
          ·replace c66 := Bool.eq_false_iff.mpr c66
           subst c66
           replace H := iF H
           simp only [Option.some.injEq, Prod.mk.injEq] at H
           obtain ⟨rfl, rfl, rfl, rfl, rfl, rfl⟩ := H
           have hnb77 := NB322_321.out
           have hnc77 := NB321_322.out
           have hnb78 := NB322_323.out
           have hnc78 := NB323_322.out
           obtain ⟨Z79_0, Z79_1, Z79_2, Z79_3, Z79_4, Y79_0, Y79_1, Y79_2, Y79_3, Y79_4⟩ := cf5 BK322
           have hnb80 := NB321_323.out
           have hnc80 := NB323_321.out
           obtain ⟨Z81_0, Z81_1, Z81_2, Z81_3, Z81_4, Y81_0, Y81_1, Y81_2, Y81_3, Y81_4⟩ := cf5 BK321
           go_wp2_with (first | (go_at_call 33; (with_reducible refine (impl_from.calls a1_2 (wrap64 (t327 + 1)) (wrap64 (t327 + (t329.length : Int))) false _ A65.out).mono ?_); rintro e w' ⟨rfl, ⟨nd, rfl⟩⟩; (try (rw [drewN_self wc]; generalize hq_ : World.drewN wc _ = wc; have n0_ : Aside0 (Kd.R k51 51 wc w.heap.size (fun _ => True) (.slice Ao19 t329.length co19) t329) := ⟨by rw [← hq_]; exact (rpR HO_322004.out)⟩; have n1_ : Aside0 (wc.heap[gb321]? = some (.cells #[.int .i64 t325, .int .i64 t326, .int .i64 t327, .int .i64 t328, .slice Ao19 t329.length co19] 24 (0, 0))) := ⟨by rw [← hq_]; exact bk⟩; have n2_ : Aside0 (wc.heap[gb322]? = some (.cells #[.int .i64 a1_0, .int .i64 a1_1, .int .i64 a1_2, .int .i64 a1_3, .string a1_4] 34 (0, 0))) := ⟨by rw [← hq_]; exact bk⟩; have n3_ : Aside0 (wc.heap[gb323]? = some (.cells #[.int .i64 0, .int .i64 0, .int .i64 0, .int .i64 0, .slice none 0 0] 24 (0, 0))) := ⟨by rw [← hq_]; exact bk⟩; have n4_ : Aside0 (Below w.heap.size w wc) := ⟨by rw [← hq_]; exact bl⟩; clear HO_322004 BK321 BK322 BK323 HB hq_; have HO_322004 := n0_; have BK321 := n1_; have BK322 := n2_; have BK323 := n3_; have HB := n4_; clear n0_ n1_ n2_ n3_ n4_)); obtain ⟨Z82_0, Z82_1, Z82_2, Z82_3, Z82_4, Y82_0, Y82_1, Y82_2, Y82_3, Y82_4⟩ := cf5 BK323; obtain ⟨X0321_0, X0321_1, X0321_2, X0321_3, X0321_4, W0321_0, W0321_1, W0321_2, W0321_3, W0321_4⟩ := cf5 BK321; obtain ⟨X1322_0, X1322_1, X1322_2, X1322_3, X1322_4, W1322_0, W1322_1, W1322_2, W1322_3, W1322_4⟩ := cf5 BK322))
           refine bodyPost_ret (results_ct rfl _ _ gb323 24 #[.int .i64 t325, .int .i64 t326, .int .i64 t327, .int .i64 t328, .slice Ao19 t329.length co19] (0, 0) _ rfl bkk Try.underlying24 rfl (by kernel_rfl)) rfl ?_
           exact ⟨_, fe, rpR (Kd.R_mono (Kd.R_far (p := ⟨gb323, 4, none⟩) (Kd.R_far (p := ⟨gb323, 3, none⟩) (Kd.R_far (p := ⟨gb323, 2, none⟩) (Kd.R_far (p := ⟨gb323, 1, none⟩) (Kd.R_far (p := ⟨gb323, 0, none⟩) (Kd.R_types HO_322004.out BK323.out (by decide)) (fun _ hk => hk.2) (.int .i64 t325)) (fun _ hk => hk.2) (.int .i64 t326)) (fun _ hk => hk.2) (.int .i64 t327)) (fun _ hk => hk.2) (.int .i64 t328)) (fun _ hk => hk.2) (.slice Ao19 t329.length co19)) (fun _ hk => trivial)), bl⟩
         ·rw [if_neg c64] at H
          have c64b0 : (a1_0 == 3) = false := beq_eq_false_iff_ne.mpr c64
          have c64b1 : (a1_0 != 3) = true := bne_iff_ne.mpr c64
          simp only [Option.some.injEq, Prod.mk.injEq] at H
          obtain ⟨rfl, rfl, rfl, rfl, rfl, rfl⟩ := H
          have hnb83 := NB322_321.out
          have hnc83 := NB321_322.out
          have hnb84 := NB322_323.out
          have hnc84 := NB323_322.out
          obtain ⟨Z85_0, Z85_1, Z85_2, Z85_3, Z85_4, Y85_0, Y85_1, Y85_2, Y85_3, Y85_4⟩ := cf5 BK322
          have hnb86 := NB321_323.out
          have hnc86 := NB323_321.out
          obtain ⟨Z87_0, Z87_1, Z87_2, Z87_3, Z87_4, Y87_0, Y87_1, Y87_2, Y87_3, Y87_4⟩ := cf5 BK321; obtain ⟨Z88_0, Z88_1, Z88_2, Z88_3, Z88_4, Y88_0, Y88_1, Y88_2, Y88_3, Y88_4⟩ := cf5 BK323
          go_wp2
          refine bodyPost_ret (results_ct rfl _ _ gb323 24 #[.int .i64 t325, .int .i64 t326, .int .i64 t327, .int .i64 t328, .slice Ao19 t329.length co19] (0, 0) _ rfl bkk Try.underlying24 rfl (by kernel_rfl)) rfl ?_
          exact ⟨_, fe, rpR (Kd.R_mono (Kd.R_far (p := ⟨gb323, 4, none⟩) (Kd.R_far (p := ⟨gb323, 3, none⟩) (Kd.R_far (p := ⟨gb323, 2, none⟩) (Kd.R_far (p := ⟨gb323, 1, none⟩) (Kd.R_far (p := ⟨gb323, 0, none⟩) (Kd.R_types HO_322004.out BK323.out (by decide)) (fun _ hk => hk.2) (.int .i64 t325)) (fun _ hk => hk.2) (.int .i64 t326)) (fun _ hk => hk.2) (.int .i64 t327)) (fun _ hk => hk.2) (.int .i64 t328)) (fun _ hk => hk.2) (.slice Ao19 t329.length co19)) (fun _ hk => trivial)), bl⟩
  ·replace c7 := Bool.eq_false_iff.mpr c7
   subst c7
   replace H := iF H
   simp only [Option.some.injEq, Prod.mk.injEq] at H
   obtain ⟨rfl, rfl, rfl, rfl, rfl, rfl⟩ := H
   go_enter Try.func14, Try.ntmps14
   go_wp2_with (first | ((with_reducible refine gD 2 rfl ?_); (try (refine gate_guard rfl ?_; dsimp only)); refine boxZ 2 #[.int .i64 a0_0, .int .i64 a0_1, .int .i64 a0_2, .int .i64 a0_3, .slice A0_4 l0_4.length c0_4] 24 ?_; intro gb321 hg w89 hbox hb; have BK321 := Aside0.mk hbox; have GW321 := gw (w := w) hg; have GE321 := gw (w := w) hg; replace HB := bs (w := w) hb; clear hb hbox hg) | ((with_reducible refine gD 3 rfl ?_); (try (refine gate_guard rfl ?_; dsimp only)); refine boxZ 3 #[.int .i64 a1_0, .int .i64 a1_1, .int .i64 a1_2, .int .i64 a1_3, .string a1_4] 34 ?_; intro gb322 hg w90 hbox hb; have BK322 := Aside0.mk hbox; have GW322 := gw (w := w) hg; have GE322 := gw (w := w) hg; replace HB := bs (w := w) hb; have NB321_322 := nl BK321 hg; have NB322_321 := nr BK321 hg; replace BK321 := bv BK321 hb; clear hb hbox hg) | ((with_reducible refine gD 4 rfl ?_); (try (refine gate_guard rfl ?_; dsimp only)); refine boxZ 4 #[.int .i64 0, .int .i64 0, .int .i64 0, .int .i64 0, .slice none 0 0] 24 ?_; intro gb323 hg w91 hbox hb; have BK323 := Aside0.mk hbox; have GW323 := gw (w := w) hg; have GE323 := gw (w := w) hg; replace HB := bs (w := w) hb; have NB321_323 := nl BK321 hg; have NB323_321 := nr BK321 hg; replace BK321 := bv BK321 hb; have NB322_323 := nl BK322 hg; have NB323_322 := nr BK322 hg; replace BK322 := bv BK322 hb; clear hb hbox hg; have hnb92 := NB321_322.out; have hnc92 := NB322_321.out; have hnb93 := NB321_323.out; have hnc93 := NB323_321.out; obtain ⟨Z94_0, Z94_1, Z94_2, Z94_3, Z94_4, Y94_0, Y94_1, Y94_2, Y94_3, Y94_4⟩ := cf5 BK321) | ((with_reducible refine gC 29 rfl ?_); refine goesZ (some 8) rfl Try.func29 #[.agg #[.int .i64 a0_0, .int .i64 a0_1, .int .i64 a0_2, .int .i64 a0_3, .slice A0_4 l0_4.length c0_4]] ?_; (with_reducible refine (impl_WalOk.calls k a0_0 a0_1 a0_2 a0_3 _ _ l0_4 true _ ?side1 ?side2 A3.out).mono ?_); (case side1 => exact ca (Kd.C_below HR0_4.out HB.out)); (case side2 => exact HC0_4.out); rintro e w95 ⟨rfl, hb⟩; refine ⟨_, rfl, ?_⟩; replace BK321 := bv BK321 hb; replace BK322 := bv BK322 hb; replace BK323 := bv BK323 hb; replace HB := bs (w := w) hb; (try clear hb); obtain ⟨Z96_0, Z96_1, Z96_2, Z96_3, Z96_4, Y96_0, Y96_1, Y96_2, Y96_3, Y96_4⟩ := cf5 BK321) | ((with_reducible refine gC 30 rfl ?_); refine goesZ (some 12) rfl Try.func30 #[.agg #[.int .i64 a0_0, .int .i64 a0_1, .int .i64 a0_2, .int .i64 a0_3, .slice A0_4 l0_4.length c0_4]] ?_; (with_reducible refine (impl_copyWal.calls a0_0 a0_1 a0_2 a0_3 _ _ l0_4 t325 t326 t327 t328 t329 _ ?side1 ?side2 A5.out).mono ?_); (case side1 => exact ca (Kd.C_below HR0_4.out HB.out)); (case side2 => exact HC0_4.out); rintro e w97 ⟨v330, rfl, ho0, hb⟩; refine ⟨_, rfl, ?_⟩; have HO331 := Aside0.mk (Kd.R_lower ho0 (below_size bl)); replace BK321 := bv BK321 hb; replace BK322 := bv BK322 hb; replace BK323 := bv BK323 hb; replace HB := bs (w := w) hb; (try clear hb ho0); obtain ⟨Z98_0, Z98_1, Z98_2, Z98_3, Z98_4, Y98_0, Y98_1, Y98_2, Y98_3, Y98_4⟩ := cf5 BK321; obtain ⟨Ao99, co99, rfl⟩ := Kd.R_slice HO331.out; have hnb100 := NB322_323.out; have hnc100 := NB323_322.out; obtain ⟨Z101_0, Z101_1, Z101_2, Z101_3, Z101_4, Y101_0, Y101_1, Y101_2, Y101_3, Y101_4⟩ := cf5 BK322) | ((with_reducible refine gC 31 rfl ?_); refine goesZ (some 14) rfl Try.func31 #[.agg #[.int .i64 a1_0, .int .i64 a1_1, .int .i64 a1_2, .int .i64 a1_3, .string a1_4]] ?_; (with_reducible refine (impl_RecOk.calls a1_0 a1_1 a1_2 a1_3 a1_4 false _ A6.out).mono ?_); rintro e w102 ⟨rfl, hb⟩; refine ⟨_, rfl, ?_⟩; replace HO331 := Aside0.mk (Kd.R_below (rpR (Kd.R_mono (Kd.R_far (p := ⟨gb321, 4, none⟩) (Kd.R_far (p := ⟨gb321, 3, none⟩) (Kd.R_far (p := ⟨gb321, 2, none⟩) (Kd.R_far (p := ⟨gb321, 1, none⟩) (Kd.R_far (p := ⟨gb321, 0, none⟩) (Kd.R_types HO331.out BK321.out (by decide)) (fun _ hk => hk.2) (.int .i64 t325)) (fun _ hk => hk.2) (.int .i64 t326)) (fun _ hk => hk.2) (.int .i64 t327)) (fun _ hk => hk.2) (.int .i64 t328)) (fun _ hk => hk.2) (.slice Ao99 t329.length co99)) (fun _ h_ => h_.1))) hb); replace BK321 := Aside0.mk (blk_below (g := gb321) (o := .cells #[.int .i64 t325, .int .i64 t326, .int .i64 t327, .int .i64 t328, .slice Ao99 t329.length co99] 24 (0, 0)) bkk hb); replace BK322 := Aside0.mk (blk_below (g := gb322) (o := .cells #[.int .i64 a1_0, .int .i64 a1_1, .int .i64 a1_2, .int .i64 a1_3, .string a1_4] 34 (0, 0)) bkk hb); replace BK323 := Aside0.mk (blk_below (g := gb323) (o := .cells #[.int .i64 0, .int .i64 0, .int .i64 0, .int .i64 0, .slice none 0 0] 24 (0, 0)) bkk hb); replace HB := bs (w := w) hb; (try clear hb); obtain ⟨Z103_0, Z103_1, Z103_2, Z103_3, Z103_4, Y103_0, Y103_1, Y103_2, Y103_3, Y103_4⟩ := cf5 BK321; obtain ⟨Z104_0, Z104_1, Z104_2, Z104_3, Z104_4, Y104_0, Y104_1, Y104_2, Y104_3, Y104_4⟩ := cf5 BK323))
   refine bodyPost_ret (results_ct rfl _ _ gb323 24 #[.int .i64 t325, .int .i64 t326, .int .i64 t327, .int .i64 t328, .slice Ao99 t329.length co99] (0, 0) _ rfl bkk Try.underlying24 rfl (by kernel_rfl)) rfl ?_
   exact ⟨_, fe, rpR (Kd.R_mono (Kd.R_far (p := ⟨gb323, 4, none⟩) (Kd.R_far (p := ⟨gb323, 3, none⟩) (Kd.R_far (p := ⟨gb323, 2, none⟩) (Kd.R_far (p := ⟨gb323, 1, none⟩) (Kd.R_far (p := ⟨gb323, 0, none⟩) (Kd.R_types HO331.out BK323.out (by decide)) (fun _ hk => hk.2) (.int .i64 t325)) (fun _ hk => hk.2) (.int .i64 t326)) (fun _ hk => hk.2) (.int .i64 t327)) (fun _ hk => hk.2) (.int .i64 t328)) (fun _ hk => hk.2) (.slice Ao99 t329.length co99)) (fun _ hk => trivial)), bl⟩
 ·replace c4 := Bool.eq_false_iff.mpr c4
  subst c4
  replace H := iF H
  simp only [Option.some.injEq, Prod.mk.injEq] at H
  obtain ⟨rfl, rfl, rfl, rfl, rfl, rfl⟩ := H
  go_enter Try.func14, Try.ntmps14
  go_wp2_with (first | ((with_reducible refine gD 2 rfl ?_); (try (refine gate_guard rfl ?_; dsimp only)); refine boxZ 2 #[.int .i64 a0_0, .int .i64 a0_1, .int .i64 a0_2, .int .i64 a0_3, .slice A0_4 l0_4.length c0_4] 24 ?_; intro gb321 hg w105 hbox hb; have BK321 := Aside0.mk hbox; have GW321 := gw (w := w) hg; have GE321 := gw (w := w) hg; replace HB := bs (w := w) hb; clear hb hbox hg) | ((with_reducible refine gD 3 rfl ?_); (try (refine gate_guard rfl ?_; dsimp only)); refine boxZ 3 #[.int .i64 a1_0, .int .i64 a1_1, .int .i64 a1_2, .int .i64 a1_3, .string a1_4] 34 ?_; intro gb322 hg w106 hbox hb; have BK322 := Aside0.mk hbox; have GW322 := gw (w := w) hg; have GE322 := gw (w := w) hg; replace HB := bs (w := w) hb; have NB321_322 := nl BK321 hg; have NB322_321 := nr BK321 hg; replace BK321 := bv BK321 hb; clear hb hbox hg) | ((with_reducible refine gD 4 rfl ?_); (try (refine gate_guard rfl ?_; dsimp only)); refine boxZ 4 #[.int .i64 0, .int .i64 0, .int .i64 0, .int .i64 0, .slice none 0 0] 24 ?_; intro gb323 hg w107 hbox hb; have BK323 := Aside0.mk hbox; have GW323 := gw (w := w) hg; have GE323 := gw (w := w) hg; replace HB := bs (w := w) hb; have NB321_323 := nl BK321 hg; have NB323_321 := nr BK321 hg; replace BK321 := bv BK321 hb; have NB322_323 := nl BK322 hg; have NB323_322 := nr BK322 hg; replace BK322 := bv BK322 hb; clear hb hbox hg; have hnb108 := NB321_322.out; have hnc108 := NB322_321.out; have hnb109 := NB321_323.out; have hnc109 := NB323_321.out; obtain ⟨Z110_0, Z110_1, Z110_2, Z110_3, Z110_4, Y110_0, Y110_1, Y110_2, Y110_3, Y110_4⟩ := cf5 BK321) | ((with_reducible refine gC 29 rfl ?_); refine goesZ (some 8) rfl Try.func29 #[.agg #[.int .i64 a0_0, .int .i64 a0_1, .int .i64 a0_2, .int .i64 a0_3, .slice A0_4 l0_4.length c0_4]] ?_; (with_reducible refine (impl_WalOk.calls k a0_0 a0_1 a0_2 a0_3 _ _ l0_4 false _ ?side1 ?side2 A3.out).mono ?_); (case side1 => exact ca (Kd.C_below HR0_4.out HB.out)); (case side2 => exact HC0_4.out); rintro e w111 ⟨rfl, hb⟩; refine ⟨_, rfl, ?_⟩; replace BK321 := bv BK321 hb; replace BK322 := bv BK322 hb; replace BK323 := bv BK323 hb; replace HB := bs (w := w) hb; (try clear hb); have hnb112 := NB323_322.out; have hnc112 := NB322_323.out; obtain ⟨Z113_0, Z113_1, Z113_2, Z113_3, Z113_4, Y113_0, Y113_1, Y113_2, Y113_3, Y113_4⟩ := cf5 BK323))
  refine bodyPost_ret (results_ct rfl _ _ gb323 24 #[.int .i64 0, .int .i64 0, .int .i64 0, .int .i64 0, .slice none 0 0] (0, 0) _ rfl bkk Try.underlying24 rfl (by kernel_rfl)) rfl ?_
  exact ⟨_, fe, by first | exact Kd.R_nil _ _ _ _ _ | exact Kd.N_nil _ _ _ _ _ | exact Kd.V_nil _ _ _ _ _ | exact Kd.Q_nil _ _ _ _ _ | exact Kd.S_nil _ _ _ _ _, bl⟩

end Go.Proofs.Ytflegbpgkkiijaa.PFnExactReplay
