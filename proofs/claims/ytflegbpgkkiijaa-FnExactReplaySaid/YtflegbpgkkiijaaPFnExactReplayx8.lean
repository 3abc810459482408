-- PRINTED by print.py (a twelfth state) out of the translation. Not trusted: Lean checks it.
import Derived.Test.YtflegbpgkkiijaaPFnExactReplayx0
import Derived.Test.YtflegbpgkkiijaaPFnExactReplayx3
import Derived.Test.YtflegbpgkkiijaaPFnExactReplayx6
import Derived.Test.YtflegbpgkkiijaaPFnExactReplayx7
import Derived.Test.YtflegbpgkkiijaaZip
namespace Go.Proofs.Ytflegbpgkkiijaa.PFnExactReplay
open Go.RowKit Go.Proofs.YtflegbpgkkiijaaW.PrintWords Go.Proofs.YtflegbpgkkiijaaW.PrintLast Go.Proofs.YtflegbpgkkiijaaW.PrintMore Go.Proofs.Ytflegbpgkkiijaa.Zip
attribute [local go_sem] max2_int min2_int max_two min_two max_three min_three max_four min_four   -- for this text's walks alone
set_option linter.unusedVariables false
set_option linter.unusedSimpArgs false

/-! ### spec_WalStep: function 11 -/
def spec_WalStep.j0 : Nat → Bool → Int → Int → Int → Int → List (S51) → Int → Int → Int → Int → ByteArray → Option (Int × Int × Int × Int × (List (S51)) × Bool)
 | 0, _, _, _, _, _, _, _, _, _, _, _ => none
 | k + 1, x20, x178000, x178001, x178002, x178003, x178004, x179000, x179001, x179002, x179003, x179004 => if x20 = true then (some (x178000, x178001, x178002, x178003, x178004, false)) else (if x179000 = 1 then (some (x179001, x179003, x178002, x178003, x178004, true)) else (if x179000 = 2 then (if x178004.length < 5864062014805 then (some (x178000, x178001, x178002, x178003, (x178004 ++ [(⟨x179001, x179004⟩ : S51)]), true)) else (none)) else (if 0 ≤ (wrap64 ((wrap64 (x179002 - x178002)) - 1)) then (if (wrap64 ((wrap64 (x179002 - x178002)) - 1)) ≤ (x178004.length : Int) then (some (x178000, x178001, x178002, x178003, (x178004.take ((wrap64 ((wrap64 (x179002 - x178002)) - 1)) : Int).toNat), true)) else (none)) else (none))))
def spec_WalStep.f (k : Nat) (a0_0 : Int) (a0_1 : Int) (a0_2 : Int) (a0_3 : Int) (l0_4 : List (S51)) (a1_0 : Int) (a1_1 : Int) (a1_2 : Int) (a1_3 : Int) (a1_4 : ByteArray) : Option (Int × Int × Int × Int × (List (S51)) × Bool) := (spec_WalOk.f k a0_0 a0_1 a0_2 a0_3 l0_4).bind fun t180 => (if t180 = true then ((spec_l5Copy.f a0_0 a0_1 a0_2 a0_3 l0_4).bind fun bt181 => ((spec_RecOk.f a1_0 a1_1 a1_2 a1_3 a1_4).bind fun t188 => (if t188 = true then ((spec_l5Fits.f bt181.1 bt181.2.1 bt181.2.2.1 bt181.2.2.2.1 bt181.2.2.2.2 a1_0 a1_1 a1_2 a1_3 a1_4).bind fun t189 => (spec_WalStep.j0 k (!t189) bt181.1 bt181.2.1 bt181.2.2.1 bt181.2.2.2.1 bt181.2.2.2.2 a1_0 a1_1 a1_2 a1_3 a1_4)) else (spec_WalStep.j0 k true bt181.1 bt181.2.1 bt181.2.2.1 bt181.2.2.2.1 bt181.2.2.2.2 a1_0 a1_1 a1_2 a1_3 a1_4)))) else (some (0, 0, 0, 0, ([] : List (S51)), false)))
theorem spec_WalStep.mono_l : ∀ k, (∀ y0 y1 y2 y3 y4 y5 y6 y7 y8 y9 y10, LeO (spec_WalStep.j0 k y0 y1 y2 y3 y4 y5 y6 y7 y8 y9 y10) (spec_WalStep.j0 (k + 1) y0 y1 y2 y3 y4 y5 y6 y7 y8 y9 y10))
 | 0 => fun _ _ _ _ _ _ _ _ _ _ _ r h => by simp [spec_WalStep.j0] at h
 | k + 1 => by
  have ih0 := spec_WalStep.mono_l k
  ·intro y0 y1 y2 y3 y4 y5 y6 y7 y8 y9 y10
   unfold spec_WalStep.j0
   repeat' first
   | (with_reducible exact ih0 _ _ _ _ _ _ _ _ _ _ _)
   | (with_reducible exact spec_WalOk.mono _ _ _ _ _ _)
   | (with_reducible exact LeO.refl _)
   | (with_reducible exact LeO.none _)
   | (with_reducible refine LeO.ite ?_ ?_)
   | (with_reducible refine LeO.bind ?_ (fun _ => ?_))
   | exact ih0 _ _ _ _ _ _ _ _ _ _ _
   | exact spec_WalOk.mono _ _ _ _ _ _
   | exact LeO.none _
   | refine LeO.ite ?_ ?_
   | refine LeO.bind ?_ (fun _ => ?_)
theorem spec_WalStep.mono : ∀ a0 a1 a2 a3 a4 a5 a6 a7 a8 a9 k, LeO (spec_WalStep.f k a0 a1 a2 a3 a4 a5 a6 a7 a8 a9) (spec_WalStep.f (k + 1) a0 a1 a2 a3 a4 a5 a6 a7 a8 a9) := by
 intro a0 a1 a2 a3 a4 a5 a6 a7 a8 a9 k
 have ih0 := spec_WalStep.mono_l k
 unfold spec_WalStep.f
 repeat' first
  | (with_reducible exact ih0 _ _ _ _ _ _ _ _ _ _ _)
  | (with_reducible exact spec_WalOk.mono _ _ _ _ _ _)
  | (with_reducible exact LeO.refl _)
  | (with_reducible exact LeO.none _)
  | (with_reducible refine LeO.ite ?_ ?_)
  | (with_reducible refine LeO.bind ?_ (fun _ => ?_))
  | exact ih0 _ _ _ _ _ _ _ _ _ _ _
  | exact spec_WalOk.mono _ _ _ _ _ _
  | exact LeO.none _
  | refine LeO.ite ?_ ?_
  | refine LeO.bind ?_ (fun _ => ?_)
set_option maxHeartbeats 8000000 in
set_option maxRecDepth 100000 in
theorem spec_WalStep.calls (k : Nat) (a0_0 : Int) (a0_1 : Int) (a0_2 : Int) (a0_3 : Int) (A0_4 : Option Addr) (c0_4 : Nat) (l0_4 : List (S51)) (a1_0 : Int) (a1_1 : Int) (a1_2 : Int) (a1_3 : Int) (a1_4 : ByteArray) (r1 : Int) (r2 : Int) (r3 : Int) (r4 : Int) (r5 : List (S51)) (r6 : Bool) (w : World) (hr0_4 : Kd.C k51 w A0_4 l0_4.length l0_4) (hc0_4 : l0_4.length ≤ c0_4) (h : spec_WalStep.f k a0_0 a0_1 a0_2 a0_3 l0_4 a1_0 a1_1 a1_2 a1_3 a1_4 = some (r1, r2, r3, r4, r5, r6)) :
 Calls Try.prog 11 #[.agg #[.int .i64 a0_0, .int .i64 a0_1, .int .i64 a0_2, .int .i64 a0_3, .slice A0_4 l0_4.length c0_4], .agg #[.int .i64 a1_0, .int .i64 a1_1, .int .i64 a1_2, .int .i64 a1_3, .string a1_4]] w fun e w' => ∃ v4_ : Value, e = .returned (.tuple #[.agg #[.int .i64 r1, .int .i64 r2, .int .i64 r3, .int .i64 r4, v4_], .bool r6]) ∧ Kd.R k51 51 w' w.heap.size (fun _ => True) v4_ r5 ∧ Below w.heap.size w w' := by
 have hu24 := Try.underlying24
 have hu34 := Try.underlying34
 have hu51 := Try.underlying51
 have HR0_4 := Aside0.mk hr0_4
 have HC0_4 := Aside0.mk hc0_4
 clear hr0_4 hc0_4
 have HB := Aside0.mk (Below.refl w.heap.size w)
 have H : ((spec_WalOk.f k a0_0 a0_1 a0_2 a0_3 l0_4).bind fun t180 => (if t180 = true then ((spec_l5Copy.f a0_0 a0_1 a0_2 a0_3 l0_4).bind fun bt181 => ((spec_RecOk.f a1_0 a1_1 a1_2 a1_3 a1_4).bind fun t188 => (if t188 = true then ((spec_l5Fits.f bt181.1 bt181.2.1 bt181.2.2.1 bt181.2.2.2.1 bt181.2.2.2.2 a1_0 a1_1 a1_2 a1_3 a1_4).bind fun t189 => (spec_WalStep.j0 k (!t189) bt181.1 bt181.2.1 bt181.2.2.1 bt181.2.2.2.1 bt181.2.2.2.2 a1_0 a1_1 a1_2 a1_3 a1_4)) else (spec_WalStep.j0 k true bt181.1 bt181.2.1 bt181.2.2.1 bt181.2.2.2.1 bt181.2.2.2.2 a1_0 a1_1 a1_2 a1_3 a1_4)))) else (some (0, 0, 0, 0, ([] : List (S51)), false)))) = some (r1, r2, r3, r4, r5, r6) := h
 clear h
 obtain ⟨t180, A3, H⟩ := bd H
 by_cases c4 : t180 = true
 ·subst c4
  replace H := iT H
  replace H := Option.bind_eq_some_iff.mp H
  obtain ⟨⟨t181, t182, t183, t184, t185⟩, A50, H⟩ := H
  replace H : ((spec_RecOk.f a1_0 a1_1 a1_2 a1_3 a1_4).bind fun t188 => (if t188 = true then ((spec_l5Fits.f t181 t182 t183 t184 t185 a1_0 a1_1 a1_2 a1_3 a1_4).bind fun t189 => (spec_WalStep.j0 k (!t189) t181 t182 t183 t184 t185 a1_0 a1_1 a1_2 a1_3 a1_4)) else (spec_WalStep.j0 k true t181 t182 t183 t184 t185 a1_0 a1_1 a1_2 a1_3 a1_4))) = some (r1, r2, r3, r4, r5, r6) := H
  have A5 := Aside0.mk A50
  clear A50
  have HC6 := Aside0.mk H
  clear H
  go_enter Try.func11, Try.ntmps11
  go_upto_region 4 with (first | ((with_reducible refine gD 2 rfl ?_); refine boxZ 2 #[.int .i64 a0_0, .int .i64 a0_1, .int .i64 a0_2, .int .i64 a0_3, .slice A0_4 l0_4.length c0_4] 24 ?_; intro gb177 hg w7 hbox hb; have BK177 := Aside0.mk hbox; have GW177 := gw (w := w) hg; have GE177 := gw (w := w) hg; replace HB := bs (w := w) hb; clear hb hbox hg) | ((with_reducible refine gD 3 rfl ?_); refine boxZ 3 #[.int .i64 a1_0, .int .i64 a1_1, .int .i64 a1_2, .int .i64 a1_3, .string a1_4] 34 ?_; intro gb178 hg w8 hbox hb; have BK178 := Aside0.mk hbox; have GW178 := gw (w := w) hg; have GE178 := gw (w := w) hg; replace HB := bs (w := w) hb; have NB177_178 := nl BK177 hg; have NB178_177 := nr BK177 hg; replace BK177 := bv BK177 hb; clear hb hbox hg) | ((with_reducible refine gD 4 rfl ?_); refine boxZ 4 #[.int .i64 0, .int .i64 0, .int .i64 0, .int .i64 0, .slice none 0 0] 24 ?_; intro gb179 hg w9 hbox hb; have BK179 := Aside0.mk hbox; have GW179 := gw (w := w) hg; have GE179 := gw (w := w) hg; replace HB := bs (w := w) hb; have NB177_179 := nl BK177 hg; have NB179_177 := nr BK177 hg; replace BK177 := bv BK177 hb; have NB178_179 := nl BK178 hg; have NB179_178 := nr BK178 hg; replace BK178 := bv BK178 hb; clear hb hbox hg; have hnb10 := NB177_178.out; have hnc10 := NB178_177.out; have hnb11 := NB177_179.out; have hnc11 := NB179_177.out; obtain ⟨Z12_0, Z12_1, Z12_2, Z12_3, Z12_4, Y12_0, Y12_1, Y12_2, Y12_3, Y12_4⟩ := cf5 BK177) | ((with_reducible refine gC 21 rfl ?_); refine goesZ (some 7) rfl Try.func21 #[.agg #[.int .i64 a0_0, .int .i64 a0_1, .int .i64 a0_2, .int .i64 a0_3, .slice A0_4 l0_4.length c0_4]] ?_; (with_reducible refine (spec_WalOk.calls k a0_0 a0_1 a0_2 a0_3 _ _ l0_4 true _ ?side1 ?side2 A3.out).mono ?_); (case side1 => exact ca (Kd.C_below HR0_4.out HB.out)); (case side2 => exact HC0_4.out); rintro e w13 ⟨rfl, hb⟩; refine ⟨_, rfl, ?_⟩; replace BK177 := bv BK177 hb; replace BK178 := bv BK178 hb; replace BK179 := bv BK179 hb; replace HB := bs (w := w) hb; (try clear hb); obtain ⟨Z14_0, Z14_1, Z14_2, Z14_3, Z14_4, Y14_0, Y14_1, Y14_2, Y14_3, Y14_4⟩ := cf5 BK177) | ((with_reducible refine gC 22 rfl ?_); refine goesZ (some 11) rfl Try.func22 #[.agg #[.int .i64 a0_0, .int .i64 a0_1, .int .i64 a0_2, .int .i64 a0_3, .slice A0_4 l0_4.length c0_4]] ?_; (with_reducible refine (spec_l5Copy.calls a0_0 a0_1 a0_2 a0_3 _ _ l0_4 t181 t182 t183 t184 t185 _ ?side1 ?side2 A5.out).mono ?_); (case side1 => exact ca (Kd.C_below HR0_4.out HB.out)); (case side2 => exact HC0_4.out); rintro e w15 ⟨v186, rfl, ho0, hb⟩; refine ⟨_, rfl, ?_⟩; have HO187 := Aside0.mk (Kd.R_lower ho0 (below_size bl)); replace BK177 := bv BK177 hb; replace BK178 := bv BK178 hb; replace BK179 := bv BK179 hb; replace HB := bs (w := w) hb; (try clear hb ho0); obtain ⟨Z16_0, Z16_1, Z16_2, Z16_3, Z16_4, Y16_0, Y16_1, Y16_2, Y16_3, Y16_4⟩ := cf5 BK177; obtain ⟨Ao17, co17, rfl⟩ := Kd.R_slice HO187.out))
  (try simp only [Act.put, List.setIfInBounds_toArray, List.set_cons_zero, List.set_cons_succ])
  go_cut [20] (fun v20 wc => ∃ (kq : Nat) (x20_5 : Bool), v20 = .bool x20_5 ∧ Aside0 (spec_WalStep.j0 kq x20_5 t181 t182 t183 t184 t185 a1_0 a1_1 a1_2 a1_3 a1_4 = some (r1, r2, r3, r4, r5, r6)) ∧ Aside0 (kq ≤ k) ∧ Aside0 (Kd.R k51 51 wc w.heap.size (fun _ => True) (.slice Ao17 t185.length co17) t185) ∧ Aside0 (wc.heap[gb177]? = some (.cells #[.int .i64 t181, .int .i64 t182, .int .i64 t183, .int .i64 t184, (.slice Ao17 t185.length co17)] 24 (0, 0))) ∧ Aside0 (wc.heap[gb178]? = some (.cells #[.int .i64 a1_0, .int .i64 a1_1, .int .i64 a1_2, .int .i64 a1_3, .string a1_4] 34 (0, 0))) ∧ Aside0 (wc.heap[gb179]? = some (.cells #[.int .i64 0, .int .i64 0, .int .i64 0, .int .i64 0, (.slice none 0 0)] 24 (0, 0))) ∧ Aside0 (Below w.heap.size w wc))
  case first =>
   have H := HC6.out
   clear HC6
   obtain ⟨t188, A18, H⟩ := bd H
   by_cases c19 : t188 = true
   ·subst c19
    replace H := iT H
    obtain ⟨t189, A20, H⟩ := bd H
    have H' := Aside0.mk H
    clear H
    have hnb21 := NB178_177.out
    have hnc21 := NB177_178.out
    have hnb22 := NB178_179.out
    have hnc22 := NB179_178.out
    obtain ⟨Z23_0, Z23_1, Z23_2, Z23_3, Z23_4, Y23_0, Y23_1, Y23_2, Y23_3, Y23_4⟩ := cf5 BK178
    go_wp2_with (first | ((with_reducible refine gC 23 rfl ?_); refine goesZ (some 13) rfl Try.func23 #[.agg #[.int .i64 a1_0, .int .i64 a1_1, .int .i64 a1_2, .int .i64 a1_3, .string a1_4]] ?_; (with_reducible refine (spec_RecOk.calls a1_0 a1_1 a1_2 a1_3 a1_4 true _ A18.out).mono ?_); rintro e w24 ⟨rfl, hb⟩; refine ⟨_, rfl, ?_⟩; replace HO187 := Aside0.mk (Kd.R_below (rpR (Kd.R_mono (Kd.R_far (p := ⟨gb177, 4, none⟩) (Kd.R_far (p := ⟨gb177, 3, none⟩) (Kd.R_far (p := ⟨gb177, 2, none⟩) (Kd.R_far (p := ⟨gb177, 1, none⟩) (Kd.R_far (p := ⟨gb177, 0, none⟩) (Kd.R_types HO187.out BK177.out (by decide)) (fun _ hk => hk.2) (.int .i64 t181)) (fun _ hk => hk.2) (.int .i64 t182)) (fun _ hk => hk.2) (.int .i64 t183)) (fun _ hk => hk.2) (.int .i64 t184)) (fun _ hk => hk.2) (.slice Ao17 t185.length co17)) (fun _ h_ => h_.1))) hb); replace BK177 := Aside0.mk (blk_below (g := gb177) (o := .cells #[.int .i64 t181, .int .i64 t182, .int .i64 t183, .int .i64 t184, .slice Ao17 t185.length co17] 24 (0, 0)) bkk hb); replace BK178 := Aside0.mk (blk_below (g := gb178) (o := .cells #[.int .i64 a1_0, .int .i64 a1_1, .int .i64 a1_2, .int .i64 a1_3, .string a1_4] 34 (0, 0)) bkk hb); replace BK179 := Aside0.mk (blk_below (g := gb179) (o := .cells #[.int .i64 0, .int .i64 0, .int .i64 0, .int .i64 0, .slice none 0 0] 24 (0, 0)) bkk hb); replace HB := bs (w := w) hb; (try clear hb); have hnb25 := NB177_179.out; have hnc25 := NB179_177.out; obtain ⟨Z26_0, Z26_1, Z26_2, Z26_3, Z26_4, Y26_0, Y26_1, Y26_2, Y26_3, Y26_4⟩ := cf5 BK177; obtain ⟨Z27_0, Z27_1, Z27_2, Z27_3, Z27_4, Y27_0, Y27_1, Y27_2, Y27_3, Y27_4⟩ := cf5 BK178) | (go_at_call 24; (with_reducible refine (spec_l5Fits.calls t181 t182 t183 t184 _ _ t185 a1_0 a1_1 a1_2 a1_3 a1_4 t189 _ ?side1 ?side2 A20.out).mono ?_); (case side1 => exact ca ((Kd.R_reads' HO187.out).2.2)); (case side2 => exact (Kd.R_reads' HO187.out).2.1); rintro e w28 ⟨rfl, hb⟩; replace HO187 := Aside0.mk (Kd.R_below (rpR HO187.out) hb); replace BK177 := bv BK177 hb; replace BK178 := bv BK178 hb; replace BK179 := bv BK179 hb; replace HB := bs (w := w) hb; (try clear hb)))
    go_meet
    case rel => exact ⟨_, (!t189), fa, H', ⟨by first | omega | exact Nat.le_refl _⟩, ⟨rpR HO187.out⟩, ⟨by (with_reducible repeat (first | refine blk_drewN ?_ _ | refine blk_drew ?_ | refine blk_alloc ?_ _)); exact BK177.out⟩, ⟨by (with_reducible repeat (first | refine blk_drewN ?_ _ | refine blk_drew ?_ | refine blk_alloc ?_ _)); exact BK178.out⟩, ⟨by (with_reducible repeat (first | refine blk_drewN ?_ _ | refine blk_drew ?_ | refine blk_alloc ?_ _)); exact BK179.out⟩, ⟨bl⟩⟩
   ·replace c19 := Bool.eq_false_iff.mpr c19
    subst c19
    replace H := iF H
    have H' := Aside0.mk H
    clear H
    have hnb29 := NB178_177.out
    have hnc29 := NB177_178.out
    have hnb30 := NB178_179.out
    have hnc30 := NB179_178.out
    obtain ⟨Z31_0, Z31_1, Z31_2, Z31_3, Z31_4, Y31_0, Y31_1, Y31_2, Y31_3, Y31_4⟩ := cf5 BK178
    go_wp2_with (first | ((with_reducible refine gC 23 rfl ?_); refine goesZ (some 13) rfl Try.func23 #[.agg #[.int .i64 a1_0, .int .i64 a1_1, .int .i64 a1_2, .int .i64 a1_3, .string a1_4]] ?_; (with_reducible refine (spec_RecOk.calls a1_0 a1_1 a1_2 a1_3 a1_4 false _ A18.out).mono ?_); rintro e w32 ⟨rfl, hb⟩; refine ⟨_, rfl, ?_⟩; replace HO187 := Aside0.mk (Kd.R_below (rpR (Kd.R_mono (Kd.R_far (p := ⟨gb177, 4, none⟩) (Kd.R_far (p := ⟨gb177, 3, none⟩) (Kd.R_far (p := ⟨gb177, 2, none⟩) (Kd.R_far (p := ⟨gb177, 1, none⟩) (Kd.R_far (p := ⟨gb177, 0, none⟩) (Kd.R_types HO187.out BK177.out (by decide)) (fun _ hk => hk.2) (.int .i64 t181)) (fun _ hk => hk.2) (.int .i64 t182)) (fun _ hk => hk.2) (.int .i64 t183)) (fun _ hk => hk.2) (.int .i64 t184)) (fun _ hk => hk.2) (.slice Ao17 t185.length co17)) (fun _ h_ => h_.1))) hb); replace BK177 := Aside0.mk (blk_below (g := gb177) (o := .cells #[.int .i64 t181, .int .i64 t182, .int .i64 t183, .int .i64 t184, .slice Ao17 t185.length co17] 24 (0, 0)) bkk hb); replace BK178 := Aside0.mk (blk_below (g := gb178) (o := .cells #[.int .i64 a1_0, .int .i64 a1_1, .int .i64 a1_2, .int .i64 a1_3, .string a1_4] 34 (0, 0)) bkk hb); replace BK179 := Aside0.mk (blk_below (g := gb179) (o := .cells #[.int .i64 0, .int .i64 0, .int .i64 0, .int .i64 0, .slice none 0 0] 24 (0, 0)) bkk hb); replace HB := bs (w := w) hb; (try clear hb)))
    go_meet
    case rel => exact ⟨_, (true), fa, H', ⟨by first | omega | exact Nat.le_refl _⟩, ⟨rpR HO187.out⟩, ⟨by (with_reducible repeat (first | refine blk_drewN ?_ _ | refine blk_drew ?_ | refine blk_alloc ?_ _)); exact BK177.out⟩, ⟨by (with_reducible repeat (first | refine blk_drewN ?_ _ | refine blk_drew ?_ | refine blk_alloc ?_ _)); exact BK178.out⟩, ⟨by (with_reducible repeat (first | refine blk_drewN ?_ _ | refine blk_drew ?_ | refine blk_alloc ?_ _)); exact BK179.out⟩, ⟨bl⟩⟩
  case rest =>
   clear HC6
   try clear c1
   try clear c2
   try clear p2
   try clear c3
   try clear c4
   try clear c10
   try clear c11
   try clear c19
   try clear c21
   try clear c22
   try clear c23
   try clear c25
   try clear c29
   try clear c30
   try clear Z12_0 Z12_1 Z12_2 Z12_3 Z12_4
   try clear Z14_0 Z14_1 Z14_2 Z14_3 Z14_4
   try clear Z16_0 Z16_1 Z16_2 Z16_3 Z16_4
   try clear Z23_0 Z23_1 Z23_2 Z23_3 Z23_4
   try clear Z26_0 Z26_1 Z26_2 Z26_3 Z26_4
   try clear Z27_0 Z27_1 Z27_2 Z27_3 Z27_4
   try clear Z31_0 Z31_1 Z31_2 Z31_3 Z31_4
   try clear Y12_0 Y12_1 Y12_2 Y12_3 Y12_4
   try clear Y14_0 Y14_1 Y14_2 Y14_3 Y14_4
   try clear Y16_0 Y16_1 Y16_2 Y16_3 Y16_4
   try clear Y23_0 Y23_1 Y23_2 Y23_3 Y23_4
   try clear Y26_0 Y26_1 Y26_2 Y26_3 Y26_4
   try clear Y27_0 Y27_1 Y27_2 Y27_3 Y27_4
   try clear Y31_0 Y31_1 Y31_2 Y31_3 Y31_4
   obtain ⟨kq, x20_5, rfl, HA, HJ5, HO_178004, BK177, BK178, BK179, HB⟩ := hcut
   cases kq with
   | zero => exact absurd HA.out (by simp [spec_WalStep.j0])
   | succ kj5 =>
    have H := HA.out
    clear HA
    simp only [spec_WalStep.j0] at H
    by_cases c33 : x20_5 = true
    ·subst c33
     replace H := iT H
     simp only [Option.some.injEq, Prod.mk.injEq] at H
     obtain ⟨rfl, rfl, rfl, rfl, rfl, rfl⟩ := H
     have hnb34 := NB177_178.out
     have hnc34 := NB178_177.out
     have hnb35 := NB177_179.out
     have hnc35 := NB179_177.out
     obtain ⟨Z36_0, Z36_1, Z36_2, Z36_3, Z36_4, Y36_0, Y36_1, Y36_2, Y36_3, Y36_4⟩ := cf5 BK177
     have hnb37 := NB179_178.out
     have hnc37 := NB178_179.out
     obtain ⟨Z38_0, Z38_1, Z38_2, Z38_3, Z38_4, Y38_0, Y38_1, Y38_2, Y38_3, Y38_4⟩ := cf5 BK179
     go_wp2
     refine bodyPost_ret (results_ct rfl _ _ gb179 24 #[.int .i64 t181, .int .i64 t182, .int .i64 t183, .int .i64 t184, .slice Ao17 t185.length co17] (0, 0) _ rfl bkk Try.underlying24 rfl (by kernel_rfl)) rfl ?_
     exact ⟨_, fe, rpR (Kd.R_mono (Kd.R_far (p := ⟨gb179, 4, none⟩) (Kd.R_far (p := ⟨gb179, 3, none⟩) (Kd.R_far (p := ⟨gb179, 2, none⟩) (Kd.R_far (p := ⟨gb179, 1, none⟩) (Kd.R_far (p := ⟨gb179, 0, none⟩) (Kd.R_types HO_178004.out BK179.out (by decide)) (fun _ hk => hk.2) (.int .i64 t181)) (fun _ hk => hk.2) (.int .i64 t182)) (fun _ hk => hk.2) (.int .i64 t183)) (fun _ hk => hk.2) (.int .i64 t184)) (fun _ hk => hk.2) (.slice Ao17 t185.length co17)) (fun _ hk => trivial)), bl⟩
    ·replace c33 := Bool.eq_false_iff.mpr c33
     subst c33
     replace H := iF H
     by_cases c39 : a1_0 = 1
     ·rw [if_pos c39] at H
      have c39b0 : (a1_0 == 1) = true := beq_iff_eq.mpr c39
      have c39b1 : (a1_0 != 1) = false := bne_eq_false_iff_eq.mpr c39
      clear c39
      simp only [Option.some.injEq, Prod.mk.injEq] at H
      obtain ⟨rfl, rfl, rfl, rfl, rfl, rfl⟩ := H
      have hnb40 := NB178_177.out
      have hnc40 := NB177_178.out
      have hnb41 := NB178_179.out
      have hnc41 := NB179_178.out
      obtain ⟨Z42_0, Z42_1, Z42_2, Z42_3, Z42_4, Y42_0, Y42_1, Y42_2, Y42_3, Y42_4⟩ := cf5 BK178
      have hnb43 := NB177_179.out
      have hnc43 := NB179_177.out
      obtain ⟨Z44_0, Z44_1, Z44_2, Z44_3, Z44_4, Y44_0, Y44_1, Y44_2, Y44_3, Y44_4⟩ := cf5 BK177; obtain ⟨Z45_0, Z45_1, Z45_2, Z45_3, Z45_4, Y45_0, Y45_1, Y45_2, Y45_3, Y45_4⟩ := cf5 BK179
      go_wp2
      refine bodyPost_ret (results_ct rfl _ _ gb179 24 #[.int .i64 a1_1, .int .i64 a1_3, .int .i64 t183, .int .i64 t184, .slice Ao17 t185.length co17] (0, 0) _ rfl bkk Try.underlying24 rfl (by kernel_rfl)) rfl ?_
      exact ⟨_, fe, rpR (Kd.R_mono (Kd.R_far (p := ⟨gb179, 4, none⟩) (Kd.R_far (p := ⟨gb179, 3, none⟩) (Kd.R_far (p := ⟨gb179, 2, none⟩) (Kd.R_far (p := ⟨gb179, 1, none⟩) (Kd.R_far (p := ⟨gb179, 0, none⟩) (Kd.R_far (p := ⟨gb177, 1, none⟩) (Kd.R_far (p := ⟨gb177, 0, none⟩) (Kd.R_types (Kd.R_types HO_178004.out BK177.out (by decide)) BK179.out (by decide)) (fun _ hk => hk.1.2) (.int .i64 a1_1)) (fun _ hk => hk.1.2) (.int .i64 a1_3)) (fun _ hk => hk.2) (.int .i64 a1_1)) (fun _ hk => hk.2) (.int .i64 a1_3)) (fun _ hk => hk.2) (.int .i64 t183)) (fun _ hk => hk.2) (.int .i64 t184)) (fun _ hk => hk.2) (.slice Ao17 t185.length co17)) (fun _ hk => trivial)), bl⟩
     ·rw [if_neg c39] at H
      have c39b0 : (a1_0 == 1) = false := beq_eq_false_iff_ne.mpr c39
      have c39b1 : (a1_0 != 1) = true := bne_iff_ne.mpr c39
      by_cases c46 : a1_0 = 2
      ·rw [if_pos c46] at H
       have c46b0 : (a1_0 == 2) = true := beq_iff_eq.mpr c46
       have c46b1 : (a1_0 != 2) = false := bne_eq_false_iff_eq.mpr c46
       clear c46
       by_cases c47 : t185.length < 5864062014805
       ·rw [if_pos c47] at H
        have LMc47 := Aside0.mk c47
        clear c47
        obtain ⟨y190, hy190⟩ : ∃ y_ : List (S51), y_ = (t185 ++ [(⟨a1_1, a1_4⟩ : S51)]) := ⟨_, rfl⟩
        replace H : (some (t181, t182, t183, t184, y190, true)) = some (r1, r2, r3, r4, r5, r6) := by first | (rw [hy190]; with_reducible exact H) | (have H2_ := (Option.bind_some _ _).symm.trans H; rw [hy190]; with_reducible exact H2_) | (have H2_ := (Option.bind_some _ _).symm.trans H; with_reducible exact H2_) | with_reducible exact H | (rw [hy190]; exact H) | exact H
        have Ny190 := Aside0.mk hy190
        clear hy190
        simp only [Option.some.injEq, Prod.mk.injEq] at H
        obtain ⟨rfl, rfl, rfl, rfl, rfl, rfl⟩ := H
        have hnb48 := NB178_177.out
        have hnc48 := NB177_178.out
        have hnb49 := NB178_179.out
        have hnc49 := NB179_178.out
        obtain ⟨Z50_0, Z50_1, Z50_2, Z50_3, Z50_4, Y50_0, Y50_1, Y50_2, Y50_3, Y50_4⟩ := cf5 BK178
        have hnb51 := NB177_179.out
        have hnc51 := NB179_177.out
        obtain ⟨Z52_0, Z52_1, Z52_2, Z52_3, Z52_4, Y52_0, Y52_1, Y52_2, Y52_3, Y52_4⟩ := cf5 BK177
        go_wp2_with (first | ((with_reducible refine gate_builtin (b := .append) (xs := #[.tmp 45, .tmp 51]) rfl ?_); at_builtin; refine Kd.R_append k51 (w0 := w) w.heap.size rfl (.tmp 45) (.tmp 51) 22 51 (.agg #[(.int .i64 0), (.string ⟨#[]⟩)]) 24 rfl Try.underlying22 info51 rfl (by decide) (by omega) (.slice Ao17 t185.length co17) t185 (⟨a1_1, a1_4⟩ : S51) [.int .i64 a1_1, .string a1_4] (fun _ => True) (fun _ => False) rfl rfl ?aP (fun _ hk => hk.elim) ?aF ?aO ?aB ?aS ?aL ?_; (case aP => exact k51_mkM _ _ _ (⟨a1_1, a1_4⟩ : S51)); (case aB => exact bl); (case aF => exact (fun _ _ => trivial)); (case aO => exact (rpR HO_178004.out)); (case aS => exact (below_size bl)); (case aL => have := LMc47.out; omega); intro v191 w53 ho hb hg hat; rw [← Ny190.out] at ho; replace BK177 := Aside0.mk (blk_grown (g := gb177) (o := .cells #[.int .i64 t181, .int .i64 t182, .int .i64 t183, .int .i64 t184, .slice Ao17 t185.length co17] 24 (0, 0)) bk hg (Kd.R_ne HO_178004.out BK177.out (by decide))); replace BK178 := Aside0.mk (blk_grown (g := gb178) (o := .cells #[.int .i64 a1_0, .int .i64 a1_1, .int .i64 a1_2, .int .i64 a1_3, .string a1_4] 34 (0, 0)) bk hg (Kd.R_ne HO_178004.out BK178.out (by decide))); replace BK179 := Aside0.mk (blk_grown (g := gb179) (o := .cells #[.int .i64 0, .int .i64 0, .int .i64 0, .int .i64 0, .slice none 0 0] 24 (0, 0)) bk hg (Kd.R_ne HO_178004.out BK179.out (by decide))); replace HB := Aside0.mk (hb); have HO192 := Aside0.mk (ho); clear HO_178004; clear ho hb hg hat; obtain ⟨Ao54, co54, rfl⟩ := Kd.R_slice HO192.out; obtain ⟨Z55_0, Z55_1, Z55_2, Z55_3, Z55_4, Y55_0, Y55_1, Y55_2, Y55_3, Y55_4⟩ := cf5 BK177; obtain ⟨Z56_0, Z56_1, Z56_2, Z56_3, Z56_4, Y56_0, Y56_1, Y56_2, Y56_3, Y56_4⟩ := cf5 BK179))
        refine bodyPost_ret (results_ct rfl _ _ gb179 24 #[.int .i64 t181, .int .i64 t182, .int .i64 t183, .int .i64 t184, .slice Ao54 y190.length co54] (0, 0) _ rfl bkk Try.underlying24 rfl (by kernel_rfl)) rfl ?_
        exact ⟨_, fe, rpR (Kd.R_mono (Kd.R_far (p := ⟨gb179, 4, none⟩) (Kd.R_far (p := ⟨gb179, 3, none⟩) (Kd.R_far (p := ⟨gb179, 2, none⟩) (Kd.R_far (p := ⟨gb179, 1, none⟩) (Kd.R_far (p := ⟨gb179, 0, none⟩) (Kd.R_far (p := ⟨gb177, 4, none⟩) (Kd.R_types (Kd.R_types HO192.out BK177.out (by decide)) BK179.out (by decide)) (fun _ hk => hk.1.2) (.slice Ao54 y190.length co54)) (fun _ hk => hk.2) (.int .i64 t181)) (fun _ hk => hk.2) (.int .i64 t182)) (fun _ hk => hk.2) (.int .i64 t183)) (fun _ hk => hk.2) (.int .i64 t184)) (fun _ hk => hk.2) (.slice Ao54 y190.length co54)) (fun _ hk => trivial)), bl⟩
       ·rw [if_neg c47] at H
        exact absurd H (by simp)
      ·rw [if_neg c46] at H
       have c46b0 : (a1_0 == 2) = false := beq_eq_false_iff_ne.mpr c46
       have c46b1 : (a1_0 != 2) = true := bne_iff_ne.mpr c46
       obtain ⟨ji57, hji57⟩ : ∃ j_ : Int, (wrap64 ((wrap64 (a1_2 - t183)) - 1)) = j_ := ⟨_, rfl⟩
       replace H : (if 0 ≤ (ji57) then (if (ji57) ≤ (t185.length : Int) then (some (t181, t182, t183, t184, (t185.take ((ji57) : Int).toNat), true)) else (none)) else (none)) = some (r1, r2, r3, r4, r5, r6) := by first | (rw [hji57] at H; exact H) | (simp only [hji57] at H ⊢; exact H)
       have hji57w : (IntKind.i64.wrap ((wrap64 (a1_2 - t183)) - 1)) = ji57 := (i64_w _).trans hji57
       by_cases c58 : 0 ≤ (ji57)
       ·rw [if_pos c58] at H
        have c58b0 := eq_true c58
        have c58b1 : decide (0 ≤ (ji57)) = true := decide_eq_true c58
        clear c58
        by_cases c59 : (ji57) ≤ (t185.length : Int)
        ·rw [if_pos c59] at H
         have c59b0 := eq_true c59
         have c59b1 : decide ((ji57) ≤ (t185.length : Int)) = true := decide_eq_true c59
         clear c59
         obtain ⟨y193, hy193⟩ : ∃ y_ : List (S51), y_ = (t185.take ((ji57) : Int).toNat) := ⟨_, rfl⟩
         replace H : (some (t181, t182, t183, t184, y193, true)) = some (r1, r2, r3, r4, r5, r6) := by first | (rw [hy193]; with_reducible exact H) | (have H2_ := (Option.bind_some _ _).symm.trans H; rw [hy193]; with_reducible exact H2_) | (have H2_ := (Option.bind_some _ _).symm.trans H; with_reducible exact H2_) | with_reducible exact H | (rw [hy193]; exact H) | exact H
         have Ny193 := Aside0.mk hy193
         clear hy193
         simp only [Option.some.injEq, Prod.mk.injEq] at H
         obtain ⟨rfl, rfl, rfl, rfl, rfl, rfl⟩ := H
         have hnb60 := NB178_177.out
         have hnc60 := NB177_178.out
         have hnb61 := NB178_179.out
         have hnc61 := NB179_178.out
         obtain ⟨Z62_0, Z62_1, Z62_2, Z62_3, Z62_4, Y62_0, Y62_1, Y62_2, Y62_3, Y62_4⟩ := cf5 BK178
         have hnb63 := NB177_179.out
         have hnc63 := NB179_177.out
         obtain ⟨Z64_0, Z64_1, Z64_2, Z64_3, Z64_4, Y64_0, Y64_1, Y64_2, Y64_3, Y64_4⟩ := cf5 BK177
         have q65 : ((ji57) : Int) ≤ ((t185.length : Int) : Int) := of_decide_eq_true am
         obtain ⟨i065, hi065, _, hsz65, _⟩ := info_parts info51
         have hcut65 := cut_to (P := Try.prog) 22 51 .i64 Try.underlying22 hi065 Ao17 t185.length co17 (ji57) (of_decide_eq_true am) q65 (Kd.R_reads' HO_178004.out).2.1
         have hr65 := Kd.R_take (m := ((ji57) : Int).toNat) HO_178004.out (by omega)
         have hy65 : y193.length = ((ji57) : Int).toNat := (by rw [Ny193.out, List.length_take]; omega)
         rw [← Ny193.out] at hr65
         rw [← hy65] at hr65 hcut65
         clear hy65 hi065 hsz65 HO_178004
         have HO195 := Aside0.mk hr65
         clear hr65
         replace q65 := eq_true q65
         obtain ⟨Z66_0, Z66_1, Z66_2, Z66_3, Z66_4, Y66_0, Y66_1, Y66_2, Y66_3, Y66_4⟩ := cf5 BK179
         go_wp2
         refine bodyPost_ret (results_ct rfl _ _ gb179 24 #[.int .i64 t181, .int .i64 t182, .int .i64 t183, .int .i64 t184, .slice Ao17 y193.length co17] (0, 0) _ rfl bkk Try.underlying24 rfl (by kernel_rfl)) rfl ?_
         exact ⟨_, by first | rfl | (simp [errW_none, errW_some] <;> rfl) | (simp only [← hji57]; first | rfl | (simp [errW_none, errW_some] <;> rfl)) | (simp [*, errW_none, errW_some] <;> rfl), rpR (Kd.R_mono (Kd.R_far (p := ⟨gb179, 4, none⟩) (Kd.R_far (p := ⟨gb179, 3, none⟩) (Kd.R_far (p := ⟨gb179, 2, none⟩) (Kd.R_far (p := ⟨gb179, 1, none⟩) (Kd.R_far (p := ⟨gb179, 0, none⟩) (Kd.R_far (p := ⟨gb177, 4, none⟩) (Kd.R_types (Kd.R_types HO195.out BK177.out (by decide)) BK179.out (by decide)) (fun _ hk => hk.1.2) (.slice Ao17 y193.length co17)) (fun _ hk => hk.2) (.int .i64 t181)) (fun _ hk => hk.2) (.int .i64 t182)) (fun _ hk => hk.2) (.int .i64 t183)) (fun _ hk => hk.2) (.int .i64 t184)) (fun _ hk => hk.2) (.slice Ao17 y193.length co17)) (fun _ hk => trivial)), bl⟩
        ·rw [if_neg c59] at H
         exact absurd H (by simp)
       ·rw [if_neg c58] at H
        exact absurd H (by simp)
 ·replace c4 := Bool.eq_false_iff.mpr c4
  subst c4
  replace H := iF H
  simp only [Option.some.injEq, Prod.mk.injEq] at H
  obtain ⟨rfl, rfl, rfl, rfl, rfl, rfl⟩ := H
  go_enter Try.func11, Try.ntmps11
  go_wp2_with (first | ((with_reducible refine gD 2 rfl ?_); refine boxZ 2 #[.int .i64 a0_0, .int .i64 a0_1, .int .i64 a0_2, .int .i64 a0_3, .slice A0_4 l0_4.length c0_4] 24 ?_; intro gb177 hg w67 hbox hb; have BK177 := Aside0.mk hbox; have GW177 := gw (w := w) hg; have GE177 := gw (w := w) hg; replace HB := bs (w := w) hb; clear hb hbox hg) | ((with_reducible refine gD 3 rfl ?_); refine boxZ 3 #[.int .i64 a1_0, .int .i64 a1_1, .int .i64 a1_2, .int .i64 a1_3, .string a1_4] 34 ?_; intro gb178 hg w68 hbox hb; have BK178 := Aside0.mk hbox; have GW178 := gw (w := w) hg; have GE178 := gw (w := w) hg; replace HB := bs (w := w) hb; have NB177_178 := nl BK177 hg; have NB178_177 := nr BK177 hg; replace BK177 := bv BK177 hb; clear hb hbox hg) | ((with_reducible refine gD 4 rfl ?_); refine boxZ 4 #[.int .i64 0, .int .i64 0, .int .i64 0, .int .i64 0, .slice none 0 0] 24 ?_; intro gb179 hg w69 hbox hb; have BK179 := Aside0.mk hbox; have GW179 := gw (w := w) hg; have GE179 := gw (w := w) hg; replace HB := bs (w := w) hb; have NB177_179 := nl BK177 hg; have NB179_177 := nr BK177 hg; replace BK177 := bv BK177 hb; have NB178_179 := nl BK178 hg; have NB179_178 := nr BK178 hg; replace BK178 := bv BK178 hb; clear hb hbox hg; have hnb70 := NB177_178.out; have hnc70 := NB178_177.out; have hnb71 := NB177_179.out; have hnc71 := NB179_177.out; obtain ⟨Z72_0, Z72_1, Z72_2, Z72_3, Z72_4, Y72_0, Y72_1, Y72_2, Y72_3, Y72_4⟩ := cf5 BK177) | ((with_reducible refine gC 21 rfl ?_); refine goesZ (some 7) rfl Try.func21 #[.agg #[.int .i64 a0_0, .int .i64 a0_1, .int .i64 a0_2, .int .i64 a0_3, .slice A0_4 l0_4.length c0_4]] ?_; (with_reducible refine (spec_WalOk.calls k a0_0 a0_1 a0_2 a0_3 _ _ l0_4 false _ ?side1 ?side2 A3.out).mono ?_); (case side1 => exact ca (Kd.C_below HR0_4.out HB.out)); (case side2 => exact HC0_4.out); rintro e w73 ⟨rfl, hb⟩; refine ⟨_, rfl, ?_⟩; replace BK177 := bv BK177 hb; replace BK178 := bv BK178 hb; replace BK179 := bv BK179 hb; replace HB := bs (w := w) hb; (try clear hb); have hnb74 := NB179_178.out; have hnc74 := NB178_179.out; obtain ⟨Z75_0, Z75_1, Z75_2, Z75_3, Z75_4, Y75_0, Y75_1, Y75_2, Y75_3, Y75_4⟩ := cf5 BK179))
  refine bodyPost_ret (results_ct rfl _ _ gb179 24 #[.int .i64 0, .int .i64 0, .int .i64 0, .int .i64 0, .slice none 0 0] (0, 0) _ rfl bkk Try.underlying24 rfl (by kernel_rfl)) rfl ?_
  exact ⟨_, fe, by first | exact Kd.R_nil _ _ _ _ _ | exact Kd.N_nil _ _ _ _ _ | exact Kd.V_nil _ _ _ _ _ | exact Kd.Q_nil _ _ _ _ _ | exact Kd.S_nil _ _ _ _ _, bl⟩

end Go.Proofs.Ytflegbpgkkiijaa.PFnExactReplay
