-- PRINTED by print.py (a twelfth state) out of the translation. Not trusted: Lean checks it.
import Derived.Test.YtflegbpgkkiijaaPFnExactReplayx0
import Derived.Test.YtflegbpgkkiijaaPFnExactReplayx11
import Derived.Test.YtflegbpgkkiijaaPFnExactReplayx14
import Derived.Test.YtflegbpgkkiijaaPFnExactReplayx15
import Derived.Test.YtflegbpgkkiijaaZip
namespace Go.Proofs.Ytflegbpgkkiijaa.PFnExactReplay
open Go.RowKit Go.Proofs.YtflegbpgkkiijaaW.PrintWords Go.Proofs.YtflegbpgkkiijaaW.PrintLast Go.Proofs.YtflegbpgkkiijaaW.PrintMore Go.Proofs.Ytflegbpgkkiijaa.Zip
attribute [local go_sem] max2_int min2_int max_two min_two max_three min_three max_four min_four   -- for this text's walks alone
set_option linter.unusedVariables false
set_option linter.unusedSimpArgs false
theorem cneT {W : World} {g : Nat} {t : TypeId} {cs : Array Value} {A : Option Addr} {n : Nat} {xs : List ByteArray} (hb : Aside0 (W.heap[g]? = some (.cells cs t (0, 0)))) (hcs : ∀ (i : Nat) (s : ByteArray), cs[i]? ≠ some (Value.string s)) (h : Kd.C Kd.string W A n xs) : ∀ ad, A = some ad → 0 < n → ad.block ≠ g := by
  intro ad e hn e2
  obtain ⟨ad', e', hc⟩ := h.2.2 hn
  rw [e] at e'
  obtain rfl := Option.some.inj e'
  obtain ⟨c, _, hk, h3⟩ := hc 0 _ (List.getElem?_eq_getElem (by have := h.1; omega))
  have hk2 : c = [Value.string _] := hk
  have h4 := h3 0 _ (by rw [hk2]; rfl)
  rw [Nat.zero_mul, Nat.zero_add] at h4
  have h5 : ad.add 0 = ad := rfl
  rw [h5] at h4
  have h6 : W.cell? ad = if ad.spot.isSome then none else cs[ad.off]? := by unfold World.cell?; rw [e2, hb.out]
  rw [h6] at h4
  by_cases hs : ad.spot.isSome = true
  · rw [if_pos hs] at h4; exact absurd h4 (by simp)
  · rw [if_neg hs] at h4; exact hcs _ _ h4

/-! ### impl_Replay: function 5 -/
mutual
def impl_Replay.j0 : Nat → List ByteArray → Bool → Int → Int → Int → Int → ByteArray → Option (Int × Int × Int × Int × (List (S51)) × Int × Bool)
 | 0, _, _, _, _, _, _, _ => none
 | k + 1, x5, x39, x356000, x356001, x356002, x356003, x356004 => if x39 = true then (some (0, 0, 0, 0, ([] : List (S51)), 0, false)) else (if 0 < (x5.length : Int) then (if 1 ≤ (x5.length : Int) then ((some (x5.drop 1 : List ByteArray)).bind fun y358 => (impl_Replay.l0 k (wrap64 (((rdOf ByteArray.empty x5 0).size : Int) + 8)) y358 (y358.length : Int) 0 x356001 (-1) x356002 x356001 ([] : List (S51)))) else (none)) else (none))
def impl_Replay.l0 : Nat → Int → List ByteArray → Int → Int → Int → Int → Int → Int → List (S51) → Option (Int × Int × Int × Int × (List (S51)) × Int × Bool)
 | 0, _, _, _, _, _, _, _, _, _ => none
 | k + 1, x10, x54, x55, x56, x357000, x357001, x357002, x357003, x357004 => if x56 < x55 then (if 0 ≤ x56 then (if x56 < (x54.length : Int) then ((impl_ReadRec.f k (rdOf ByteArray.empty x54 x56)).bind fun bt363 => (if bt363.2.2.2.2.2 = true then ((impl_WalStep.f k x357000 x357001 x357002 x357003 x357004 bt363.1 bt363.2.1 bt363.2.2.1 bt363.2.2.2.1 bt363.2.2.2.2.1).bind fun bt370 => (if bt370.2.2.2.2.2 = true then (impl_Replay.l0 k (wrap64 (x10 + (wrap64 (((rdOf ByteArray.empty x54 x56).size : Int) + 8)))) x54 x55 (wrap64 (x56 + 1)) bt370.1 bt370.2.1 bt370.2.2.1 bt370.2.2.2.1 bt370.2.2.2.2.1) else (some (x357000, x357001, x357002, x357003, x357004, x10, true)))) else (some (x357000, x357001, x357002, x357003, x357004, x10, true)))) else (none)) else (none)) else (some (x357000, x357001, x357002, x357003, x357004, x10, true))
end
def impl_Replay.f (k : Nat) (a0 : ByteArray) : Option (Int × Int × Int × Int × (List (S51)) × Int × Bool) := (impl_Frames.f k a0).bind fun bt344 => (if (bt344.1.length : Int) = 0 then (some (0, 0, 0, 0, ([] : List (S51)), 0, false)) else (if 0 < (bt344.1.length : Int) then ((impl_ReadRec.f k (rdOf ByteArray.empty bt344.1 0)).bind fun bt349 => (if bt349.2.2.2.2.2 = true then (impl_Replay.j0 k bt344.1 (bt349.1 != 4) bt349.1 bt349.2.1 bt349.2.2.1 bt349.2.2.2.1 bt349.2.2.2.2.1) else (impl_Replay.j0 k bt344.1 true bt349.1 bt349.2.1 bt349.2.2.1 bt349.2.2.2.1 bt349.2.2.2.2.1))) else (none)))
theorem impl_Replay.mono_l : ∀ k, (∀ y0 y1 y2 y3 y4 y5 y6, LeO (impl_Replay.j0 k y0 y1 y2 y3 y4 y5 y6) (impl_Replay.j0 (k + 1) y0 y1 y2 y3 y4 y5 y6)) ∧ (∀ y0 y1 y2 y3 y4 y5 y6 y7 y8, LeO (impl_Replay.l0 k y0 y1 y2 y3 y4 y5 y6 y7 y8) (impl_Replay.l0 (k + 1) y0 y1 y2 y3 y4 y5 y6 y7 y8))
 | 0 => ⟨fun _ _ _ _ _ _ _ r h => by simp [impl_Replay.j0] at h, fun _ _ _ _ _ _ _ _ _ r h => by simp [impl_Replay.l0] at h⟩
 | k + 1 => by
  obtain ⟨ih0, ih1⟩ := impl_Replay.mono_l k
  refine ⟨?_, ?_⟩
  ·intro y0 y1 y2 y3 y4 y5 y6
   unfold impl_Replay.j0
   repeat' first
   | (with_reducible exact ih0 _ _ _ _ _ _ _)
   | (with_reducible exact ih1 _ _ _ _ _ _ _ _ _)
   | (with_reducible exact impl_Frames.mono _ _)
   | (with_reducible exact impl_ReadRec.mono _ _)
   | (with_reducible exact impl_WalStep.mono _ _ _ _ _ _ _ _ _ _ _)
   | (with_reducible exact LeO.refl _)
   | (with_reducible exact LeO.none _)
   | (with_reducible refine LeO.ite ?_ ?_)
   | (with_reducible refine LeO.bind ?_ (fun _ => ?_))
   | exact ih0 _ _ _ _ _ _ _
   | exact ih1 _ _ _ _ _ _ _ _ _
   | exact impl_Frames.mono _ _
   | exact impl_ReadRec.mono _ _
   | exact impl_WalStep.mono _ _ _ _ _ _ _ _ _ _ _
   | exact LeO.none _
   | refine LeO.ite ?_ ?_
   | refine LeO.bind ?_ (fun _ => ?_)
  ·intro y0 y1 y2 y3 y4 y5 y6 y7 y8
   unfold impl_Replay.l0
   repeat' first
   | (with_reducible exact ih0 _ _ _ _ _ _ _)
   | (with_reducible exact ih1 _ _ _ _ _ _ _ _ _)
   | (with_reducible exact impl_Frames.mono _ _)
   | (with_reducible exact impl_ReadRec.mono _ _)
   | (with_reducible exact impl_WalStep.mono _ _ _ _ _ _ _ _ _ _ _)
   | (with_reducible exact LeO.refl _)
   | (with_reducible exact LeO.none _)
   | (with_reducible refine LeO.ite ?_ ?_)
   | (with_reducible refine LeO.bind ?_ (fun _ => ?_))
   | exact ih0 _ _ _ _ _ _ _
   | exact ih1 _ _ _ _ _ _ _ _ _
   | exact impl_Frames.mono _ _
   | exact impl_ReadRec.mono _ _
   | exact impl_WalStep.mono _ _ _ _ _ _ _ _ _ _ _
   | exact LeO.none _
   | refine LeO.ite ?_ ?_
   | refine LeO.bind ?_ (fun _ => ?_)
theorem impl_Replay.mono : ∀ a0 k, LeO (impl_Replay.f k a0) (impl_Replay.f (k + 1) a0) := by
 intro a0 k
 obtain ⟨ih0, ih1⟩ := impl_Replay.mono_l k
 unfold impl_Replay.f
 repeat' first
  | (with_reducible exact ih0 _ _ _ _ _ _ _)
  | (with_reducible exact ih1 _ _ _ _ _ _ _ _ _)
  | (with_reducible exact impl_Frames.mono _ _)
  | (with_reducible exact impl_ReadRec.mono _ _)
  | (with_reducible exact impl_WalStep.mono _ _ _ _ _ _ _ _ _ _ _)
  | (with_reducible exact LeO.refl _)
  | (with_reducible exact LeO.none _)
  | (with_reducible refine LeO.ite ?_ ?_)
  | (with_reducible refine LeO.bind ?_ (fun _ => ?_))
  | exact ih0 _ _ _ _ _ _ _
  | exact ih1 _ _ _ _ _ _ _ _ _
  | exact impl_Frames.mono _ _
  | exact impl_ReadRec.mono _ _
  | exact impl_WalStep.mono _ _ _ _ _ _ _ _ _ _ _
  | exact LeO.none _
  | refine LeO.ite ?_ ?_
  | refine LeO.bind ?_ (fun _ => ?_)
set_option maxHeartbeats 8000000 in
set_option maxRecDepth 100000 in
theorem impl_Replay.calls (k : Nat) (a0 : ByteArray) (r1 : Int) (r2 : Int) (r3 : Int) (r4 : Int) (r5 : List (S51)) (r6 : Int) (r7 : Bool) (w : World) (h : impl_Replay.f k a0 = some (r1, r2, r3, r4, r5, r6, r7)) :
 Calls Try.prog 5 #[.string a0] w fun e w' => ∃ v4_ : Value, e = .returned (.tuple #[.agg #[.int .i64 r1, .int .i64 r2, .int .i64 r3, .int .i64 r4, v4_], .int .i64 r6, .bool r7]) ∧ Kd.R k51 51 w' w.heap.size (fun _ => True) v4_ r5 ∧ Below w.heap.size w w' := by
 have hu24 := Try.underlying24
 have hu34 := Try.underlying34
 have HB := Aside0.mk (Below.refl w.heap.size w)
 have H : ((impl_Frames.f k a0).bind fun bt344 => (if (bt344.1.length : Int) = 0 then (some (0, 0, 0, 0, ([] : List (S51)), 0, false)) else (if 0 < (bt344.1.length : Int) then ((impl_ReadRec.f k (rdOf ByteArray.empty bt344.1 0)).bind fun bt349 => (if bt349.2.2.2.2.2 = true then (impl_Replay.j0 k bt344.1 (bt349.1 != 4) bt349.1 bt349.2.1 bt349.2.2.1 bt349.2.2.2.1 bt349.2.2.2.2.1) else (impl_Replay.j0 k bt344.1 true bt349.1 bt349.2.1 bt349.2.2.1 bt349.2.2.2.1 bt349.2.2.2.2.1))) else (none)))) = some (r1, r2, r3, r4, r5, r6, r7) := h
 clear h
 replace H := Option.bind_eq_some_iff.mp H
 obtain ⟨⟨t344, t345⟩, A20, H⟩ := H
 replace H : (if (t344.length : Int) = 0 then (some (0, 0, 0, 0, ([] : List (S51)), 0, false)) else (if 0 < (t344.length : Int) then ((impl_ReadRec.f k (rdOf ByteArray.empty t344 0)).bind fun bt349 => (if bt349.2.2.2.2.2 = true then (impl_Replay.j0 k t344 (bt349.1 != 4) bt349.1 bt349.2.1 bt349.2.2.1 bt349.2.2.2.1 bt349.2.2.2.2.1) else (impl_Replay.j0 k t344 true bt349.1 bt349.2.1 bt349.2.2.1 bt349.2.2.2.1 bt349.2.2.2.2.1))) else (none))) = some (r1, r2, r3, r4, r5, r6, r7) := H
 have A2 := Aside0.mk A20
 clear A20
 by_cases c3 : (t344.length : Int) = 0
 ·rw [if_pos c3] at H
  have c3b0 : ((t344.length : Int) == 0) = true := beq_iff_eq.mpr c3
  have c3b1 : ((t344.length : Int) != 0) = false := bne_eq_false_iff_eq.mpr c3
  clear c3
  simp only [Option.some.injEq, Prod.mk.injEq] at H
  obtain ⟨rfl, rfl, rfl, rfl, rfl, rfl, rfl⟩ := H
  go_enter Try.func5, Try.ntmps5
  go_wp2_with (first | ((with_reducible refine gD 2 rfl ?_); refine boxZ 2 #[.int .i64 0, .int .i64 0, .int .i64 0, .int .i64 0, .slice none 0 0] 24 ?_; intro gb343 hg w4 hbox hb; have BK343 := Aside0.mk hbox; have GW343 := gw (w := w) hg; have GE343 := gw (w := w) hg; replace HB := bs (w := w) hb; clear hb hbox hg) | ((with_reducible refine gC 12 rfl ?_); refine goesZ (some 19) rfl Try.func12 #[.string a0] ?_; (with_reducible refine (impl_Frames.calls k a0 t344 t345 _ A2.out).mono ?_); rintro e w5 ⟨v346, rfl, ho0, hb⟩; refine ⟨_, rfl, ?_⟩; have HO347 := Aside0.mk (Kd.R_lower ho0 (below_size bl)); replace BK343 := bv BK343 hb; replace HB := bs (w := w) hb; (try clear hb ho0); obtain ⟨Ao6, co6, rfl⟩ := Kd.R_slice HO347.out; obtain ⟨Z7_0, Z7_1, Z7_2, Z7_3, Z7_4, Y7_0, Y7_1, Y7_2, Y7_3, Y7_4⟩ := cf5 BK343))
  refine bodyPost_ret (results_ctt rfl _ _ gb343 24 #[.int .i64 0, .int .i64 0, .int .i64 0, .int .i64 0, .slice none 0 0] (0, 0) _ rfl bkk Try.underlying24 rfl (by kernel_rfl)) rfl ?_
  exact ⟨_, fe, by first | exact Kd.R_nil _ _ _ _ _ | exact Kd.N_nil _ _ _ _ _ | exact Kd.V_nil _ _ _ _ _ | exact Kd.Q_nil _ _ _ _ _ | exact Kd.S_nil _ _ _ _ _, bl⟩
 ·rw [if_neg c3] at H
  have c3b0 : ((t344.length : Int) == 0) = false := beq_eq_false_iff_ne.mpr c3
  have c3b1 : ((t344.length : Int) != 0) = true := bne_iff_ne.mpr c3
  have c3b2 : ¬ (t344 = []) := fun h_ => c3 (by rw [h_]; rfl)
  by_cases c8 : 0 < (t344.length : Int)
  ·rw [if_pos c8] at H
   have c8b0 : decide (0 < (t344.length : Int)) = true := decide_eq_true c8
   have c8b1 : decide (0 < t344.length) = true := decide_eq_true (by omega)
   clear c8
   replace H := Option.bind_eq_some_iff.mp H
   obtain ⟨⟨t349, t350, t351, t352, t353, t354⟩, A90, H⟩ := H
   replace H : (if t354 = true then (impl_Replay.j0 k t344 (t349 != 4) t349 t350 t351 t352 t353) else (impl_Replay.j0 k t344 true t349 t350 t351 t352 t353)) = some (r1, r2, r3, r4, r5, r6, r7) := H
   have A9 := Aside0.mk A90
   clear A90
   have HC10 := Aside0.mk H
   clear H
   go_enter Try.func5, Try.ntmps5
   go_upto_region 5 with (first | ((with_reducible refine gD 2 rfl ?_); refine boxZ 2 #[.int .i64 0, .int .i64 0, .int .i64 0, .int .i64 0, .slice none 0 0] 24 ?_; intro gb343 hg w11 hbox hb; have BK343 := Aside0.mk hbox; have GW343 := gw (w := w) hg; have GE343 := gw (w := w) hg; replace HB := bs (w := w) hb; clear hb hbox hg) | ((with_reducible refine gC 12 rfl ?_); refine goesZ (some 19) rfl Try.func12 #[.string a0] ?_; (with_reducible refine (impl_Frames.calls k a0 t344 t345 _ A2.out).mono ?_); rintro e w12 ⟨v346, rfl, ho0, hb⟩; refine ⟨_, rfl, ?_⟩; have HO347 := Aside0.mk (Kd.R_lower ho0 (below_size bl)); replace BK343 := bv BK343 hb; replace HB := bs (w := w) hb; (try clear hb ho0); obtain ⟨Ao13, co13, rfl⟩ := Kd.R_slice HO347.out; have p348 : 0 ≤ (0 : Int) := (by omega); have q348 : 0 < (t344.length : Int) := of_decide_eq_true am; obtain ⟨ad348, e348, hx348_0⟩ := Kd.at_string (Kd.R_reads' HO347.out).2.2 0 p348 q348; cases e348; have qi348 : (0 < t344.length) = True := eq_true (by omega); (try rw [show ((0 : Int)).toNat = 0 from rfl] at hx348_0); (try rw [Addr.add_zero'] at hx348_0); replace p348 := eq_true p348; replace q348 := eq_true q348) | ((with_reducible refine gC 13 rfl ?_); refine goesZ (some 30) rfl Try.func13 #[.string (rdOf ByteArray.empty t344 0)] ?_; (with_reducible refine (impl_ReadRec.calls k (rdOf ByteArray.empty t344 0) t349 t350 t351 t352 t353 t354 _ A9.out).mono ?_); rintro e w14 ⟨rfl, hb⟩; refine ⟨_, rfl, ?_⟩; replace HO347 := Aside0.mk (Kd.R_below (rpR HO347.out) hb); replace BK343 := bv BK343 hb; replace HB := bs (w := w) hb; (try clear hb)) | ((with_reducible refine gD 7 rfl ?_); refine boxZ 7 #[.int .i64 0, .int .i64 0, .int .i64 0, .int .i64 0, .string (⟨#[]⟩ : ByteArray)] 34 ?_; intro gb355 hg w15 hbox hb; replace HO347 := Aside0.mk (Kd.R_below (rpR HO347.out) hb); have BK355 := Aside0.mk hbox; have GW355 := gw (w := w) hg; have GE355 := gw (w := w) hg; replace HB := bs (w := w) hb; have NB343_355 := nl BK343 hg; have NB355_343 := nr BK343 hg; replace BK343 := bv BK343 hb; clear hb hbox hg; have hnb16 := NB355_343.out; have hnc16 := NB343_355.out; obtain ⟨Z17_0, Z17_1, Z17_2, Z17_3, Z17_4, Y17_0, Y17_1, Y17_2, Y17_3, Y17_4⟩ := cf5 BK355))
   (try simp only [Act.put, List.setIfInBounds_toArray, List.set_cons_zero, List.set_cons_succ])
   go_cut [39] (fun v39 wc => ∃ (kq : Nat) (x39_9 : Bool), v39 = .bool x39_9 ∧ Aside0 (impl_Replay.j0 kq t344 x39_9 t349 t350 t351 t352 t353 = some (r1, r2, r3, r4, r5, r6, r7)) ∧ Aside0 (kq ≤ k) ∧ Aside0 (Kd.R Kd.string 9 wc w.heap.size (fun _ => True) (.slice (some ad348) t344.length co13) t344) ∧ Aside0 (wc.heap[gb343]? = some (.cells #[.int .i64 0, .int .i64 0, .int .i64 0, .int .i64 0, (.slice none 0 0)] 24 (0, 0))) ∧ Aside0 (wc.heap[gb355]? = some (.cells #[.int .i64 t349, .int .i64 t350, .int .i64 t351, .int .i64 t352, .string t353] 34 (0, 0))) ∧ Aside0 (Below w.heap.size w wc))
   case first =>
    have H := HC10.out
    clear HC10
    by_cases c18 : t354 = true
    ·subst c18
     replace H := iT H
     have H' := Aside0.mk H
     clear H
     have hnb19 := NB355_343.out
     have hnc19 := NB343_355.out
     obtain ⟨Z20_0, Z20_1, Z20_2, Z20_3, Z20_4, Y20_0, Y20_1, Y20_2, Y20_3, Y20_4⟩ := cf5 BK355
     go_wp2
     go_meet
     case rel => exact ⟨_, ((t349 != 4)), fa, H', ⟨by first | omega | exact Nat.le_refl _⟩, ⟨rpR (Kd.R_mono (Kd.R_far (p := ⟨gb355, 4, none⟩) (Kd.R_far (p := ⟨gb355, 3, none⟩) (Kd.R_far (p := ⟨gb355, 2, none⟩) (Kd.R_far (p := ⟨gb355, 1, none⟩) (Kd.R_far (p := ⟨gb355, 0, none⟩) (Kd.R_types HO347.out BK355.out (by decide)) (fun _ hk => hk.2) (.int .i64 t349)) (fun _ hk => hk.2) (.int .i64 t350)) (fun _ hk => hk.2) (.int .i64 t351)) (fun _ hk => hk.2) (.int .i64 t352)) (fun _ hk => hk.2) (.string t353)) (fun _ hk => trivial))⟩, ⟨bkk⟩, ⟨bkk⟩, ⟨bl⟩⟩
    ·replace c18 := Bool.eq_false_iff.mpr c18
     subst c18
     replace H := iF H
     have H' := Aside0.mk H
     clear H
     go_wp2
     go_meet
     case rel => exact ⟨_, (true), fa, H', ⟨by first | omega | exact Nat.le_refl _⟩, ⟨rpR (Kd.R_mono (Kd.R_far (p := ⟨gb355, 4, none⟩) (Kd.R_far (p := ⟨gb355, 3, none⟩) (Kd.R_far (p := ⟨gb355, 2, none⟩) (Kd.R_far (p := ⟨gb355, 1, none⟩) (Kd.R_far (p := ⟨gb355, 0, none⟩) (Kd.R_types HO347.out BK355.out (by decide)) (fun _ hk => hk.2) (.int .i64 t349)) (fun _ hk => hk.2) (.int .i64 t350)) (fun _ hk => hk.2) (.int .i64 t351)) (fun _ hk => hk.2) (.int .i64 t352)) (fun _ hk => hk.2) (.string t353)) (fun _ hk => trivial))⟩, ⟨bkk⟩, ⟨bkk⟩, ⟨bl⟩⟩
   case rest =>
    clear HC10
    try clear c1
    try clear p2
    try clear c3
    try clear c3b0
    try clear c3b1
    try clear c3b2
    try clear p3
    try clear q3
    try clear hx3
    try clear qi3
    try clear c5
    try clear c8
    try clear c8b0
    try clear c8b1
    try clear c12
    try clear c13
    try clear c16
    try clear c18
    try clear c19
    try clear Z17_0 Z17_1 Z17_2 Z17_3 Z17_4
    try clear Z20_0 Z20_1 Z20_2 Z20_3 Z20_4
    try clear Z7_0 Z7_1 Z7_2 Z7_3 Z7_4
    try clear Y17_0 Y17_1 Y17_2 Y17_3 Y17_4
    try clear Y20_0 Y20_1 Y20_2 Y20_3 Y20_4
    try clear Y7_0 Y7_1 Y7_2 Y7_3 Y7_4
    try clear hx348_0
    try clear p348
    try clear q348
    obtain ⟨kq, x39_9, rfl, HA, HJ9, HO_5, BK343, BK355, HB⟩ := hcut
    cases kq with
    | zero => exact absurd HA.out (by simp [impl_Replay.j0])
    | succ kj9 =>
     have H := HA.out
     clear HA
     simp only [impl_Replay.j0] at H
     by_cases c21 : x39_9 = true
     ·subst c21
      replace H := iT H
      simp only [Option.some.injEq, Prod.mk.injEq] at H
      obtain ⟨rfl, rfl, rfl, rfl, rfl, rfl, rfl⟩ := H
      have hnb22 := NB343_355.out
      have hnc22 := NB355_343.out
      obtain ⟨Z23_0, Z23_1, Z23_2, Z23_3, Z23_4, Y23_0, Y23_1, Y23_2, Y23_3, Y23_4⟩ := cf5 BK343
      go_wp2
      refine bodyPost_ret (results_ctt rfl _ _ gb343 24 #[.int .i64 0, .int .i64 0, .int .i64 0, .int .i64 0, .slice none 0 0] (0, 0) _ rfl bkk Try.underlying24 rfl (by kernel_rfl)) rfl ?_
      exact ⟨_, fe, by first | exact Kd.R_nil _ _ _ _ _ | exact Kd.N_nil _ _ _ _ _ | exact Kd.V_nil _ _ _ _ _ | exact Kd.Q_nil _ _ _ _ _ | exact Kd.S_nil _ _ _ _ _, bl⟩
     ·replace c21 := Bool.eq_false_iff.mpr c21
      subst c21
      replace H := iF H
      by_cases c24 : 0 < (t344.length : Int)
      ·rw [if_pos c24] at H
       have c24b0 : decide (0 < (t344.length : Int)) = true := decide_eq_true c24
       have c24b1 : decide (0 < t344.length) = true := decide_eq_true (by omega)
       clear c24
       by_cases c25 : 1 ≤ (t344.length : Int)
       ·rw [if_pos c25] at H
        have c25b0 := eq_true c25
        have c25b1 : decide (1 ≤ (t344.length : Int)) = true := decide_eq_true c25
        clear c25
        obtain ⟨y358, hy358⟩ : ∃ y_ : List ByteArray, y_ = (t344.drop 1) := ⟨_, rfl⟩
        replace H : (impl_Replay.l0 kj9 (wrap64 (((rdOf ByteArray.empty t344 0).size : Int) + 8)) y358 (y358.length : Int) 0 t350 (-1) t351 t350 ([] : List (S51))) = some (r1, r2, r3, r4, r5, r6, r7) := by first | (rw [hy358]; with_reducible exact H) | (have H2_ := (Option.bind_some _ _).symm.trans H; rw [hy358]; with_reducible exact H2_) | (have H2_ := (Option.bind_some _ _).symm.trans H; with_reducible exact H2_) | with_reducible exact H | (rw [hy358]; exact H) | exact H
        have Ny358 := Aside0.mk hy358
        clear hy358
        have H' := Aside0.mk H
        clear H
        have hnb26 := NB355_343.out
        have hnc26 := NB343_355.out
        obtain ⟨Z27_0, Z27_1, Z27_2, Z27_3, Z27_4, Y27_0, Y27_1, Y27_2, Y27_3, Y27_4⟩ := cf5 BK355
        go_wp2_with (first | ((with_reducible refine gD 9 rfl ?_); refine boxZ 9 #[.int .i64 0, .int .i64 0, .int .i64 0, .int .i64 0, .slice none 0 0] 24 ?_; intro gb356 hg w28 hbox hb; replace HO_5 := Aside0.mk (Kd.R_below (rpR HO_5.out) hb); have BK356 := Aside0.mk hbox; have GW356 := gw (w := w) hg; have GE356 := gw (w := w) hg; replace HB := bs (w := w) hb; have NB343_356 := nl BK343 hg; have NB356_343 := nr BK343 hg; replace BK343 := bv BK343 hb; have NB355_356 := nl BK355 hg; have NB356_355 := nr BK355 hg; replace BK355 := bv BK355 hb; clear hb hbox hg; have hnb29 := NB356_343.out; have hnc29 := NB343_356.out; have hnb30 := NB356_355.out; have hnc30 := NB355_356.out; obtain ⟨Z31_0, Z31_1, Z31_2, Z31_3, Z31_4, Y31_0, Y31_1, Y31_2, Y31_3, Y31_4⟩ := cf5 BK356) | ((with_reducible refine gate_store (t := 24) (p := 9) rfl ?_); refine store_event (t := 24) (p := 9) (v := ?vo_w32) (w1 := (((((w28.setCell ⟨gb356, 0, none⟩ (.int .i64 t350)).setCell ⟨gb356, 1, none⟩ (.int .i64 (-1))).setCell ⟨gb356, 2, none⟩ (.int .i64 t351)).setCell ⟨gb356, 3, none⟩ (.int .i64 t350)).setCell ⟨gb356, 4, none⟩ (.slice none 0 0))) ?hg ?ho ?hn ?hr ?_; (case ho => rfl); (case hg => rfl); (case hn => rfl); (case hr => first | (go_simp; done) | (go_simp; rfl)); intro w32 hw; have n0_ : Aside0 (Kd.R Kd.string 9 w32 w.heap.size (fun _ => True) (.slice (some ad348) t344.length co13) t344) := ⟨(by rw [hw]; exact (rpR (Kd.R_mono (Kd.R_far (p := ⟨gb356, 4, none⟩) (Kd.R_far (p := ⟨gb356, 3, none⟩) (Kd.R_far (p := ⟨gb356, 2, none⟩) (Kd.R_far (p := ⟨gb356, 1, none⟩) (Kd.R_far (p := ⟨gb356, 0, none⟩) (Kd.R_types HO_5.out BK356.out (by decide)) (fun _ hk => hk.2) (.int .i64 t350)) (fun _ hk => hk.2) (.int .i64 (-1))) (fun _ hk => hk.2) (.int .i64 t351)) (fun _ hk => hk.2) (.int .i64 t350)) (fun _ hk => hk.2) (.slice none 0 0)) (fun _ hk => trivial))))⟩; have n1_ : Aside0 (w32.heap[gb343]? = some (.cells #[.int .i64 0, .int .i64 0, .int .i64 0, .int .i64 0, .slice none 0 0] 24 (0, 0))) := ⟨(by rw [hw]; exact bkk)⟩; have n2_ : Aside0 (w32.heap[gb355]? = some (.cells #[.int .i64 t349, .int .i64 t350, .int .i64 t351, .int .i64 t352, .string t353] 34 (0, 0))) := ⟨(by rw [hw]; exact bkk)⟩; have n3_ : Aside0 (w32.heap[gb356]? = some (.cells #[.int .i64 t350, .int .i64 (-1), .int .i64 t351, .int .i64 t350, .slice none 0 0] 24 (0, 0))) := ⟨(by rw [hw]; exact bkk)⟩; have n4_ : Aside0 (Below w.heap.size w w32) := ⟨(by rw [hw]; exact bl)⟩; clear hw; clear HO_5; clear BK343; clear BK355; clear BK356; clear HB; have HO_5 := n0_; have BK343 := n1_; have BK355 := n2_; have BK356 := n3_; have HB := n4_; clear n0_ n1_ n2_ n3_ n4_; have p357 : 0 ≤ (0 : Int) := (by omega); have q357 : 0 < (t344.length : Int) := of_decide_eq_true am; obtain ⟨ad357, e357, hx357_0⟩ := Kd.at_string (Kd.R_reads' HO_5.out).2.2 0 p357 q357; obtain rfl : ad348 = ad357 := (by injection e357); have qi357 : (0 < t344.length) = True := eq_true (by omega); (try rw [show ((0 : Int)).toNat = 0 from rfl] at hx357_0); (try rw [Addr.add_zero'] at hx357_0); replace p357 := eq_true p357; replace q357 := eq_true q357; have q33 : (1 : Int) ≤ ((t344.length : Int) : Int) := of_decide_eq_true am; obtain ⟨i033, hi033, _, hsz33, _⟩ := info_parts info9; have hroom33 : t344.length ≤ co13 := (Kd.R_reads' HO_5.out).2.1; have hC33 : Kd.C Kd.string _ (some ad348) t344.length t344 := (Kd.R_reads' HO_5.out).2.2; have hcut33 := cut_from (P := Try.prog) 30 9 .i64 Try.underlying30 hi033 1 hsz33 (some ad348) t344.length co13 1 (by omega) q33; have hr33 := Kd.C_drop (m := (1 : Int).toNat) (c := co13) hC33 (by omega) hroom33; obtain ⟨A33, hA33⟩ : ∃ A1, A1 = (if co13 = (1 : Int).toNat then (some ad348) else ((some ad348) : Option Addr).map (·.add ((1 : Int).toNat * 1))) := ⟨_, rfl⟩; obtain ⟨c33, hc33⟩ : ∃ c1, c1 = co13 - (1 : Int).toNat := ⟨_, rfl⟩; have hy33 : y358.length = t344.length - (1 : Int).toNat := (by rw [Ny358.out, List.length_drop] <;> omega); rw [show (t344).drop (1 : Int).toNat = y358 from Ny358.out.symm] at hr33; replace hr33 : Kd.C Kd.string _ A33 y358.length y358 := (by rw [hA33]; exact hr33); rw [← hy33, ← hA33, ← hc33] at hcut33; have HR361 := Aside0.mk hr33; have NC361_356 := Aside0.mk (cneT BK356 (by intro i s; rcases i with _ | _ | _ | _ | _ | i <;> simp) HR361.out); have HC361 := Aside0.mk (show y358.length ≤ c33 from by rw [hy33, hc33]; exact Nat.sub_le_sub_right hroom33 _); clear hr33 hC33 hroom33 hi033 hsz33 hc33; have KY33 := Aside0.mk hy33; have KA33 := Aside0.mk hA33; clear hy33 hA33; have KL33 := Aside0.mk (show 1 ≤ t344.length from by omega); replace q33 := eq_true q33))
        go_loopg [10, 56] kj9 (fun kq v10 v56 w' => ∃ (x10_2 : Int) (x56_2 : Int) (x357000_2 : Int) (x357001_2 : Int) (x357002_2 : Int) (x357003_2 : Int) (x357004_2 : List (S51)) (u357004 : Value), v10 = .int .i64 x10_2 ∧ v56 = .int .i64 x56_2 ∧ Aside0 (impl_Replay.l0 kq x10_2 y358 (y358.length : Int) x56_2 x357000_2 x357001_2 x357002_2 x357003_2 x357004_2 = some (r1, r2, r3, r4, r5, r6, r7)) ∧ Aside0 (kq ≤ kj9) ∧ Aside0 (Kd.R k51 51 w' w.heap.size (fun _ => True) u357004 x357004_2) ∧ Aside0 (w'.heap[gb343]? = some (.cells #[.int .i64 0, .int .i64 0, .int .i64 0, .int .i64 0, (.slice none 0 0)] 24 (0, 0))) ∧ Aside0 (w'.heap[gb355]? = some (.cells #[.int .i64 t349, .int .i64 t350, .int .i64 t351, .int .i64 t352, .string t353] 34 (0, 0))) ∧ Aside0 (w'.heap[gb356]? = some (.cells #[.int .i64 x357000_2, .int .i64 x357001_2, .int .i64 x357002_2, .int .i64 x357003_2, u357004] 24 (0, 0))) ∧ Aside0 (Kd.C Kd.string w' A33 y358.length y358) ∧ Aside0 (Below w.heap.size w w'))
        case atStart => exact ⟨(wrap64 (((rdOf ByteArray.empty t344 0).size : Int) + 8)), (0), (t350), ((-1)), (t351), (t350), (([] : List (S51))), (.slice none 0 0), fa, fa, H', ⟨Nat.le_refl _⟩, ⟨by first | exact Kd.R_nil _ _ _ _ _ | exact Kd.N_nil _ _ _ _ _ | exact Kd.V_nil _ _ _ _ _ | exact Kd.Q_nil _ _ _ _ _ | exact Kd.S_nil _ _ _ _ _⟩, ⟨by (with_reducible repeat (first | refine blk_drewN ?_ _ | refine blk_drew ?_ | refine blk_alloc ?_ _)); exact BK343.out⟩, ⟨by (with_reducible repeat (first | refine blk_drewN ?_ _ | refine blk_drew ?_ | refine blk_alloc ?_ _)); exact BK355.out⟩, ⟨by (with_reducible repeat (first | refine blk_drewN ?_ _ | refine blk_drew ?_ | refine blk_alloc ?_ _)); exact BK356.out⟩, ⟨by repeat (first | (with_reducible exact HR361.out) | (with_reducible refine Kd.C_alloc ?_ _) | (with_reducible refine Kd.C_drewN ?_ _) | (with_reducible refine Kd.C_drew ?_) | exact HR361.out)⟩, ⟨bl⟩⟩
        case round =>
         clear H'
         try clear c1
         try clear c2
         try clear p2
         try clear c3
         try clear c3b0
         try clear c3b1
         try clear c3b2
         try clear p3
         try clear q3
         try clear hx3
         try clear qi3
         try clear c5
         try clear p6
         try clear c8
         try clear c8b0
         try clear c8b1
         try clear c12
         try clear c13
         try clear c16
         try clear c18
         try clear c19
         try clear c21
         try clear c22
         try clear c24
         try clear c24b0
         try clear c24b1
         try clear c25
         try clear c25b0
         try clear c25b1
         try clear c26
         try clear c29
         try clear c30
         try clear c33
         try clear q33
         try clear Z17_0 Z17_1 Z17_2 Z17_3 Z17_4
         try clear Z20_0 Z20_1 Z20_2 Z20_3 Z20_4
         try clear Z23_0 Z23_1 Z23_2 Z23_3 Z23_4
         try clear Z27_0 Z27_1 Z27_2 Z27_3 Z27_4
         try clear Z31_0 Z31_1 Z31_2 Z31_3 Z31_4
         try clear Z7_0 Z7_1 Z7_2 Z7_3 Z7_4
         try clear Y17_0 Y17_1 Y17_2 Y17_3 Y17_4
         try clear Y20_0 Y20_1 Y20_2 Y20_3 Y20_4
         try clear Y23_0 Y23_1 Y23_2 Y23_3 Y23_4
         try clear Y27_0 Y27_1 Y27_2 Y27_3 Y27_4
         try clear Y31_0 Y31_1 Y31_2 Y31_3 Y31_4
         try clear Y7_0 Y7_1 Y7_2 Y7_3 Y7_4
         try clear hx348_0
         try clear hx357_0
         try clear p2
         try clear p3
         try clear p348
         try clear p357
         try clear q3
         try clear q33
         try clear q348
         try clear q357
         obtain ⟨x10_2, x56_2, x357000_2, x357001_2, x357002_2, x357003_2, x357004_2, u357004, rfl, rfl, HA, HK2, HO_357004, BK343, BK355, BK356, HR361, HB⟩ := hrel
         cases gk with
         | zero => exact absurd HA.out (by simp [impl_Replay.l0])
         | succ k2 =>
          have H := HA.out
          clear HA
          simp only [impl_Replay.l0] at H
          by_cases c34 : x56_2 < (y358.length : Int)
          ·rw [if_pos c34] at H
           have c34b0 : decide (x56_2 < (y358.length : Int)) = true := decide_eq_true c34
           clear c34
           by_cases c35 : 0 ≤ x56_2
           ·rw [if_pos c35] at H
            have c35b0 : decide (0 ≤ x56_2) = true := decide_eq_true c35
            clear c35
            by_cases c36 : x56_2 < (y358.length : Int)
            ·rw [if_pos c36] at H
             have c36b0 : decide (x56_2 < (y358.length : Int)) = true := decide_eq_true c36
             clear c36
             replace H := Option.bind_eq_some_iff.mp H
             obtain ⟨⟨t363, t364, t365, t366, t367, t368⟩, A370, H⟩ := H
             replace H : (if t368 = true then ((impl_WalStep.f k2 x357000_2 x357001_2 x357002_2 x357003_2 x357004_2 t363 t364 t365 t366 t367).bind fun bt370 => (if bt370.2.2.2.2.2 = true then (impl_Replay.l0 k2 (wrap64 (x10_2 + (wrap64 (((rdOf ByteArray.empty y358 x56_2).size : Int) + 8)))) y358 (y358.length : Int) (wrap64 (x56_2 + 1)) bt370.1 bt370.2.1 bt370.2.2.1 bt370.2.2.2.1 bt370.2.2.2.2.1) else (some (x357000_2, x357001_2, x357002_2, x357003_2, x357004_2, x10_2, true)))) else (some (x357000_2, x357001_2, x357002_2, x357003_2, x357004_2, x10_2, true))) = some (r1, r2, r3, r4, r5, r6, r7) := H
             have A37 := Aside0.mk A370
             clear A370
             by_cases c38 : t368 = true
             ·subst c38
              replace H := iT H
              replace H := Option.bind_eq_some_iff.mp H
              obtain ⟨⟨t370, t371, t372, t373, t374, t377⟩, A390, H⟩ := H
              replace H : (if t377 = true then (impl_Replay.l0 k2 (wrap64 (x10_2 + (wrap64 (((rdOf ByteArray.empty y358 x56_2).size : Int) + 8)))) y358 (y358.length : Int) (wrap64 (x56_2 + 1)) t370 t371 t372 t373 t374) else (some (x357000_2, x357001_2, x357002_2, x357003_2, x357004_2, x10_2, true))) = some (r1, r2, r3, r4, r5, r6, r7) := H
              have A39 := Aside0.mk A390
              clear A390
              by_cases c40 : t377 = true
              ·subst c40
               replace H := iT H
               have H' := Aside0.mk H
               clear H
               have p362 : 0 ≤ (x56_2 : Int) := of_decide_eq_true am
               have q362 : x56_2 < (y358.length : Int) := of_decide_eq_true am
               obtain ⟨ad362, e362, hx362_0⟩ := Kd.at_string HR361.out x56_2 p362 q362
               cases e362
               replace p362 := eq_true p362
               replace q362 := eq_true q362
               go_wp2_with (first | ((with_reducible refine gC 13 rfl ?_); refine goesZ (some 62) rfl Try.func13 #[.string (rdOf ByteArray.empty y358 x56_2)] ?_; (with_reducible refine (impl_ReadRec.calls k2 (rdOf ByteArray.empty y358 x56_2) t363 t364 t365 t366 t367 true _ A37.out).mono ?_); rintro e w41 ⟨rfl, hb⟩; refine ⟨_, rfl, ?_⟩; replace HO_357004 := Aside0.mk (Kd.R_below (rpR HO_357004.out) hb); replace BK343 := bv BK343 hb; replace BK355 := bv BK355 hb; replace BK356 := bv BK356 hb; replace HR361 := Aside0.mk (Kd.C_below (by repeat (first | (with_reducible exact HR361.out) | (with_reducible refine Kd.C_alloc ?_ _) | (with_reducible refine Kd.C_drewN ?_ _) | (with_reducible refine Kd.C_drew ?_) | exact HR361.out)) hb); replace HB := bs (w := w) hb; (try clear hb)) | ((with_reducible refine gD 13 rfl ?_); refine boxZ 13 #[.int .i64 0, .int .i64 0, .int .i64 0, .int .i64 0, .string (⟨#[]⟩ : ByteArray)] 34 ?_; intro gb369 hg w42 hbox hb; have NC361_369 := Aside0.mk (cneS hg (by repeat (first | (with_reducible exact HR361.out) | (with_reducible refine Kd.C_alloc ?_ _) | (with_reducible refine Kd.C_drewN ?_ _) | (with_reducible refine Kd.C_drew ?_) | exact HR361.out))); replace HO_357004 := Aside0.mk (Kd.R_below (rpR HO_357004.out) hb); replace HR361 := Aside0.mk (Kd.C_below (by repeat (first | (with_reducible exact HR361.out) | (with_reducible refine Kd.C_alloc ?_ _) | (with_reducible refine Kd.C_drewN ?_ _) | (with_reducible refine Kd.C_drew ?_) | exact HR361.out)) hb); have BK369 := Aside0.mk hbox; have GW369 := gw (w := w) hg; have GE369 := gw (w := w) hg; replace HB := bs (w := w) hb; have NB343_369 := nl BK343 hg; have NB369_343 := nr BK343 hg; replace BK343 := bv BK343 hb; have NB355_369 := nl BK355 hg; have NB369_355 := nr BK355 hg; replace BK355 := bv BK355 hb; have NB356_369 := nl BK356 hg; have NB369_356 := nr BK356 hg; replace BK356 := bv BK356 hb; clear hb hbox hg; have hnb43 := NB369_343.out; have hnc43 := NB343_369.out; have hnb44 := NB369_355.out; have hnc44 := NB355_369.out; have hnb45 := NB369_356.out; have hnc45 := NB356_369.out; obtain ⟨Z46_0, Z46_1, Z46_2, Z46_3, Z46_4, Y46_0, Y46_1, Y46_2, Y46_3, Y46_4⟩ := cf5 BK369; have hnb47 := NB356_343.out; have hnc47 := NB343_356.out; have hnb48 := NB356_355.out; have hnc48 := NB355_356.out; obtain ⟨Z49_0, Z49_1, Z49_2, Z49_3, Z49_4, Y49_0, Y49_1, Y49_2, Y49_3, Y49_4⟩ := cf5 BK356; obtain ⟨Ao50, co50, rfl⟩ := Kd.R_slice HO_357004.out) | ((with_reducible refine gC 14 rfl ?_); refine goesZ (some 70) rfl Try.func14 #[.agg #[.int .i64 x357000_2, .int .i64 x357001_2, .int .i64 x357002_2, .int .i64 x357003_2, .slice Ao50 x357004_2.length co50], .agg #[.int .i64 t363, .int .i64 t364, .int .i64 t365, .int .i64 t366, .string t367]] ?_; (with_reducible refine (impl_WalStep.calls k2 x357000_2 x357001_2 x357002_2 x357003_2 _ _ x357004_2 t363 t364 t365 t366 t367 t370 t371 t372 t373 t374 true _ ?side1 ?side2 A39.out).mono ?_); (case side1 => refine (Kd.R_reads' (e := 51) (base := w.heap.size) (ok := fun k_ => True) (n := x357004_2.length) (c := co50) ?_).2.2; exact (rpR (Kd.R_mono (Kd.R_far (p := ⟨gb369, 4, none⟩) (Kd.R_far (p := ⟨gb369, 3, none⟩) (Kd.R_far (p := ⟨gb369, 2, none⟩) (Kd.R_far (p := ⟨gb369, 1, none⟩) (Kd.R_far (p := ⟨gb369, 0, none⟩) (Kd.R_types HO_357004.out BK369.out (by decide)) (fun _ hk => hk.2) (.int .i64 t363)) (fun _ hk => hk.2) (.int .i64 t364)) (fun _ hk => hk.2) (.int .i64 t365)) (fun _ hk => hk.2) (.int .i64 t366)) (fun _ hk => hk.2) (.string t367)) (fun _ h_ => h_.1)))); (case side2 => exact (Kd.R_reads' HO_357004.out).2.1); rintro e w51 ⟨v375, rfl, ho0, hb⟩; refine ⟨_, rfl, ?_⟩; have HO376 := Aside0.mk (Kd.R_lower (Kd.R_new' ho0 (Kd.R_lt (rpR (Kd.R_mono (Kd.R_far (p := ⟨gb369, 4, none⟩) (Kd.R_far (p := ⟨gb369, 3, none⟩) (Kd.R_far (p := ⟨gb369, 2, none⟩) (Kd.R_far (p := ⟨gb369, 1, none⟩) (Kd.R_far (p := ⟨gb369, 0, none⟩) (Kd.R_types HO_357004.out BK369.out (by decide)) (fun _ hk => hk.2) (.int .i64 t363)) (fun _ hk => hk.2) (.int .i64 t364)) (fun _ hk => hk.2) (.int .i64 t365)) (fun _ hk => hk.2) (.int .i64 t366)) (fun _ hk => hk.2) (.string t367)) (fun _ h_ => h_.1))))) (below_size bl)); replace HO_357004 := Aside0.mk (Kd.R_elder' (rpR (Kd.R_mono (Kd.R_far (p := ⟨gb369, 4, none⟩) (Kd.R_far (p := ⟨gb369, 3, none⟩) (Kd.R_far (p := ⟨gb369, 2, none⟩) (Kd.R_far (p := ⟨gb369, 1, none⟩) (Kd.R_far (p := ⟨gb369, 0, none⟩) (Kd.R_types HO_357004.out BK369.out (by decide)) (fun _ hk => hk.2) (.int .i64 t363)) (fun _ hk => hk.2) (.int .i64 t364)) (fun _ hk => hk.2) (.int .i64 t365)) (fun _ hk => hk.2) (.int .i64 t366)) (fun _ hk => hk.2) (.string t367)) (fun _ h_ => h_.1))) (Kd.R_base ho0) hb); replace BK343 := Aside0.mk (blk_below (g := gb343) (o := .cells #[.int .i64 0, .int .i64 0, .int .i64 0, .int .i64 0, .slice none 0 0] 24 (0, 0)) bkk hb); replace BK355 := Aside0.mk (blk_below (g := gb355) (o := .cells #[.int .i64 t349, .int .i64 t350, .int .i64 t351, .int .i64 t352, .string t353] 34 (0, 0)) bkk hb); replace BK356 := Aside0.mk (blk_below (g := gb356) (o := .cells #[.int .i64 x357000_2, .int .i64 x357001_2, .int .i64 x357002_2, .int .i64 x357003_2, .slice Ao50 x357004_2.length co50] 24 (0, 0)) bkk hb); replace HR361 := Aside0.mk (Kd.C_below (by (have h_ := (cfarS (cfarS (cfarS (cfarS (cfarS HR361.out NC361_369.out 0 (.int .i64 t363)) NC361_369.out 1 (.int .i64 t364)) NC361_369.out 2 (.int .i64 t365)) NC361_369.out 3 (.int .i64 t366)) NC361_369.out 4 (.string t367)); repeat (first | exact h_ | (with_reducible refine Kd.C_alloc ?_ _) | (with_reducible refine Kd.C_drewN ?_ _) | (with_reducible refine Kd.C_drew ?_)))) hb); replace BK369 := Aside0.mk (blk_below (g := gb369) (o := .cells #[.int .i64 t363, .int .i64 t364, .int .i64 t365, .int .i64 t366, .string t367] 34 (0, 0)) bkk hb); replace HB := bs (w := w) hb; (try clear hb ho0)) | ((with_reducible refine gD 15 rfl ?_); refine boxZ 15 #[.int .i64 0, .int .i64 0, .int .i64 0, .int .i64 0, .slice none 0 0] 24 ?_; intro gb378 hg w52 hbox hb; have NC361_378 := Aside0.mk (cneS hg (by repeat (first | (with_reducible exact HR361.out) | (with_reducible refine Kd.C_alloc ?_ _) | (with_reducible refine Kd.C_drewN ?_ _) | (with_reducible refine Kd.C_drew ?_) | exact HR361.out))); replace HO_357004 := Aside0.mk (Kd.R_below (rpR HO_357004.out) hb); replace HO376 := Aside0.mk (Kd.R_below (rpR HO376.out) hb); replace HR361 := Aside0.mk (Kd.C_below (by repeat (first | (with_reducible exact HR361.out) | (with_reducible refine Kd.C_alloc ?_ _) | (with_reducible refine Kd.C_drewN ?_ _) | (with_reducible refine Kd.C_drew ?_) | exact HR361.out)) hb); have BK378 := Aside0.mk hbox; have GW378 := gw (w := w) hg; have GE378 := gw (w := w) hg; replace HB := bs (w := w) hb; have NB343_378 := nl BK343 hg; have NB378_343 := nr BK343 hg; replace BK343 := bv BK343 hb; have NB355_378 := nl BK355 hg; have NB378_355 := nr BK355 hg; replace BK355 := bv BK355 hb; have NB356_378 := nl BK356 hg; have NB378_356 := nr BK356 hg; replace BK356 := bv BK356 hb; have NB369_378 := nl BK369 hg; have NB378_369 := nr BK369 hg; replace BK369 := bv BK369 hb; clear hb hbox hg; have hnb53 := NB378_343.out; have hnc53 := NB343_378.out; have hnb54 := NB378_355.out; have hnc54 := NB355_378.out; have hnb55 := NB378_356.out; have hnc55 := NB356_378.out; have hnb56 := NB378_369.out; have hnc56 := NB369_378.out; obtain ⟨Z57_0, Z57_1, Z57_2, Z57_3, Z57_4, Y57_0, Y57_1, Y57_2, Y57_3, Y57_4⟩ := cf5 BK378; obtain ⟨Ao58, co58, rfl⟩ := Kd.R_slice HO376.out; obtain ⟨Z59_0, Z59_1, Z59_2, Z59_3, Z59_4, Y59_0, Y59_1, Y59_2, Y59_3, Y59_4⟩ := cf5 BK356))
               go_roundg k2
               case measure => have := HJ9.out; have := HK2.out; omega
               case rel => exact ⟨(wrap64 (x10_2 + (wrap64 (((rdOf ByteArray.empty y358 x56_2).size : Int) + 8)))), (wrap64 (x56_2 + 1)), (t370), (t371), (t372), (t373), (t374), (.slice Ao58 t374.length co58), fa, fa, H', ⟨by have := HJ9.out; have := HK2.out; omega⟩, ⟨rpR (Kd.R_mono (Kd.R_far (p := ⟨gb356, 4, none⟩) (Kd.R_far (p := ⟨gb356, 3, none⟩) (Kd.R_far (p := ⟨gb356, 2, none⟩) (Kd.R_far (p := ⟨gb356, 1, none⟩) (Kd.R_far (p := ⟨gb356, 0, none⟩) (Kd.R_far (p := ⟨gb378, 4, none⟩) (Kd.R_far (p := ⟨gb378, 3, none⟩) (Kd.R_far (p := ⟨gb378, 2, none⟩) (Kd.R_far (p := ⟨gb378, 1, none⟩) (Kd.R_far (p := ⟨gb378, 0, none⟩) (Kd.R_types (Kd.R_types HO376.out BK378.out (by decide)) BK356.out (by decide)) (fun _ hk => hk.1.2) (.int .i64 t370)) (fun _ hk => hk.1.2) (.int .i64 t371)) (fun _ hk => hk.1.2) (.int .i64 t372)) (fun _ hk => hk.1.2) (.int .i64 t373)) (fun _ hk => hk.1.2) (.slice Ao58 t374.length co58)) (fun _ hk => hk.2) (.int .i64 t370)) (fun _ hk => hk.2) (.int .i64 t371)) (fun _ hk => hk.2) (.int .i64 t372)) (fun _ hk => hk.2) (.int .i64 t373)) (fun _ hk => hk.2) (.slice Ao58 t374.length co58)) (fun _ hk => trivial))⟩, ⟨bkk⟩, ⟨bkk⟩, ⟨bkk⟩, ⟨by (have h_ := (cfarS (cfarS (cfarS (cfarS (cfarS (cfarS (cfarS (cfarS (cfarS (cfarS HR361.out NC361_378.out 0 (.int .i64 t370)) NC361_378.out 1 (.int .i64 t371)) NC361_378.out 2 (.int .i64 t372)) NC361_378.out 3 (.int .i64 t373)) NC361_378.out 4 (.slice Ao58 t374.length co58)) NC361_356.out 0 (.int .i64 t370)) NC361_356.out 1 (.int .i64 t371)) NC361_356.out 2 (.int .i64 t372)) NC361_356.out 3 (.int .i64 t373)) NC361_356.out 4 (.slice Ao58 t374.length co58)); repeat (first | exact h_ | (with_reducible refine Kd.C_alloc ?_ _) | (with_reducible refine Kd.C_drewN ?_ _) | (with_reducible refine Kd.C_drew ?_)))⟩, ⟨bl⟩⟩
              ·replace c40 := Bool.eq_false_iff.mpr c40
               subst c40
               replace H := iF H
               simp only [Option.some.injEq, Prod.mk.injEq] at H
               obtain ⟨rfl, rfl, rfl, rfl, rfl, rfl, rfl⟩ := H
               have p362 : 0 ≤ (x56_2 : Int) := of_decide_eq_true am
               have q362 : x56_2 < (y358.length : Int) := of_decide_eq_true am
               obtain ⟨ad362, e362, hx362_0⟩ := Kd.at_string HR361.out x56_2 p362 q362
               cases e362
               replace p362 := eq_true p362
               replace q362 := eq_true q362
               go_wp2_with (first | ((with_reducible refine gC 13 rfl ?_); refine goesZ (some 62) rfl Try.func13 #[.string (rdOf ByteArray.empty y358 x56_2)] ?_; (with_reducible refine (impl_ReadRec.calls k2 (rdOf ByteArray.empty y358 x56_2) t363 t364 t365 t366 t367 true _ A37.out).mono ?_); rintro e w60 ⟨rfl, hb⟩; refine ⟨_, rfl, ?_⟩; replace HO_357004 := Aside0.mk (Kd.R_below (rpR HO_357004.out) hb); replace BK343 := bv BK343 hb; replace BK355 := bv BK355 hb; replace BK356 := bv BK356 hb; replace HR361 := Aside0.mk (Kd.C_below (by repeat (first | (with_reducible exact HR361.out) | (with_reducible refine Kd.C_alloc ?_ _) | (with_reducible refine Kd.C_drewN ?_ _) | (with_reducible refine Kd.C_drew ?_) | exact HR361.out)) hb); replace HB := bs (w := w) hb; (try clear hb)) | ((with_reducible refine gD 13 rfl ?_); refine boxZ 13 #[.int .i64 0, .int .i64 0, .int .i64 0, .int .i64 0, .string (⟨#[]⟩ : ByteArray)] 34 ?_; intro gb369 hg w61 hbox hb; have NC361_369 := Aside0.mk (cneS hg (by repeat (first | (with_reducible exact HR361.out) | (with_reducible refine Kd.C_alloc ?_ _) | (with_reducible refine Kd.C_drewN ?_ _) | (with_reducible refine Kd.C_drew ?_) | exact HR361.out))); replace HO_357004 := Aside0.mk (Kd.R_below (rpR HO_357004.out) hb); replace HR361 := Aside0.mk (Kd.C_below (by repeat (first | (with_reducible exact HR361.out) | (with_reducible refine Kd.C_alloc ?_ _) | (with_reducible refine Kd.C_drewN ?_ _) | (with_reducible refine Kd.C_drew ?_) | exact HR361.out)) hb); have BK369 := Aside0.mk hbox; have GW369 := gw (w := w) hg; have GE369 := gw (w := w) hg; replace HB := bs (w := w) hb; have NB343_369 := nl BK343 hg; have NB369_343 := nr BK343 hg; replace BK343 := bv BK343 hb; have NB355_369 := nl BK355 hg; have NB369_355 := nr BK355 hg; replace BK355 := bv BK355 hb; have NB356_369 := nl BK356 hg; have NB369_356 := nr BK356 hg; replace BK356 := bv BK356 hb; clear hb hbox hg; have hnb62 := NB369_343.out; have hnc62 := NB343_369.out; have hnb63 := NB369_355.out; have hnc63 := NB355_369.out; have hnb64 := NB369_356.out; have hnc64 := NB356_369.out; obtain ⟨Z65_0, Z65_1, Z65_2, Z65_3, Z65_4, Y65_0, Y65_1, Y65_2, Y65_3, Y65_4⟩ := cf5 BK369; have hnb66 := NB356_343.out; have hnc66 := NB343_356.out; have hnb67 := NB356_355.out; have hnc67 := NB355_356.out; obtain ⟨Z68_0, Z68_1, Z68_2, Z68_3, Z68_4, Y68_0, Y68_1, Y68_2, Y68_3, Y68_4⟩ := cf5 BK356; obtain ⟨Ao69, co69, rfl⟩ := Kd.R_slice HO_357004.out) | ((with_reducible refine gC 14 rfl ?_); refine goesZ (some 70) rfl Try.func14 #[.agg #[.int .i64 x357000_2, .int .i64 x357001_2, .int .i64 x357002_2, .int .i64 x357003_2, .slice Ao69 x357004_2.length co69], .agg #[.int .i64 t363, .int .i64 t364, .int .i64 t365, .int .i64 t366, .string t367]] ?_; (with_reducible refine (impl_WalStep.calls k2 x357000_2 x357001_2 x357002_2 x357003_2 _ _ x357004_2 t363 t364 t365 t366 t367 t370 t371 t372 t373 t374 false _ ?side1 ?side2 A39.out).mono ?_); (case side1 => refine (Kd.R_reads' (e := 51) (base := w.heap.size) (ok := fun k_ => True) (n := x357004_2.length) (c := co69) ?_).2.2; exact (rpR (Kd.R_mono (Kd.R_far (p := ⟨gb369, 4, none⟩) (Kd.R_far (p := ⟨gb369, 3, none⟩) (Kd.R_far (p := ⟨gb369, 2, none⟩) (Kd.R_far (p := ⟨gb369, 1, none⟩) (Kd.R_far (p := ⟨gb369, 0, none⟩) (Kd.R_types HO_357004.out BK369.out (by decide)) (fun _ hk => hk.2) (.int .i64 t363)) (fun _ hk => hk.2) (.int .i64 t364)) (fun _ hk => hk.2) (.int .i64 t365)) (fun _ hk => hk.2) (.int .i64 t366)) (fun _ hk => hk.2) (.string t367)) (fun _ h_ => h_.1)))); (case side2 => exact (Kd.R_reads' HO_357004.out).2.1); rintro e w70 ⟨v375, rfl, ho0, hb⟩; refine ⟨_, rfl, ?_⟩; have HO376 := Aside0.mk (Kd.R_lower (Kd.R_new' ho0 (Kd.R_lt (rpR (Kd.R_mono (Kd.R_far (p := ⟨gb369, 4, none⟩) (Kd.R_far (p := ⟨gb369, 3, none⟩) (Kd.R_far (p := ⟨gb369, 2, none⟩) (Kd.R_far (p := ⟨gb369, 1, none⟩) (Kd.R_far (p := ⟨gb369, 0, none⟩) (Kd.R_types HO_357004.out BK369.out (by decide)) (fun _ hk => hk.2) (.int .i64 t363)) (fun _ hk => hk.2) (.int .i64 t364)) (fun _ hk => hk.2) (.int .i64 t365)) (fun _ hk => hk.2) (.int .i64 t366)) (fun _ hk => hk.2) (.string t367)) (fun _ h_ => h_.1))))) (below_size bl)); replace HO_357004 := Aside0.mk (Kd.R_elder' (rpR (Kd.R_mono (Kd.R_far (p := ⟨gb369, 4, none⟩) (Kd.R_far (p := ⟨gb369, 3, none⟩) (Kd.R_far (p := ⟨gb369, 2, none⟩) (Kd.R_far (p := ⟨gb369, 1, none⟩) (Kd.R_far (p := ⟨gb369, 0, none⟩) (Kd.R_types HO_357004.out BK369.out (by decide)) (fun _ hk => hk.2) (.int .i64 t363)) (fun _ hk => hk.2) (.int .i64 t364)) (fun _ hk => hk.2) (.int .i64 t365)) (fun _ hk => hk.2) (.int .i64 t366)) (fun _ hk => hk.2) (.string t367)) (fun _ h_ => h_.1))) (Kd.R_base ho0) hb); replace BK343 := Aside0.mk (blk_below (g := gb343) (o := .cells #[.int .i64 0, .int .i64 0, .int .i64 0, .int .i64 0, .slice none 0 0] 24 (0, 0)) bkk hb); replace BK355 := Aside0.mk (blk_below (g := gb355) (o := .cells #[.int .i64 t349, .int .i64 t350, .int .i64 t351, .int .i64 t352, .string t353] 34 (0, 0)) bkk hb); replace BK356 := Aside0.mk (blk_below (g := gb356) (o := .cells #[.int .i64 x357000_2, .int .i64 x357001_2, .int .i64 x357002_2, .int .i64 x357003_2, .slice Ao69 x357004_2.length co69] 24 (0, 0)) bkk hb); replace HR361 := Aside0.mk (Kd.C_below (by (have h_ := (cfarS (cfarS (cfarS (cfarS (cfarS HR361.out NC361_369.out 0 (.int .i64 t363)) NC361_369.out 1 (.int .i64 t364)) NC361_369.out 2 (.int .i64 t365)) NC361_369.out 3 (.int .i64 t366)) NC361_369.out 4 (.string t367)); repeat (first | exact h_ | (with_reducible refine Kd.C_alloc ?_ _) | (with_reducible refine Kd.C_drewN ?_ _) | (with_reducible refine Kd.C_drew ?_)))) hb); replace BK369 := Aside0.mk (blk_below (g := gb369) (o := .cells #[.int .i64 t363, .int .i64 t364, .int .i64 t365, .int .i64 t366, .string t367] 34 (0, 0)) bkk hb); replace HB := bs (w := w) hb; (try clear hb ho0)) | ((with_reducible refine gD 15 rfl ?_); refine boxZ 15 #[.int .i64 0, .int .i64 0, .int .i64 0, .int .i64 0, .slice none 0 0] 24 ?_; intro gb378 hg w71 hbox hb; have NC361_378 := Aside0.mk (cneS hg (by repeat (first | (with_reducible exact HR361.out) | (with_reducible refine Kd.C_alloc ?_ _) | (with_reducible refine Kd.C_drewN ?_ _) | (with_reducible refine Kd.C_drew ?_) | exact HR361.out))); replace HO_357004 := Aside0.mk (Kd.R_below (rpR HO_357004.out) hb); replace HO376 := Aside0.mk (Kd.R_below (rpR HO376.out) hb); replace HR361 := Aside0.mk (Kd.C_below (by repeat (first | (with_reducible exact HR361.out) | (with_reducible refine Kd.C_alloc ?_ _) | (with_reducible refine Kd.C_drewN ?_ _) | (with_reducible refine Kd.C_drew ?_) | exact HR361.out)) hb); have BK378 := Aside0.mk hbox; have GW378 := gw (w := w) hg; have GE378 := gw (w := w) hg; replace HB := bs (w := w) hb; have NB343_378 := nl BK343 hg; have NB378_343 := nr BK343 hg; replace BK343 := bv BK343 hb; have NB355_378 := nl BK355 hg; have NB378_355 := nr BK355 hg; replace BK355 := bv BK355 hb; have NB356_378 := nl BK356 hg; have NB378_356 := nr BK356 hg; replace BK356 := bv BK356 hb; have NB369_378 := nl BK369 hg; have NB378_369 := nr BK369 hg; replace BK369 := bv BK369 hb; clear hb hbox hg; have hnb72 := NB378_343.out; have hnc72 := NB343_378.out; have hnb73 := NB378_355.out; have hnc73 := NB355_378.out; have hnb74 := NB378_356.out; have hnc74 := NB356_378.out; have hnb75 := NB378_369.out; have hnc75 := NB369_378.out; obtain ⟨Z76_0, Z76_1, Z76_2, Z76_3, Z76_4, Y76_0, Y76_1, Y76_2, Y76_3, Y76_4⟩ := cf5 BK378; obtain ⟨Ao77, co77, rfl⟩ := Kd.R_slice HO376.out; obtain ⟨Z78_0, Z78_1, Z78_2, Z78_3, Z78_4, Y78_0, Y78_1, Y78_2, Y78_3, Y78_4⟩ := cf5 BK356; have hnb79 := NB343_355.out; have hnc79 := NB355_343.out; obtain ⟨Z80_0, Z80_1, Z80_2, Z80_3, Z80_4, Y80_0, Y80_1, Y80_2, Y80_3, Y80_4⟩ := cf5 BK343))
               refine bodyPost_ret (results_ctt rfl _ _ gb343 24 #[.int .i64 x357000_2, .int .i64 x357001_2, .int .i64 x357002_2, .int .i64 x357003_2, .slice Ao69 x357004_2.length co69] (0, 0) _ rfl bkk Try.underlying24 rfl (by kernel_rfl)) rfl ?_
               exact ⟨_, fe, rpR (Kd.R_mono (Kd.R_far (p := ⟨gb343, 4, none⟩) (Kd.R_far (p := ⟨gb343, 3, none⟩) (Kd.R_far (p := ⟨gb343, 2, none⟩) (Kd.R_far (p := ⟨gb343, 1, none⟩) (Kd.R_far (p := ⟨gb343, 0, none⟩) (Kd.R_far (p := ⟨gb378, 4, none⟩) (Kd.R_far (p := ⟨gb378, 3, none⟩) (Kd.R_far (p := ⟨gb378, 2, none⟩) (Kd.R_far (p := ⟨gb378, 1, none⟩) (Kd.R_far (p := ⟨gb378, 0, none⟩) (Kd.R_types (Kd.R_types HO_357004.out BK378.out (by decide)) BK343.out (by decide)) (fun _ hk => hk.1.2) (.int .i64 t370)) (fun _ hk => hk.1.2) (.int .i64 t371)) (fun _ hk => hk.1.2) (.int .i64 t372)) (fun _ hk => hk.1.2) (.int .i64 t373)) (fun _ hk => hk.1.2) (.slice Ao77 t374.length co77)) (fun _ hk => hk.2) (.int .i64 x357000_2)) (fun _ hk => hk.2) (.int .i64 x357001_2)) (fun _ hk => hk.2) (.int .i64 x357002_2)) (fun _ hk => hk.2) (.int .i64 x357003_2)) (fun _ hk => hk.2) (.slice Ao69 x357004_2.length co69)) (fun _ hk => trivial)), bl⟩
             ·replace c38 := Bool.eq_false_iff.mpr c38
              subst c38
              replace H := iF H
              simp only [Option.some.injEq, Prod.mk.injEq] at H
              obtain ⟨rfl, rfl, rfl, rfl, rfl, rfl, rfl⟩ := H
              have p362 : 0 ≤ (x56_2 : Int) := of_decide_eq_true am
              have q362 : x56_2 < (y358.length : Int) := of_decide_eq_true am
              obtain ⟨ad362, e362, hx362_0⟩ := Kd.at_string HR361.out x56_2 p362 q362
              cases e362
              replace p362 := eq_true p362
              replace q362 := eq_true q362
              go_wp2_with (first | ((with_reducible refine gC 13 rfl ?_); refine goesZ (some 62) rfl Try.func13 #[.string (rdOf ByteArray.empty y358 x56_2)] ?_; (with_reducible refine (impl_ReadRec.calls k2 (rdOf ByteArray.empty y358 x56_2) t363 t364 t365 t366 t367 false _ A37.out).mono ?_); rintro e w81 ⟨rfl, hb⟩; refine ⟨_, rfl, ?_⟩; replace HO_357004 := Aside0.mk (Kd.R_below (rpR HO_357004.out) hb); replace BK343 := bv BK343 hb; replace BK355 := bv BK355 hb; replace BK356 := bv BK356 hb; replace HR361 := Aside0.mk (Kd.C_below (by repeat (first | (with_reducible exact HR361.out) | (with_reducible refine Kd.C_alloc ?_ _) | (with_reducible refine Kd.C_drewN ?_ _) | (with_reducible refine Kd.C_drew ?_) | exact HR361.out)) hb); replace HB := bs (w := w) hb; (try clear hb)) | ((with_reducible refine gD 13 rfl ?_); refine boxZ 13 #[.int .i64 0, .int .i64 0, .int .i64 0, .int .i64 0, .string (⟨#[]⟩ : ByteArray)] 34 ?_; intro gb369 hg w82 hbox hb; have NC361_369 := Aside0.mk (cneS hg (by repeat (first | (with_reducible exact HR361.out) | (with_reducible refine Kd.C_alloc ?_ _) | (with_reducible refine Kd.C_drewN ?_ _) | (with_reducible refine Kd.C_drew ?_) | exact HR361.out))); replace HO_357004 := Aside0.mk (Kd.R_below (rpR HO_357004.out) hb); replace HR361 := Aside0.mk (Kd.C_below (by repeat (first | (with_reducible exact HR361.out) | (with_reducible refine Kd.C_alloc ?_ _) | (with_reducible refine Kd.C_drewN ?_ _) | (with_reducible refine Kd.C_drew ?_) | exact HR361.out)) hb); have BK369 := Aside0.mk hbox; have GW369 := gw (w := w) hg; have GE369 := gw (w := w) hg; replace HB := bs (w := w) hb; have NB343_369 := nl BK343 hg; have NB369_343 := nr BK343 hg; replace BK343 := bv BK343 hb; have NB355_369 := nl BK355 hg; have NB369_355 := nr BK355 hg; replace BK355 := bv BK355 hb; have NB356_369 := nl BK356 hg; have NB369_356 := nr BK356 hg; replace BK356 := bv BK356 hb; clear hb hbox hg; have hnb83 := NB369_343.out; have hnc83 := NB343_369.out; have hnb84 := NB369_355.out; have hnc84 := NB355_369.out; have hnb85 := NB369_356.out; have hnc85 := NB356_369.out; obtain ⟨Z86_0, Z86_1, Z86_2, Z86_3, Z86_4, Y86_0, Y86_1, Y86_2, Y86_3, Y86_4⟩ := cf5 BK369; have hnb87 := NB356_343.out; have hnc87 := NB343_356.out; have hnb88 := NB356_355.out; have hnc88 := NB355_356.out; obtain ⟨Z89_0, Z89_1, Z89_2, Z89_3, Z89_4, Y89_0, Y89_1, Y89_2, Y89_3, Y89_4⟩ := cf5 BK356; have hnb90 := NB343_355.out; have hnc90 := NB355_343.out; obtain ⟨Z91_0, Z91_1, Z91_2, Z91_3, Z91_4, Y91_0, Y91_1, Y91_2, Y91_3, Y91_4⟩ := cf5 BK343; obtain ⟨Ao92, co92, rfl⟩ := Kd.R_slice HO_357004.out))
              refine bodyPost_ret (results_ctt rfl _ _ gb343 24 #[.int .i64 x357000_2, .int .i64 x357001_2, .int .i64 x357002_2, .int .i64 x357003_2, .slice Ao92 x357004_2.length co92] (0, 0) _ rfl bkk Try.underlying24 rfl (by kernel_rfl)) rfl ?_
              exact ⟨_, fe, rpR (Kd.R_mono (Kd.R_far (p := ⟨gb343, 4, none⟩) (Kd.R_far (p := ⟨gb343, 3, none⟩) (Kd.R_far (p := ⟨gb343, 2, none⟩) (Kd.R_far (p := ⟨gb343, 1, none⟩) (Kd.R_far (p := ⟨gb343, 0, none⟩) (Kd.R_far (p := ⟨gb369, 4, none⟩) (Kd.R_far (p := ⟨gb369, 3, none⟩) (Kd.R_far (p := ⟨gb369, 2, none⟩) (Kd.R_far (p := ⟨gb369, 1, none⟩) (Kd.R_far (p := ⟨gb369, 0, none⟩) (Kd.R_types (Kd.R_types HO_357004.out BK369.out (by decide)) BK343.out (by decide)) (fun _ hk => hk.1.2) (.int .i64 t363)) (fun _ hk => hk.1.2) (.int .i64 t364)) (fun _ hk => hk.1.2) (.int .i64 t365)) (fun _ hk => hk.1.2) (.int .i64 t366)) (fun _ hk => hk.1.2) (.string t367)) (fun _ hk => hk.2) (.int .i64 x357000_2)) (fun _ hk => hk.2) (.int .i64 x357001_2)) (fun _ hk => hk.2) (.int .i64 x357002_2)) (fun _ hk => hk.2) (.int .i64 x357003_2)) (fun _ hk => hk.2) (.slice Ao92 x357004_2.length co92)) (fun _ hk => trivial)), bl⟩
            ·rw [if_neg c36] at H
             exact absurd H (by simp)
           ·rw [if_neg c35] at H
            exact absurd H (by simp)
          ·rw [if_neg c34] at H
           have c34b0 : decide (x56_2 < (y358.length : Int)) = false := decide_eq_false c34
           clear c34
           simp only [Option.some.injEq, Prod.mk.injEq] at H
           obtain ⟨rfl, rfl, rfl, rfl, rfl, rfl, rfl⟩ := H
           have hnb93 := NB356_343.out
           have hnc93 := NB343_356.out
           have hnb94 := NB356_355.out
           have hnc94 := NB355_356.out
           obtain ⟨Z95_0, Z95_1, Z95_2, Z95_3, Z95_4, Y95_0, Y95_1, Y95_2, Y95_3, Y95_4⟩ := cf5 BK356
           have hnb96 := NB343_355.out
           have hnc96 := NB355_343.out
           obtain ⟨Z97_0, Z97_1, Z97_2, Z97_3, Z97_4, Y97_0, Y97_1, Y97_2, Y97_3, Y97_4⟩ := cf5 BK343
           obtain ⟨Ao98, co98, eo98⟩ := Kd.R_slice HO_357004.out
           subst eo98
           go_wp2
           refine bodyPost_ret (results_ctt rfl _ _ gb343 24 #[.int .i64 x357000_2, .int .i64 x357001_2, .int .i64 x357002_2, .int .i64 x357003_2, .slice Ao98 x357004_2.length co98] (0, 0) _ rfl bkk Try.underlying24 rfl (by kernel_rfl)) rfl ?_
           exact ⟨_, fe, rpR (Kd.R_mono (Kd.R_far (p := ⟨gb343, 4, none⟩) (Kd.R_far (p := ⟨gb343, 3, none⟩) (Kd.R_far (p := ⟨gb343, 2, none⟩) (Kd.R_far (p := ⟨gb343, 1, none⟩) (Kd.R_far (p := ⟨gb343, 0, none⟩) (Kd.R_types HO_357004.out BK343.out (by decide)) (fun _ hk => hk.2) (.int .i64 x357000_2)) (fun _ hk => hk.2) (.int .i64 x357001_2)) (fun _ hk => hk.2) (.int .i64 x357002_2)) (fun _ hk => hk.2) (.int .i64 x357003_2)) (fun _ hk => hk.2) (.slice Ao98 x357004_2.length co98)) (fun _ hk => trivial)), bl⟩
       ·rw [if_neg c25] at H
        exact absurd H (by simp)
      ·rw [if_neg c24] at H
       exact absurd H (by simp)
  ·rw [if_neg c8] at H
   exact absurd H (by simp)

/-! ### laws_eqEntry: function 35 -/
def laws_eqEntry.f (a0_0 : Int) (a0_1 : ByteArray) (a1_0 : Int) (a1_1 : ByteArray) : Option (Bool) := if a0_0 = a1_0 then (if a0_1.toList = a1_1.toList then (some true) else (some false)) else (some false)
set_option maxHeartbeats 8000000 in
set_option maxRecDepth 100000 in
theorem laws_eqEntry.calls (a0_0 : Int) (a0_1 : ByteArray) (a1_0 : Int) (a1_1 : ByteArray) (r : Bool) (w : World) (h : laws_eqEntry.f a0_0 a0_1 a1_0 a1_1 = some r) :
 Calls Try.prog 35 #[.agg #[.int .i64 a0_0, .string a0_1], .agg #[.int .i64 a1_0, .string a1_1]] w fun e w' => e = .returned (.bool r) ∧ Below w.heap.size w w' := by
 have hu51 := Try.underlying51
 have HB := Aside0.mk (Below.refl w.heap.size w)
 have H : (if a0_0 = a1_0 then (if a0_1.toList = a1_1.toList then (some true) else (some false)) else (some false)) = some r := h
 clear h
 by_cases c3 : a0_0 = a1_0
 ·rw [if_pos c3] at H
  have c3b0 : (a0_0 == a1_0) = true := beq_iff_eq.mpr c3
  have c3b1 : (a0_0 != a1_0) = false := bne_eq_false_iff_eq.mpr c3
  clear c3
  by_cases c4 : a0_1.toList = a1_1.toList
  ·rw [if_pos c4] at H
   have c4b0 : (a0_1.toList == a1_1.toList) = true := beq_iff_eq.mpr c4
   have c4b1 : (a0_1.toList != a1_1.toList) = false := bne_eq_false_iff_eq.mpr c4
   clear c4
   obtain rfl := Option.some.inj H
   go_enter Try.func35, Try.ntmps35
   go_wp2_with (first | ((with_reducible refine gD 2 rfl ?_); refine boxZ 2 #[.int .i64 a0_0, .string a0_1] 51 ?_; intro gb379 hg w5 hbox hb; have BK379 := Aside0.mk hbox; have GW379 := gw (w := w) hg; have GE379 := gw (w := w) hg; replace HB := bs (w := w) hb; clear hb hbox hg) | ((with_reducible refine gD 3 rfl ?_); refine boxZ 3 #[.int .i64 a1_0, .string a1_1] 51 ?_; intro gb380 hg w6 hbox hb; have BK380 := Aside0.mk hbox; have GW380 := gw (w := w) hg; have GE380 := gw (w := w) hg; replace HB := bs (w := w) hb; have NB379_380 := nl BK379 hg; have NB380_379 := nr BK379 hg; replace BK379 := bv BK379 hb; clear hb hbox hg; have hnb7 := NB379_380.out; have hnc7 := NB380_379.out; obtain ⟨Z8_0, Z8_1, Y8_0, Y8_1⟩ := cf2 BK379; obtain ⟨Z9_0, Z9_1, Y9_0, Y9_1⟩ := cf2 BK380))
   go_ret
   exact ⟨fe, bl⟩
  ·rw [if_neg c4] at H
   have c4b0 : (a0_1.toList == a1_1.toList) = false := beq_eq_false_iff_ne.mpr c4
   have c4b1 : (a0_1.toList != a1_1.toList) = true := bne_iff_ne.mpr c4
   obtain rfl := Option.some.inj H
   go_enter Try.func35, Try.ntmps35
   go_wp2_with (first | ((with_reducible refine gD 2 rfl ?_); refine boxZ 2 #[.int .i64 a0_0, .string a0_1] 51 ?_; intro gb379 hg w10 hbox hb; have BK379 := Aside0.mk hbox; have GW379 := gw (w := w) hg; have GE379 := gw (w := w) hg; replace HB := bs (w := w) hb; clear hb hbox hg) | ((with_reducible refine gD 3 rfl ?_); refine boxZ 3 #[.int .i64 a1_0, .string a1_1] 51 ?_; intro gb380 hg w11 hbox hb; have BK380 := Aside0.mk hbox; have GW380 := gw (w := w) hg; have GE380 := gw (w := w) hg; replace HB := bs (w := w) hb; have NB379_380 := nl BK379 hg; have NB380_379 := nr BK379 hg; replace BK379 := bv BK379 hb; clear hb hbox hg; have hnb12 := NB379_380.out; have hnc12 := NB380_379.out; obtain ⟨Z13_0, Z13_1, Y13_0, Y13_1⟩ := cf2 BK379; obtain ⟨Z14_0, Z14_1, Y14_0, Y14_1⟩ := cf2 BK380))
   go_ret
   exact ⟨fe, bl⟩
 ·rw [if_neg c3] at H
  have c3b0 : (a0_0 == a1_0) = false := beq_eq_false_iff_ne.mpr c3
  have c3b1 : (a0_0 != a1_0) = true := bne_iff_ne.mpr c3
  obtain rfl := Option.some.inj H
  go_enter Try.func35, Try.ntmps35
  go_wp2_with (first | ((with_reducible refine gD 2 rfl ?_); refine boxZ 2 #[.int .i64 a0_0, .string a0_1] 51 ?_; intro gb379 hg w15 hbox hb; have BK379 := Aside0.mk hbox; have GW379 := gw (w := w) hg; have GE379 := gw (w := w) hg; replace HB := bs (w := w) hb; clear hb hbox hg) | ((with_reducible refine gD 3 rfl ?_); refine boxZ 3 #[.int .i64 a1_0, .string a1_1] 51 ?_; intro gb380 hg w16 hbox hb; have BK380 := Aside0.mk hbox; have GW380 := gw (w := w) hg; have GE380 := gw (w := w) hg; replace HB := bs (w := w) hb; have NB379_380 := nl BK379 hg; have NB380_379 := nr BK379 hg; replace BK379 := bv BK379 hb; clear hb hbox hg; have hnb17 := NB379_380.out; have hnc17 := NB380_379.out; obtain ⟨Z18_0, Z18_1, Y18_0, Y18_1⟩ := cf2 BK379; obtain ⟨Z19_0, Z19_1, Y19_0, Y19_1⟩ := cf2 BK380))
  go_ret
  exact ⟨fe, bl⟩

end Go.Proofs.Ytflegbpgkkiijaa.PFnExactReplay
