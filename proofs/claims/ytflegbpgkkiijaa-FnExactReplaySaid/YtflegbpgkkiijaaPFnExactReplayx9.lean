-- PRINTED by print.py (a twelfth state) out of the translation. Not trusted: Lean checks it.
import Derived.Test.YtflegbpgkkiijaaPFnExactReplayx0
import Derived.Test.YtflegbpgkkiijaaPFnExactReplayx2
import Derived.Test.YtflegbpgkkiijaaPFnExactReplayx5
import Derived.Test.YtflegbpgkkiijaaPFnExactReplayx8
import Derived.Test.YtflegbpgkkiijaaZip
namespace Go.Proofs.Ytflegbpgkkiijaa.PFnExactReplay
open Go.RowKit Go.Proofs.YtflegbpgkkiijaaW.PrintWords Go.Proofs.YtflegbpgkkiijaaW.PrintLast Go.Proofs.YtflegbpgkkiijaaW.PrintMore Go.Proofs.Ytflegbpgkkiijaa.Zip
attribute [local go_sem] max2_int min2_int max_two min_two max_three min_three max_four min_four   -- for this text's walks alone
set_option linter.unusedVariables false
set_option linter.unusedSimpArgs false

/-! ### spec_Replay: function 4 -/
mutual
def spec_Replay.j0 : Nat → List ByteArray → Bool → Int → Int → Int → Int → ByteArray → Option (Int × Int × Int × Int × (List (S51)) × Int × Bool)
 | 0, _, _, _, _, _, _, _ => none
 | k + 1, x5, x36, x209000, x209001, x209002, x209003, x209004 => if x36 = true then (some (0, 0, 0, 0, ([] : List (S51)), 0, false)) else (if 0 < (x5.length : Int) then (spec_Replay.l0 k x5 (wrap64 (8 + ((rdOf ByteArray.empty x5 0).size : Int))) 1 x209001 (-1) x209002 x209001 ([] : List (S51))) else (none))
def spec_Replay.l0 : Nat → List ByteArray → Int → Int → Int → Int → Int → Int → List (S51) → Option (Int × Int × Int × Int × (List (S51)) × Int × Bool)
 | 0, _, _, _, _, _, _, _, _ => none
 | k + 1, x5, x10, x11, x210000, x210001, x210002, x210003, x210004 => if x11 < (x5.length : Int) then (if 0 ≤ x11 then ((spec_ReadRec.f k (rdOf ByteArray.empty x5 x11)).bind fun bt212 => ((spec_WalStep.f k x210000 x210001 x210002 x210003 x210004 bt212.1 bt212.2.1 bt212.2.2.1 bt212.2.2.2.1 bt212.2.2.2.2.1).bind fun bt218 => (if bt212.2.2.2.2.2 = true then (if bt218.2.2.2.2.2 = true then (spec_Replay.l0 k x5 (wrap64 ((wrap64 (x10 + 8)) + ((rdOf ByteArray.empty x5 x11).size : Int))) (wrap64 (x11 + 1)) bt218.1 bt218.2.1 bt218.2.2.1 bt218.2.2.2.1 bt218.2.2.2.2.1) else (some (x210000, x210001, x210002, x210003, x210004, x10, true))) else (some (x210000, x210001, x210002, x210003, x210004, x10, true))))) else (none)) else (some (x210000, x210001, x210002, x210003, x210004, x10, true))
end
def spec_Replay.f (k : Nat) (a0 : ByteArray) : Option (Int × Int × Int × Int × (List (S51)) × Int × Bool) := (spec_Frames.f k a0).bind fun bt197 => (if (bt197.1.length : Int) = 0 then (some (0, 0, 0, 0, ([] : List (S51)), 0, false)) else (if 0 < (bt197.1.length : Int) then ((spec_ReadRec.f k (rdOf ByteArray.empty bt197.1 0)).bind fun bt202 => (if bt202.2.2.2.2.2 = true then (spec_Replay.j0 k bt197.1 (bt202.1 != 4) bt202.1 bt202.2.1 bt202.2.2.1 bt202.2.2.2.1 bt202.2.2.2.2.1) else (spec_Replay.j0 k bt197.1 true bt202.1 bt202.2.1 bt202.2.2.1 bt202.2.2.2.1 bt202.2.2.2.2.1))) else (none)))
theorem spec_Replay.mono_l : ∀ k, (∀ y0 y1 y2 y3 y4 y5 y6, LeO (spec_Replay.j0 k y0 y1 y2 y3 y4 y5 y6) (spec_Replay.j0 (k + 1) y0 y1 y2 y3 y4 y5 y6)) ∧ (∀ y0 y1 y2 y3 y4 y5 y6 y7, LeO (spec_Replay.l0 k y0 y1 y2 y3 y4 y5 y6 y7) (spec_Replay.l0 (k + 1) y0 y1 y2 y3 y4 y5 y6 y7))
 | 0 => ⟨fun _ _ _ _ _ _ _ r h => by simp [spec_Replay.j0] at h, fun _ _ _ _ _ _ _ _ r h => by simp [spec_Replay.l0] at h⟩
 | k + 1 => by
  obtain ⟨ih0, ih1⟩ := spec_Replay.mono_l k
  refine ⟨?_, ?_⟩
  ·intro y0 y1 y2 y3 y4 y5 y6
   unfold spec_Replay.j0
   repeat' first
   | (with_reducible exact ih0 _ _ _ _ _ _ _)
   | (with_reducible exact ih1 _ _ _ _ _ _ _ _)
   | (with_reducible exact spec_Frames.mono _ _)
   | (with_reducible exact spec_ReadRec.mono _ _)
   | (with_reducible exact spec_WalStep.mono _ _ _ _ _ _ _ _ _ _ _)
   | (with_reducible exact LeO.refl _)
   | (with_reducible exact LeO.none _)
   | (with_reducible refine LeO.ite ?_ ?_)
   | (with_reducible refine LeO.bind ?_ (fun _ => ?_))
   | exact ih0 _ _ _ _ _ _ _
   | exact ih1 _ _ _ _ _ _ _ _
   | exact spec_Frames.mono _ _
   | exact spec_ReadRec.mono _ _
   | exact spec_WalStep.mono _ _ _ _ _ _ _ _ _ _ _
   | exact LeO.none _
   | refine LeO.ite ?_ ?_
   | refine LeO.bind ?_ (fun _ => ?_)
  ·intro y0 y1 y2 y3 y4 y5 y6 y7
   unfold spec_Replay.l0
   repeat' first
   | (with_reducible exact ih0 _ _ _ _ _ _ _)
   | (with_reducible exact ih1 _ _ _ _ _ _ _ _)
   | (with_reducible exact spec_Frames.mono _ _)
   | (with_reducible exact spec_ReadRec.mono _ _)
   | (with_reducible exact spec_WalStep.mono _ _ _ _ _ _ _ _ _ _ _)
   | (with_reducible exact LeO.refl _)
   | (with_reducible exact LeO.none _)
   | (with_reducible refine LeO.ite ?_ ?_)
   | (with_reducible refine LeO.bind ?_ (fun _ => ?_))
   | exact ih0 _ _ _ _ _ _ _
   | exact ih1 _ _ _ _ _ _ _ _
   | exact spec_Frames.mono _ _
   | exact spec_ReadRec.mono _ _
   | exact spec_WalStep.mono _ _ _ _ _ _ _ _ _ _ _
   | exact LeO.none _
   | refine LeO.ite ?_ ?_
   | refine LeO.bind ?_ (fun _ => ?_)
theorem spec_Replay.mono : ∀ a0 k, LeO (spec_Replay.f k a0) (spec_Replay.f (k + 1) a0) := by
 intro a0 k
 obtain ⟨ih0, ih1⟩ := spec_Replay.mono_l k
 unfold spec_Replay.f
 repeat' first
  | (with_reducible exact ih0 _ _ _ _ _ _ _)
  | (with_reducible exact ih1 _ _ _ _ _ _ _ _)
  | (with_reducible exact spec_Frames.mono _ _)
  | (with_reducible exact spec_ReadRec.mono _ _)
  | (with_reducible exact spec_WalStep.mono _ _ _ _ _ _ _ _ _ _ _)
  | (with_reducible exact LeO.refl _)
  | (with_reducible exact LeO.none _)
  | (with_reducible refine LeO.ite ?_ ?_)
  | (with_reducible refine LeO.bind ?_ (fun _ => ?_))
  | exact ih0 _ _ _ _ _ _ _
  | exact ih1 _ _ _ _ _ _ _ _
  | exact spec_Frames.mono _ _
  | exact spec_ReadRec.mono _ _
  | exact spec_WalStep.mono _ _ _ _ _ _ _ _ _ _ _
  | exact LeO.none _
  | refine LeO.ite ?_ ?_
  | refine LeO.bind ?_ (fun _ => ?_)
set_option maxHeartbeats 8000000 in
set_option maxRecDepth 100000 in
theorem spec_Replay.calls (k : Nat) (a0 : ByteArray) (r1 : Int) (r2 : Int) (r3 : Int) (r4 : Int) (r5 : List (S51)) (r6 : Int) (r7 : Bool) (w : World) (h : spec_Replay.f k a0 = some (r1, r2, r3, r4, r5, r6, r7)) :
 Calls Try.prog 4 #[.string a0] w fun e w' => ∃ v4_ : Value, e = .returned (.tuple #[.agg #[.int .i64 r1, .int .i64 r2, .int .i64 r3, .int .i64 r4, v4_], .int .i64 r6, .bool r7]) ∧ Kd.R k51 51 w' w.heap.size (fun _ => True) v4_ r5 ∧ Below w.heap.size w w' := by
 have hu24 := Try.underlying24
 have hu34 := Try.underlying34
 have HB := Aside0.mk (Below.refl w.heap.size w)
 have H : ((spec_Frames.f k a0).bind fun bt197 => (if (bt197.1.length : Int) = 0 then (some (0, 0, 0, 0, ([] : List (S51)), 0, false)) else (if 0 < (bt197.1.length : Int) then ((spec_ReadRec.f k (rdOf ByteArray.empty bt197.1 0)).bind fun bt202 => (if bt202.2.2.2.2.2 = true then (spec_Replay.j0 k bt197.1 (bt202.1 != 4) bt202.1 bt202.2.1 bt202.2.2.1 bt202.2.2.2.1 bt202.2.2.2.2.1) else (spec_Replay.j0 k bt197.1 true bt202.1 bt202.2.1 bt202.2.2.1 bt202.2.2.2.1 bt202.2.2.2.2.1))) else (none)))) = some (r1, r2, r3, r4, r5, r6, r7) := h
 clear h
 replace H := Option.bind_eq_some_iff.mp H
 obtain ⟨⟨t197, t198⟩, A20, H⟩ := H
 replace H : (if (t197.length : Int) = 0 then (some (0, 0, 0, 0, ([] : List (S51)), 0, false)) else (if 0 < (t197.length : Int) then ((spec_ReadRec.f k (rdOf ByteArray.empty t197 0)).bind fun bt202 => (if bt202.2.2.2.2.2 = true then (spec_Replay.j0 k t197 (bt202.1 != 4) bt202.1 bt202.2.1 bt202.2.2.1 bt202.2.2.2.1 bt202.2.2.2.2.1) else (spec_Replay.j0 k t197 true bt202.1 bt202.2.1 bt202.2.2.1 bt202.2.2.2.1 bt202.2.2.2.2.1))) else (none))) = some (r1, r2, r3, r4, r5, r6, r7) := H
 have A2 := Aside0.mk A20
 clear A20
 by_cases c3 : (t197.length : Int) = 0
 ·rw [if_pos c3] at H
  have c3b0 : ((t197.length : Int) == 0) = true := beq_iff_eq.mpr c3
  have c3b1 : ((t197.length : Int) != 0) = false := bne_eq_false_iff_eq.mpr c3
  clear c3
  simp only [Option.some.injEq, Prod.mk.injEq] at H
  obtain ⟨rfl, rfl, rfl, rfl, rfl, rfl, rfl⟩ := H
  go_enter Try.func4, Try.ntmps4
  go_wp2_with (first | ((with_reducible refine gD 2 rfl ?_); refine boxZ 2 #[.int .i64 0, .int .i64 0, .int .i64 0, .int .i64 0, .slice none 0 0] 24 ?_; intro gb196 hg w4 hbox hb; have BK196 := Aside0.mk hbox; have GW196 := gw (w := w) hg; have GE196 := gw (w := w) hg; replace HB := bs (w := w) hb; clear hb hbox hg) | ((with_reducible refine gC 9 rfl ?_); refine goesZ (some 16) rfl Try.func9 #[.string a0] ?_; (with_reducible refine (spec_Frames.calls k a0 t197 t198 _ A2.out).mono ?_); rintro e w5 ⟨v199, rfl, ho0, hb⟩; refine ⟨_, rfl, ?_⟩; have HO200 := Aside0.mk (Kd.R_lower ho0 (below_size bl)); replace BK196 := bv BK196 hb; replace HB := bs (w := w) hb; (try clear hb ho0); obtain ⟨Ao6, co6, rfl⟩ := Kd.R_slice HO200.out; obtain ⟨Z7_0, Z7_1, Z7_2, Z7_3, Z7_4, Y7_0, Y7_1, Y7_2, Y7_3, Y7_4⟩ := cf5 BK196))
  refine bodyPost_ret (results_ctt rfl _ _ gb196 24 #[.int .i64 0, .int .i64 0, .int .i64 0, .int .i64 0, .slice none 0 0] (0, 0) _ rfl bkk Try.underlying24 rfl (by kernel_rfl)) rfl ?_
  exact ⟨_, fe, by first | exact Kd.R_nil _ _ _ _ _ | exact Kd.N_nil _ _ _ _ _ | exact Kd.V_nil _ _ _ _ _ | exact Kd.Q_nil _ _ _ _ _ | exact Kd.S_nil _ _ _ _ _, bl⟩
 ·rw [if_neg c3] at H
  have c3b0 : ((t197.length : Int) == 0) = false := beq_eq_false_iff_ne.mpr c3
  have c3b1 : ((t197.length : Int) != 0) = true := bne_iff_ne.mpr c3
  have c3b2 : ¬ (t197 = []) := fun h_ => c3 (by rw [h_]; rfl)
  by_cases c8 : 0 < (t197.length : Int)
  ·rw [if_pos c8] at H
   have c8b0 : decide (0 < (t197.length : Int)) = true := decide_eq_true c8
   have c8b1 : decide (0 < t197.length) = true := decide_eq_true (by omega)
   clear c8
   replace H := Option.bind_eq_some_iff.mp H
   obtain ⟨⟨t202, t203, t204, t205, t206, t207⟩, A90, H⟩ := H
   replace H : (if t207 = true then (spec_Replay.j0 k t197 (t202 != 4) t202 t203 t204 t205 t206) else (spec_Replay.j0 k t197 true t202 t203 t204 t205 t206)) = some (r1, r2, r3, r4, r5, r6, r7) := H
   have A9 := Aside0.mk A90
   clear A90
   have HC10 := Aside0.mk H
   clear H
   go_enter Try.func4, Try.ntmps4
   go_upto_region 5 with (first | ((with_reducible refine gD 2 rfl ?_); refine boxZ 2 #[.int .i64 0, .int .i64 0, .int .i64 0, .int .i64 0, .slice none 0 0] 24 ?_; intro gb196 hg w11 hbox hb; have BK196 := Aside0.mk hbox; have GW196 := gw (w := w) hg; have GE196 := gw (w := w) hg; replace HB := bs (w := w) hb; clear hb hbox hg) | ((with_reducible refine gC 9 rfl ?_); refine goesZ (some 16) rfl Try.func9 #[.string a0] ?_; (with_reducible refine (spec_Frames.calls k a0 t197 t198 _ A2.out).mono ?_); rintro e w12 ⟨v199, rfl, ho0, hb⟩; refine ⟨_, rfl, ?_⟩; have HO200 := Aside0.mk (Kd.R_lower ho0 (below_size bl)); replace BK196 := bv BK196 hb; replace HB := bs (w := w) hb; (try clear hb ho0); obtain ⟨Ao13, co13, rfl⟩ := Kd.R_slice HO200.out; have p201 : 0 ≤ (0 : Int) := (by omega); have q201 : 0 < (t197.length : Int) := of_decide_eq_true am; obtain ⟨ad201, e201, hx201_0⟩ := Kd.at_string (Kd.R_reads' HO200.out).2.2 0 p201 q201; cases e201; have qi201 : (0 < t197.length) = True := eq_true (by omega); (try rw [show ((0 : Int)).toNat = 0 from rfl] at hx201_0); (try rw [Addr.add_zero'] at hx201_0); replace p201 := eq_true p201; replace q201 := eq_true q201) | ((with_reducible refine gC 10 rfl ?_); refine goesZ (some 27) rfl Try.func10 #[.string (rdOf ByteArray.empty t197 0)] ?_; (with_reducible refine (spec_ReadRec.calls k (rdOf ByteArray.empty t197 0) t202 t203 t204 t205 t206 t207 _ A9.out).mono ?_); rintro e w14 ⟨rfl, hb⟩; refine ⟨_, rfl, ?_⟩; replace HO200 := Aside0.mk (Kd.R_below (rpR HO200.out) hb); replace BK196 := bv BK196 hb; replace HB := bs (w := w) hb; (try clear hb)) | ((with_reducible refine gD 7 rfl ?_); refine boxZ 7 #[.int .i64 0, .int .i64 0, .int .i64 0, .int .i64 0, .string (⟨#[]⟩ : ByteArray)] 34 ?_; intro gb208 hg w15 hbox hb; replace HO200 := Aside0.mk (Kd.R_below (rpR HO200.out) hb); have BK208 := Aside0.mk hbox; have GW208 := gw (w := w) hg; have GE208 := gw (w := w) hg; replace HB := bs (w := w) hb; have NB196_208 := nl BK196 hg; have NB208_196 := nr BK196 hg; replace BK196 := bv BK196 hb; clear hb hbox hg; have hnb16 := NB208_196.out; have hnc16 := NB196_208.out; obtain ⟨Z17_0, Z17_1, Z17_2, Z17_3, Z17_4, Y17_0, Y17_1, Y17_2, Y17_3, Y17_4⟩ := cf5 BK208))
   (try simp only [Act.put, List.setIfInBounds_toArray, List.set_cons_zero, List.set_cons_succ])
   go_cut [36] (fun v36 wc => ∃ (kq : Nat) (x36_9 : Bool), v36 = .bool x36_9 ∧ Aside0 (spec_Replay.j0 kq t197 x36_9 t202 t203 t204 t205 t206 = some (r1, r2, r3, r4, r5, r6, r7)) ∧ Aside0 (kq ≤ k) ∧ Aside0 (Kd.R Kd.string 9 wc w.heap.size (fun _ => True) (.slice (some ad201) t197.length co13) t197) ∧ Aside0 (wc.heap[gb196]? = some (.cells #[.int .i64 0, .int .i64 0, .int .i64 0, .int .i64 0, (.slice none 0 0)] 24 (0, 0))) ∧ Aside0 (wc.heap[gb208]? = some (.cells #[.int .i64 t202, .int .i64 t203, .int .i64 t204, .int .i64 t205, .string t206] 34 (0, 0))) ∧ Aside0 (Below w.heap.size w wc))
   case first =>
    have H := HC10.out
    clear HC10
    by_cases c18 : t207 = true
    ·subst c18
     replace H := iT H
     have H' := Aside0.mk H
     clear H
     have hnb19 := NB208_196.out
     have hnc19 := NB196_208.out
     obtain ⟨Z20_0, Z20_1, Z20_2, Z20_3, Z20_4, Y20_0, Y20_1, Y20_2, Y20_3, Y20_4⟩ := cf5 BK208
     go_wp2
     go_meet
     case rel => exact ⟨_, ((t202 != 4)), fa, H', ⟨by first | omega | exact Nat.le_refl _⟩, ⟨rpR (Kd.R_mono (Kd.R_far (p := ⟨gb208, 4, none⟩) (Kd.R_far (p := ⟨gb208, 3, none⟩) (Kd.R_far (p := ⟨gb208, 2, none⟩) (Kd.R_far (p := ⟨gb208, 1, none⟩) (Kd.R_far (p := ⟨gb208, 0, none⟩) (Kd.R_types HO200.out BK208.out (by decide)) (fun _ hk => hk.2) (.int .i64 t202)) (fun _ hk => hk.2) (.int .i64 t203)) (fun _ hk => hk.2) (.int .i64 t204)) (fun _ hk => hk.2) (.int .i64 t205)) (fun _ hk => hk.2) (.string t206)) (fun _ hk => trivial))⟩, ⟨bkk⟩, ⟨bkk⟩, ⟨bl⟩⟩
    ·replace c18 := Bool.eq_false_iff.mpr c18
     subst c18
     replace H := iF H
     have H' := Aside0.mk H
     clear H
     go_wp2
     go_meet
     case rel => exact ⟨_, (true), fa, H', ⟨by first | omega | exact Nat.le_refl _⟩, ⟨rpR (Kd.R_mono (Kd.R_far (p := ⟨gb208, 4, none⟩) (Kd.R_far (p := ⟨gb208, 3, none⟩) (Kd.R_far (p := ⟨gb208, 2, none⟩) (Kd.R_far (p := ⟨gb208, 1, none⟩) (Kd.R_far (p := ⟨gb208, 0, none⟩) (Kd.R_types HO200.out BK208.out (by decide)) (fun _ hk => hk.2) (.int .i64 t202)) (fun _ hk => hk.2) (.int .i64 t203)) (fun _ hk => hk.2) (.int .i64 t204)) (fun _ hk => hk.2) (.int .i64 t205)) (fun _ hk => hk.2) (.string t206)) (fun _ hk => trivial))⟩, ⟨bkk⟩, ⟨bkk⟩, ⟨bl⟩⟩
   case rest =>
    clear HC10
    try clear c1
    try clear p2
    try clear q2
    try clear hx2
    try clear qi2
    try clear c3
    try clear c3b0
    try clear c3b1
    try clear c3b2
    try clear c4
    try clear c8
    try clear c8b0
    try clear c8b1
    try clear c9
    try clear c10
    try clear c16
    try clear c18
    try clear c19
    try clear p20
    try clear q20
    try clear hx20
    try clear qi20
    try clear Z17_0 Z17_1 Z17_2 Z17_3 Z17_4
    try clear Z20_0 Z20_1 Z20_2 Z20_3 Z20_4
    try clear Z7_0 Z7_1 Z7_2 Z7_3 Z7_4
    try clear Y17_0 Y17_1 Y17_2 Y17_3 Y17_4
    try clear Y20_0 Y20_1 Y20_2 Y20_3 Y20_4
    try clear Y7_0 Y7_1 Y7_2 Y7_3 Y7_4
    try clear hx201_0
    try clear p201
    try clear q201
    obtain ⟨kq, x36_9, rfl, HA, HJ9, HO_5, BK196, BK208, HB⟩ := hcut
    cases kq with
    | zero => exact absurd HA.out (by simp [spec_Replay.j0])
    | succ kj9 =>
     have H := HA.out
     clear HA
     simp only [spec_Replay.j0] at H
     by_cases c21 : x36_9 = true
     ·subst c21
      replace H := iT H
      simp only [Option.some.injEq, Prod.mk.injEq] at H
      obtain ⟨rfl, rfl, rfl, rfl, rfl, rfl, rfl⟩ := H
      have hnb22 := NB196_208.out
      have hnc22 := NB208_196.out
      obtain ⟨Z23_0, Z23_1, Z23_2, Z23_3, Z23_4, Y23_0, Y23_1, Y23_2, Y23_3, Y23_4⟩ := cf5 BK196
      go_wp2
      refine bodyPost_ret (results_ctt rfl _ _ gb196 24 #[.int .i64 0, .int .i64 0, .int .i64 0, .int .i64 0, .slice none 0 0] (0, 0) _ rfl bkk Try.underlying24 rfl (by kernel_rfl)) rfl ?_
      exact ⟨_, fe, by first | exact Kd.R_nil _ _ _ _ _ | exact Kd.N_nil _ _ _ _ _ | exact Kd.V_nil _ _ _ _ _ | exact Kd.Q_nil _ _ _ _ _ | exact Kd.S_nil _ _ _ _ _, bl⟩
     ·replace c21 := Bool.eq_false_iff.mpr c21
      subst c21
      replace H := iF H
      by_cases c24 : 0 < (t197.length : Int)
      ·rw [if_pos c24] at H
       have c24b0 : decide (0 < (t197.length : Int)) = true := decide_eq_true c24
       have c24b1 : decide (0 < t197.length) = true := decide_eq_true (by omega)
       clear c24
       have H' := Aside0.mk H
       clear H
       have hnb25 := NB208_196.out
       have hnc25 := NB196_208.out
       obtain ⟨Z26_0, Z26_1, Z26_2, Z26_3, Z26_4, Y26_0, Y26_1, Y26_2, Y26_3, Y26_4⟩ := cf5 BK208
       go_wp2_with (first | ((with_reducible refine gD 9 rfl ?_); refine boxZ 9 #[.int .i64 0, .int .i64 0, .int .i64 0, .int .i64 0, .slice none 0 0] 24 ?_; intro gb209 hg w27 hbox hb; replace HO_5 := Aside0.mk (Kd.R_below (rpR HO_5.out) hb); have BK209 := Aside0.mk hbox; have GW209 := gw (w := w) hg; have GE209 := gw (w := w) hg; replace HB := bs (w := w) hb; have NB196_209 := nl BK196 hg; have NB209_196 := nr BK196 hg; replace BK196 := bv BK196 hb; have NB208_209 := nl BK208 hg; have NB209_208 := nr BK208 hg; replace BK208 := bv BK208 hb; clear hb hbox hg; have hnb28 := NB209_196.out; have hnc28 := NB196_209.out; have hnb29 := NB209_208.out; have hnc29 := NB208_209.out; obtain ⟨Z30_0, Z30_1, Z30_2, Z30_3, Z30_4, Y30_0, Y30_1, Y30_2, Y30_3, Y30_4⟩ := cf5 BK209; have p210 : 0 ≤ (0 : Int) := (by omega); have q210 : 0 < (t197.length : Int) := of_decide_eq_true am; obtain ⟨ad210, e210, hx210_0⟩ := Kd.at_string (Kd.R_reads' HO_5.out).2.2 0 p210 q210; obtain rfl : ad201 = ad210 := (by injection e210); have qi210 : (0 < t197.length) = True := eq_true (by omega); (try rw [show ((0 : Int)).toNat = 0 from rfl] at hx210_0); (try rw [Addr.add_zero'] at hx210_0); have hn210_0 : ad201.block ≠ gb209 := Kd.own_blk (Kd.R_ne HO_5.out BK209.out (by decide)); have hn210_1 : ad201.block ≠ gb209 := Kd.own_blk (Kd.R_ne HO_5.out BK209.out (by decide)); have hn210_2 : ad201.block ≠ gb209 := Kd.own_blk (Kd.R_ne HO_5.out BK209.out (by decide)); have hn210_3 : ad201.block ≠ gb209 := Kd.own_blk (Kd.R_ne HO_5.out BK209.out (by decide)); have hn210_4 : ad201.block ≠ gb209 := Kd.own_blk (Kd.R_ne HO_5.out BK209.out (by decide)); replace hx210_0 := (cell_far (p := ⟨gb209, 0, none⟩) (by first | (rw [add_block]; exact hn210_0) | (show (Addr.add _ _).block ≠ _; rw [add_block]; exact hn210_0) | exact hn210_0) (.int .i64 t203)).trans hx210_0; replace hx210_0 := (cell_far (p := ⟨gb209, 1, none⟩) (by first | (rw [add_block]; exact hn210_1) | (show (Addr.add _ _).block ≠ _; rw [add_block]; exact hn210_1) | exact hn210_1) (.int .i64 (-1))).trans hx210_0; replace hx210_0 := (cell_far (p := ⟨gb209, 2, none⟩) (by first | (rw [add_block]; exact hn210_2) | (show (Addr.add _ _).block ≠ _; rw [add_block]; exact hn210_2) | exact hn210_2) (.int .i64 t204)).trans hx210_0; replace hx210_0 := (cell_far (p := ⟨gb209, 3, none⟩) (by first | (rw [add_block]; exact hn210_3) | (show (Addr.add _ _).block ≠ _; rw [add_block]; exact hn210_3) | exact hn210_3) (.int .i64 t203)).trans hx210_0; replace hx210_0 := (cell_far (p := ⟨gb209, 4, none⟩) (by first | (rw [add_block]; exact hn210_4) | (show (Addr.add _ _).block ≠ _; rw [add_block]; exact hn210_4) | exact hn210_4) (.slice none 0 0)).trans hx210_0; clear hn210_0; clear hn210_1; clear hn210_2; clear hn210_3; clear hn210_4; replace p210 := eq_true p210; replace q210 := eq_true q210))
       go_loopg [10, 11] kj9 (fun kq v10 v11 w' => ∃ (x10_2 : Int) (x11_2 : Int) (x197000_2 : Int) (x197001_2 : Int) (x197002_2 : Int) (x197003_2 : Int) (x209000_2 : Int) (x209001_2 : Int) (x209002_2 : Int) (x209003_2 : Int) (x209004_2 : ByteArray) (x210000_2 : Int) (x210001_2 : Int) (x210002_2 : Int) (x210003_2 : Int) (x210004_2 : List (S51)) (u210004 : Value), v10 = .int .i64 x10_2 ∧ v11 = .int .i64 x11_2 ∧ Aside0 (spec_Replay.l0 kq t197 x10_2 x11_2 x210000_2 x210001_2 x210002_2 x210003_2 x210004_2 = some (r1, r2, r3, r4, r5, r6, r7)) ∧ Aside0 (kq ≤ kj9) ∧ Aside0 (Kd.R Kd.string 9 w' w.heap.size (fun _ => True) (.slice (some ad201) t197.length co13) t197) ∧ Aside0 (Kd.R k51 51 w' w.heap.size (fun _ => True) u210004 x210004_2) ∧ Aside0 (w'.heap[gb196]? = some (.cells #[.int .i64 x197000_2, .int .i64 x197001_2, .int .i64 x197002_2, .int .i64 x197003_2, (.slice none 0 0)] 24 (0, 0))) ∧ Aside0 (w'.heap[gb208]? = some (.cells #[.int .i64 x209000_2, .int .i64 x209001_2, .int .i64 x209002_2, .int .i64 x209003_2, .string x209004_2] 34 (0, 0))) ∧ Aside0 (w'.heap[gb209]? = some (.cells #[.int .i64 x210000_2, .int .i64 x210001_2, .int .i64 x210002_2, .int .i64 x210003_2, u210004] 24 (0, 0))) ∧ Aside0 (Below w.heap.size w w'))
       case atStart => exact ⟨(wrap64 (8 + ((rdOf ByteArray.empty t197 0).size : Int))), (1), (0), (0), (0), (0), (t202), (t203), (t204), (t205), (t206), (t203), ((-1)), (t204), (t203), (([] : List (S51))), (.slice none 0 0), fa, fa, H', ⟨Nat.le_refl _⟩, ⟨rpR (Kd.R_mono (Kd.R_far (p := ⟨gb209, 4, none⟩) (Kd.R_far (p := ⟨gb209, 3, none⟩) (Kd.R_far (p := ⟨gb209, 2, none⟩) (Kd.R_far (p := ⟨gb209, 1, none⟩) (Kd.R_far (p := ⟨gb209, 0, none⟩) (Kd.R_types HO_5.out BK209.out (by decide)) (fun _ hk => hk.2) (.int .i64 t203)) (fun _ hk => hk.2) (.int .i64 (-1))) (fun _ hk => hk.2) (.int .i64 t204)) (fun _ hk => hk.2) (.int .i64 t203)) (fun _ hk => hk.2) (.slice none 0 0)) (fun _ hk => trivial))⟩, ⟨by first | exact Kd.R_nil _ _ _ _ _ | exact Kd.N_nil _ _ _ _ _ | exact Kd.V_nil _ _ _ _ _ | exact Kd.Q_nil _ _ _ _ _ | exact Kd.S_nil _ _ _ _ _⟩, ⟨bkk⟩, ⟨bkk⟩, ⟨bkk⟩, ⟨bl⟩⟩
       case round =>
        clear H'
        try clear c1
        try clear c2
        try clear p2
        try clear q2
        try clear hx2
        try clear qi2
        try clear c3
        try clear c3b0
        try clear c3b1
        try clear c3b2
        try clear c4
        try clear p6
        try clear c8
        try clear c8b0
        try clear c8b1
        try clear c9
        try clear c10
        try clear c16
        try clear c18
        try clear c19
        try clear p20
        try clear q20
        try clear hx20
        try clear qi20
        try clear c21
        try clear p21
        try clear q21
        try clear hx21
        try clear qi21
        try clear c22
        try clear c24
        try clear c24b0
        try clear c24b1
        try clear c25
        try clear c28
        try clear c29
        try clear Z17_0 Z17_1 Z17_2 Z17_3 Z17_4
        try clear Z20_0 Z20_1 Z20_2 Z20_3 Z20_4
        try clear Z23_0 Z23_1 Z23_2 Z23_3 Z23_4
        try clear Z26_0 Z26_1 Z26_2 Z26_3 Z26_4
        try clear Z30_0 Z30_1 Z30_2 Z30_3 Z30_4
        try clear Z7_0 Z7_1 Z7_2 Z7_3 Z7_4
        try clear Y17_0 Y17_1 Y17_2 Y17_3 Y17_4
        try clear Y20_0 Y20_1 Y20_2 Y20_3 Y20_4
        try clear Y23_0 Y23_1 Y23_2 Y23_3 Y23_4
        try clear Y26_0 Y26_1 Y26_2 Y26_3 Y26_4
        try clear Y30_0 Y30_1 Y30_2 Y30_3 Y30_4
        try clear Y7_0 Y7_1 Y7_2 Y7_3 Y7_4
        try clear hx201_0
        try clear hx210_0
        try clear p2
        try clear p20
        try clear p201
        try clear p210
        try clear q2
        try clear q20
        try clear q201
        try clear q210
        obtain ⟨x10_2, x11_2, x197000_2, x197001_2, x197002_2, x197003_2, x209000_2, x209001_2, x209002_2, x209003_2, x209004_2, x210000_2, x210001_2, x210002_2, x210003_2, x210004_2, u210004, rfl, rfl, HA, HK2, HO_5, HO_210004, BK196, BK208, BK209, HB⟩ := hrel
        cases gk with
        | zero => exact absurd HA.out (by simp [spec_Replay.l0])
        | succ k2 =>
         have H := HA.out
         clear HA
         simp only [spec_Replay.l0] at H
         by_cases c31 : x11_2 < (t197.length : Int)
         ·rw [if_pos c31] at H
          have c31b0 : decide (x11_2 < (t197.length : Int)) = true := decide_eq_true c31
          clear c31
          by_cases c32 : 0 ≤ x11_2
          ·rw [if_pos c32] at H
           have c32b0 : decide (0 ≤ x11_2) = true := decide_eq_true c32
           clear c32
           replace H := Option.bind_eq_some_iff.mp H
           obtain ⟨⟨t212, t213, t214, t215, t216, t217⟩, A330, H⟩ := H
           replace H : ((spec_WalStep.f k2 x210000_2 x210001_2 x210002_2 x210003_2 x210004_2 t212 t213 t214 t215 t216).bind fun bt218 => (if t217 = true then (if bt218.2.2.2.2.2 = true then (spec_Replay.l0 k2 t197 (wrap64 ((wrap64 (x10_2 + 8)) + ((rdOf ByteArray.empty t197 x11_2).size : Int))) (wrap64 (x11_2 + 1)) bt218.1 bt218.2.1 bt218.2.2.1 bt218.2.2.2.1 bt218.2.2.2.2.1) else (some (x210000_2, x210001_2, x210002_2, x210003_2, x210004_2, x10_2, true))) else (some (x210000_2, x210001_2, x210002_2, x210003_2, x210004_2, x10_2, true)))) = some (r1, r2, r3, r4, r5, r6, r7) := H
           have A33 := Aside0.mk A330
           clear A330
           replace H := Option.bind_eq_some_iff.mp H
           obtain ⟨⟨t218, t219, t220, t221, t222, t225⟩, A340, H⟩ := H
           replace H : (if t217 = true then (if t225 = true then (spec_Replay.l0 k2 t197 (wrap64 ((wrap64 (x10_2 + 8)) + ((rdOf ByteArray.empty t197 x11_2).size : Int))) (wrap64 (x11_2 + 1)) t218 t219 t220 t221 t222) else (some (x210000_2, x210001_2, x210002_2, x210003_2, x210004_2, x10_2, true))) else (some (x210000_2, x210001_2, x210002_2, x210003_2, x210004_2, x10_2, true))) = some (r1, r2, r3, r4, r5, r6, r7) := H
           have A34 := Aside0.mk A340
           clear A340
           by_cases c35 : t217 = true
           ·subst c35
            replace H := iT H
            by_cases c36 : t225 = true
            ·subst c36
             replace H := iT H
             have H' := Aside0.mk H
             clear H
             have p211 : 0 ≤ (x11_2 : Int) := of_decide_eq_true am
             have q211 : x11_2 < (t197.length : Int) := of_decide_eq_true am
             obtain ⟨ad211, e211, hx211_0⟩ := Kd.at_string (Kd.R_reads' HO_5.out).2.2 x11_2 p211 q211
             obtain rfl : ad201 = ad211 := (by injection e211)
             replace p211 := eq_true p211
             replace q211 := eq_true q211
             go_wp2_with (first | ((with_reducible refine gC 10 rfl ?_); refine goesZ (some 61) rfl Try.func10 #[.string (rdOf ByteArray.empty t197 x11_2)] ?_; (with_reducible refine (spec_ReadRec.calls k2 (rdOf ByteArray.empty t197 x11_2) t212 t213 t214 t215 t216 true _ A33.out).mono ?_); rintro e w37 ⟨rfl, hb⟩; refine ⟨_, rfl, ?_⟩; replace HO_5 := Aside0.mk (Kd.R_below (rpR HO_5.out) hb); replace HO_210004 := Aside0.mk (Kd.R_below (rpR HO_210004.out) hb); replace BK196 := bv BK196 hb; replace BK208 := bv BK208 hb; replace BK209 := bv BK209 hb; replace HB := bs (w := w) hb; (try clear hb); have hnb38 := NB208_196.out; have hnc38 := NB196_208.out; have hnb39 := NB208_209.out; have hnc39 := NB209_208.out; obtain ⟨Z40_0, Z40_1, Z40_2, Z40_3, Z40_4, Y40_0, Y40_1, Y40_2, Y40_3, Y40_4⟩ := cf5 BK208; have hnb41 := NB209_196.out; have hnc41 := NB196_209.out; obtain ⟨Z42_0, Z42_1, Z42_2, Z42_3, Z42_4, Y42_0, Y42_1, Y42_2, Y42_3, Y42_4⟩ := cf5 BK209; obtain ⟨Ao43, co43, rfl⟩ := Kd.R_slice HO_210004.out) | ((with_reducible refine gC 11 rfl ?_); refine goesZ (some 67) rfl Try.func11 #[.agg #[.int .i64 x210000_2, .int .i64 x210001_2, .int .i64 x210002_2, .int .i64 x210003_2, .slice Ao43 x210004_2.length co43], .agg #[.int .i64 t212, .int .i64 t213, .int .i64 t214, .int .i64 t215, .string t216]] ?_; (with_reducible refine (spec_WalStep.calls k2 x210000_2 x210001_2 x210002_2 x210003_2 _ _ x210004_2 t212 t213 t214 t215 t216 t218 t219 t220 t221 t222 true _ ?side1 ?side2 A34.out).mono ?_); (case side1 => refine (Kd.R_reads' (e := 51) (base := w.heap.size) (ok := fun k_ => True) (n := x210004_2.length) (c := co43) ?_).2.2; exact (rpR (Kd.R_mono (Kd.R_far (p := ⟨gb208, 4, none⟩) (Kd.R_far (p := ⟨gb208, 3, none⟩) (Kd.R_far (p := ⟨gb208, 2, none⟩) (Kd.R_far (p := ⟨gb208, 1, none⟩) (Kd.R_far (p := ⟨gb208, 0, none⟩) (Kd.R_types HO_210004.out BK208.out (by decide)) (fun _ hk => hk.2) (.int .i64 t212)) (fun _ hk => hk.2) (.int .i64 t213)) (fun _ hk => hk.2) (.int .i64 t214)) (fun _ hk => hk.2) (.int .i64 t215)) (fun _ hk => hk.2) (.string t216)) (fun _ h_ => h_.1)))); (case side2 => exact (Kd.R_reads' HO_210004.out).2.1); rintro e w44 ⟨v223, rfl, ho0, hb⟩; refine ⟨_, rfl, ?_⟩; replace HO_5 := Aside0.mk (Kd.R_below (rpR (Kd.R_mono (Kd.R_far (p := ⟨gb208, 4, none⟩) (Kd.R_far (p := ⟨gb208, 3, none⟩) (Kd.R_far (p := ⟨gb208, 2, none⟩) (Kd.R_far (p := ⟨gb208, 1, none⟩) (Kd.R_far (p := ⟨gb208, 0, none⟩) (Kd.R_types HO_5.out BK208.out (by decide)) (fun _ hk => hk.2) (.int .i64 t212)) (fun _ hk => hk.2) (.int .i64 t213)) (fun _ hk => hk.2) (.int .i64 t214)) (fun _ hk => hk.2) (.int .i64 t215)) (fun _ hk => hk.2) (.string t216)) (fun _ h_ => h_.1))) hb); have HO224 := Aside0.mk (Kd.R_lower (Kd.R_new' ho0 (Kd.R_lt (rpR (Kd.R_mono (Kd.R_far (p := ⟨gb208, 4, none⟩) (Kd.R_far (p := ⟨gb208, 3, none⟩) (Kd.R_far (p := ⟨gb208, 2, none⟩) (Kd.R_far (p := ⟨gb208, 1, none⟩) (Kd.R_far (p := ⟨gb208, 0, none⟩) (Kd.R_types HO_210004.out BK208.out (by decide)) (fun _ hk => hk.2) (.int .i64 t212)) (fun _ hk => hk.2) (.int .i64 t213)) (fun _ hk => hk.2) (.int .i64 t214)) (fun _ hk => hk.2) (.int .i64 t215)) (fun _ hk => hk.2) (.string t216)) (fun _ h_ => h_.1))))) (below_size bl)); replace HO_210004 := Aside0.mk (Kd.R_elder' (rpR (Kd.R_mono (Kd.R_far (p := ⟨gb208, 4, none⟩) (Kd.R_far (p := ⟨gb208, 3, none⟩) (Kd.R_far (p := ⟨gb208, 2, none⟩) (Kd.R_far (p := ⟨gb208, 1, none⟩) (Kd.R_far (p := ⟨gb208, 0, none⟩) (Kd.R_types HO_210004.out BK208.out (by decide)) (fun _ hk => hk.2) (.int .i64 t212)) (fun _ hk => hk.2) (.int .i64 t213)) (fun _ hk => hk.2) (.int .i64 t214)) (fun _ hk => hk.2) (.int .i64 t215)) (fun _ hk => hk.2) (.string t216)) (fun _ h_ => h_.1))) (Kd.R_base ho0) hb); replace BK196 := Aside0.mk (blk_below (g := gb196) (o := .cells #[.int .i64 x197000_2, .int .i64 x197001_2, .int .i64 x197002_2, .int .i64 x197003_2, .slice none 0 0] 24 (0, 0)) bkk hb); replace BK208 := Aside0.mk (blk_below (g := gb208) (o := .cells #[.int .i64 t212, .int .i64 t213, .int .i64 t214, .int .i64 t215, .string t216] 34 (0, 0)) bkk hb); replace BK209 := Aside0.mk (blk_below (g := gb209) (o := .cells #[.int .i64 x210000_2, .int .i64 x210001_2, .int .i64 x210002_2, .int .i64 x210003_2, .slice Ao43 x210004_2.length co43] 24 (0, 0)) bkk hb); replace HB := bs (w := w) hb; (try clear hb ho0)) | ((with_reducible refine gD 12 rfl ?_); refine boxZ 12 #[.int .i64 0, .int .i64 0, .int .i64 0, .int .i64 0, .slice none 0 0] 24 ?_; intro gb226 hg w45 hbox hb; replace HO_5 := Aside0.mk (Kd.R_below (rpR HO_5.out) hb); replace HO_210004 := Aside0.mk (Kd.R_below (rpR HO_210004.out) hb); replace HO224 := Aside0.mk (Kd.R_below (rpR HO224.out) hb); have BK226 := Aside0.mk hbox; have GW226 := gw (w := w) hg; have GE226 := gw (w := w) hg; replace HB := bs (w := w) hb; have NB196_226 := nl BK196 hg; have NB226_196 := nr BK196 hg; replace BK196 := bv BK196 hb; have NB208_226 := nl BK208 hg; have NB226_208 := nr BK208 hg; replace BK208 := bv BK208 hb; have NB209_226 := nl BK209 hg; have NB226_209 := nr BK209 hg; replace BK209 := bv BK209 hb; clear hb hbox hg; have hnb46 := NB226_196.out; have hnc46 := NB196_226.out; have hnb47 := NB226_208.out; have hnc47 := NB208_226.out; have hnb48 := NB226_209.out; have hnc48 := NB209_226.out; obtain ⟨Z49_0, Z49_1, Z49_2, Z49_3, Z49_4, Y49_0, Y49_1, Y49_2, Y49_3, Y49_4⟩ := cf5 BK226; obtain ⟨Ao50, co50, rfl⟩ := Kd.R_slice HO224.out; obtain ⟨Z51_0, Z51_1, Z51_2, Z51_3, Z51_4, Y51_0, Y51_1, Y51_2, Y51_3, Y51_4⟩ := cf5 BK209; have p227 : 0 ≤ (x11_2 : Int) := of_decide_eq_true am; have q227 : x11_2 < (t197.length : Int) := of_decide_eq_true am; obtain ⟨ad227, e227, hx227_0⟩ := Kd.at_string (Kd.R_reads' HO_5.out).2.2 x11_2 p227 q227; obtain rfl : ad201 = ad227 := (by injection e227); have hn227_0 : ad201.block ≠ gb226 := Kd.own_blk (Kd.R_ne HO_5.out BK226.out (by decide)); have hn227_1 : ad201.block ≠ gb226 := Kd.own_blk (Kd.R_ne HO_5.out BK226.out (by decide)); have hn227_2 : ad201.block ≠ gb226 := Kd.own_blk (Kd.R_ne HO_5.out BK226.out (by decide)); have hn227_3 : ad201.block ≠ gb226 := Kd.own_blk (Kd.R_ne HO_5.out BK226.out (by decide)); have hn227_4 : ad201.block ≠ gb226 := Kd.own_blk (Kd.R_ne HO_5.out BK226.out (by decide)); have hn227_5 : ad201.block ≠ gb209 := Kd.own_blk (Kd.R_ne HO_5.out BK209.out (by decide)); have hn227_6 : ad201.block ≠ gb209 := Kd.own_blk (Kd.R_ne HO_5.out BK209.out (by decide)); have hn227_7 : ad201.block ≠ gb209 := Kd.own_blk (Kd.R_ne HO_5.out BK209.out (by decide)); have hn227_8 : ad201.block ≠ gb209 := Kd.own_blk (Kd.R_ne HO_5.out BK209.out (by decide)); have hn227_9 : ad201.block ≠ gb209 := Kd.own_blk (Kd.R_ne HO_5.out BK209.out (by decide)); replace hx227_0 := (cell_far (p := ⟨gb226, 0, none⟩) (by first | (rw [add_block]; exact hn227_0) | (show (Addr.add _ _).block ≠ _; rw [add_block]; exact hn227_0) | exact hn227_0) (.int .i64 t218)).trans hx227_0; replace hx227_0 := (cell_far (p := ⟨gb226, 1, none⟩) (by first | (rw [add_block]; exact hn227_1) | (show (Addr.add _ _).block ≠ _; rw [add_block]; exact hn227_1) | exact hn227_1) (.int .i64 t219)).trans hx227_0; replace hx227_0 := (cell_far (p := ⟨gb226, 2, none⟩) (by first | (rw [add_block]; exact hn227_2) | (show (Addr.add _ _).block ≠ _; rw [add_block]; exact hn227_2) | exact hn227_2) (.int .i64 t220)).trans hx227_0; replace hx227_0 := (cell_far (p := ⟨gb226, 3, none⟩) (by first | (rw [add_block]; exact hn227_3) | (show (Addr.add _ _).block ≠ _; rw [add_block]; exact hn227_3) | exact hn227_3) (.int .i64 t221)).trans hx227_0; replace hx227_0 := (cell_far (p := ⟨gb226, 4, none⟩) (by first | (rw [add_block]; exact hn227_4) | (show (Addr.add _ _).block ≠ _; rw [add_block]; exact hn227_4) | exact hn227_4) (.slice Ao50 t222.length co50)).trans hx227_0; replace hx227_0 := (cell_far (p := ⟨gb209, 0, none⟩) (by first | (rw [add_block]; exact hn227_5) | (show (Addr.add _ _).block ≠ _; rw [add_block]; exact hn227_5) | exact hn227_5) (.int .i64 t218)).trans hx227_0; replace hx227_0 := (cell_far (p := ⟨gb209, 1, none⟩) (by first | (rw [add_block]; exact hn227_6) | (show (Addr.add _ _).block ≠ _; rw [add_block]; exact hn227_6) | exact hn227_6) (.int .i64 t219)).trans hx227_0; replace hx227_0 := (cell_far (p := ⟨gb209, 2, none⟩) (by first | (rw [add_block]; exact hn227_7) | (show (Addr.add _ _).block ≠ _; rw [add_block]; exact hn227_7) | exact hn227_7) (.int .i64 t220)).trans hx227_0; replace hx227_0 := (cell_far (p := ⟨gb209, 3, none⟩) (by first | (rw [add_block]; exact hn227_8) | (show (Addr.add _ _).block ≠ _; rw [add_block]; exact hn227_8) | exact hn227_8) (.int .i64 t221)).trans hx227_0; replace hx227_0 := (cell_far (p := ⟨gb209, 4, none⟩) (by first | (rw [add_block]; exact hn227_9) | (show (Addr.add _ _).block ≠ _; rw [add_block]; exact hn227_9) | exact hn227_9) (.slice Ao50 t222.length co50)).trans hx227_0; clear hn227_0; clear hn227_1; clear hn227_2; clear hn227_3; clear hn227_4; clear hn227_5; clear hn227_6; clear hn227_7; clear hn227_8; clear hn227_9; replace p227 := eq_true p227; replace q227 := eq_true q227))
             go_roundg k2
             case measure => have := HJ9.out; have := HK2.out; omega
             case rel => exact ⟨(wrap64 ((wrap64 (x10_2 + 8)) + ((rdOf ByteArray.empty t197 x11_2).size : Int))), (wrap64 (x11_2 + 1)), (x197000_2), (x197001_2), (x197002_2), (x197003_2), (t212), (t213), (t214), (t215), (t216), (t218), (t219), (t220), (t221), (t222), (.slice Ao50 t222.length co50), fa, fa, H', ⟨by have := HJ9.out; have := HK2.out; omega⟩, ⟨rpR (Kd.R_mono (Kd.R_far (p := ⟨gb209, 4, none⟩) (Kd.R_far (p := ⟨gb209, 3, none⟩) (Kd.R_far (p := ⟨gb209, 2, none⟩) (Kd.R_far (p := ⟨gb209, 1, none⟩) (Kd.R_far (p := ⟨gb209, 0, none⟩) (Kd.R_far (p := ⟨gb226, 4, none⟩) (Kd.R_far (p := ⟨gb226, 3, none⟩) (Kd.R_far (p := ⟨gb226, 2, none⟩) (Kd.R_far (p := ⟨gb226, 1, none⟩) (Kd.R_far (p := ⟨gb226, 0, none⟩) (Kd.R_types (Kd.R_types HO_5.out BK226.out (by decide)) BK209.out (by decide)) (fun _ hk => hk.1.2) (.int .i64 t218)) (fun _ hk => hk.1.2) (.int .i64 t219)) (fun _ hk => hk.1.2) (.int .i64 t220)) (fun _ hk => hk.1.2) (.int .i64 t221)) (fun _ hk => hk.1.2) (.slice Ao50 t222.length co50)) (fun _ hk => hk.2) (.int .i64 t218)) (fun _ hk => hk.2) (.int .i64 t219)) (fun _ hk => hk.2) (.int .i64 t220)) (fun _ hk => hk.2) (.int .i64 t221)) (fun _ hk => hk.2) (.slice Ao50 t222.length co50)) (fun _ hk => trivial))⟩, ⟨rpR (Kd.R_mono (Kd.R_far (p := ⟨gb209, 4, none⟩) (Kd.R_far (p := ⟨gb209, 3, none⟩) (Kd.R_far (p := ⟨gb209, 2, none⟩) (Kd.R_far (p := ⟨gb209, 1, none⟩) (Kd.R_far (p := ⟨gb209, 0, none⟩) (Kd.R_far (p := ⟨gb226, 4, none⟩) (Kd.R_far (p := ⟨gb226, 3, none⟩) (Kd.R_far (p := ⟨gb226, 2, none⟩) (Kd.R_far (p := ⟨gb226, 1, none⟩) (Kd.R_far (p := ⟨gb226, 0, none⟩) (Kd.R_types (Kd.R_types HO224.out BK226.out (by decide)) BK209.out (by decide)) (fun _ hk => hk.1.2) (.int .i64 t218)) (fun _ hk => hk.1.2) (.int .i64 t219)) (fun _ hk => hk.1.2) (.int .i64 t220)) (fun _ hk => hk.1.2) (.int .i64 t221)) (fun _ hk => hk.1.2) (.slice Ao50 t222.length co50)) (fun _ hk => hk.2) (.int .i64 t218)) (fun _ hk => hk.2) (.int .i64 t219)) (fun _ hk => hk.2) (.int .i64 t220)) (fun _ hk => hk.2) (.int .i64 t221)) (fun _ hk => hk.2) (.slice Ao50 t222.length co50)) (fun _ hk => trivial))⟩, ⟨bkk⟩, ⟨bkk⟩, ⟨bkk⟩, ⟨bl⟩⟩
            ·replace c36 := Bool.eq_false_iff.mpr c36
             subst c36
             replace H := iF H
             simp only [Option.some.injEq, Prod.mk.injEq] at H
             obtain ⟨rfl, rfl, rfl, rfl, rfl, rfl, rfl⟩ := H
             have p211 : 0 ≤ (x11_2 : Int) := of_decide_eq_true am
             have q211 : x11_2 < (t197.length : Int) := of_decide_eq_true am
             obtain ⟨ad211, e211, hx211_0⟩ := Kd.at_string (Kd.R_reads' HO_5.out).2.2 x11_2 p211 q211
             obtain rfl : ad201 = ad211 := (by injection e211)
             replace p211 := eq_true p211
             replace q211 := eq_true q211
             go_wp2_with (first | ((with_reducible refine gC 10 rfl ?_); refine goesZ (some 61) rfl Try.func10 #[.string (rdOf ByteArray.empty t197 x11_2)] ?_; (with_reducible refine (spec_ReadRec.calls k2 (rdOf ByteArray.empty t197 x11_2) t212 t213 t214 t215 t216 true _ A33.out).mono ?_); rintro e w52 ⟨rfl, hb⟩; refine ⟨_, rfl, ?_⟩; replace HO_5 := Aside0.mk (Kd.R_below (rpR HO_5.out) hb); replace HO_210004 := Aside0.mk (Kd.R_below (rpR HO_210004.out) hb); replace BK196 := bv BK196 hb; replace BK208 := bv BK208 hb; replace BK209 := bv BK209 hb; replace HB := bs (w := w) hb; (try clear hb); have hnb53 := NB208_196.out; have hnc53 := NB196_208.out; have hnb54 := NB208_209.out; have hnc54 := NB209_208.out; obtain ⟨Z55_0, Z55_1, Z55_2, Z55_3, Z55_4, Y55_0, Y55_1, Y55_2, Y55_3, Y55_4⟩ := cf5 BK208; have hnb56 := NB209_196.out; have hnc56 := NB196_209.out; obtain ⟨Z57_0, Z57_1, Z57_2, Z57_3, Z57_4, Y57_0, Y57_1, Y57_2, Y57_3, Y57_4⟩ := cf5 BK209; obtain ⟨Ao58, co58, rfl⟩ := Kd.R_slice HO_210004.out) | ((with_reducible refine gC 11 rfl ?_); refine goesZ (some 67) rfl Try.func11 #[.agg #[.int .i64 x210000_2, .int .i64 x210001_2, .int .i64 x210002_2, .int .i64 x210003_2, .slice Ao58 x210004_2.length co58], .agg #[.int .i64 t212, .int .i64 t213, .int .i64 t214, .int .i64 t215, .string t216]] ?_; (with_reducible refine (spec_WalStep.calls k2 x210000_2 x210001_2 x210002_2 x210003_2 _ _ x210004_2 t212 t213 t214 t215 t216 t218 t219 t220 t221 t222 false _ ?side1 ?side2 A34.out).mono ?_); (case side1 => refine (Kd.R_reads' (e := 51) (base := w.heap.size) (ok := fun k_ => True) (n := x210004_2.length) (c := co58) ?_).2.2; exact (rpR (Kd.R_mono (Kd.R_far (p := ⟨gb208, 4, none⟩) (Kd.R_far (p := ⟨gb208, 3, none⟩) (Kd.R_far (p := ⟨gb208, 2, none⟩) (Kd.R_far (p := ⟨gb208, 1, none⟩) (Kd.R_far (p := ⟨gb208, 0, none⟩) (Kd.R_types HO_210004.out BK208.out (by decide)) (fun _ hk => hk.2) (.int .i64 t212)) (fun _ hk => hk.2) (.int .i64 t213)) (fun _ hk => hk.2) (.int .i64 t214)) (fun _ hk => hk.2) (.int .i64 t215)) (fun _ hk => hk.2) (.string t216)) (fun _ h_ => h_.1)))); (case side2 => exact (Kd.R_reads' HO_210004.out).2.1); rintro e w59 ⟨v223, rfl, ho0, hb⟩; refine ⟨_, rfl, ?_⟩; replace HO_5 := Aside0.mk (Kd.R_below (rpR (Kd.R_mono (Kd.R_far (p := ⟨gb208, 4, none⟩) (Kd.R_far (p := ⟨gb208, 3, none⟩) (Kd.R_far (p := ⟨gb208, 2, none⟩) (Kd.R_far (p := ⟨gb208, 1, none⟩) (Kd.R_far (p := ⟨gb208, 0, none⟩) (Kd.R_types HO_5.out BK208.out (by decide)) (fun _ hk => hk.2) (.int .i64 t212)) (fun _ hk => hk.2) (.int .i64 t213)) (fun _ hk => hk.2) (.int .i64 t214)) (fun _ hk => hk.2) (.int .i64 t215)) (fun _ hk => hk.2) (.string t216)) (fun _ h_ => h_.1))) hb); have HO224 := Aside0.mk (Kd.R_lower (Kd.R_new' ho0 (Kd.R_lt (rpR (Kd.R_mono (Kd.R_far (p := ⟨gb208, 4, none⟩) (Kd.R_far (p := ⟨gb208, 3, none⟩) (Kd.R_far (p := ⟨gb208, 2, none⟩) (Kd.R_far (p := ⟨gb208, 1, none⟩) (Kd.R_far (p := ⟨gb208, 0, none⟩) (Kd.R_types HO_210004.out BK208.out (by decide)) (fun _ hk => hk.2) (.int .i64 t212)) (fun _ hk => hk.2) (.int .i64 t213)) (fun _ hk => hk.2) (.int .i64 t214)) (fun _ hk => hk.2) (.int .i64 t215)) (fun _ hk => hk.2) (.string t216)) (fun _ h_ => h_.1))))) (below_size bl)); replace HO_210004 := Aside0.mk (Kd.R_elder' (rpR (Kd.R_mono (Kd.R_far (p := ⟨gb208, 4, none⟩) (Kd.R_far (p := ⟨gb208, 3, none⟩) (Kd.R_far (p := ⟨gb208, 2, none⟩) (Kd.R_far (p := ⟨gb208, 1, none⟩) (Kd.R_far (p := ⟨gb208, 0, none⟩) (Kd.R_types HO_210004.out BK208.out (by decide)) (fun _ hk => hk.2) (.int .i64 t212)) (fun _ hk => hk.2) (.int .i64 t213)) (fun _ hk => hk.2) (.int .i64 t214)) (fun _ hk => hk.2) (.int .i64 t215)) (fun _ hk => hk.2) (.string t216)) (fun _ h_ => h_.1))) (Kd.R_base ho0) hb); replace BK196 := Aside0.mk (blk_below (g := gb196) (o := .cells #[.int .i64 x197000_2, .int .i64 x197001_2, .int .i64 x197002_2, .int .i64 x197003_2, .slice none 0 0] 24 (0, 0)) bkk hb); replace BK208 := Aside0.mk (blk_below (g := gb208) (o := .cells #[.int .i64 t212, .int .i64 t213, .int .i64 t214, .int .i64 t215, .string t216] 34 (0, 0)) bkk hb); replace BK209 := Aside0.mk (blk_below (g := gb209) (o := .cells #[.int .i64 x210000_2, .int .i64 x210001_2, .int .i64 x210002_2, .int .i64 x210003_2, .slice Ao58 x210004_2.length co58] 24 (0, 0)) bkk hb); replace HB := bs (w := w) hb; (try clear hb ho0)) | ((with_reducible refine gD 12 rfl ?_); refine boxZ 12 #[.int .i64 0, .int .i64 0, .int .i64 0, .int .i64 0, .slice none 0 0] 24 ?_; intro gb226 hg w60 hbox hb; replace HO_5 := Aside0.mk (Kd.R_below (rpR HO_5.out) hb); replace HO_210004 := Aside0.mk (Kd.R_below (rpR HO_210004.out) hb); replace HO224 := Aside0.mk (Kd.R_below (rpR HO224.out) hb); have BK226 := Aside0.mk hbox; have GW226 := gw (w := w) hg; have GE226 := gw (w := w) hg; replace HB := bs (w := w) hb; have NB196_226 := nl BK196 hg; have NB226_196 := nr BK196 hg; replace BK196 := bv BK196 hb; have NB208_226 := nl BK208 hg; have NB226_208 := nr BK208 hg; replace BK208 := bv BK208 hb; have NB209_226 := nl BK209 hg; have NB226_209 := nr BK209 hg; replace BK209 := bv BK209 hb; clear hb hbox hg; have hnb61 := NB226_196.out; have hnc61 := NB196_226.out; have hnb62 := NB226_208.out; have hnc62 := NB208_226.out; have hnb63 := NB226_209.out; have hnc63 := NB209_226.out; obtain ⟨Z64_0, Z64_1, Z64_2, Z64_3, Z64_4, Y64_0, Y64_1, Y64_2, Y64_3, Y64_4⟩ := cf5 BK226; obtain ⟨Ao65, co65, rfl⟩ := Kd.R_slice HO224.out; obtain ⟨Z66_0, Z66_1, Z66_2, Z66_3, Z66_4, Y66_0, Y66_1, Y66_2, Y66_3, Y66_4⟩ := cf5 BK209; obtain ⟨Z67_0, Z67_1, Z67_2, Z67_3, Z67_4, Y67_0, Y67_1, Y67_2, Y67_3, Y67_4⟩ := cf5 BK196))
             refine bodyPost_ret (results_ctt rfl _ _ gb196 24 #[.int .i64 x210000_2, .int .i64 x210001_2, .int .i64 x210002_2, .int .i64 x210003_2, .slice Ao58 x210004_2.length co58] (0, 0) _ rfl bkk Try.underlying24 rfl (by kernel_rfl)) rfl ?_
             exact ⟨_, fe, rpR (Kd.R_mono (Kd.R_far (p := ⟨gb196, 4, none⟩) (Kd.R_far (p := ⟨gb196, 3, none⟩) (Kd.R_far (p := ⟨gb196, 2, none⟩) (Kd.R_far (p := ⟨gb196, 1, none⟩) (Kd.R_far (p := ⟨gb196, 0, none⟩) (Kd.R_far (p := ⟨gb226, 4, none⟩) (Kd.R_far (p := ⟨gb226, 3, none⟩) (Kd.R_far (p := ⟨gb226, 2, none⟩) (Kd.R_far (p := ⟨gb226, 1, none⟩) (Kd.R_far (p := ⟨gb226, 0, none⟩) (Kd.R_types (Kd.R_types HO_210004.out BK226.out (by decide)) BK196.out (by decide)) (fun _ hk => hk.1.2) (.int .i64 t218)) (fun _ hk => hk.1.2) (.int .i64 t219)) (fun _ hk => hk.1.2) (.int .i64 t220)) (fun _ hk => hk.1.2) (.int .i64 t221)) (fun _ hk => hk.1.2) (.slice Ao65 t222.length co65)) (fun _ hk => hk.2) (.int .i64 x210000_2)) (fun _ hk => hk.2) (.int .i64 x210001_2)) (fun _ hk => hk.2) (.int .i64 x210002_2)) (fun _ hk => hk.2) (.int .i64 x210003_2)) (fun _ hk => hk.2) (.slice Ao58 x210004_2.length co58)) (fun _ hk => trivial)), bl⟩
           ·replace c35 := Bool.eq_false_iff.mpr c35
            subst c35
            replace H := iF H
            simp only [Option.some.injEq, Prod.mk.injEq] at H
            obtain ⟨rfl, rfl, rfl, rfl, rfl, rfl, rfl⟩ := H
            have p211 : 0 ≤ (x11_2 : Int) := of_decide_eq_true am
            have q211 : x11_2 < (t197.length : Int) := of_decide_eq_true am
            obtain ⟨ad211, e211, hx211_0⟩ := Kd.at_string (Kd.R_reads' HO_5.out).2.2 x11_2 p211 q211
            obtain rfl : ad201 = ad211 := (by injection e211)
            replace p211 := eq_true p211
            replace q211 := eq_true q211
            go_wp2_with (first | ((with_reducible refine gC 10 rfl ?_); refine goesZ (some 61) rfl Try.func10 #[.string (rdOf ByteArray.empty t197 x11_2)] ?_; (with_reducible refine (spec_ReadRec.calls k2 (rdOf ByteArray.empty t197 x11_2) t212 t213 t214 t215 t216 false _ A33.out).mono ?_); rintro e w68 ⟨rfl, hb⟩; refine ⟨_, rfl, ?_⟩; replace HO_5 := Aside0.mk (Kd.R_below (rpR HO_5.out) hb); replace HO_210004 := Aside0.mk (Kd.R_below (rpR HO_210004.out) hb); replace BK196 := bv BK196 hb; replace BK208 := bv BK208 hb; replace BK209 := bv BK209 hb; replace HB := bs (w := w) hb; (try clear hb); have hnb69 := NB208_196.out; have hnc69 := NB196_208.out; have hnb70 := NB208_209.out; have hnc70 := NB209_208.out; obtain ⟨Z71_0, Z71_1, Z71_2, Z71_3, Z71_4, Y71_0, Y71_1, Y71_2, Y71_3, Y71_4⟩ := cf5 BK208; have hnb72 := NB209_196.out; have hnc72 := NB196_209.out; obtain ⟨Z73_0, Z73_1, Z73_2, Z73_3, Z73_4, Y73_0, Y73_1, Y73_2, Y73_3, Y73_4⟩ := cf5 BK209; obtain ⟨Ao74, co74, rfl⟩ := Kd.R_slice HO_210004.out) | ((with_reducible refine gC 11 rfl ?_); refine goesZ (some 67) rfl Try.func11 #[.agg #[.int .i64 x210000_2, .int .i64 x210001_2, .int .i64 x210002_2, .int .i64 x210003_2, .slice Ao74 x210004_2.length co74], .agg #[.int .i64 t212, .int .i64 t213, .int .i64 t214, .int .i64 t215, .string t216]] ?_; (with_reducible refine (spec_WalStep.calls k2 x210000_2 x210001_2 x210002_2 x210003_2 _ _ x210004_2 t212 t213 t214 t215 t216 t218 t219 t220 t221 t222 t225 _ ?side1 ?side2 A34.out).mono ?_); (case side1 => refine (Kd.R_reads' (e := 51) (base := w.heap.size) (ok := fun k_ => True) (n := x210004_2.length) (c := co74) ?_).2.2; exact (rpR (Kd.R_mono (Kd.R_far (p := ⟨gb208, 4, none⟩) (Kd.R_far (p := ⟨gb208, 3, none⟩) (Kd.R_far (p := ⟨gb208, 2, none⟩) (Kd.R_far (p := ⟨gb208, 1, none⟩) (Kd.R_far (p := ⟨gb208, 0, none⟩) (Kd.R_types HO_210004.out BK208.out (by decide)) (fun _ hk => hk.2) (.int .i64 t212)) (fun _ hk => hk.2) (.int .i64 t213)) (fun _ hk => hk.2) (.int .i64 t214)) (fun _ hk => hk.2) (.int .i64 t215)) (fun _ hk => hk.2) (.string t216)) (fun _ h_ => h_.1)))); (case side2 => exact (Kd.R_reads' HO_210004.out).2.1); rintro e w75 ⟨v223, rfl, ho0, hb⟩; refine ⟨_, rfl, ?_⟩; replace HO_5 := Aside0.mk (Kd.R_below (rpR (Kd.R_mono (Kd.R_far (p := ⟨gb208, 4, none⟩) (Kd.R_far (p := ⟨gb208, 3, none⟩) (Kd.R_far (p := ⟨gb208, 2, none⟩) (Kd.R_far (p := ⟨gb208, 1, none⟩) (Kd.R_far (p := ⟨gb208, 0, none⟩) (Kd.R_types HO_5.out BK208.out (by decide)) (fun _ hk => hk.2) (.int .i64 t212)) (fun _ hk => hk.2) (.int .i64 t213)) (fun _ hk => hk.2) (.int .i64 t214)) (fun _ hk => hk.2) (.int .i64 t215)) (fun _ hk => hk.2) (.string t216)) (fun _ h_ => h_.1))) hb); have HO224 := Aside0.mk (Kd.R_lower (Kd.R_new' ho0 (Kd.R_lt (rpR (Kd.R_mono (Kd.R_far (p := ⟨gb208, 4, none⟩) (Kd.R_far (p := ⟨gb208, 3, none⟩) (Kd.R_far (p := ⟨gb208, 2, none⟩) (Kd.R_far (p := ⟨gb208, 1, none⟩) (Kd.R_far (p := ⟨gb208, 0, none⟩) (Kd.R_types HO_210004.out BK208.out (by decide)) (fun _ hk => hk.2) (.int .i64 t212)) (fun _ hk => hk.2) (.int .i64 t213)) (fun _ hk => hk.2) (.int .i64 t214)) (fun _ hk => hk.2) (.int .i64 t215)) (fun _ hk => hk.2) (.string t216)) (fun _ h_ => h_.1))))) (below_size bl)); replace HO_210004 := Aside0.mk (Kd.R_elder' (rpR (Kd.R_mono (Kd.R_far (p := ⟨gb208, 4, none⟩) (Kd.R_far (p := ⟨gb208, 3, none⟩) (Kd.R_far (p := ⟨gb208, 2, none⟩) (Kd.R_far (p := ⟨gb208, 1, none⟩) (Kd.R_far (p := ⟨gb208, 0, none⟩) (Kd.R_types HO_210004.out BK208.out (by decide)) (fun _ hk => hk.2) (.int .i64 t212)) (fun _ hk => hk.2) (.int .i64 t213)) (fun _ hk => hk.2) (.int .i64 t214)) (fun _ hk => hk.2) (.int .i64 t215)) (fun _ hk => hk.2) (.string t216)) (fun _ h_ => h_.1))) (Kd.R_base ho0) hb); replace BK196 := Aside0.mk (blk_below (g := gb196) (o := .cells #[.int .i64 x197000_2, .int .i64 x197001_2, .int .i64 x197002_2, .int .i64 x197003_2, .slice none 0 0] 24 (0, 0)) bkk hb); replace BK208 := Aside0.mk (blk_below (g := gb208) (o := .cells #[.int .i64 t212, .int .i64 t213, .int .i64 t214, .int .i64 t215, .string t216] 34 (0, 0)) bkk hb); replace BK209 := Aside0.mk (blk_below (g := gb209) (o := .cells #[.int .i64 x210000_2, .int .i64 x210001_2, .int .i64 x210002_2, .int .i64 x210003_2, .slice Ao74 x210004_2.length co74] 24 (0, 0)) bkk hb); replace HB := bs (w := w) hb; (try clear hb ho0)) | ((with_reducible refine gD 12 rfl ?_); refine boxZ 12 #[.int .i64 0, .int .i64 0, .int .i64 0, .int .i64 0, .slice none 0 0] 24 ?_; intro gb226 hg w76 hbox hb; replace HO_5 := Aside0.mk (Kd.R_below (rpR HO_5.out) hb); replace HO_210004 := Aside0.mk (Kd.R_below (rpR HO_210004.out) hb); replace HO224 := Aside0.mk (Kd.R_below (rpR HO224.out) hb); have BK226 := Aside0.mk hbox; have GW226 := gw (w := w) hg; have GE226 := gw (w := w) hg; replace HB := bs (w := w) hb; have NB196_226 := nl BK196 hg; have NB226_196 := nr BK196 hg; replace BK196 := bv BK196 hb; have NB208_226 := nl BK208 hg; have NB226_208 := nr BK208 hg; replace BK208 := bv BK208 hb; have NB209_226 := nl BK209 hg; have NB226_209 := nr BK209 hg; replace BK209 := bv BK209 hb; clear hb hbox hg; have hnb77 := NB226_196.out; have hnc77 := NB196_226.out; have hnb78 := NB226_208.out; have hnc78 := NB208_226.out; have hnb79 := NB226_209.out; have hnc79 := NB209_226.out; obtain ⟨Z80_0, Z80_1, Z80_2, Z80_3, Z80_4, Y80_0, Y80_1, Y80_2, Y80_3, Y80_4⟩ := cf5 BK226; obtain ⟨Ao81, co81, rfl⟩ := Kd.R_slice HO224.out; obtain ⟨Z82_0, Z82_1, Z82_2, Z82_3, Z82_4, Y82_0, Y82_1, Y82_2, Y82_3, Y82_4⟩ := cf5 BK209; obtain ⟨Z83_0, Z83_1, Z83_2, Z83_3, Z83_4, Y83_0, Y83_1, Y83_2, Y83_3, Y83_4⟩ := cf5 BK196))
            refine bodyPost_ret (results_ctt rfl _ _ gb196 24 #[.int .i64 x210000_2, .int .i64 x210001_2, .int .i64 x210002_2, .int .i64 x210003_2, .slice Ao74 x210004_2.length co74] (0, 0) _ rfl bkk Try.underlying24 rfl (by kernel_rfl)) rfl ?_
            exact ⟨_, fe, rpR (Kd.R_mono (Kd.R_far (p := ⟨gb196, 4, none⟩) (Kd.R_far (p := ⟨gb196, 3, none⟩) (Kd.R_far (p := ⟨gb196, 2, none⟩) (Kd.R_far (p := ⟨gb196, 1, none⟩) (Kd.R_far (p := ⟨gb196, 0, none⟩) (Kd.R_far (p := ⟨gb226, 4, none⟩) (Kd.R_far (p := ⟨gb226, 3, none⟩) (Kd.R_far (p := ⟨gb226, 2, none⟩) (Kd.R_far (p := ⟨gb226, 1, none⟩) (Kd.R_far (p := ⟨gb226, 0, none⟩) (Kd.R_types (Kd.R_types HO_210004.out BK226.out (by decide)) BK196.out (by decide)) (fun _ hk => hk.1.2) (.int .i64 t218)) (fun _ hk => hk.1.2) (.int .i64 t219)) (fun _ hk => hk.1.2) (.int .i64 t220)) (fun _ hk => hk.1.2) (.int .i64 t221)) (fun _ hk => hk.1.2) (.slice Ao81 t222.length co81)) (fun _ hk => hk.2) (.int .i64 x210000_2)) (fun _ hk => hk.2) (.int .i64 x210001_2)) (fun _ hk => hk.2) (.int .i64 x210002_2)) (fun _ hk => hk.2) (.int .i64 x210003_2)) (fun _ hk => hk.2) (.slice Ao74 x210004_2.length co74)) (fun _ hk => trivial)), bl⟩
          ·rw [if_neg c32] at H
           exact absurd H (by simp)
         ·rw [if_neg c31] at H
          have c31b0 : decide (x11_2 < (t197.length : Int)) = false := decide_eq_false c31
          clear c31
          simp only [Option.some.injEq, Prod.mk.injEq] at H
          obtain ⟨rfl, rfl, rfl, rfl, rfl, rfl, rfl⟩ := H
          have hnb84 := NB209_196.out
          have hnc84 := NB196_209.out
          have hnb85 := NB209_208.out
          have hnc85 := NB208_209.out
          obtain ⟨Z86_0, Z86_1, Z86_2, Z86_3, Z86_4, Y86_0, Y86_1, Y86_2, Y86_3, Y86_4⟩ := cf5 BK209
          have hnb87 := NB196_208.out
          have hnc87 := NB208_196.out
          obtain ⟨Z88_0, Z88_1, Z88_2, Z88_3, Z88_4, Y88_0, Y88_1, Y88_2, Y88_3, Y88_4⟩ := cf5 BK196
          obtain ⟨Ao89, co89, eo89⟩ := Kd.R_slice HO_210004.out
          subst eo89
          go_wp2
          refine bodyPost_ret (results_ctt rfl _ _ gb196 24 #[.int .i64 x210000_2, .int .i64 x210001_2, .int .i64 x210002_2, .int .i64 x210003_2, .slice Ao89 x210004_2.length co89] (0, 0) _ rfl bkk Try.underlying24 rfl (by kernel_rfl)) rfl ?_
          exact ⟨_, fe, rpR (Kd.R_mono (Kd.R_far (p := ⟨gb196, 4, none⟩) (Kd.R_far (p := ⟨gb196, 3, none⟩) (Kd.R_far (p := ⟨gb196, 2, none⟩) (Kd.R_far (p := ⟨gb196, 1, none⟩) (Kd.R_far (p := ⟨gb196, 0, none⟩) (Kd.R_types HO_210004.out BK196.out (by decide)) (fun _ hk => hk.2) (.int .i64 x210000_2)) (fun _ hk => hk.2) (.int .i64 x210001_2)) (fun _ hk => hk.2) (.int .i64 x210002_2)) (fun _ hk => hk.2) (.int .i64 x210003_2)) (fun _ hk => hk.2) (.slice Ao89 x210004_2.length co89)) (fun _ hk => trivial)), bl⟩
      ·rw [if_neg c24] at H
       exact absurd H (by simp)
  ·rw [if_neg c8] at H
   exact absurd H (by simp)

/-! ### impl_from: function 33 -/
def impl_from.f (a0 : Int) (a1 : Int) (a2 : Int) : Option (Bool) := if a0 ≥ a1 then (some (decide (a0 ≤ a2))) else (some false)
set_option maxHeartbeats 8000000 in
set_option maxRecDepth 100000 in
theorem impl_from.calls (a0 : Int) (a1 : Int) (a2 : Int) (r : Bool) (w : World) (h : impl_from.f a0 a1 a2 = some r) :
 Calls Try.prog 33 #[.int .i64 a0, .int .i64 a1, .int .i64 a2] w fun e w' => e = .returned (.bool r) ∧ Drawn0 w w' := by
 have H : (if a0 ≥ a1 then (some (decide (a0 ≤ a2))) else (some false)) = some r := h
 clear h
 by_cases c4 : a0 ≥ a1
 ·rw [if_pos c4] at H
  have c4b0 : decide (a1 ≤ a0) = true := decide_eq_true c4
  clear c4
  obtain rfl := Option.some.inj H
  go_enter Try.func33, Try.ntmps33
  go_wp2
  go_ret
  exact ⟨fa, fd⟩
 ·rw [if_neg c4] at H
  have c4b0 : decide (a1 ≤ a0) = false := decide_eq_false c4
  clear c4
  obtain rfl := Option.some.inj H
  go_enter Try.func33, Try.ntmps33
  go_wp2
  go_ret
  exact ⟨fa, fd⟩

/-! ### impl_ReadFixed: function 43 -/
mutual
def impl_ReadFixed.j0 : Nat → ByteArray → Int → Bool → Option (Int × Bool)
 | 0, _, _, _ => none
 | k + 1, x0, x1, x16 => if x16 = true then (some (0, false)) else (impl_ReadFixed.l0 k x0 0 x1 0)
def impl_ReadFixed.l0 : Nat → ByteArray → Int → Int → Int → Option (Int × Bool)
 | 0, _, _, _, _ => none
 | k + 1, x0, x6, x17, x18 => if x18 < x17 then (if 0 ≤ x18 then (if x18 < (x0.size : Int) then (impl_ReadFixed.l0 k x0 (Go.bits .or .i64 (wrap64 (x6 * 256)) (wrap64 (bt x0 x18))) x17 (wrap64 (x18 + 1))) else (none)) else (none)) else (some (x6, true))
end
def impl_ReadFixed.f (k : Nat) (a0 : ByteArray) (a1 : Int) : Option (Int × Bool) := (impl_from.f a1 1 7).bind fun t228 => (if t228 = true then (impl_ReadFixed.j0 k a0 a1 (decide ((a0.size : Int) < a1))) else (impl_ReadFixed.j0 k a0 a1 true))
theorem impl_ReadFixed.mono_l : ∀ k, (∀ y0 y1 y2, LeO (impl_ReadFixed.j0 k y0 y1 y2) (impl_ReadFixed.j0 (k + 1) y0 y1 y2)) ∧ (∀ y0 y1 y2 y3, LeO (impl_ReadFixed.l0 k y0 y1 y2 y3) (impl_ReadFixed.l0 (k + 1) y0 y1 y2 y3))
 | 0 => ⟨fun _ _ _ r h => by simp [impl_ReadFixed.j0] at h, fun _ _ _ _ r h => by simp [impl_ReadFixed.l0] at h⟩
 | k + 1 => by
  obtain ⟨ih0, ih1⟩ := impl_ReadFixed.mono_l k
  refine ⟨?_, ?_⟩
  ·intro y0 y1 y2
   unfold impl_ReadFixed.j0
   repeat' first
   | (with_reducible exact ih0 _ _ _)
   | (with_reducible exact ih1 _ _ _ _)
   | (with_reducible exact LeO.refl _)
   | (with_reducible exact LeO.none _)
   | (with_reducible refine LeO.ite ?_ ?_)
   | (with_reducible refine LeO.bind ?_ (fun _ => ?_))
   | exact ih0 _ _ _
   | exact ih1 _ _ _ _
   | exact LeO.none _
   | refine LeO.ite ?_ ?_
   | refine LeO.bind ?_ (fun _ => ?_)
  ·intro y0 y1 y2 y3
   unfold impl_ReadFixed.l0
   repeat' first
   | (with_reducible exact ih0 _ _ _)
   | (with_reducible exact ih1 _ _ _ _)
   | (with_reducible exact LeO.refl _)
   | (with_reducible exact LeO.none _)
   | (with_reducible refine LeO.ite ?_ ?_)
   | (with_reducible refine LeO.bind ?_ (fun _ => ?_))
   | exact ih0 _ _ _
   | exact ih1 _ _ _ _
   | exact LeO.none _
   | refine LeO.ite ?_ ?_
   | refine LeO.bind ?_ (fun _ => ?_)
theorem impl_ReadFixed.mono : ∀ a0 a1 k, LeO (impl_ReadFixed.f k a0 a1) (impl_ReadFixed.f (k + 1) a0 a1) := by
 intro a0 a1 k
 obtain ⟨ih0, ih1⟩ := impl_ReadFixed.mono_l k
 unfold impl_ReadFixed.f
 repeat' first
  | (with_reducible exact ih0 _ _ _)
  | (with_reducible exact ih1 _ _ _ _)
  | (with_reducible exact LeO.refl _)
  | (with_reducible exact LeO.none _)
  | (with_reducible refine LeO.ite ?_ ?_)
  | (with_reducible refine LeO.bind ?_ (fun _ => ?_))
  | exact ih0 _ _ _
  | exact ih1 _ _ _ _
  | exact LeO.none _
  | refine LeO.ite ?_ ?_
  | refine LeO.bind ?_ (fun _ => ?_)
set_option maxHeartbeats 8000000 in
set_option maxRecDepth 100000 in
theorem impl_ReadFixed.calls (k : Nat) (a0 : ByteArray) (a1 : Int) (r1 : Int) (r2 : Bool) (w : World) (h : impl_ReadFixed.f k a0 a1 = some (r1, r2)) :
 Calls Try.prog 43 #[.string a0, .int .i64 a1] w fun e w' => e = .returned (.tuple #[.int .i64 r1, .bool r2]) ∧ Drawn0 w w' := by
 have H : ((impl_from.f a1 1 7).bind fun t228 => (if t228 = true then (impl_ReadFixed.j0 k a0 a1 (decide ((a0.size : Int) < a1))) else (impl_ReadFixed.j0 k a0 a1 true))) = some (r1, r2) := h
 clear h
 have HC3 := Aside0.mk H
 clear H
 go_enter Try.func43, Try.ntmps43
 go_upto_region 1 with (fail)
 go_cut [16] (fun v16 wc => ∃ (kq : Nat) (x16_2 : Bool), v16 = .bool x16_2 ∧ Aside0 (impl_ReadFixed.j0 kq a0 a1 x16_2 = some (r1, r2)) ∧ Aside0 (kq ≤ k) ∧ Drawn0 w wc)
 case first =>
  have H := HC3.out
  clear HC3
  obtain ⟨t228, A4, H⟩ := bd H
  by_cases c5 : t228 = true
  ·subst c5
   replace H := iT H
   have H' := Aside0.mk H
   clear H
   go_wp2_with (first | ((with_reducible refine gC 33 rfl ?_); refine goesZ (some 9) rfl Try.func33 #[.int .i64 a1, .int .i64 1, .int .i64 7] ?_; (with_reducible refine (impl_from.calls a1 1 7 true _ A4.out).mono ?_); rintro e w' ⟨rfl, ⟨nd, rfl⟩⟩; refine ⟨_, rfl, ?_⟩))
   go_meet
   case rel => exact ⟨_, (decide ((a0.size : Int) < a1)), fa, H', ⟨by first | omega | exact Nat.le_refl _⟩, fd⟩
  ·replace c5 := Bool.eq_false_iff.mpr c5
   subst c5
   replace H := iF H
   have H' := Aside0.mk H
   clear H
   go_wp2_with (first | ((with_reducible refine gC 33 rfl ?_); refine goesZ (some 9) rfl Try.func33 #[.int .i64 a1, .int .i64 1, .int .i64 7] ?_; (with_reducible refine (impl_from.calls a1 1 7 false _ A4.out).mono ?_); rintro e w' ⟨rfl, ⟨nd, rfl⟩⟩; refine ⟨_, rfl, ?_⟩))
   go_meet
   case rel => exact ⟨_, (true), fa, H', ⟨by first | omega | exact Nat.le_refl _⟩, fd⟩
 case rest =>
  clear HC3
  try clear p2
  try clear c3
  try clear c4
  try clear c5
  obtain ⟨kq, x16_2, rfl, HA, HJ2, ⟨mc2, rfl⟩⟩ := hcut
  cases kq with
  | zero => exact absurd HA.out (by simp [impl_ReadFixed.j0])
  | succ kj2 =>
   have H := HA.out
   clear HA
   simp only [impl_ReadFixed.j0] at H
   by_cases c6 : x16_2 = true
   ·subst c6
    replace H := iT H
    simp only [Option.some.injEq, Prod.mk.injEq] at H
    obtain ⟨rfl, rfl⟩ := H
    go_wp2
    go_ret2
    exact ⟨fa, fd⟩
   ·replace c6 := Bool.eq_false_iff.mpr c6
    subst c6
    replace H := iF H
    have H' := Aside0.mk H
    clear H
    go_wp2
    go_loopg [6, 18] kj2 (fun kq v6 v18 w' => ∃ (x6_2 : Int) (x18_2 : Int), v6 = .int .i64 x6_2 ∧ v18 = .int .i64 x18_2 ∧ Aside0 (impl_ReadFixed.l0 kq a0 x6_2 a1 x18_2 = some (r1, r2)) ∧ Aside0 (kq ≤ kj2) ∧ Drawn0 w w')
    case atStart => exact ⟨(0), (0), fa, fa, H', ⟨Nat.le_refl _⟩, fd⟩
    case round =>
     clear H'
     try clear c2
     try clear p2
     try clear c3
     try clear c4
     try clear c5
     try clear c6
     try clear p2
     obtain ⟨x6_2, x18_2, rfl, rfl, HA, HK2, ⟨m2, rfl⟩⟩ := hrel
     cases gk with
     | zero => exact absurd HA.out (by simp [impl_ReadFixed.l0])
     | succ k2 =>
      have H := HA.out
      clear HA
      simp only [impl_ReadFixed.l0] at H
      by_cases c7 : x18_2 < a1
      ·rw [if_pos c7] at H
       have c7b0 : decide (x18_2 < a1) = true := decide_eq_true c7
       clear c7
       by_cases c8 : 0 ≤ x18_2
       ·rw [if_pos c8] at H
        have c8b0 : decide (0 ≤ x18_2) = true := decide_eq_true c8
        clear c8
        by_cases c9 : x18_2 < (a0.size : Int)
        ·rw [if_pos c9] at H
         have c9b0 : decide (x18_2 < (a0.size : Int)) = true := decide_eq_true c9
         clear c9
         have H' := Aside0.mk H
         clear H
         have p10 : 0 ≤ (x18_2 : Int) := of_decide_eq_true am
         have q10 : x18_2 < (a0.size : Int) := of_decide_eq_true am
         have hx10 := bt_at a0 x18_2
         replace p10 := eq_true p10
         replace q10 := eq_true q10
         go_wp2
         go_roundg k2
         case measure => have := HJ2.out; have := HK2.out; omega
         case rel => exact ⟨(Go.bits .or .i64 (wrap64 (x6_2 * 256)) (wrap64 (bt a0 x18_2))), (wrap64 (x18_2 + 1)), fa, fa, H', ⟨by have := HJ2.out; have := HK2.out; omega⟩, fd⟩
        ·rw [if_neg c9] at H
         exact absurd H (by simp)
       ·rw [if_neg c8] at H
        exact absurd H (by simp)
      ·rw [if_neg c7] at H
       have c7b0 : decide (x18_2 < a1) = false := decide_eq_false c7
       clear c7
       simp only [Option.some.injEq, Prod.mk.injEq] at H
       obtain ⟨rfl, rfl⟩ := H
       go_wp2
       go_ret2
       exact ⟨fa, fd⟩

end Go.Proofs.Ytflegbpgkkiijaa.PFnExactReplay
